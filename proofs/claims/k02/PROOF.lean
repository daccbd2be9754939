import PyProof.Rows.All
import Wide.All
import OpenK.AllK
import Wide.FinOn
import KE.KStateDown
import Lean
import HandS.ForMost
import HandS.Star
import HandS.Property
import HandS.ClsMeth
import HandS.TupAny
import HandS.TupLe
import HandS.IsInst
import HandS.Strs
import HandS.Conv
import HandS.DictTup
import HandS.SetFor
import HandS.Deep
import HandS.Wide
import HandS.Flow
import HandS.Walk
import KE.GoesEnum
import KE.GoesMore
import PyProof.EnumMake
import PyProof.Draws
import HandS.NoneIn
import HandS.Style
import HandS.HeadEnd
import HandS.Head0
import HandS.Head1
import HandS.Head2
import HandS.HeadHook4
import HandS.Lambda
import HandS.HeadNt
import KE.KUnpackStar
import HandS.RaiseMore
import HandS.TupMul
import HandS.EndTab
import HandS.NestedK
import KE.DataFind
import HandS.GenList
import PySem.Challenge.RW_stairlights_k02_cycles_and_late_ticks
set_option Elab.async false
set_option linter.all false
set_option maxRecDepth 100000
set_option maxHeartbeats 2000000
/-! A small layer over the hand layer: values as trees, a store of the objects that change, a monad of runs. Each expression's and statement's rule says: it does what the run (a plain Lean function) says. -/
namespace SL
open PySem PySem.Spec PyProof.Rows L2

/-! ### classes and fields of the program -/
inductive Cl where
  | LightError | InvalidStairs | InvalidTick | UnknownTrip | InvalidCount | TooManyTrips | Contradiction | TextFault | InvalidCode | InvalidName | UnknownName | InvalidOperation
  | Trip | Stairs | Scene | Story | Reader | Electrician | Panel | Trial
  | lam (n : Nat)
  deriving DecidableEq
inductive Fl where
  | start | source | target | pace | habit | top | length | time | trips | burning | presses | dark | scenes | stories | facts | now | past | undone | saved | panel | isKept | code | place | part | index | line
  deriving DecidableEq
def fname : Fl → Str
  | .start => "start" | .source => "source" | .target => "target" | .pace => "pace" | .habit => "habit" | .top => "top" | .length => "length" | .time => "time" | .trips => "trips"
  | .burning => "burning" | .presses => "presses" | .dark => "dark" | .scenes => "scenes" | .stories => "stories" | .facts => "facts" | .now => "now" | .past => "past" | .undone => "undone"
  | .saved => "saved" | .panel => "panel" | .isKept => "is_kept" | .code => "code" | .place => "place" | .part => "part" | .index => "index" | .line => "line"
def flds : Cl → List Fl
  | .Trip => [.start, .source, .target, .pace, .habit]
  | .Stairs => [.top, .length, .time, .trips]
  | .Scene => [.burning, .presses, .dark]
  | .Story => [.scenes, .start]
  | .Reader => [.code, .place]
  | .Electrician => [.stories, .facts]
  | .Panel => [.now, .past, .undone, .saved]
  | .Trial => [.panel, .now, .past, .undone, .isKept]
  | .InvalidStairs => [.part, .index]
  | .TextFault => [.line]
  | .InvalidCode => [.place]
  | .InvalidOperation => [.place]
  | _ => []
/-- the place of a field -/
def fix (c : Cl) (f : Fl) : Option Nat := (flds c).findIdx? (· == f)
def fnames (c : Cl) : List Str := (flds c).map fname

/-! ### values, the store -/
inductive W where
  | non | bl (b : Bool) | int (i : Int) | str (s : Str) | ty (n : String) | cls (c : Cl) | loc (n : Nat) | scr (ns : List Int)
  | tup (xs : List W) | lst (xs : List W) | obj (c : Cl) (xs : List W) | dct (ks : List Key) (xs : List W) | ktup (xs : List W)
inductive Ce where
  | lst (xs : List W) | ins (c : Cl) (xs : List W) | dk (ks : List Key) (xs : List W) | dt (ks : List (List Key)) (xs : List W)
abbrev Sto := List Ce
/-- where the classes lie; the tables of code objects; objects that stand as they are -/
structure Ca where
  cl : Cl → Addr
  tabs : List (Addr × Str)
  pins : List (Addr × HO)
instance : CoeFun Ca fun _ => Cl → Addr := ⟨Ca.cl⟩
abbrev Rho := List (Option W)

/-! ### what stands for what -/
def WrT (K : PySem.W.Frag) (a : Addr) (xs : List V) : Prop := ∃ (o : Obj) (its : Array Value) (n : Nat), K.lookup a = some o ∧ o.cls = .type "tuple" ∧ o.data = .seq its n ∧ its.size ≤ sizeLine ∧ Vals xs its.toList ∧ o.dict = none
theorem WrT.sq {K : PySem.W.Frag} {H : Hp} {a : Addr} {xs : List V} (h : WrT K a xs) : SqT K H a xs := by
  obtain ⟨o, its, n, h1, h2, h3, h4, h5, _⟩ := h
  exact .inr ⟨o, its, n, h1, h2, h3, h4, h5⟩
def FzT (io : List Addr) (H : Hp) (a : Addr) (xs : List V) : Prop := H a = some (.tup xs) ∧ a ∉ io
def FzL (io : List Addr) (H : Hp) (a : Addr) (xs : List V) : Prop := H a = some (.lst xs) ∧ a ∉ io
theorem FzT.sq {K : PySem.W.Frag} {io : List Addr} {H : Hp} {a : Addr} {xs : List V} (h : FzT io H a xs) : SqT K H a xs := .of h.1
theorem FzL.sq {K : PySem.W.Frag} {io : List Addr} {H : Hp} {a : Addr} {xs : List V} (h : FzL io H a xs) : SqL K H a xs := .of h.1
/-- the script: locked, or an object of the module -/
def FzS (K : PySem.W.Frag) (io : List Addr) (H : Hp) (a : Addr) (xs : List V) : Prop := (Rd H a (.lst xs) ∧ a ∉ io) ∨ ∃ (o : Obj) (its : Array Value) (n : Nat), K.lookup a = some o ∧ o.cls = .type "list" ∧ o.dict = none ∧ o.data = .seq its n ∧ its.size ≤ sizeLine ∧ Vals xs its.toList
theorem FzS.sq {K : PySem.W.Frag} {io : List Addr} {H : Hp} {a : Addr} {xs : List V} (h : FzS K io H a xs) : SqL K H a xs := by
  rcases h with h | h
  · exact .inl h.1
  · exact .inr h
mutual
def RV (K : PySem.W.Frag) (ca : Ca) (io : List Addr) (H : Hp) : W → V → Prop
  | .non, v => v = .non
  | .bl b, v => v = .bl b
  | .int i, v => v = .int i
  | .str s, v => v = .str s
  | .ty n, v => v = .ty n
  | .cls c, v => v = .ref (ca c)
  | .loc n, v => ∃ a, v = .ref a ∧ io[n]? = some a
  | .scr ns, v => ∃ a, v = .ref a ∧ FzS K io H a (ns.map V.int)
  | .tup xs, v => ∃ a vs, v = .ref a ∧ FzT io H a vs ∧ RVs K ca io H xs vs
  | .ktup xs, v => ∃ a vs, v = .ref a ∧ WrT K a vs ∧ RVs K ca io H xs vs
  | .lst xs, v => ∃ a vs, v = .ref a ∧ FzL io H a vs ∧ RVs K ca io H xs vs
  | .obj c xs, v => ∃ a dx vs, v = .ref a ∧ H a = some (.ins (ca c) dx ((fnames c).zip vs)) ∧ a ∉ io ∧ vs.length ≤ (flds c).length ∧ RVs K ca io H xs vs
  | .dct ks xs, v => ∃ a vs, v = .ref a ∧ H a = some (.dK (ks.zip vs)) ∧ a ∉ io ∧ vs.length = ks.length ∧ RVs K ca io H xs vs
def RVs (K : PySem.W.Frag) (ca : Ca) (io : List Addr) (H : Hp) : List W → List V → Prop
  | [], vs => vs = []
  | x :: xs, vs => ∃ v r, vs = v :: r ∧ RV K ca io H x v ∧ RVs K ca io H xs r
end
def RC (K : PySem.W.Frag) (ca : Ca) (io : List Addr) (H : Hp) (a : Addr) : Ce → Prop
  | .lst xs => ∃ vs, H a = some (.lst vs) ∧ RVs K ca io H xs vs
  | .ins c xs => ∃ dx vs, H a = some (.ins (ca c) dx ((fnames c).zip vs)) ∧ vs.length ≤ (flds c).length ∧ RVs K ca io H xs vs
  | .dk ks xs => ∃ vs, H a = some (.dK (ks.zip vs)) ∧ vs.length = ks.length ∧ RVs K ca io H xs vs
  | .dt ks xs => ∃ vs, H a = some (.dT (ks.zip vs)) ∧ vs.length = ks.length ∧ RVs K ca io H xs vs
/-- a table of code objects: each that it tells bears the name q -/
def TbT (io : List Addr) (H : Hp) (P : Addr) (q : Str) : Prop := ∃ ps : Array Value, H P = some (.tbl ps) ∧ TriplesOk ps.toList ∧ ∀ (pos : Pos) (cv : Value), codeAmong pos ps.toList = some cv → ∃ c, cv = .ref c ∧ H c = some (LamX.CodeO c q) ∧ c ∉ io
structure TbOk (ca : Ca) (io : List Addr) (H : Hp) : Prop where
  tab : ∀ p ∈ ca.tabs, p.1 ∉ io ∧ TbT io H p.1 p.2
  pin : ∀ p ∈ ca.pins, p.1 ∉ io ∧ H p.1 = some p.2 ∧ ∀ ps, p.2 ≠ .tbl ps
theorem TbT.step {io io' : List Addr} {H H' : Hp} {P : Addr} {q : Str} (h : TbT io H P q) (hP : P ∉ io) (k : ∀ a, a ∉ io → H a ≠ none → H' a = H a) (o : ∀ a ∈ io', a ∈ io ∨ H a = none) : TbT io' H' P q := by
  obtain ⟨ps, e1, e2, e3⟩ := h
  refine ⟨ps, by rw [k P hP (by rw [e1]; simp), e1], e2, fun pos cv hc => ?_⟩
  obtain ⟨c, f1, f2, f3⟩ := e3 pos cv hc
  refine ⟨c, f1, by rw [k c f3 (by rw [f2]; simp), f2], fun m => ?_⟩
  rcases o c m with m | m
  · exact f3 m
  · rw [f2] at m
    cases m
theorem TbOk.step {ca : Ca} {io io' : List Addr} {H H' : Hp} (h : TbOk ca io H) (k : ∀ a, a ∉ io → H a ≠ none → H' a = H a) (o : ∀ a ∈ io', a ∈ io ∨ H a = none) : TbOk ca io' H' := by
  have nin : ∀ a, a ∉ io → H a ≠ none → a ∉ io' := fun a n ne m => (o a m).elim n ne
  refine ⟨fun p hp => ?_, fun p hp => ?_⟩
  · obtain ⟨n, t⟩ := h.tab p hp
    exact ⟨nin _ n (by obtain ⟨ps, e, _⟩ := t; rw [e]; simp), t.step n k o⟩
  · obtain ⟨n, e, d⟩ := h.pin p hp
    exact ⟨nin _ n (by rw [e]; simp), by rw [k _ n (by rw [e]; simp), e], d⟩
theorem TbOk.less {ca : Ca} {io t : List Addr} {H : Hp} (h : TbOk ca (io ++ t) H) : TbOk ca io H := h.step (fun _ _ _ => rfl) fun _ m => .inl (List.mem_append_left _ m)
structure Rl0 (K : PySem.W.Frag) (ca : Ca) (io : List Addr) (S : Sto) (H : Hp) : Prop where
  len : io.length = S.length
  nd : io.Nodup
  ce : ∀ (n : Nat) (c : Ce) (a : Addr), S[n]? = some c → io[n]? = some a → RC K ca io H a c
  tb : TbOk ca io H
def RE (K : PySem.W.Frag) (ca : Ca) (io : List Addr) (H : Hp) (r : Rho) (σ : L2.St) : Prop := r.length = σ.length ∧ ∀ (i : Nat) (w : W), r[i]? = some (some w) → ∃ v, σ[i]? = some (some v) ∧ RV K ca io H w v
structure Rl (K : PySem.W.Frag) (ca : Ca) (io : List Addr) (r : Rho) (S : Sto) (σ : L2.St) (H : Hp) : Prop where
  z : Rl0 K ca io S H
  e : RE K ca io H r σ
/-- behind some steps: new changing objects, what does not change stands -/
structure Ext (io : List Addr) (H : Hp) (io' : List Addr) (H' : Hp) : Prop where
  pre : ∃ t, io' = io ++ t ∧ ∀ a ∈ t, H a = none
  kp : ∀ a o, a ∉ io → H a = some o → (∀ ps, o ≠ .tbl ps) → H' a = some o
  dom : ∀ a o, H a = some o → ∃ o', H' a = some o'
theorem Ext.keep {io io' : List Addr} {H H' : Hp} (e : Ext io H io' H') (a : Addr) (o : HO) (n : a ∉ io) (q : H a = some o) (d : ∀ ps, o ≠ .tbl ps := by intro _ z; cases z) : H' a = some o := e.kp a o n q d
theorem Ext.refl (io : List Addr) (H : Hp) : Ext io H io H := ⟨⟨[], by simp, by simp⟩, fun _ _ _ h _ => h, fun _ o h => ⟨o, h⟩⟩
theorem Ext.none {io io' : List Addr} {H H' : Hp} (e : Ext io H io' H') {a : Addr} (h : H' a = none) : H a = none := by
  cases q : H a with
  | none => rfl
  | some o =>
    obtain ⟨o', q'⟩ := e.dom a o q
    rw [h] at q'
    cases q'
theorem Ext.out {io io' : List Addr} {H H' : Hp} (e : Ext io H io' H') {a : Addr} {o : HO} (h : a ∉ io) (q : H a = some o) : a ∉ io' := by
  obtain ⟨t, rfl, ht⟩ := e.pre
  intro m
  rcases List.mem_append.mp m with m | m
  · exact h m
  · rw [ht a m] at q
    cases q
theorem Ext.trans {io io' io'' : List Addr} {H H' H'' : Hp} (e : Ext io H io' H') (f : Ext io' H' io'' H'') : Ext io H io'' H'' := by
  refine ⟨?_, fun a o h q d => f.kp a o (e.out h q) (e.kp a o h q d) d, fun a o q => ?_⟩
  · obtain ⟨t, rfl, ht⟩ := e.pre
    obtain ⟨u, rfl, hu⟩ := f.pre
    refine ⟨t ++ u, by simp, fun a m => ?_⟩
    rcases List.mem_append.mp m with m | m
    · exact ht a m
    · exact e.none (hu a m)
  · obtain ⟨o', q'⟩ := e.dom a o q
    exact f.dom a o' q'
theorem Ext.get {io io' : List Addr} {H H' : Hp} (e : Ext io H io' H') {n : Nat} {a : Addr} (h : io[n]? = some a) : io'[n]? = some a := by
  obtain ⟨t, rfl, _⟩ := e.pre
  rw [List.getElem?_append_left (List.getElem?_eq_some_iff.mp h).1]
  exact h

section
variable {K : PySem.W.Frag} {ca : Ca} {io io' : List Addr} {H H' : Hp}
mutual
theorem RV.mono (e : Ext io H io' H') : ∀ {w : W} {v : V}, RV K ca io H w v → RV K ca io' H' w v
  | .non, _, h => h
  | .bl _, _, h => h
  | .int _, _, h => h
  | .str _, _, h => h
  | .ty _, _, h => h
  | .cls _, _, h => h
  | .loc n, v, h => by
    obtain ⟨a, rfl, q⟩ := (show ∃ a, v = .ref a ∧ io[n]? = some a from h)
    exact ⟨a, rfl, e.get q⟩
  | .scr ns, v, h => by
    obtain ⟨a, rfl, q⟩ := (show ∃ a, v = .ref a ∧ FzS K io H a (ns.map V.int) from h)
    refine ⟨a, rfl, ?_⟩
    rcases q with ⟨q | ⟨o, q⟩, n⟩ | q
    · exact .inl ⟨.inl (e.keep _ _ n q), e.out n q⟩
    · exact .inl ⟨.inr ⟨o, e.keep _ _ n q⟩, e.out n q⟩
    · exact .inr q
  | .tup xs, v, h => by
    obtain ⟨a, vs, rfl, q, r⟩ := (show ∃ a vs, v = .ref a ∧ FzT io H a vs ∧ RVs K ca io H xs vs from h)
    exact ⟨a, vs, rfl, ⟨e.keep _ _ q.2 q.1, e.out q.2 q.1⟩, RVs.mono e r⟩
  | .ktup xs, v, h => by
    obtain ⟨a, vs, rfl, q, r⟩ := (show ∃ a vs, v = .ref a ∧ WrT K a vs ∧ RVs K ca io H xs vs from h)
    exact ⟨a, vs, rfl, q, RVs.mono e r⟩
  | .lst xs, v, h => by
    obtain ⟨a, vs, rfl, q, r⟩ := (show ∃ a vs, v = .ref a ∧ FzL io H a vs ∧ RVs K ca io H xs vs from h)
    exact ⟨a, vs, rfl, ⟨e.keep _ _ q.2 q.1, e.out q.2 q.1⟩, RVs.mono e r⟩
  | .obj c xs, v, h => by
    obtain ⟨a, dx, vs, rfl, q, n, l, r⟩ := (show ∃ a dx vs, v = .ref a ∧ H a = some (.ins (ca c) dx ((fnames c).zip vs)) ∧ a ∉ io ∧ vs.length ≤ (flds c).length ∧ RVs K ca io H xs vs from h)
    exact ⟨a, dx, vs, rfl, e.keep _ _ n q, e.out n q, l, RVs.mono e r⟩
  | .dct ks xs, v, h => by
    obtain ⟨a, vs, rfl, q, n, l, r⟩ := (show ∃ a vs, v = .ref a ∧ H a = some (.dK (ks.zip vs)) ∧ a ∉ io ∧ vs.length = ks.length ∧ RVs K ca io H xs vs from h)
    exact ⟨a, vs, rfl, e.keep _ _ n q, e.out n q, l, RVs.mono e r⟩
theorem RVs.mono (e : Ext io H io' H') : ∀ {ws : List W} {vs : List V}, RVs K ca io H ws vs → RVs K ca io' H' ws vs
  | [], _, h => h
  | x :: xs, vs, h => by
    obtain ⟨v, r, rfl, h1, h2⟩ := (show ∃ v r, vs = v :: r ∧ RV K ca io H x v ∧ RVs K ca io H xs r from h)
    exact ⟨v, r, rfl, RV.mono e h1, RVs.mono e h2⟩
end
theorem RE.mono (e : Ext io H io' H') {r : Rho} {σ : L2.St} (h : RE K ca io H r σ) : RE K ca io' H' r σ := ⟨h.1, fun i w q => by
  obtain ⟨v, h1, h2⟩ := h.2 i w q
  exact ⟨v, h1, h2.mono e⟩⟩
theorem RVs.len : ∀ {ws : List W} {vs : List V}, RVs K ca io H ws vs → vs.length = ws.length
  | [], vs, h => by rw [show vs = [] from h] <;> rfl
  | x :: xs, vs, h => by
    obtain ⟨v, r, rfl, _, h2⟩ := (show ∃ v r, vs = v :: r ∧ RV K ca io H x v ∧ RVs K ca io H xs r from h)
    rw [List.length_cons, List.length_cons, RVs.len h2]
theorem RVs.nil : RVs K ca io H [] [] := rfl
theorem RVs.cons {w : W} {v : V} {ws : List W} {vs : List V} (h : RV K ca io H w v) (t : RVs K ca io H ws vs) : RVs K ca io H (w :: ws) (v :: vs) := ⟨v, vs, rfl, h, t⟩
theorem RVs.cons_iff {w : W} {v : V} {ws : List W} {vs : List V} : RVs K ca io H (w :: ws) (v :: vs) ↔ RV K ca io H w v ∧ RVs K ca io H ws vs := by
  constructor
  · intro h
    obtain ⟨v', r, e, h1, h2⟩ := (show ∃ v' r, v :: vs = v' :: r ∧ RV K ca io H w v' ∧ RVs K ca io H ws r from h)
    cases e
    exact ⟨h1, h2⟩
  · exact fun h => .cons h.1 h.2
theorem RVs.inv {w : W} {ws : List W} {vs : List V} (h : RVs K ca io H (w :: ws) vs) : ∃ v r, vs = v :: r ∧ RV K ca io H w v ∧ RVs K ca io H ws r := h
theorem RVs.app : ∀ {ws us : List W} {vs xs : List V}, RVs K ca io H ws vs → RVs K ca io H us xs → RVs K ca io H (ws ++ us) (vs ++ xs)
  | [], _, _, _, h, t => by
    cases h
    exact t
  | _ :: _, _, _, _, h, t => by
    obtain ⟨v, r, rfl, h1, h2⟩ := h.inv
    exact .cons h1 (RVs.app h2 t)
theorem RVs.get : ∀ {ws : List W} {vs : List V} {i : Nat} {w : W}, RVs K ca io H ws vs → ws[i]? = some w → ∃ v, vs[i]? = some v ∧ RV K ca io H w v
  | [], _, _, _, _, q => by simp at q
  | _ :: _, _, 0, w, h, q => by
    obtain ⟨v, r, rfl, h1, h2⟩ := h.inv
    simp at q
    subst q
    exact ⟨v, rfl, h1⟩
  | _ :: _, _, i + 1, w, h, q => by
    obtain ⟨v, r, rfl, h1, h2⟩ := h.inv
    simp at q
    obtain ⟨v2, e, h3⟩ := RVs.get h2 q
    exact ⟨v2, by simpa using e, h3⟩
theorem RVs.getV : ∀ {ws : List W} {vs : List V} {i : Nat} {v : V}, RVs K ca io H ws vs → vs[i]? = some v → ∃ w, ws[i]? = some w ∧ RV K ca io H w v
  | [], _, _, _, h, q => by
    cases h
    simp at q
  | w :: _, _, 0, _, h, q => by
    obtain ⟨v, r, rfl, h1, h2⟩ := h.inv
    simp at q
    subst q
    exact ⟨w, rfl, h1⟩
  | _ :: _, _, i + 1, _, h, q => by
    obtain ⟨v, r, rfl, h1, h2⟩ := h.inv
    simp at q
    obtain ⟨v2, e, h3⟩ := RVs.getV h2 q
    exact ⟨v2, by simpa using e, h3⟩
theorem RVs.set : ∀ {ws : List W} {vs : List V} (i : Nat) {w : W} {v : V}, RVs K ca io H ws vs → RV K ca io H w v → RVs K ca io H (ws.set i w) (vs.set i v)
  | [], _, _, _, _, h, _ => by
    cases h
    exact .nil
  | _ :: _, _, 0, _, _, h, q => by
    obtain ⟨v, r, rfl, h1, h2⟩ := h.inv
    exact .cons q h2
  | _ :: _, _, i + 1, _, _, h, q => by
    obtain ⟨v, r, rfl, h1, h2⟩ := h.inv
    exact .cons h1 (RVs.set i h2 q)
theorem RVs.take : ∀ {ws : List W} {vs : List V} (n : Nat), RVs K ca io H ws vs → RVs K ca io H (ws.take n) (vs.take n)
  | _, _, 0, _ => by simp [RVs]
  | [], _, n + 1, h => by
    cases h
    simp [RVs]
  | _ :: _, _, n + 1, h => by
    obtain ⟨v, r, rfl, h1, h2⟩ := h.inv
    exact .cons h1 (RVs.take n h2)
theorem RVs.drop : ∀ {ws : List W} {vs : List V} (n : Nat), RVs K ca io H ws vs → RVs K ca io H (ws.drop n) (vs.drop n)
  | _, _, 0, h => h
  | [], _, n + 1, h => by
    cases h
    exact .nil
  | _ :: _, _, n + 1, h => by
    obtain ⟨v, r, rfl, h1, h2⟩ := h.inv
    exact RVs.drop n h2
theorem RVs.erase : ∀ {ws : List W} {vs : List V} (n : Nat), RVs K ca io H ws vs → RVs K ca io H (ws.eraseIdx n) (vs.eraseIdx n)
  | [], _, _, h => by
    cases h
    exact .nil
  | _ :: _, _, 0, h => by
    obtain ⟨v, r, rfl, h1, h2⟩ := h.inv
    exact h2
  | _ :: _, _, n + 1, h => by
    obtain ⟨v, r, rfl, h1, h2⟩ := h.inv
    exact .cons h1 (RVs.erase n h2)
theorem RVs.ints {ns : List Int} : ∀ {vs : List V}, RVs K ca io H (ns.map W.int) vs → vs = ns.map V.int := by
  induction ns with
  | nil => intro vs h; exact h
  | cons n ns ih =>
    intro vs h
    obtain ⟨v, r, rfl, h1, h2⟩ := h.inv
    rw [ih h2, show v = V.int n from h1] <;> rfl
theorem RVs.of_ints (ns : List Int) : RVs K ca io H (ns.map W.int) (ns.map V.int) := by
  induction ns with
  | nil => exact .nil
  | cons n ns ih => exact .cons rfl ih
end

/-! ### runs -/
inductive Res (α : Type) where
  | ok (a : α) (S : Sto)
  | exc (c : Cl) (ws : List W) (S : Sto)
  | stuck
abbrev M (α : Type) := Rho → Sto → Res α
def mpure {α : Type} (a : α) : M α := fun _ S => .ok a S
def mbind {α β : Type} (m : M α) (f : α → M β) : M β := fun r S => match m r S with
  | .ok a S' => f a r S'
  | .exc c ws S' => .exc c ws S'
  | .stuck => .stuck
instance : Monad M where
  pure := mpure
  bind := mbind
theorem bind_def {α β : Type} (m : M α) (f : α → M β) (r : Rho) (S : Sto) : (m >>= f) r S = (match m r S with
  | .ok a S' => f a r S'
  | .exc c ws S' => .exc c ws S'
  | .stuck => .stuck) := rfl
theorem pure_def {α : Type} (a : α) (r : Rho) (S : Sto) : (pure a : M α) r S = .ok a S := rfl
/-- how an exception with fields lies -/
def RX (K : PySem.W.Frag) (ca : Ca) (io : List Addr) (H : Hp) (c : Cl) (ws : List W) (d : Option Addr) : Prop :=
  match flds c with
  | [] => d = none
  | _ => ∃ dd vs, d = some dd ∧ H dd = some (.xd ((fnames c).zip vs)) ∧ dd ∉ io ∧ vs.length = (flds c).length ∧ RVs K ca io H ws vs
def Post {α : Type} (K : PySem.W.Frag) (ca : Ca) (E : XK) (io : List Addr) (H : Hp) (R : α → List Addr → Hp → Prop) : Res α → Prop
  | .ok a S' => ∀ io' H', Ext io H io' H' → Rl0 K ca io' S' H' → R a io' H'
  | .exc c ws S' => ∀ io' H' d, Ext io H io' H' → Rl0 K ca io' S' H' → RX K ca io' H' c ws d → E (.ref (ca c)) d H'
  | .stuck => False
theorem Post.mono {α : Type} {K : PySem.W.Frag} {ca : Ca} {E : XK} {io io' : List Addr} {H H' : Hp} {R : α → List Addr → Hp → Prop} {r : Res α} (e : Ext io H io' H') (h : Post K ca E io H R r) : Post K ca E io' H' R r := by
  cases r with
  | ok a S => exact fun io2 H2 f z => h io2 H2 (e.trans f) z
  | exc c ws S => exact fun io2 H2 d f z x => h io2 H2 d (e.trans f) z x
  | stuck => exact h
theorem Post.imp {α : Type} {K : PySem.W.Frag} {ca : Ca} {E : XK} {io : List Addr} {H : Hp} {R R' : α → List Addr → Hp → Prop} {r : Res α} (h : Post K ca E io H R r) (i : ∀ a io' H', Ext io H io' H' → R a io' H' → R' a io' H') : Post K ca E io H R' r := by
  cases r with
  | ok a S => exact fun io2 H2 f z => i _ _ _ f (h io2 H2 f z)
  | exc c ws S => exact h
  | stuck => exact h
/-- a run as a reading: of an expression, a list of arguments, a test -/
def tE (K : PySem.W.Frag) (ca : Ca) (E : XK) (m : M W) : TE := fun σ H Q => ∃ io r S, Rl K ca io r S σ H ∧ Post K ca E io H (fun w io' H' => ∀ v, RV K ca io' H' w v → Q v H') (m r S)
def tA (K : PySem.W.Frag) (ca : Ca) (E : XK) (m : M (List W)) : TA := fun σ H Q => ∃ io r S, Rl K ca io r S σ H ∧ Post K ca E io H (fun ws io' H' => ∀ vs, RVs K ca io' H' ws vs → Q vs H') (m r S)
def tT (K : PySem.W.Frag) (ca : Ca) (E : XK) (m : M Bool) : TT := fun σ H Q => ∃ io r S, Rl K ca io r S σ H ∧ Post K ca E io H (fun b io' H' => Q b H') (m r S)
abbrev ME (X : Cx) (ca : Ca) (E : XK) (e : Expr) (m : M W) : Prop := PE X e (tE X.K ca E m)
abbrev MA (X : Cx) (ca : Ca) (E : XK) (es : List Expr) (m : M (List W)) : Prop := PA X es (tA X.K ca E m)
abbrev MT (X : Cx) (ca : Ca) (E : XK) (e : Expr) (m : M Bool) : Prop := PT X e (tT X.K ca E m)
abbrev MW (X : Cx) (ca : Ca) (E : XK) (e : Expr) (m : M Bool) : Prop := PW X e (tT X.K ca E m)

section
variable {K : PySem.W.Frag} {ca : Ca} {E : XK} {io : List Addr} {r : Rho} {S : Sto} {σ : L2.St} {H : Hp} {α : Type} {R : α → List Addr → Hp → Prop}
theorem Rl.mono {io' : List Addr} {S' : Sto} {H' : Hp} (h : Rl K ca io r S σ H) (e : Ext io H io' H') (z : Rl0 K ca io' S' H') : Rl K ca io' r S' σ H' := ⟨z, h.e.mono e⟩
/-- behind an expression the rest runs on -/
theorem tE_bind {m : M W} {f : W → M α} (h : Rl K ca io r S σ H) (p : Post K ca E io H R ((m >>= f) r S)) :
    tE K ca E m σ H (fun v H1 => ∃ io1 S1 w, Ext io H io1 H1 ∧ Rl K ca io1 r S1 σ H1 ∧ RV K ca io1 H1 w v ∧ Post K ca E io1 H1 R (f w r S1)) := by
  refine ⟨io, r, S, h, ?_⟩
  rw [bind_def] at p
  cases q : m r S with
  | ok a S' =>
    rw [q] at p
    exact fun io' H' e z v rv => ⟨io', S', a, e, h.mono e z, rv, p.mono e⟩
  | exc c ws S' =>
    rw [q] at p
    exact p
  | stuck =>
    rw [q] at p
    exact p
theorem tA_bind {m : M (List W)} {f : List W → M α} (h : Rl K ca io r S σ H) (p : Post K ca E io H R ((m >>= f) r S)) :
    tA K ca E m σ H (fun v H1 => ∃ io1 S1 w, Ext io H io1 H1 ∧ Rl K ca io1 r S1 σ H1 ∧ RVs K ca io1 H1 w v ∧ Post K ca E io1 H1 R (f w r S1)) := by
  refine ⟨io, r, S, h, ?_⟩
  rw [bind_def] at p
  cases q : m r S with
  | ok a S' =>
    rw [q] at p
    exact fun io' H' e z v rv => ⟨io', S', a, e, h.mono e z, rv, p.mono e⟩
  | exc c ws S' =>
    rw [q] at p
    exact p
  | stuck =>
    rw [q] at p
    exact p
theorem tT_bind {m : M Bool} {f : Bool → M α} (h : Rl K ca io r S σ H) (p : Post K ca E io H R ((m >>= f) r S)) :
    tT K ca E m σ H (fun b H1 => ∃ io1 S1, Ext io H io1 H1 ∧ Rl K ca io1 r S1 σ H1 ∧ Post K ca E io1 H1 R (f b r S1)) := by
  refine ⟨io, r, S, h, ?_⟩
  rw [bind_def] at p
  cases q : m r S with
  | ok a S' =>
    rw [q] at p
    exact fun io' H' e z => ⟨io', S', e, h.mono e z, p.mono e⟩
  | exc c ws S' =>
    rw [q] at p
    exact p
  | stuck =>
    rw [q] at p
    exact p
theorem Post.done {a : α} {S' : Sto} (p : Post K ca E io H R (.ok a S')) (z : Rl0 K ca io S' H) : R a io H := p io H (Ext.refl io H) z
end
theorem PE.weak {X : Cx} {e : Expr} {t u : TE} (h : PE X e t) (i : ∀ σ H Q, u σ H Q → t σ H Q) : PE X e u := ⟨fun pins s σ H Q I hw => h.run pins s σ H Q I (i σ H Q hw)⟩
theorem PA.weak {X : Cx} {e : List Expr} {t u : TA} (h : PA X e t) (i : ∀ σ H Q, u σ H Q → t σ H Q) : PA X e u := ⟨fun pos pins s σ H Q I hw => h.run pos pins s σ H Q I (i σ H Q hw)⟩
theorem PT.weak {X : Cx} {e : Expr} {t u : TT} (h : PT X e t) (i : ∀ σ H Q, u σ H Q → t σ H Q) : PT X e u := ⟨fun pins s σ H Q I hw => h.run pins s σ H Q I (i σ H Q hw)⟩
theorem PW.weak {X : Cx} {e : Expr} {t u : TT} (h : PW X e t) (i : ∀ σ H Q, u σ H Q → t σ H Q) : PW X e u := ⟨fun whole pins s σ H Q I hw => h.run whole pins s σ H Q I (i σ H Q hw)⟩
end SL

set_option Elab.async false
set_option linter.all false
set_option maxRecDepth 100000
set_option maxHeartbeats 2000000
namespace SL
open PySem PySem.Spec PyProof.Rows L2

/-! ### the store and the heap -/
section
variable {K : PySem.W.Frag} {ca : Ca} {E : XK} {io io' : List Addr} {r : Rho} {S : Sto} {σ : L2.St} {H H' : Hp} {α : Type} {R : α → List Addr → Hp → Prop}
theorem RC.mono {a : Addr} {c : Ce} (e : Ext io H io' H') (s : H' a = H a) (h : RC K ca io H a c) : RC K ca io' H' a c := by
  cases c with
  | lst xs =>
    obtain ⟨vs, h1, h2⟩ := h
    exact ⟨vs, s.trans h1, h2.mono e⟩
  | ins c xs =>
    obtain ⟨dx, vs, h1, h2, h3⟩ := h
    exact ⟨dx, vs, s.trans h1, h2, h3.mono e⟩
  | dk ks xs =>
    obtain ⟨vs, h1, h2, h3⟩ := h
    exact ⟨vs, s.trans h1, h2, h3.mono e⟩
  | dt ks xs =>
    obtain ⟨vs, h1, h2, h3⟩ := h
    exact ⟨vs, s.trans h1, h2, h3.mono e⟩
theorem RC.some {a : Addr} {c : Ce} (h : RC K ca io H a c) : ∃ o, H a = some o := by
  cases c with
  | lst xs => exact ⟨_, h.choose_spec.1⟩
  | ins c xs => exact ⟨_, h.choose_spec.choose_spec.1⟩
  | dk ks xs => exact ⟨_, h.choose_spec.1⟩
  | dt ks xs => exact ⟨_, h.choose_spec.1⟩
theorem Rl0.at (h : Rl0 K ca io S H) {n : Nat} {c : Ce} (q : S[n]? = some c) : ∃ a, io[n]? = some a ∧ RC K ca io H a c := by
  have hn : n < io.length := by
    rw [h.len]
    exact (List.getElem?_eq_some_iff.mp q).1
  exact ⟨io[n], List.getElem?_eq_getElem hn, h.ce n c io[n] q (List.getElem?_eq_getElem hn)⟩
theorem Rl0.has (h : Rl0 K ca io S H) {a : Addr} (m : a ∈ io) : ∃ o, H a = some o := by
  obtain ⟨n, hn, rfl⟩ := List.mem_iff_getElem.mp m
  have hs : n < S.length := by
    rw [← h.len]
    exact hn
  exact (h.ce n S[n] io[n] (List.getElem?_eq_getElem hs) (List.getElem?_eq_getElem hn)).some
theorem Rl0.free (h : Rl0 K ca io S H) {p : Addr} (np : H p = none) : p ∉ io := fun m => by
  obtain ⟨o, q⟩ := h.has m
  rw [np] at q
  cases q
/-- a new object that stays as it is -/
theorem ext_new {p : Addr} {o : HO} (np : H p = none) : Ext io H io (upd H p o) := by
  refine ⟨⟨[], by simp, by simp⟩, fun a u _ q _ => ?_, fun a u q => ?_⟩
  · rw [upd_ne (ne_of_none q np)]
    exact q
  · exact ⟨u, by rw [upd_ne (ne_of_none q np)]; exact q⟩
theorem Rl0.new (h : Rl0 K ca io S H) {p : Addr} {o : HO} (np : H p = none) : Rl0 K ca io S (upd H p o) :=
  ⟨h.len, h.nd, fun n c a q q2 => by
    have z := h.ce n c a q q2
    obtain ⟨u, hu⟩ := z.some
    exact z.mono (ext_new np) (upd_ne (ne_of_none hu np)), h.tb.step (fun a _ n => upd_ne fun z => n (z ▸ np)) fun _ m => .inl m⟩
/-- a new object that may change -/
theorem ext_cell {p : Addr} {o : HO} (np : H p = none) : Ext io H (io ++ [p]) (upd H p o) := by
  refine ⟨⟨[p], rfl, fun a m => ?_⟩, fun a u _ q _ => ?_, fun a u q => ?_⟩
  · rw [List.mem_singleton.mp m]
    exact np
  · rw [upd_ne (ne_of_none q np)]
    exact q
  · exact ⟨u, by rw [upd_ne (ne_of_none q np)]; exact q⟩
theorem Rl0.cell (h : Rl0 K ca io S H) {p : Addr} {o : HO} {c : Ce} (np : H p = none) (hc : RC K ca (io ++ [p]) (upd H p o) p c) : Rl0 K ca (io ++ [p]) (S ++ [c]) (upd H p o) := by
  refine ⟨by simp [h.len], ?_, fun n d a q q2 => ?_, h.tb.step (fun a _ n => upd_ne fun z => n (z ▸ np)) fun a m => ?_⟩
  · refine List.nodup_append.mpr ⟨h.nd, by simp, fun a ha b hb => ?_⟩
    have eb := List.mem_singleton.mp hb
    subst eb
    intro e
    subst e
    exact h.free np ha
  · by_cases hn : n < S.length
    · rw [List.getElem?_append_left hn] at q
      rw [List.getElem?_append_left (by rw [h.len]; exact hn)] at q2
      have z := h.ce n d a q q2
      obtain ⟨u, hu⟩ := z.some
      exact z.mono (ext_cell np) (upd_ne (ne_of_none hu np))
    · have e : n = S.length := by
        have l := (List.getElem?_eq_some_iff.mp q).1
        rw [List.length_append, List.length_singleton] at l
        omega
      subst e
      rw [List.getElem?_append_right (Nat.le_refl _), Nat.sub_self] at q
      rw [List.getElem?_append_right (by rw [h.len]; exact Nat.le_refl _), h.len, Nat.sub_self] at q2
      cases q
      cases q2
      exact hc
  · rcases List.mem_append.mp m with m | m
    · exact .inl m
    · rw [List.mem_singleton.mp m]
      exact .inr np
/-- a change -/
theorem ext_put {n : Nat} {a : Addr} {o o' : HO} (hn : io[n]? = some a) (ha : H a = some o) : Ext io H io (upd H a o') := by
  refine ⟨⟨[], by simp, by simp⟩, fun b u nb q _ => ?_, fun b u q => ?_⟩
  · have ne : b ≠ a := fun e => by
      subst e
      exact nb (List.mem_of_getElem? hn)
    rw [upd_ne ne]
    exact q
  · by_cases e : b = a
    · exact ⟨o', by rw [e, upd_same]⟩
    · exact ⟨u, by rw [upd_ne e]; exact q⟩
theorem Rl0.put (h : Rl0 K ca io S H) {n : Nat} {a : Addr} {o o' : HO} {c : Ce} (hn : io[n]? = some a) (ha : H a = some o) (hc : RC K ca io (upd H a o') a c) : Rl0 K ca io (S.set n c) (upd H a o') := by
  refine ⟨by simp [h.len], h.nd, fun m d b q q2 => ?_, h.tb.step (fun b nb _ => upd_ne fun z => nb (by rw [z]; exact List.mem_of_getElem? hn)) fun _ m => .inl m⟩
  by_cases e : m = n
  · subst e
    rw [hn] at q2
    cases q2
    have hl : m < S.length := by
      rw [← h.len]
      exact (List.getElem?_eq_some_iff.mp hn).1
    rw [List.getElem?_set_self hl] at q
    cases q
    exact hc
  · rw [List.getElem?_set_ne (fun z => e z.symm)] at q
    have nb : b ≠ a := fun z => by
      subst z
      obtain ⟨l1, e1⟩ := List.getElem?_eq_some_iff.mp hn
      obtain ⟨l2, e2⟩ := List.getElem?_eq_some_iff.mp q2
      exact e ((List.getElem_inj h.nd).mp (e2.trans e1.symm))
    exact (h.ce m d b q q2).mono (ext_put hn ha) (upd_ne nb)
theorem tE_imp {m : M W} {Q Q' : VK} (h : tE K ca E m σ H Q) (i : ∀ v H', Q v H' → Q' v H') : tE K ca E m σ H Q' := by
  obtain ⟨io, r, S, l, p⟩ := h
  exact ⟨io, r, S, l, p.imp fun w io' H' _ q v rv => i v H' (q v rv)⟩
theorem tA_imp {m : M (List W)} {Q Q' : List V → Hp → Prop} (h : tA K ca E m σ H Q) (i : ∀ v H', Q v H' → Q' v H') : tA K ca E m σ H Q' := by
  obtain ⟨io, r, S, l, p⟩ := h
  exact ⟨io, r, S, l, p.imp fun w io' H' _ q v rv => i v H' (q v rv)⟩
theorem tT_imp {m : M Bool} {Q Q' : Bool → Hp → Prop} (h : tT K ca E m σ H Q) (i : ∀ v H', Q v H' → Q' v H') : tT K ca E m σ H Q' := by
  obtain ⟨io, r, S, l, p⟩ := h
  exact ⟨io, r, S, l, p.imp fun w io' H' _ q => i w H' q⟩
end

/-! ### the value of a name, a constant -/
def mVar (i : Nat) : M W := fun r S => match r[i]? with
  | some (some w) => .ok w S
  | _ => .stuck
def mC (w : W) : M W := fun _ S => .ok w S
section
variable {X : Cx} {ca : Ca} {E : XK}
theorem me_var (i : Nat) {x : Str} {pos : Pos} (hN : X.N[i]? = some x := by rfl) (hv : Vis X.env.scope x := by first | exact Or.inl rfl | exact Or.inr (Or.inl rfl) | exact Or.inr (Or.inr rfl)) (hd : (x == ("__debug__" : Str)) = false := by decide)
    (hcd : (x == ("__classdict__" : Str)) = false := by decide) : ME X ca E (.Name x pos) (mVar i) := by
  refine PE.weak (pe_var hN hv hd hcd) fun σ H Q h => ?_
  obtain ⟨io, r, S, l, p⟩ := h
  unfold mVar at p
  split at p
  · rename_i w q
    obtain ⟨v, hv, rv⟩ := l.e.2 i w q
    exact ⟨v, hv, p.done l.z v rv⟩
  · exact p.elim
theorem me_c {e : Expr} {v : V} {w : W} (h : PE X e (tC v)) (q : ∀ io H, RV X.K ca io H w v) : ME X ca E e (mC w) := by
  refine PE.weak h fun σ H Q h => ?_
  obtain ⟨io, r, S, l, p⟩ := h
  exact p.done l.z v (q _ _)
theorem me_int {i j pos} : ME X ca E (.Constant (.int i) j pos) (mC (.int i)) := me_c pe_int fun _ _ => rfl
theorem me_bl {b j pos} : ME X ca E (.Constant (.bool b) j pos) (mC (.bl b)) := me_c pe_bl fun _ _ => rfl
theorem me_str {x j pos} : ME X ca E (.Constant (.str x) j pos) (mC (.str x)) := me_c pe_str fun _ _ => rfl
theorem me_non {j pos} : ME X ca E (.Constant .none j pos) (mC .non) := me_c pe_non fun _ _ => rfl
theorem me_gint {x : Str} {i : Int} {pos : Pos} (hm : ∃ t, X.mg x = some (.int i t)) (hg : Gl X x := by rfl) (hd : (x == ("__debug__" : Str)) = false := by decide) : ME X ca E (.Name x pos) (mC (.int i)) := by
  obtain ⟨t, hm⟩ := hm
  exact me_c (pe_glob hg hm (v := .int i) ⟨t, rfl⟩ hd) fun _ _ => rfl
theorem me_gstr {x z : Str} {pos : Pos} (hm : ∃ t, X.mg x = some (.str z t)) (hg : Gl X x := by rfl) (hd : (x == ("__debug__" : Str)) = false := by decide) : ME X ca E (.Name x pos) (mC (.str z)) := by
  obtain ⟨t, hm⟩ := hm
  exact me_c (pe_glob hg hm (v := .str z) ⟨t, rfl⟩ hd) fun _ _ => rfl
/-- a module's tuple -/
theorem me_gtup {x : Str} {a : Addr} {vs : List V} {ws : List W} {pos : Pos} (hm : X.mg x = some (.ref a)) (hw : WrT X.K a vs) (hr : ∀ io H, RVs X.K ca io H ws vs) (hg : Gl X x := by rfl) (hd : (x == ("__debug__" : Str)) = false := by decide) : ME X ca E (.Name x pos) (mC (.ktup ws)) :=
  me_c (pe_glob hg hm (v := .ref a) rfl hd) fun io H => ⟨a, vs, rfl, hw, hr io H⟩
theorem me_bty {x : Str} {n : String} {pos : Pos} (hm : X.mg x = none) (hv : bootBuiltins x = some (.type n)) (hg : Gl X x := by rfl) (hn : x ≠ "__name__" := by decide) (hd : (x == ("__debug__" : Str)) = false := by decide) : ME X ca E (.Name x pos) (mC (.ty n)) :=
  me_c (pe_bltn hg hm hv (v := .ty n) rfl hn hd) fun _ _ => rfl

/-! ### operators -/
abbrev Op2 := W → W → Sto → Res W
def mOp (f : Op2) (a b : M W) : M W := do
  let x ← a
  let y ← b
  fun _ S => f x y S
def r2 (K : PySem.W.Frag) (ca : Ca) (E : XK) (f : Op2) : R2 := fun x y H Q => ∃ io S a b, Rl0 K ca io S H ∧ RV K ca io H a x ∧ RV K ca io H b y ∧ Post K ca E io H (fun w io' H' => ∀ v, RV K ca io' H' w v → Q v H') (f a b S)
def OpM (X : Cx) (ca : Ca) (E : XK) (g : Value → Value → Sem Value) (f : Op2) : Prop := OpR X g (r2 X.K ca E f)
theorem op_imp {K : PySem.W.Frag} {f : Op2} {ma mb : M W} {σ : L2.St} {H : Hp} {Q : VK} (h : tE K ca E (mOp f ma mb) σ H Q) : tOp (r2 K ca E f) (tE K ca E ma) (tE K ca E mb) σ H Q := by
  obtain ⟨io, r, S, l, p⟩ := h
  refine tE_imp (tE_bind l p) fun v H1 ⟨io1, S1, w, e1, l1, rv, p1⟩ => ?_
  refine tE_imp (tE_bind l1 p1) fun u H2 ⟨io2, S2, w2, e2, l2, ru, p2⟩ => ?_
  exact ⟨io2, S2, w, w2, l2.z, rv.mono e2, ru, p2⟩
theorem me_op {op : Operator} {f : Op2} {a b : Expr} {ma mb : M W} {pos : Pos} (ho : OpM X ca E (binaryOp op) f) (ha : ME X ca E a ma) (hb : ME X ca E b mb) : ME X ca E (.BinOp a op b pos) (mOp f ma mb) :=
  PE.weak (pe_op ho ha hb) fun σ H Q h => op_imp h
theorem me_cmp {op : CmpOp} {f : Op2} {a b : Expr} {ma mb : M W} {pos : Pos} (ho : OpM X ca E (compareOp op) f) (ha : ME X ca E a ma) (hb : ME X ca E b mb) (hm : behindInMarks op b = false := by first | exact nomark _ (by decide) (by decide) | rfl) : ME X ca E (.Compare a [op] [b] pos) (mOp f ma mb) :=
  PE.weak (pe_cmpR ho ha hb hm) fun σ H Q h => op_imp h
/-- a value that must be a truth value -/
def mB (m : M W) : M Bool := do
  let w ← m
  match w with
  | .bl b => pure b
  | _ => fun _ _ => .stuck
theorem tB_imp {K : PySem.W.Frag} {m : M W} {σ : L2.St} {H : Hp} {Q : Bool → Hp → Prop} (h : tT K ca E (mB m) σ H Q) : tE K ca E m σ H (fun v H1 => ∃ k, v = .bl k ∧ Q k H1) := by
  obtain ⟨io, r, S, l, p⟩ := h
  refine tE_imp (tE_bind l p) fun v H1 ⟨io1, S1, w, e1, l1, rv, p1⟩ => ?_
  cases w <;> first | exact False.elim p1 | skip
  exact ⟨_, rv, p1.done l1.z⟩
theorem mt_cmp {op : CmpOp} {f : Op2} {a b : Expr} {ma mb : M W} {pos : Pos} (ho : OpM X ca E (compareOp op) f) (ha : ME X ca E a ma) (hb : ME X ca E b mb) (hm : behindInMarks op b = false := by first | exact nomark _ (by decide) (by decide) | rfl) : MT X ca E (.Compare a [op] [b] pos) (mB (mOp f ma mb)) :=
  PT.weak (pt_cmpR ho ha hb hm) fun σ H Q h => op_imp (tB_imp h)
/-- any other expression that gives a truth value -/
theorem mt_val {e : Expr} {m : M W} (h : ME X ca E e m) (he : ∀ whole, isTrue e X.env whole = (do let v ← whole; standAt e.pos; holding [v] (truthy v)) := by intro _; rfl) : MT X ca E e (mB m) :=
  PT.weak (pt_val h he) fun σ H Q h => tB_imp h
def mNot (m : M Bool) : M Bool := do
  let b ← m
  pure (!b)
theorem mt_not {a : Expr} {m : M Bool} {pos : Pos} (h : MT X ca E a m) : MT X ca E (.UnaryOp .Not a pos) (mNot m) := by
  refine PT.weak (pt_not h) fun σ H Q h => ?_
  obtain ⟨io, r, S, l, p⟩ := h
  exact tT_imp (tT_bind l p) fun b H1 ⟨io1, S1, e1, l1, p1⟩ => p1.done l1.z
def mAnd (a b : M Bool) : M Bool := do
  let c ← a
  if c then b else pure false
def mOr (a b : M Bool) : M Bool := do
  let c ← a
  if c then pure true else b
theorem tT_at {K : PySem.W.Frag} {io : List Addr} {r : Rho} {S : Sto} {m : M Bool} {σ : L2.St} {H : Hp} {Q : Bool → Hp → Prop} (l : Rl K ca io r S σ H) (p : Post K ca E io H (fun b io' H' => Q b H') (m r S)) : tT K ca E m σ H Q := ⟨io, r, S, l, p⟩
theorem mw_and1 {a : Expr} {m : M Bool} {pos : Pos} (h : MT X ca E a m) : MW X ca E (.BoolOp .And [a] pos) m := pw_and1 h
theorem mw_or1 {a : Expr} {m : M Bool} {pos : Pos} (h : MT X ca E a m) : MW X ca E (.BoolOp .Or [a] pos) m := pw_or1 h
theorem mw_and {a b : Expr} {rest : List Expr} {ma mb : M Bool} {pos : Pos} (ha : MT X ca E a ma) (hb : MW X ca E (.BoolOp .And (b :: rest) pos) mb) : MW X ca E (.BoolOp .And (a :: b :: rest) pos) (mAnd ma mb) := by
  refine PW.weak (pw_and ha hb) fun σ H Q h => ?_
  obtain ⟨io, r, S, l, p⟩ := h
  refine tT_imp (tT_bind l p) fun b H1 ⟨io1, S1, e1, l1, p1⟩ => ?_
  cases b with
  | true => exact iteT ⟨io1, r, S1, l1, p1⟩
  | false => exact iteF (p1.done l1.z)
theorem mw_or {a b : Expr} {rest : List Expr} {ma mb : M Bool} {pos : Pos} (ha : MT X ca E a ma) (hb : MW X ca E (.BoolOp .Or (b :: rest) pos) mb) : MW X ca E (.BoolOp .Or (a :: b :: rest) pos) (mOr ma mb) := by
  refine PW.weak (pw_or ha hb) fun σ H Q h => ?_
  obtain ⟨io, r, S, l, p⟩ := h
  refine tT_imp (tT_bind l p) fun b H1 ⟨io1, S1, e1, l1, p1⟩ => ?_
  cases b with
  | true => exact iteT (p1.done l1.z)
  | false => exact iteF ⟨io1, r, S1, l1, p1⟩
theorem mt_bool {e : Expr} {m : M Bool} (h : MW X ca E e m) : MT X ca E e m := h.pt
/-! and, or, not as values: all but the last True or False -/
def mAndV (a b : M W) : M W := do
  let x ← a
  match x with
  | .bl true => b
  | .bl false => pure (.bl false)
  | _ => fun _ _ => .stuck
def mOrV (a b : M W) : M W := do
  let x ← a
  match x with
  | .bl true => pure (.bl true)
  | .bl false => b
  | _ => fun _ _ => .stuck
def mNotV (a : M W) : M W := do
  let x ← a
  match x with
  | .bl c => pure (.bl (!c))
  | _ => fun _ _ => .stuck
theorem me_one {op} {a : Expr} {m : M W} {pos : Pos} (h : ME X ca E a m) : ME X ca E (.BoolOp op [a] pos) m := pe_one h
theorem me_and {a b : Expr} {rest : List Expr} {ma mb : M W} {pos : Pos} (ha : ME X ca E a ma) (hb : ME X ca E (.BoolOp .And (b :: rest) pos) mb) : ME X ca E (.BoolOp .And (a :: b :: rest) pos) (mAndV ma mb) := by
  refine PE.weak (pe_and ha hb) fun σ H Q h => ?_
  obtain ⟨io, r, S, l, p⟩ := h
  refine tE_imp (tE_bind l p) fun v H1 ⟨io1, S1, w, e1, l1, rv, p1⟩ => ?_
  cases w <;> first | exact False.elim p1 | skip
  rename_i b
  refine ⟨b, rv, ?_⟩
  cases b with
  | true => exact iteT ⟨io1, r, S1, l1, p1⟩
  | false => exact iteF (p1.done l1.z _ rfl)
theorem me_or {a b : Expr} {rest : List Expr} {ma mb : M W} {pos : Pos} (ha : ME X ca E a ma) (hb : ME X ca E (.BoolOp .Or (b :: rest) pos) mb) : ME X ca E (.BoolOp .Or (a :: b :: rest) pos) (mOrV ma mb) := by
  refine PE.weak (pe_or ha hb) fun σ H Q h => ?_
  obtain ⟨io, r, S, l, p⟩ := h
  refine tE_imp (tE_bind l p) fun v H1 ⟨io1, S1, w, e1, l1, rv, p1⟩ => ?_
  cases w <;> first | exact False.elim p1 | skip
  rename_i b
  refine ⟨b, rv, ?_⟩
  cases b with
  | true => exact iteT (p1.done l1.z _ rfl)
  | false => exact iteF ⟨io1, r, S1, l1, p1⟩
theorem me_not {a : Expr} {m : M W} {pos : Pos} (h : ME X ca E a m) : ME X ca E (.UnaryOp .Not a pos) (mNotV m) := by
  refine PE.weak (pe_not h) fun σ H Q h => ?_
  obtain ⟨io, r, S, l, p⟩ := h
  refine tE_imp (tE_bind l p) fun v H1 ⟨io1, S1, w, e1, l1, rv, p1⟩ => ?_
  cases w <;> first | exact False.elim p1 | skip
  exact ⟨_, rv, p1.done l1.z _ rfl⟩
def mIf {α : Type} (t : M Bool) (a b : M α) : M α := do
  let c ← t
  if c then a else b
theorem me_if {c a b : Expr} {mt : M Bool} {ma mb : M W} {pos : Pos} (hc : MT X ca E c mt) (ha : ME X ca E a ma) (hb : ME X ca E b mb) : ME X ca E (.IfExp c a b pos) (mIf mt ma mb) := by
  refine PE.weak (pe_ifExp hc ha hb) fun σ H Q h => ?_
  obtain ⟨io, r, S, l, p⟩ := h
  refine tT_imp (tT_bind l p) fun b H1 ⟨io1, S1, e1, l1, p1⟩ => ?_
  cases b with
  | true => exact iteT ⟨io1, r, S1, l1, p1⟩
  | false => exact iteF ⟨io1, r, S1, l1, p1⟩
/-- a op b op2 c -/
def mChain (f g : Op2) (a b c : M W) : M W := do
  let x ← a
  let y ← b
  let z ← (fun _ S => f x y S : M W)
  match z with
  | .bl true => do
    let u ← c
    fun _ S => g y u S
  | .bl false => pure (.bl false)
  | _ => fun _ _ => .stuck
theorem chain_imp {K : PySem.W.Frag} {f g : Op2} {ma mb mc : M W} {σ : L2.St} {H : Hp} {Q : VK} (h : tE K ca E (mChain f g ma mb mc) σ H Q) : tChain (r2 K ca E f) (r2 K ca E g) (tE K ca E ma) (tE K ca E mb) (tE K ca E mc) σ H Q := by
  obtain ⟨io, r, S, l, p⟩ := h
  refine tE_imp (tE_bind l p) fun v H1 ⟨io1, S1, w, e1, l1, rv, p1⟩ => ?_
  refine tE_imp (tE_bind l1 p1) fun u H2 ⟨io2, S2, w2, e2, l2, ru, p2⟩ => ?_
  refine ⟨io2, S2, w, w2, l2.z, rv.mono e2, ru, ?_⟩
  rw [bind_def] at p2
  cases q : f w w2 S2 with
  | stuck =>
    simp only [q] at p2
    exact p2.elim
  | exc c ws S' =>
    simp only [q] at p2
    exact p2
  | ok z S' =>
    simp only [q] at p2
    intro io3 H3 e3 z3 v3 rv3
    have l3 := l2.mono e3 z3
    cases z <;> first | exact False.elim p2 | skip
    rename_i k
    refine ⟨k, rv3, ?_⟩
    cases k with
    | false => exact iteF (p2 io3 H3 e3 z3 _ rfl)
    | true =>
      refine iteT ?_
      have p3 := Post.mono e3 p2
      refine tE_imp (tE_bind l3 p3) fun v4 H4 ⟨io4, S4, w4, e4, l4, rv4, p4⟩ => ?_
      exact ⟨io4, S4, w2, w4, l4.z, (ru.mono e3).mono e4, rv4, p4⟩
theorem me_chain {op op' : CmpOp} {f g : Op2} {a b c : Expr} {ma mb mc : M W} {pos : Pos} (ho : OpM X ca E (compareOp op) f) (ho' : OpM X ca E (compareOp op') g) (ha : ME X ca E a ma) (hb : ME X ca E b mb) (hc : ME X ca E c mc)
    (hm : lastMarks [op, op'] [b, c] = false := by with_unfolding_all rfl) : ME X ca E (.Compare a [op, op'] [b, c] pos) (mChain f g ma mb mc) :=
  PE.weak (pe_chain ho ho' ha hb hc hm) fun σ H Q h => chain_imp h
theorem mt_chain {op op' : CmpOp} {f g : Op2} {a b c : Expr} {ma mb mc : M W} {pos : Pos} (ho : OpM X ca E (compareOp op) f) (ho' : OpM X ca E (compareOp op') g) (ha : ME X ca E a ma) (hb : ME X ca E b mb) (hc : ME X ca E c mc)
    (hm : lastMarks [op, op'] [b, c] = false := by with_unfolding_all rfl) : MT X ca E (.Compare a [op, op'] [b, c] pos) (mB (mChain f g ma mb mc)) :=
  PT.weak (pt_chain ho ho' ha hb hc hm) fun σ H Q h => chain_imp (tB_imp h)
end
end SL

set_option Elab.async false
set_option linter.all false
set_option maxRecDepth 100000
set_option maxHeartbeats 2000000
namespace SL
open PySem PySem.Spec PyProof.Rows L2

theorem lim_le {n : Nat} (h : n ≤ 16000000) : n ≤ sizeLine := by
  rw [sizeLine_eq]
  omega
theorem lim_lt {n : Nat} (h : n < 16000000) : n < sizeLine := by
  rw [sizeLine_eq]
  omega
/-! ### a list as it stands -/
def getL (S : Sto) : W → Option (List W)
  | .lst xs => some xs
  | .loc n => match S[n]? with
    | some (.lst xs) => some xs
    | _ => none
  | _ => none
/-- a list or a tuple -/
def getQ (S : Sto) : W → Option (List W)
  | .tup xs => some xs
  | .ktup xs => some xs
  | w => getL S w
def seeL (S : Sto) : W → W
  | .loc n => match S[n]? with
    | some (.lst xs) => .lst xs
    | _ => .loc n
  | w => w
mutual
def dat : W → Option PyData
  | .non => some .none
  | .bl b => some (.bool b)
  | .int i => some (.int i)
  | .str s => some (.str s)
  | .tup xs => (dats xs).map .tuple
  | .lst xs => (dats xs).map .list
  | .ktup _ | .ty _ | .cls _ | .loc _ | .scr _ | .obj _ _ | .dct _ _ => none
def dats : List W → Option (List PyData)
  | [] => some []
  | x :: xs => match dat x, dats xs with
    | some d, some ds => some (d :: ds)
    | _, _ => none
end
section
variable {K : PySem.W.Frag} {ca : Ca} {E : XK} {io : List Addr} {S : Sto} {H : Hp}
theorem getL_ok (z : Rl0 K ca io S H) {w : W} {v : V} {xs : List W} (h : RV K ca io H w v) (g : getL S w = some xs) : ∃ a vs, v = .ref a ∧ H a = some (.lst vs) ∧ RVs K ca io H xs vs := by
  cases w <;> first | (simp [getL] at g; done) | skip
  · rename_i n
    obtain ⟨a, rfl, q⟩ := (show ∃ a, v = .ref a ∧ io[n]? = some a from h)
    unfold getL at g
    cases e : S[n]? with
    | none => simp [e] at g
    | some c =>
      cases c <;> simp [e] at g
      subst g
      obtain ⟨a2, q2, vs, h1, h2⟩ := z.at e
      rw [q] at q2
      cases q2
      exact ⟨a, vs, rfl, h1, h2⟩
  · rename_i ys
    obtain ⟨a, vs, rfl, q, r⟩ := (show ∃ a vs, v = .ref a ∧ FzL io H a vs ∧ RVs K ca io H ys vs from h)
    simp [getL] at g
    subst g
    exact ⟨a, vs, rfl, q.1, r⟩
theorem getQ_ok (z : Rl0 K ca io S H) {w : W} {v : V} {xs : List W} (h : RV K ca io H w v) (g : getQ S w = some xs) : ∃ a vs, v = .ref a ∧ (SqL K H a vs ∨ SqT K H a vs) ∧ RVs K ca io H xs vs := by
  by_cases t : ∃ ys, w = .tup ys
  · obtain ⟨ys, rfl⟩ := t
    obtain ⟨a, vs, rfl, q, r⟩ := (show ∃ a vs, v = .ref a ∧ FzT io H a vs ∧ RVs K ca io H ys vs from h)
    simp [getQ] at g
    subst g
    exact ⟨a, vs, rfl, .inr q.sq, r⟩
  · by_cases t2 : ∃ ys, w = .ktup ys
    · obtain ⟨ys, rfl⟩ := t2
      obtain ⟨a, vs, rfl, q, r⟩ := (show ∃ a vs, v = .ref a ∧ WrT K a vs ∧ RVs K ca io H ys vs from h)
      simp [getQ] at g
      subst g
      exact ⟨a, vs, rfl, .inr q.sq, r⟩
    have g2 : getL S w = some xs := by
      cases w <;> first | exact g | exact absurd ⟨_, rfl⟩ t | exact absurd ⟨_, rfl⟩ t2
    obtain ⟨a, vs, e, q, r⟩ := getL_ok z h g2
    exact ⟨a, vs, e, .inl (.of q), r⟩
mutual
theorem dat_ok : ∀ {w : W} {v : V} {d : PyData}, RV K ca io H w v → dat w = some d → Dp K H v d
  | .non, v, d, h, e => by
    cases (show v = .non from h)
    simp [dat] at e
    subst e
    exact .non
  | .bl b, v, d, h, e => by
    cases (show v = .bl b from h)
    simp [dat] at e
    subst e
    exact .bl b
  | .int b, v, d, h, e => by
    cases (show v = .int b from h)
    simp [dat] at e
    subst e
    exact .int b
  | .str b, v, d, h, e => by
    cases (show v = .str b from h)
    simp [dat] at e
    subst e
    exact .str b
  | .tup xs, v, d, h, e => by
    obtain ⟨a, vs, rfl, q, r⟩ := (show ∃ a vs, v = .ref a ∧ FzT io H a vs ∧ RVs K ca io H xs vs from h)
    simp only [dat, Option.map_eq_some_iff] at e
    obtain ⟨ds, e1, rfl⟩ := e
    exact .tup q.sq (dats_ok r e1)
  | .lst xs, v, d, h, e => by
    obtain ⟨a, vs, rfl, q, r⟩ := (show ∃ a vs, v = .ref a ∧ FzL io H a vs ∧ RVs K ca io H xs vs from h)
    simp only [dat, Option.map_eq_some_iff] at e
    obtain ⟨ds, e1, rfl⟩ := e
    exact .lst q.sq (dats_ok r e1)
  | .ty _, _, _, _, e => by simp [dat] at e
  | .cls _, _, _, _, e => by simp [dat] at e
  | .loc _, _, _, _, e => by simp [dat] at e
  | .scr _, _, _, _, e => by simp [dat] at e
  | .obj _ _, _, _, _, e => by simp [dat] at e
  | .dct _ _, _, _, _, e => by simp [dat] at e
  | .ktup _, _, _, _, e => by simp [dat] at e
theorem dats_ok : ∀ {ws : List W} {vs : List V} {ds : List PyData}, RVs K ca io H ws vs → dats ws = some ds → DpAll K H vs ds
  | [], vs, ds, h, e => by
    cases (show vs = [] from h)
    simp [dats] at e
    subst e
    exact .nil
  | x :: xs, vs, ds, h, e => by
    obtain ⟨v, r, rfl, h1, h2⟩ := h.inv
    unfold dats at e
    cases e1 : dat x with
    | none => simp [e1] at e
    | some d =>
      cases e2 : dats xs with
      | none => simp [e1, e2] at e
      | some ds2 =>
        simp [e1, e2] at e
        subst e
        exact .cons (dat_ok h1 e1) (dats_ok h2 e2)
end
theorem see_ok (z : Rl0 K ca io S H) {w : W} {v : V} {d : PyData} (h : RV K ca io H w v) (e : dat (seeL S w) = some d) : Dp K H v d := by
  cases w <;> first | exact dat_ok h e | skip
  rename_i n
  obtain ⟨a, rfl, q⟩ := (show ∃ a, v = .ref a ∧ io[n]? = some a from h)
  unfold seeL at e
  cases e2 : S[n]? with
  | none => simp [e2, dat] at e
  | some c =>
    cases c <;> simp [e2, dat] at e
    obtain ⟨ds, e3, rfl⟩ := e
    obtain ⟨a2, q2, vs, h1, h2⟩ := z.at e2
    rw [q] at q2
    cases q2
    exact .lst (.of h1) (dats_ok h2 e3)
theorem RV.tupI {xs : List W} {v : V} (h : RV K ca io H (.tup xs) v) : ∃ a vs, v = .ref a ∧ FzT io H a vs ∧ RVs K ca io H xs vs := h
theorem RV.lstI {xs : List W} {v : V} (h : RV K ca io H (.lst xs) v) : ∃ a vs, v = .ref a ∧ FzL io H a vs ∧ RVs K ca io H xs vs := h
theorem RV.objI {c : Cl} {xs : List W} {v : V} (h : RV K ca io H (.obj c xs) v) : ∃ a dx vs, v = .ref a ∧ H a = some (.ins (ca c) dx ((fnames c).zip vs)) ∧ a ∉ io ∧ vs.length ≤ (flds c).length ∧ RVs K ca io H xs vs := h
theorem RV.locI {n : Nat} {v : V} (h : RV K ca io H (.loc n) v) : ∃ a, v = .ref a ∧ io[n]? = some a := h
/-- a new list | tuple that stays as it is -/
theorem Post.newL {R : W → List Addr → Hp → Prop} {xs : List W} {vs : List V} {p : Addr} (h : Post K ca E io H R (.ok (.lst xs) S)) (z : Rl0 K ca io S H) (np : H p = none) : R (.lst xs) io (upd H p (.lst vs)) := h io _ (ext_new np) (z.new np)
theorem Post.newW {R : W → List Addr → Hp → Prop} {w : W} {o : HO} {p : Addr} (h : Post K ca E io H R (.ok w S)) (z : Rl0 K ca io S H) (np : H p = none) : R w io (upd H p o) := h io _ (ext_new np) (z.new np)
theorem rv_newL {xs : List W} {vs : List V} {p : Addr} (z : Rl0 K ca io S H) (np : H p = none) (r : RVs K ca io H xs vs) : RV K ca io (upd H p (.lst vs)) (.lst xs) (.ref p) := ⟨p, vs, rfl, ⟨upd_same, z.free np⟩, r.mono (ext_new np)⟩
theorem rv_newT {xs : List W} {vs : List V} {p : Addr} (z : Rl0 K ca io S H) (np : H p = none) (r : RVs K ca io H xs vs) : RV K ca io (upd H p (.tup vs)) (.tup xs) (.ref p) := ⟨p, vs, rfl, ⟨upd_same, z.free np⟩, r.mono (ext_new np)⟩
end

/-! ### arithmetic -/
def opAdd : Op2 := fun a b S => match a, b with
  | .int i, .int j => .ok (.int (i + j)) S
  | .str x, .str y => if x.length + y.length ≤ 16000000 then .ok (.str (x ++ y)) S else .stuck
  | .tup xs, .tup ys => if xs.length + ys.length ≤ 16000000 then .ok (.tup (xs ++ ys)) S else .stuck
  | a, b => match getL S a, getL S b with
    | some xs, some ys => if xs.length + ys.length ≤ 16000000 then .ok (.lst (xs ++ ys)) S else .stuck
    | _, _ => .stuck
def opSub : Op2 := fun a b S => match a, b with
  | .int i, .int j => .ok (.int (i - j)) S
  | _, _ => .stuck
/-- a size in bits that the product, the quotient may have -/
def opMul : Op2 := fun a b S => match a, b with
  | .int i, .int j => if (-(2 ^ 64) < i ∧ i < 2 ^ 64) ∨ (-(2 ^ 64) < j ∧ j < 2 ^ 64) then .ok (.int (i * j)) S else .stuck
  | a, .int k => match getL S a with
    | some xs => if 0 ≤ k ∧ k < 1000 ∧ xs.length < 1000 then .ok (.lst (List.replicate k.toNat xs).flatten) S else .stuck
    | none => .stuck
  | _, _ => .stuck
def opFDiv : Op2 := fun a b S => match a, b with
  | .int i, .int j => if 0 < j ∧ j < 1073741824 then .ok (.int (i / j)) S else .stuck
  | _, _ => .stuck
def opMod : Op2 := fun a b S => match a, b with
  | .int i, .int j => if 0 < j then .ok (.int (i % j)) S else .stuck
  | _, _ => .stuck
def opEq : Op2 := fun a b S => match dat (seeL S a), dat (seeL S b) with
  | some d, some e => if SeqAt.shaped d && SeqAt.shaped e then .ok (.bl (PyData.eqv d e)) S else .stuck
  | _, _ => .stuck
def opNe : Op2 := fun a b S => match dat (seeL S a), dat (seeL S b) with
  | some d, some e => if SeqAt.shaped d && SeqAt.shaped e then .ok (.bl (!PyData.eqv d e)) S else .stuck
  | _, _ => .stuck
def intOf : W → Option Int
  | .int i => some i
  | _ => none
def intsOf : List W → Option (List Int)
  | [] => some []
  | .int i :: xs => match intsOf xs with
    | some is => some (i :: is)
    | none => none
  | _ => none
theorem intsOf_eq : ∀ {xs : List W} {ns : List Int}, intsOf xs = some ns → xs = ns.map W.int
  | [], ns, h => by simp [intsOf] at h; subst h; rfl
  | x :: xs, ns, h => by
    cases x <;> simp [intsOf] at h
    rename_i i
    cases e : intsOf xs with
    | none => simp [e] at h
    | some is =>
      simp [e] at h
      subst h
      rw [intsOf_eq e]
      rfl
theorem intsOf_map (ns : List Int) : intsOf (ns.map W.int) = some ns := by
  induction ns with
  | nil => rfl
  | cons n ns ih => simp [intsOf, ih]
def opLt : Op2 := fun a b S => match a, b with
  | .int i, .int j => .ok (.bl (decide (i < j))) S
  | .tup xs, .tup ys => match intsOf xs, intsOf ys with
    | some ns, some ms => .ok (.bl (HT.lexLt ns ms)) S
    | _, _ => .stuck
  | _, _ => .stuck
def opLe : Op2 := fun a b S => match a, b with
  | .int i, .int j => .ok (.bl (decide (i ≤ j))) S
  | _, _ => .stuck
def opGt : Op2 := fun a b S => match a, b with
  | .int i, .int j => .ok (.bl (decide (j < i))) S
  | _, _ => .stuck
def opGe : Op2 := fun a b S => match a, b with
  | .int i, .int j => .ok (.bl (decide (j ≤ i))) S
  | _, _ => .stuck
def isNon : W → Bool
  | .non => true
  | _ => false
def opIsN : Op2 := fun a b S => match b with
  | .non => .ok (.bl (isNon a)) S
  | _ => .stuck
def opNotN : Op2 := fun a b S => match b with
  | .non => .ok (.bl (!isNon a)) S
  | .bl c => match a with
    | .bl d => .ok (.bl (!decide (d = c))) S
    | _ => .stuck
  | _ => .stuck
section
variable {X : Cx} {ca : Ca} {E : XK}
theorem isNon_ok {K : PySem.W.Frag} {io : List Addr} {H : Hp} {w : W} {v : V} (h : RV K ca io H w v) : decide (v = .non) = isNon w := by
  cases w with
  | non => cases (show v = _ from h); rfl
  | bl b => cases (show v = _ from h); rfl
  | int b => cases (show v = _ from h); rfl
  | str b => cases (show v = _ from h); rfl
  | ty b => cases (show v = _ from h); rfl
  | cls b => cases (show v = _ from h); rfl
  | loc n => obtain ⟨a, rfl, _⟩ := h.locI; rfl
  | scr ns => obtain ⟨a, rfl, _⟩ := (show ∃ a, v = .ref a ∧ FzS K io H a (ns.map V.int) from h); rfl
  | tup xs => obtain ⟨a, _, rfl, _⟩ := h.tupI; rfl
  | ktup xs => obtain ⟨a, _, rfl, _⟩ := (show ∃ a vs, v = .ref a ∧ WrT K a vs ∧ RVs K ca io H xs vs from h); rfl
  | lst xs => obtain ⟨a, _, rfl, _⟩ := h.lstI; rfl
  | obj c xs => obtain ⟨a, _, _, rfl, _⟩ := h.objI; rfl
  | dct ks xs => obtain ⟨a, _, rfl, _⟩ := (show ∃ a vs, v = .ref a ∧ H a = some (.dK (ks.zip vs)) ∧ a ∉ io ∧ vs.length = ks.length ∧ RVs K ca io H xs vs from h); rfl
theorem om_add : OpM X ca E (binaryOp .Add) opAdd := by
  intro pins s σ H x y v u Q I rx ry h
  obtain ⟨io, S, a, b, z, ra, rb, p⟩ := h
  unfold opAdd at p
  split at p
  · cases (show x = _ from ra)
    cases (show y = _ from rb)
    exact op_add pins s σ H _ _ v u Q I rx ry ⟨_, _, rfl, rfl, p.done z _ rfl⟩
  · cases (show x = _ from ra)
    cases (show y = _ from rb)
    split at p
    · rename_i hl
      exact op_add_str pins s σ H _ _ v u Q I rx ry ⟨_, _, rfl, rfl, lim_le hl, p.done z _ rfl⟩
    · exact p.elim
  · obtain ⟨a1, vs, rfl, q, r⟩ := ra.tupI
    obtain ⟨a2, us, rfl, q2, r2⟩ := rb.tupI
    split at p
    · rename_i hl
      rw [← r.len, ← r2.len] at hl
      refine op_catA pins s σ H _ _ v u Q I rx ry ⟨_, _, _, _, rfl, rfl, q.sq, q2.sq, lim_le hl, fun e => ?_, fun _ e => ?_, fun _ _ l hl => ?_⟩
      · refine p.done z _ ⟨a2, us, rfl, q2, ?_⟩
        have := r.app r2
        rwa [e] at this
      · refine p.done z _ ⟨a1, vs, rfl, q, ?_⟩
        have := r.app r2
        rwa [e, List.append_nil] at this
      · exact p.newW z hl _ (rv_newT z hl (r.app r2))
    · exact p.elim
  · split at p
    · rename_i e1 e2
      obtain ⟨a1, vs, rfl, q, r⟩ := getL_ok z ra e1
      obtain ⟨a2, us, rfl, q2, r2⟩ := getL_ok z rb e2
      split at p
      · rename_i hl
        rw [← r.len, ← r2.len] at hl
        exact op_cat pins s σ H _ _ v u Q I rx ry ⟨_, _, _, _, rfl, rfl, q, q2, lim_le hl, fun l hl => p.newW z hl _ (rv_newL z hl (r.app r2))⟩
      · exact p.elim
    · exact p.elim
theorem om_sub : OpM X ca E (binaryOp .Sub) opSub := by
  intro pins s σ H x y v u Q I rx ry h
  obtain ⟨io, S, a, b, z, ra, rb, p⟩ := h
  unfold opSub at p
  split at p
  · cases (show x = _ from ra)
    cases (show y = _ from rb)
    exact op_sub pins s σ H _ _ v u Q I rx ry ⟨_, _, rfl, rfl, p.done z _ rfl⟩
  · exact p.elim
theorem RVs.rep {K : PySem.W.Frag} {io : List Addr} {H : Hp} {ws : List W} {vs : List V} (h : RVs K ca io H ws vs) : ∀ n : Nat, RVs K ca io H (List.replicate n ws).flatten (List.replicate n vs).flatten
  | 0 => .nil
  | n + 1 => by
    rw [List.replicate_succ, List.replicate_succ, List.flatten_cons, List.flatten_cons]
    exact h.app (RVs.rep h n)
theorem om_mul : OpM X ca E (binaryOp .Mult) opMul := by
  intro pins s σ H x y v u Q I rx ry h
  obtain ⟨io, S, a, b, z, ra, rb, p⟩ := h
  unfold opMul at p
  split at p
  · cases (show x = _ from ra)
    cases (show y = _ from rb)
    split at p
    · rename_i hl
      exact op_mul pins s σ H _ _ v u Q I rx ry ⟨_, _, rfl, rfl, hl, p.done z _ rfl⟩
    · exact p.elim
  · cases (show y = _ from rb)
    split at p
    · rename_i e1
      obtain ⟨a1, vs, rfl, q, r⟩ := getL_ok z ra e1
      split at p
      · rename_i hk
        obtain ⟨h0, h1, h2⟩ := hk
        rw [← r.len] at h2
        refine op_rep pins s σ H _ _ v u Q I rx ry ⟨_, _, _, rfl, rfl, q, by omega, by omega, ?_, fun l hl => ?_⟩
        · refine lim_le (Nat.le_trans (Nat.mul_le_mul (Nat.le_of_lt h2) (Int.toNat_le.mpr (Int.le_of_lt h1))) (by decide))
        · exact p.newW z hl _ (rv_newL z hl (r.rep _))
      · exact p.elim
    · exact p.elim
  · exact p.elim
theorem om_fdiv : OpM X ca E (binaryOp .FloorDiv) opFDiv := by
  intro pins s σ H x y v u Q I rx ry h
  obtain ⟨io, S, a, b, z, ra, rb, p⟩ := h
  unfold opFDiv at p
  split at p
  · cases (show x = _ from ra)
    cases (show y = _ from rb)
    split at p
    · rename_i hl
      exact op_fdiv pins s σ H _ _ v u Q I rx ry ⟨_, _, rfl, rfl, hl, p.done z _ rfl⟩
    · exact p.elim
  · exact p.elim
theorem om_mod : OpM X ca E (binaryOp .Mod) opMod := by
  intro pins s σ H x y v u Q I rx ry h
  obtain ⟨io, S, a, b, z, ra, rb, p⟩ := h
  unfold opMod at p
  split at p
  · cases (show x = _ from ra)
    cases (show y = _ from rb)
    split at p
    · rename_i hl
      exact op_mod pins s σ H _ _ v u Q I rx ry ⟨_, _, rfl, rfl, hl, p.done z _ rfl⟩
    · exact p.elim
  · exact p.elim
theorem om_eq (hu : X.A.units + 64 < cLine) : OpM X ca E (compareOp .Eq) opEq := by
  intro pins s σ H x y v u Q I rx ry h
  obtain ⟨io, S, a, b, z, ra, rb, p⟩ := h
  unfold opEq at p
  split at p
  · rename_i e1 e2
    split at p
    · rename_i hs
      obtain ⟨h1, h2⟩ := Bool.and_eq_true_iff.mp hs
      exact op_eqD hu pins s σ H _ _ v u Q I rx ry ⟨_, _, see_ok z ra e1, see_ok z rb e2, h1, h2, p.done z _ rfl⟩
    · exact p.elim
  · exact p.elim
theorem om_ne (hu : X.A.units + 64 < cLine) : OpM X ca E (compareOp .NotEq) opNe := by
  intro pins s σ H x y v u Q I rx ry h
  obtain ⟨io, S, a, b, z, ra, rb, p⟩ := h
  unfold opNe at p
  split at p
  · rename_i e1 e2
    split at p
    · rename_i hs
      obtain ⟨h1, h2⟩ := Bool.and_eq_true_iff.mp hs
      exact op_neD hu pins s σ H _ _ v u Q I rx ry ⟨_, _, see_ok z ra e1, see_ok z rb e2, h1, h2, p.done z _ rfl⟩
    · exact p.elim
  · exact p.elim
theorem om_lt (hu : X.A.units < cLine) : OpM X ca E (compareOp .Lt) opLt := by
  intro pins s σ H x y v u Q I rx ry h
  obtain ⟨io, S, a, b, z, ra, rb, p⟩ := h
  unfold opLt at p
  split at p
  · cases (show x = _ from ra)
    cases (show y = _ from rb)
    exact op_lt pins s σ H _ _ v u Q I rx ry ⟨_, _, rfl, rfl, p.done z _ rfl⟩
  · obtain ⟨a1, vs, rfl, q, r⟩ := ra.tupI
    obtain ⟨a2, us, rfl, q2, r2⟩ := rb.tupI
    split at p
    · rename_i e1 e2
      rw [intsOf_eq e1] at r
      rw [intsOf_eq e2] at r2
      have h1 := r.ints
      have h2 := r2.ints
      subst h1 h2
      exact op_ltT hu pins s σ H _ _ v u Q I rx ry ⟨_, _, _, _, rfl, rfl, q.sq, q2.sq, p.done z _ rfl⟩
    · exact p.elim
  · exact p.elim
theorem om_le : OpM X ca E (compareOp .LtE) opLe := by
  intro pins s σ H x y v u Q I rx ry h
  obtain ⟨io, S, a, b, z, ra, rb, p⟩ := h
  unfold opLe at p
  split at p
  · cases (show x = _ from ra)
    cases (show y = _ from rb)
    exact op_le pins s σ H _ _ v u Q I rx ry ⟨_, _, rfl, rfl, p.done z _ rfl⟩
  · exact p.elim
theorem om_gt : OpM X ca E (compareOp .Gt) opGt := by
  intro pins s σ H x y v u Q I rx ry h
  obtain ⟨io, S, a, b, z, ra, rb, p⟩ := h
  unfold opGt at p
  split at p
  · cases (show x = _ from ra)
    cases (show y = _ from rb)
    exact op_gt pins s σ H _ _ v u Q I rx ry ⟨_, _, rfl, rfl, p.done z _ rfl⟩
  · exact p.elim
theorem om_ge : OpM X ca E (compareOp .GtE) opGe := by
  intro pins s σ H x y v u Q I rx ry h
  obtain ⟨io, S, a, b, z, ra, rb, p⟩ := h
  unfold opGe at p
  split at p
  · cases (show x = _ from ra)
    cases (show y = _ from rb)
    exact op_ge pins s σ H _ _ v u Q I rx ry ⟨_, _, rfl, rfl, p.done z _ rfl⟩
  · exact p.elim
theorem om_isN : OpM X ca E (compareOp .Is) opIsN := by
  intro pins s σ H x y v u Q I rx ry h
  obtain ⟨io, S, a, b, z, ra, rb, p⟩ := h
  unfold opIsN at p
  split at p
  · cases (show y = _ from rb)
    refine op_isN pins s σ H _ _ v u Q I rx ry ⟨rfl, ?_⟩
    rw [isNon_ok ra]
    exact p.done z _ rfl
  · exact p.elim
theorem om_notN : OpM X ca E (compareOp .IsNot) opNotN := by
  intro pins s σ H x y v u Q I rx ry h
  obtain ⟨io, S, a, b, z, ra, rb, p⟩ := h
  unfold opNotN at p
  split at p
  · cases (show y = _ from rb)
    refine op_notN pins s σ H _ _ v u Q I rx ry ⟨rfl, ?_⟩
    rw [isNon_ok ra]
    exact p.done z _ rfl
  · cases (show y = _ from rb)
    split at p
    · cases (show x = _ from ra)
      exact op_isnot_bl pins s σ H _ _ v u Q I rx ry ⟨_, _, rfl, rfl, p.done z _ rfl⟩
    · exact p.elim
  · exact p.elim
end
end SL

set_option Elab.async false
set_option linter.all false
set_option maxRecDepth 100000
set_option maxHeartbeats 2000000
namespace SL
open PySem PySem.Spec PyProof.Rows L2

/-! ### what a call hands back: its own changing objects do not change any more -/
def frzL (f : W → Option W) : List W → Option (List W)
  | [] => some []
  | x :: xs => match f x, frzL f xs with
    | some y, some ys => some (y :: ys)
    | _, _ => none
def frz : Nat → Sto → Nat → W → Option W
  | 0, _, _, _ => none
  | k + 1, S, n, w => match w with
    | .tup xs => (frzL (frz k S n) xs).map W.tup
    | .lst xs => (frzL (frz k S n) xs).map W.lst
    | .obj c xs => (frzL (frz k S n) xs).map (W.obj c)
    | .dct ks xs => (frzL (frz k S n) xs).map (W.dct ks)
    | .ktup xs => (frzL (frz k S n) xs).map W.ktup
    | .loc m => if m < n then some (.loc m) else match S[m]? with
      | some (.lst xs) => (frzL (frz k S n) xs).map W.lst
      | some (.ins c xs) => (frzL (frz k S n) xs).map (W.obj c)
      | some (.dk ks xs) => (frzL (frz k S n) xs).map (W.dct ks)
      | _ => none
    | w => some w
mutual
/-- only objects below n -/
def clo (n : Nat) : W → Bool
  | .loc m => decide (m < n)
  | .tup xs => clos n xs
  | .lst xs => clos n xs
  | .obj _ xs => clos n xs
  | .dct _ xs => clos n xs
  | .ktup xs => clos n xs
  | .non | .bl _ | .int _ | .str _ | .ty _ | .cls _ | .scr _ => true
def clos (n : Nat) : List W → Bool
  | [] => true
  | x :: xs => clo n x && clos n xs
end
def cloC (n : Nat) : Ce → Bool
  | .lst xs => clos n xs
  | .ins _ xs => clos n xs
  | .dk _ xs => clos n xs
  | .dt _ xs => clos n xs
/-- the objects below n are as they were, or hold only such -/
def Kept (S S' : Sto) : Prop := S.length ≤ S'.length ∧ ∀ (n : Nat) (c : Ce), n < S.length → S'[n]? = some c → S[n]? = some c ∨ cloC S.length c = true
section
variable {K : PySem.W.Frag} {ca : Ca} {E : XK} {io t : List Addr} {S S' : Sto} {H H' : Hp}
mutual
theorem RV.clo : ∀ {w : W} {v : V}, RV K ca io H w v → clo io.length w = true
  | .non, _, _ => rfl
  | .bl _, _, _ => rfl
  | .int _, _, _ => rfl
  | .str _, _, _ => rfl
  | .ty _, _, _ => rfl
  | .cls _, _, _ => rfl
  | .scr _, _, _ => rfl
  | .loc n, v, h => by
    obtain ⟨a, rfl, q⟩ := h.locI
    exact decide_eq_true (List.getElem?_eq_some_iff.mp q).1
  | .tup xs, v, h => by
    obtain ⟨a, vs, rfl, q, r⟩ := h.tupI
    exact RVs.clos r
  | .lst xs, v, h => by
    obtain ⟨a, vs, rfl, q, r⟩ := h.lstI
    exact RVs.clos r
  | .ktup xs, v, h => by
    obtain ⟨a, vs, rfl, q, r⟩ := (show ∃ a vs, v = .ref a ∧ WrT K a vs ∧ RVs K ca io H xs vs from h)
    exact RVs.clos r
  | .obj c xs, v, h => by
    obtain ⟨a, dx, vs, rfl, q, n, l, r⟩ := h.objI
    exact RVs.clos r
  | .dct ks xs, v, h => by
    obtain ⟨a, vs, rfl, q, n, l, r⟩ := (show ∃ a vs, v = .ref a ∧ H a = some (.dK (ks.zip vs)) ∧ a ∉ io ∧ vs.length = ks.length ∧ RVs K ca io H xs vs from h)
    exact RVs.clos r
theorem RVs.clos : ∀ {ws : List W} {vs : List V}, RVs K ca io H ws vs → clos io.length ws = true
  | [], _, _ => rfl
  | x :: xs, vs, h => by
    obtain ⟨v, r, rfl, h1, h2⟩ := h.inv
    unfold SL.clos
    rw [RV.clo h1, RVs.clos h2]
    rfl
end
theorem not_app {a : Addr} (h : a ∉ io ++ t) : a ∉ io := fun m => h (List.mem_append_left _ m)
mutual
theorem RV.shrink : ∀ {w : W} {v : V}, RV K ca (io ++ t) H w v → SL.clo io.length w = true → RV K ca io H w v
  | .non, _, h, _ => h
  | .bl _, _, h, _ => h
  | .int _, _, h, _ => h
  | .str _, _, h, _ => h
  | .ty _, _, h, _ => h
  | .cls _, _, h, _ => h
  | .scr ns, v, h, _ => by
    obtain ⟨a, rfl, q⟩ := (show ∃ a, v = .ref a ∧ FzS K (io ++ t) H a (ns.map V.int) from h)
    refine ⟨a, rfl, ?_⟩
    rcases q with ⟨q, n⟩ | q
    · exact .inl ⟨q, not_app n⟩
    · exact .inr q
  | .loc n, v, h, e => by
    obtain ⟨a, rfl, q⟩ := h.locI
    refine ⟨a, rfl, ?_⟩
    rw [List.getElem?_append_left (of_decide_eq_true e)] at q
    exact q
  | .tup xs, v, h, e => by
    obtain ⟨a, vs, rfl, q, r⟩ := h.tupI
    exact ⟨a, vs, rfl, ⟨q.1, not_app q.2⟩, RVs.shrink r e⟩
  | .ktup xs, v, h, e => by
    obtain ⟨a, vs, rfl, q, r⟩ := (show ∃ a vs, v = .ref a ∧ WrT K a vs ∧ RVs K ca (io ++ t) H xs vs from h)
    exact ⟨a, vs, rfl, q, RVs.shrink r e⟩
  | .lst xs, v, h, e => by
    obtain ⟨a, vs, rfl, q, r⟩ := h.lstI
    exact ⟨a, vs, rfl, ⟨q.1, not_app q.2⟩, RVs.shrink r e⟩
  | .obj c xs, v, h, e => by
    obtain ⟨a, dx, vs, rfl, q, n, l, r⟩ := h.objI
    exact ⟨a, dx, vs, rfl, q, not_app n, l, RVs.shrink r e⟩
  | .dct ks xs, v, h, e => by
    obtain ⟨a, vs, rfl, q, n, l, r⟩ := (show ∃ a vs, v = .ref a ∧ H a = some (.dK (ks.zip vs)) ∧ a ∉ io ++ t ∧ vs.length = ks.length ∧ RVs K ca (io ++ t) H xs vs from h)
    exact ⟨a, vs, rfl, q, not_app n, l, RVs.shrink r e⟩
theorem RVs.shrink : ∀ {ws : List W} {vs : List V}, RVs K ca (io ++ t) H ws vs → SL.clos io.length ws = true → RVs K ca io H ws vs
  | [], _, h, _ => h
  | x :: xs, vs, h, e => by
    obtain ⟨v, r, rfl, h1, h2⟩ := h.inv
    unfold SL.clos at e
    obtain ⟨e1, e2⟩ := Bool.and_eq_true_iff.mp e
    exact .cons (RV.shrink h1 e1) (RVs.shrink h2 e2)
end
theorem RC.shrink {a : Addr} {c : Ce} (h : RC K ca (io ++ t) H a c) (e : cloC io.length c = true) : RC K ca io H a c := by
  cases c with
  | lst xs =>
    obtain ⟨vs, h1, h2⟩ := h
    exact ⟨vs, h1, h2.shrink e⟩
  | ins c xs =>
    obtain ⟨dx, vs, h1, h2, h3⟩ := h
    exact ⟨dx, vs, h1, h2, h3.shrink e⟩
  | dk ks xs =>
    obtain ⟨vs, h1, h2, h3⟩ := h
    exact ⟨vs, h1, h2, h3.shrink e⟩
  | dt ks xs =>
    obtain ⟨vs, h1, h2, h3⟩ := h
    exact ⟨vs, h1, h2, h3.shrink e⟩
theorem RC.cloC {a : Addr} {c : Ce} (h : RC K ca io H a c) : SL.cloC io.length c = true := by
  cases c with
  | lst xs =>
    obtain ⟨vs, h1, h2⟩ := h
    exact h2.clos
  | ins c xs =>
    obtain ⟨dx, vs, h1, h2, h3⟩ := h
    exact h3.clos
  | dk ks xs =>
    obtain ⟨vs, h1, h2, h3⟩ := h
    exact h3.clos
  | dt ks xs =>
    obtain ⟨vs, h1, h2, h3⟩ := h
    exact h3.clos
theorem Rl0.shrink (z0 : Rl0 K ca io S H) (z : Rl0 K ca (io ++ t) S' H') (k : Kept S S') : Rl0 K ca io (S'.take S.length) H' := by
  have l := z.len
  rw [List.length_append] at l
  refine ⟨by rw [List.length_take, z0.len]; have := k.1; omega, z0.nd, fun n c a q q2 => ?_, z.tb.less⟩
  have hn : n < S.length := by
    have := (List.getElem?_eq_some_iff.mp q).1
    rw [List.length_take] at this
    omega
  rw [List.getElem?_take_of_lt hn] at q
  have r := z.ce n c a q (by rw [List.getElem?_append_left (by rw [z0.len]; exact hn)]; exact q2)
  refine r.shrink ?_
  rw [z0.len]
  rcases k.2 n c hn q with e | e
  · have := (z0.ce n c a e q2).cloC
    rwa [z0.len] at this
  · exact e
theorem frzL_ok {f : W → Option W} : ∀ {ws : List W} {vs : List V} {us : List W}, (∀ w v u, RV K ca (io ++ t) H w v → f w = some u → RV K ca io H u v) → RVs K ca (io ++ t) H ws vs → frzL f ws = some us → RVs K ca io H us vs
  | [], vs, us, hf, h, e => by
    cases (show vs = [] from h)
    simp [frzL] at e
    subst e
    exact .nil
  | w :: ws, vs, us, hf, h, e => by
    obtain ⟨v, r, rfl, h1, h2⟩ := h.inv
    unfold frzL at e
    cases e1 : f w with
    | none => simp [e1] at e
    | some u =>
      cases e2 : frzL f ws with
      | none => simp [e1, e2] at e
      | some us2 =>
        simp [e1, e2] at e
        subst e
        exact .cons (hf _ _ _ h1 e1) (frzL_ok hf h2 e2)
theorem frz_ok (z : Rl0 K ca (io ++ t) S' H) : ∀ (k : Nat) (w : W) (v : V) (u : W), RV K ca (io ++ t) H w v → frz k S' io.length w = some u → RV K ca io H u v
  | 0, _, _, _, _, e => by simp [frz] at e
  | k + 1, w, v, u, h, e => by
    have ih := frz_ok z k
    unfold frz at e
    split at e
    · rename_i xs
      obtain ⟨ys, e1, rfl⟩ := Option.map_eq_some_iff.mp e
      obtain ⟨a, vs, rfl, q, r⟩ := h.tupI
      exact ⟨a, vs, rfl, ⟨q.1, not_app q.2⟩, frzL_ok (fun w v u => ih w v u) r e1⟩
    · rename_i xs
      obtain ⟨ys, e1, rfl⟩ := Option.map_eq_some_iff.mp e
      obtain ⟨a, vs, rfl, q, r⟩ := h.lstI
      exact ⟨a, vs, rfl, ⟨q.1, not_app q.2⟩, frzL_ok (fun w v u => ih w v u) r e1⟩
    · rename_i c xs
      obtain ⟨ys, e1, rfl⟩ := Option.map_eq_some_iff.mp e
      obtain ⟨a, dx, vs, rfl, q, n, l, r⟩ := h.objI
      exact ⟨a, dx, vs, rfl, q, not_app n, l, frzL_ok (fun w v u => ih w v u) r e1⟩
    · rename_i ks xs
      obtain ⟨ys, e1, rfl⟩ := Option.map_eq_some_iff.mp e
      obtain ⟨a, vs, rfl, q, n, l, r⟩ := (show ∃ a vs, v = .ref a ∧ H a = some (.dK (ks.zip vs)) ∧ a ∉ io ++ t ∧ vs.length = ks.length ∧ RVs K ca (io ++ t) H xs vs from h)
      exact ⟨a, vs, rfl, q, not_app n, l, frzL_ok (fun w v u => ih w v u) r e1⟩
    · rename_i xs
      obtain ⟨ys, e1, rfl⟩ := Option.map_eq_some_iff.mp e
      obtain ⟨a, vs, rfl, q, r⟩ := (show ∃ a vs, v = .ref a ∧ WrT K a vs ∧ RVs K ca (io ++ t) H xs vs from h)
      exact ⟨a, vs, rfl, q, frzL_ok (fun w v u => ih w v u) r e1⟩
    · rename_i m
      obtain ⟨a, rfl, q⟩ := h.locI
      split at e
      · rename_i hm
        cases e
        rw [List.getElem?_append_left hm] at q
        exact ⟨a, rfl, q⟩
      · rename_i hm
        have na : a ∉ io := fun hi => by
          obtain ⟨i, hi, ei⟩ := List.mem_iff_getElem.mp hi
          have q3 : (io ++ t)[i]? = some a := by rw [List.getElem?_append_left hi, List.getElem?_eq_getElem hi, ei]
          obtain ⟨l1, e1⟩ := List.getElem?_eq_some_iff.mp q
          obtain ⟨l2, e2⟩ := List.getElem?_eq_some_iff.mp q3
          have := (List.getElem_inj z.nd).mp (e1.trans e2.symm)
          omega
        cases e2 : S'[m]? with
        | none => simp [e2] at e
        | some c =>
          obtain ⟨a2, q2, rc⟩ := z.at e2
          rw [q] at q2
          cases q2
          cases c with
          | lst xs =>
            simp only [e2] at e
            obtain ⟨ys, e1, rfl⟩ := Option.map_eq_some_iff.mp e
            obtain ⟨vs, h1, h2⟩ := rc
            exact ⟨a, vs, rfl, ⟨h1, na⟩, frzL_ok (fun w v u => ih w v u) h2 e1⟩
          | ins c xs =>
            simp only [e2] at e
            obtain ⟨ys, e1, rfl⟩ := Option.map_eq_some_iff.mp e
            obtain ⟨dx, vs, h1, h2, h3⟩ := rc
            exact ⟨a, dx, vs, rfl, h1, na, h2, frzL_ok (fun w v u => ih w v u) h3 e1⟩
          | dk ks xs =>
            simp only [e2] at e
            obtain ⟨ys, e1, rfl⟩ := Option.map_eq_some_iff.mp e
            obtain ⟨vs, h1, h2, h3⟩ := rc
            exact ⟨a, vs, rfl, h1, na, h2, frzL_ok (fun w v u => ih w v u) h3 e1⟩
          | dt ks xs => simp [e2] at e
    · cases e
      refine h.shrink ?_
      cases w <;> first | rfl | (exfalso; rename_i hx1 hx2 hx3 hx4 hx6 hx5; first | exact hx1 _ rfl | exact hx2 _ rfl | exact hx3 _ _ rfl | exact hx4 _ _ rfl | exact hx5 _ rfl | exact hx6 _ rfl)
end

/-! ### defs -/
abbrev FnM := List W → Sto → Res W
/-- a def's promise: it does what the run g does -/
def spM (K : PySem.W.Frag) (ca : Ca) (g : FnM) : Sp := fun vs H Q E => ∃ io ws S, Rl0 K ca io S H ∧ RVs K ca io H ws vs ∧ Post K ca E io H (fun w io' H' => ∀ v, RV K ca io' H' w v → Q v H') (g ws S)
open Classical in
/-- a run's end with its own changing objects locked -/
noncomputable def frR (S : Sto) : Res W → Res W
  | .ok w S' => if Kept S S' then match frz 16 S' S.length w with
      | some u => .ok u (S'.take S.length)
      | none => .stuck
    else .stuck
  | .exc c ws S' => if Kept S S' then match frzL (frz 16 S' S.length) ws with
      | some us => .exc c us (S'.take S.length)
      | none => .stuck
    else .stuck
  | .stuck => .stuck
noncomputable def frF (g : FnM) : FnM := fun ws S => frR S (g ws S)
theorem post_fr {K : PySem.W.Frag} {ca : Ca} {E : XK} {io : List Addr} {H : Hp} {S : Sto} {Q : VK} {r : Res W} (z : Rl0 K ca io S H) (p : Post K ca E io H (fun w io' H' => ∀ v, RV K ca io' H' w v → Q v H') (frR S r)) :
    Post K ca E io H (fun w io' H' => ∀ v, RV K ca io' H' w v → Q v H') r := by
  cases r with
  | ok w S' =>
    dsimp only [frR] at p
    split at p
    · rename_i hk
      split at p
      · rename_i u hu
        intro io' H' e z' v rv
        obtain ⟨t, rfl, ht⟩ := e.pre
        rw [← z.len] at hu
        refine p io H' ⟨⟨[], by simp, by simp⟩, e.kp, e.dom⟩ (z.shrink z' hk) v (frz_ok z' 16 w v u rv hu)
      · exact p.elim
    · exact p.elim
  | exc c ws S' =>
    dsimp only [frR] at p
    split at p
    · rename_i hk
      split at p
      · rename_i us hu
        intro io' H' d e z' rx
        obtain ⟨t, rfl, ht⟩ := e.pre
        rw [← z.len] at hu
        refine p io H' d ⟨⟨[], by simp, by simp⟩, e.kp, e.dom⟩ (z.shrink z' hk) ?_
        unfold RX at rx ⊢
        split at rx
        · exact rx
        · obtain ⟨dd, vs, e1, e2, e3, e4, e5⟩ := rx
          exact ⟨dd, vs, e1, e2, not_app e3, e4, frzL_ok (fun w v u => frz_ok z' 16 w v u) e5 hu⟩
      · exact p.elim
    · exact p.elim
  | stuck => exact p
theorem spM_fr {K : PySem.W.Frag} {ca : Ca} {g : FnM} {vs : List V} {H : Hp} {Q : VK} {E : XK} (h : spM K ca (frF g) vs H Q E) : spM K ca g vs H Q E := by
  obtain ⟨io, ws, S, z, r, p⟩ := h
  exact ⟨io, ws, S, z, r, post_fr z p⟩
/-- a def of the module, by its run -/
abbrev Fm (P : Program) (w : World) (K : PySem.W.Frag) (mg : Str → Option Value) (base : Heap) (ca : Ca) (k : Nat) (f : Addr) (g : FnM) : Prop := FnR P w K mg base (L2.CX P w) k f (spM K ca g)
theorem Fm.fr {P : Program} {w : World} {K : PySem.W.Frag} {mg : Str → Option Value} {base : Heap} {ca : Ca} {k : Nat} {f : Addr} {g : FnM} (F : Fm P w K mg base ca k f g) : Fm P w K mg base ca k f (frF g) :=
  FnR.imp F fun _ _ _ _ h => spM_fr h
end SL

set_option Elab.async false
set_option linter.all false
set_option maxRecDepth 100000
set_option maxHeartbeats 2000000
namespace SL
open PySem PySem.Spec PyProof.Rows L2

/-! ### items, slices -/
def opIx : Op2 := fun a b S => match b with
  | .int i => match a with
    | .str z => if z.length ≤ 16000000 then match atI z.cps.toList i with
        | some c => .ok (.str ⟨#[c]⟩) S
        | none => .stuck
      else .stuck
    | a => match getQ S a with
      | some xs => match atI xs i with
        | some w => .ok w S
        | none => .stuck
      | none => .stuck
  | _ => .stuck
def cutX {α : Type} (xs : List α) (lo hi : Option Int) : List α := (xs.drop (HT.sIx xs.length 0 lo)).take (HT.sIx xs.length xs.length hi - HT.sIx xs.length 0 lo)
def opCut (lo hi : Option Int) : W → Sto → Res W := fun a S => match a with
  | .str z => if z.length ≤ 16000000 then .ok (.str (cutS z lo hi)) S else .stuck
  | .tup xs => .ok (.tup (cutX xs lo hi)) S
  | a => match getL S a with
    | some xs => .ok (.lst (cutX xs lo hi)) S
    | none => .stuck
def mPart (m : M W) : M (Option Int) := do
  let w ← m
  match w with
  | .int i => pure (some i)
  | _ => fun _ _ => .stuck
def mNoPart : M (Option Int) := pure none
def mCut (m : M W) (lo hi : M (Option Int)) : M W := do
  let x ← m
  let l ← lo
  let u ← hi
  fun _ S => opCut l u x S
def tO (K : PySem.W.Frag) (ca : Ca) (E : XK) (m : M (Option Int)) : TO := fun σ H Q => ∃ io r S, Rl K ca io r S σ H ∧ Post K ca E io H (fun o io' H' => Q o H') (m r S)
theorem PO.weak {X : Cx} {e : Option Expr} {t u : TO} (h : PO X e t) (i : ∀ σ H Q, u σ H Q → t σ H Q) : PO X e u := ⟨fun pins s σ H Q I hw => h.run pins s σ H Q I (i σ H Q hw)⟩
section
variable {K : PySem.W.Frag} {ca : Ca} {E : XK} {io : List Addr} {r : Rho} {S : Sto} {σ : L2.St} {H : Hp} {α : Type} {R : α → List Addr → Hp → Prop}
theorem RVs.atI {ws : List W} {vs : List V} {i : Int} {w : W} (h : RVs K ca io H ws vs) (q : L2.atI ws i = some w) : ∃ v, L2.atI vs i = some v ∧ RV K ca io H w v := by
  unfold L2.atI at q ⊢
  rw [h.len]
  cases e : ixN ws.length i with
  | none => simp [e] at q
  | some j =>
    simp only [e, Option.bind_some] at q ⊢
    exact h.get q
theorem RVs.cut {ws : List W} {vs : List V} (lo hi : Option Int) (h : RVs K ca io H ws vs) : RVs K ca io H (cutX ws lo hi) (cutV vs lo hi) := by
  unfold cutX cutV
  rw [h.len]
  exact (h.drop _).take _
theorem tO_bind {m : M (Option Int)} {f : Option Int → M α} (h : Rl K ca io r S σ H) (p : Post K ca E io H R ((m >>= f) r S)) :
    tO K ca E m σ H (fun o H1 => ∃ io1 S1, Ext io H io1 H1 ∧ Rl K ca io1 r S1 σ H1 ∧ Post K ca E io1 H1 R (f o r S1)) := by
  refine ⟨io, r, S, h, ?_⟩
  rw [bind_def] at p
  cases q : m r S with
  | ok a S' =>
    rw [q] at p
    exact fun io' H' e z => ⟨io', S', e, h.mono e z, p.mono e⟩
  | exc c ws S' =>
    rw [q] at p
    exact p
  | stuck =>
    rw [q] at p
    exact p
theorem tO_imp {m : M (Option Int)} {Q Q' : Option Int → Hp → Prop} (h : tO K ca E m σ H Q) (i : ∀ v H', Q v H' → Q' v H') : tO K ca E m σ H Q' := by
  obtain ⟨io, r, S, l, p⟩ := h
  exact ⟨io, r, S, l, p.imp fun w io' H' _ q => i w H' q⟩
end
section
variable {X : Cx} {ca : Ca} {E : XK}
theorem im_ix : IxR X (r2 X.K ca E opIx) := by
  intro value slice pins s σ H x y v u Q I rx ry h hs
  obtain ⟨io, S, a, b, z, ra, rb, p⟩ := h
  unfold opIx at p
  split at p
  · rename_i i
    cases (show y = _ from rb)
    split at p
    · rename_i zz
      cases (show x = _ from ra)
      split at p
      · rename_i hl
        split at p
        · rename_i c hc
          exact ix_str value slice pins s σ H _ _ v u Q I rx ry ⟨_, _, c, rfl, rfl, lim_le hl, hc, p.done z _ rfl⟩ hs
        · exact p.elim
      · exact p.elim
    · rename_i hne
      split at p
      · rename_i xs e1
        obtain ⟨a1, vs, rfl, q, r⟩ := getQ_ok z ra e1
        split at p
        · rename_i w hw
          obtain ⟨v1, h1, h2⟩ := r.atI hw
          rcases q with q | q
          · exact ix_list value slice pins s σ H _ _ v u Q I rx ry ⟨_, _, _, v1, rfl, rfl, q, h1, p.done z _ h2⟩ hs
          · exact ix_tup value slice pins s σ H _ _ v u Q I rx ry ⟨_, _, _, v1, rfl, rfl, q, h1, p.done z _ h2⟩ hs
        · exact p.elim
      · exact p.elim
  · exact p.elim
def mIx (a b : M W) : M W := mOp opIx a b
theorem me_ix {a b : Expr} {ma mb : M W} {pos : Pos} (ha : ME X ca E a ma) (hb : ME X ca E b mb) (hs : PlainIx b := by exact fun _ _ => rfl) : ME X ca E (.Subscript a b pos) (mIx ma mb) :=
  PE.weak (pe_ix im_ix ha hb hs) fun σ H Q h => op_imp h
theorem mo_none : PO X none (tO X.K ca E mNoPart) := PO.weak po_none fun σ H Q h => by
  obtain ⟨io, r, S, l, p⟩ := h
  exact p.done l.z
theorem mo_some {e : Expr} {m : M W} (h : ME X ca E e m) : PO X (some e) (tO X.K ca E (mPart m)) := PO.weak (po_some h) fun σ H Q h => by
  obtain ⟨io, r, S, l, p⟩ := h
  refine tE_imp (tE_bind l p) fun v H1 ⟨io1, S1, w, e1, l1, rv, p1⟩ => ?_
  cases w <;> first | exact False.elim p1 | skip
  exact ⟨_, rv, p1.done l1.z⟩
def rCut (K : PySem.W.Frag) (ca : Ca) (E : XK) : V → Option Int → Option Int → Hp → VK → Prop := fun x lo hi H Q => ∃ io S a, Rl0 K ca io S H ∧ RV K ca io H a x ∧ Post K ca E io H (fun w io' H' => ∀ v, RV K ca io' H' w v → Q v H') (opCut lo hi a S)
theorem sm_cut : SlR X (rCut X.K ca E) := by
  intro pins s σ H x v vl vu lo hi sl Q I rx hs pl pu h
  obtain ⟨io, S, a, z, ra, p⟩ := h
  unfold opCut at p
  split at p
  · cases (show x = _ from ra)
    split at p
    · rename_i hl
      exact sl_str pins s σ H _ v vl vu lo hi sl Q I rx hs pl pu ⟨_, rfl, lim_le hl, p.done z _ rfl⟩
    · exact p.elim
  · rename_i xs
    obtain ⟨a1, vs, rfl, q, r⟩ := ra.tupI
    have rc := r.cut lo hi
    refine sl_tupA pins s σ H _ v vl vu lo hi sl Q I rx hs pl pu ⟨a1, vs, rfl, q.sq, fun ⟨e1, e2⟩ => ?_, fun _ l hl => ?_⟩
    · refine p.done z _ ⟨a1, vs, rfl, q, ?_⟩
      have e : cutV vs lo hi = vs := by
        unfold cutV
        rw [e1, e2]
        simp
      rwa [e] at rc
    · exact p.newW z hl _ (rv_newT z hl rc)
  · split at p
    · rename_i xs e1
      obtain ⟨a1, vs, rfl, q, r⟩ := getL_ok z ra e1
      exact sl_list pins s σ H _ v vl vu lo hi sl Q I rx hs pl pu ⟨a1, vs, rfl, .of q, fun l hl => p.newW z hl _ (rv_newL z hl (r.cut lo hi))⟩
    · exact p.elim
theorem me_cut {e : Expr} {lo hi : Option Expr} {m : M W} {ml mh : M (Option Int)} {pos p2 : Pos} (h : ME X ca E e m) (hl : PO X lo (tO X.K ca E ml)) (hh : PO X hi (tO X.K ca E mh)) : ME X ca E (.Subscript e (.Slice lo hi none p2) pos) (mCut m ml mh) := by
  refine PE.weak (pe_slice (sm_cut (X := X) (ca := ca) (E := E)) h hl hh) fun σ H Q h => ?_
  obtain ⟨io, r, S, l, p⟩ := h
  refine tE_imp (tE_bind l p) fun v H1 ⟨io1, S1, w, e1, l1, rv, p1⟩ => ?_
  refine tO_imp (tO_bind l1 p1) fun o H2 ⟨io2, S2, e2, l2, p2⟩ => ?_
  refine tO_imp (tO_bind l2 p2) fun o' H3 ⟨io3, S3, e3, l3, p3⟩ => ?_
  exact ⟨io3, S3, w, l3.z, (rv.mono e2).mono e3, p3⟩

/-! ### argument lists, displays -/
def mNil : M (List W) := pure []
def mCons (a : M W) (t : M (List W)) : M (List W) := do
  let x ← a
  let xs ← t
  pure (x :: xs)
def mStar (a : M W) (t : M (List W)) : M (List W) := do
  let x ← a
  let xs ← (fun _ S => match getQ S x with
    | some xs => .ok xs S
    | none => .stuck : M (List W))
  let ys ← t
  pure (xs ++ ys)
theorem ma_nil : MA X ca E [] mNil := PA.weak pa_nil fun σ H Q h => by
  obtain ⟨io, r, S, l, p⟩ := h
  exact p.done l.z _ .nil
theorem ma_cons {e : Expr} {es : List Expr} {m : M W} {t : M (List W)} (ha : ME X ca E e m) (hr : MA X ca E es t) (hs : starEach (e :: es) X.env = (false, eval e X.env) :: starEach es X.env := by rfl) : MA X ca E (e :: es) (mCons m t) :=
  PA.weak (pa_cons ha hr hs) fun σ H Q h => by
    obtain ⟨io, r, S, l, p⟩ := h
    refine tE_imp (tE_bind l p) fun v H1 ⟨io1, S1, w, e1, l1, rv, p1⟩ => ?_
    refine tA_imp (tA_bind l1 p1) fun vs H2 ⟨io2, S2, ws, e2, l2, rvs, p2⟩ => ?_
    exact p2.done l2.z _ (.cons (rv.mono e2) rvs)
theorem ma_star {e : Expr} {es : List Expr} {m : M W} {t : M (List W)} {p : Pos} (ha : ME X ca E e m) (hr : MA X ca E es t) (hs : starEach (.Starred e p :: es) X.env = (true, eval e X.env) :: starEach es X.env := by rfl) : MA X ca E (.Starred e p :: es) (mStar m t) :=
  PA.weak (StX.pa_star ha hr hs) fun σ H Q h => by
    obtain ⟨io, r, S, l, p⟩ := h
    refine tE_imp (tE_bind l p) fun v H1 ⟨io1, S1, w, e1, l1, rv, p1⟩ => ?_
    rw [bind_def] at p1
    cases g : getQ S1 w with
    | none =>
      simp only [g] at p1
      exact p1.elim
    | some xs =>
      simp only [g] at p1
      obtain ⟨a, vs, rfl, q, rr⟩ := getQ_ok l1.z rv g
      refine ⟨a, vs, rfl, q.symm, ?_⟩
      refine tA_imp (tA_bind l1 p1) fun us H2 ⟨io2, S2, ws, e2, l2, rvs, p2⟩ => ?_
      exact p2.done l2.z _ ((rr.mono e2).app rvs)
def mTup (t : M (List W)) : M W := do
  let xs ← t
  if xs.length ≤ 16000000 then pure (.tup xs) else fun _ _ => .stuck
def mLst (t : M (List W)) : M W := do
  let xs ← t
  if xs.length ≤ 16000000 then pure (.lst xs) else fun _ _ => .stuck
/-- a list that may change -/
def mLstC (t : M (List W)) : M W := do
  let xs ← t
  fun _ S => if xs.length ≤ 16000000 then .ok (.loc S.length) (S ++ [.lst xs]) else .stuck
theorem me_tup {es : List Expr} {x1 : Nat} {t : M (List W)} {pos : Pos} (h : MA X ca E es t) : ME X ca E (.Tuple es x1 pos) (mTup t) := PE.weak (pe_tup h) fun σ H Q h => by
  obtain ⟨io, r, S, l, p⟩ := h
  refine tA_imp (tA_bind l p) fun vs H1 ⟨io1, S1, ws, e1, l1, rvs, p1⟩ => ?_
  split at p1
  · rename_i hl
    rw [← rvs.len] at hl
    exact ⟨lim_le hl, fun q hq => Post.newW p1 l1.z hq _ (rv_newT l1.z hq rvs)⟩
  · exact p1.elim
theorem me_lst {es : List Expr} {t : M (List W)} {pos : Pos} (h : MA X ca E es t) : ME X ca E (.List es pos) (mLst t) := PE.weak (pe_lst h) fun σ H Q h => by
  obtain ⟨io, r, S, l, p⟩ := h
  refine tA_imp (tA_bind l p) fun vs H1 ⟨io1, S1, ws, e1, l1, rvs, p1⟩ => ?_
  split at p1
  · rename_i hl
    rw [← rvs.len] at hl
    exact ⟨lim_le hl, fun q hq => Post.newW p1 l1.z hq _ (rv_newL l1.z hq rvs)⟩
  · exact p1.elim
theorem newC {K : PySem.W.Frag} {io : List Addr} {S : Sto} {H : Hp} {R : W → List Addr → Hp → Prop} {p : Addr} {o : HO} {c : Ce} (h : Post K ca E io H R (.ok (.loc S.length) (S ++ [c]))) (z : Rl0 K ca io S H) (np : H p = none) (hc : RC K ca (io ++ [p]) (upd H p o) p c) :
    R (.loc S.length) (io ++ [p]) (upd H p o) := h _ _ (ext_cell np) (z.cell np hc)
theorem rv_cell {K : PySem.W.Frag} {io : List Addr} {S : Sto} {H H' : Hp} {p : Addr} (z : Rl0 K ca io S H) : RV K ca (io ++ [p]) H' (.loc S.length) (.ref p) := ⟨p, rfl, by
  rw [List.getElem?_append_right (by rw [z.len]; exact Nat.le_refl _), z.len, Nat.sub_self]
  rfl⟩
theorem me_lstC {es : List Expr} {t : M (List W)} {pos : Pos} (h : MA X ca E es t) : ME X ca E (.List es pos) (mLstC t) := PE.weak (pe_lst h) fun σ H Q h => by
  obtain ⟨io, r, S, l, p⟩ := h
  refine tA_imp (tA_bind l p) fun vs H1 ⟨io1, S1, ws, e1, l1, rvs, p1⟩ => ?_
  split at p1
  · rename_i hl
    rw [← rvs.len] at hl
    exact ⟨lim_le hl, fun q hq => newC p1 l1.z hq ⟨vs, upd_same, rvs.mono (ext_cell hq)⟩ _ (rv_cell l1.z)⟩
  · exact p1.elim
end

/-! ### instances: fields -/
def fcode (x : Str) : Option Fl := [Fl.start, .source, .target, .pace, .habit, .top, .length, .time, .trips, .burning, .presses, .dark, .scenes, .stories, .facts, .now, .past, .undone, .saved, .panel, .isKept, .code, .place, .part, .index, .line].find? fun f => fname f == x
theorem fcode_fname (f : Fl) : fcode (fname f) = some f := by
  cases f <;> decide +kernel
theorem fname_inj {f g : Fl} (h : fname f = fname g) : f = g := by
  have := congrArg fcode h
  rw [fcode_fname, fcode_fname] at this
  exact Option.some.inj this
theorem lookup_zip (f : Fl) : ∀ (fs : List Fl) (vs : List V), ((fs.map fname).zip vs).lookup (fname f) = (fs.findIdx? (· == f)).bind fun i => vs[i]?
  | [], _ => rfl
  | g :: fs, [] => by
    simp only [List.map_cons, List.zip_nil_right, List.lookup_nil]
    cases (g :: fs).findIdx? (· == f) <;> rfl
  | g :: fs, v :: vs => by
    simp only [List.map_cons, List.zip_cons_cons, List.lookup_cons, List.findIdx?_cons]
    by_cases e : g = f
    · subst e
      simp
    · have h1 : (fname f == fname g) = false := by
        simp only [beq_eq_false_iff_ne, ne_eq]
        exact fun q => e (fname_inj q).symm
      have h2 : (g == f) = false := by simpa using e
      rw [h1, h2, lookup_zip f fs vs]
      cases fs.findIdx? (· == f) <;> rfl
theorem putF_zip (f : Fl) (y : V) : ∀ (fs : List Fl) (vs : List V) (i : Nat), fs.findIdx? (· == f) = some i → i ≤ vs.length → putF (fname f) y ((fs.map fname).zip vs) = (fs.map fname).zip (if i < vs.length then vs.set i y else vs ++ [y])
  | [], _, _, h, _ => by simp at h
  | g :: fs, vs, i, h, hl => by
    rw [List.findIdx?_cons] at h
    by_cases e : g = f
    · subst e
      simp at h
      subst h
      cases vs with
      | nil => simp [putF]
      | cons v vs => simp [putF]
    · have h2 : (g == f) = false := by simpa using e
      rw [h2] at h
      simp at h
      obtain ⟨j, hj, rfl⟩ := h
      cases vs with
      | nil => simp at hl
      | cons v vs =>
        have ih := putF_zip f y fs vs j hj (by simpa using hl)
        have hne : ¬ fname g = fname f := fun q => e (fname_inj q)
        simp only [List.map_cons, List.zip_cons_cons, putF, if_neg hne, ih]
        simp only [List.length_cons, Nat.add_lt_add_iff_right]
        split <;> simp
/-- the fields of an instance of the class c -/
def getO (c : Cl) (S : Sto) : W → Option (List W)
  | .obj d xs => if d = c then some xs else none
  | .loc n => match S[n]? with
    | some (.ins d xs) => if d = c then some xs else none
    | _ => none
  | _ => none
def mFld (c : Cl) (f : Fl) (m : M W) : M W := do
  let w ← m
  fun _ S => match getO c S w, fix c f with
    | some xs, some i => match xs[i]? with
      | some x => .ok x S
      | none => .stuck
    | _, _ => .stuck
theorem getO_ok {K : PySem.W.Frag} {ca : Ca} {io : List Addr} {S : Sto} {H : Hp} (z : Rl0 K ca io S H) {c : Cl} {w : W} {v : V} {xs : List W} (h : RV K ca io H w v) (g : getO c S w = some xs) :
    ∃ a dx vs, v = .ref a ∧ H a = some (.ins (ca c) dx ((fnames c).zip vs)) ∧ vs.length ≤ (flds c).length ∧ RVs K ca io H xs vs := by
  cases w <;> first | (simp [getO] at g; done) | skip
  · rename_i n
    obtain ⟨a, rfl, q⟩ := h.locI
    unfold getO at g
    cases e : S[n]? with
    | none => simp [e] at g
    | some ce =>
      cases ce with
      | ins d ys =>
        simp only [e] at g
        split at g
        · rename_i hd
          subst hd
          cases g
          obtain ⟨a2, q2, dx, vs, h1, h2, h3⟩ := z.at e
          rw [q] at q2
          cases q2
          exact ⟨a, dx, vs, rfl, h1, h2, h3⟩
        · cases g
      | _ => simp [e] at g
  · rename_i d ys
    dsimp only [getO] at g
    split at g
    · rename_i hd
      subst hd
      cases g
      obtain ⟨a, dx, vs, rfl, q, n, l, r⟩ := h.objI
      exact ⟨a, dx, vs, rfl, q, l, r⟩
    · cases g
section
variable {X : Cx} {ca : Ca} {E : XK}
theorem me_fld {c : Cl} {f : Fl} {e : Expr} {x : Str} {m : M W} {pos : Pos} (hc : Cls X.K (ca c)) (hn : NoAttr X.K (ca c) (fname f)) (he : ME X ca E e m) (hx : x = fname f := by rfl) (hb : attributeBase e x X.env (eval e X.env) = eval e X.env := by rfl) : ME X ca E (.Attribute e x pos) (mFld c f m) := by
  subst hx
  refine PE.weak (pe_fld he hb) fun σ H Q h => ?_
  obtain ⟨io, r, S, l, p⟩ := h
  refine tE_imp (tE_bind l p) fun v H1 ⟨io1, S1, w, e1, l1, rv, p1⟩ => ?_
  split at p1
  · rename_i xs i g hi
    split at p1
    · rename_i y hy
      obtain ⟨a, dx, vs, rfl, q, ll, rr⟩ := getO_ok l1.z rv g
      obtain ⟨v2, h1, h2⟩ := rr.get hy
      refine ⟨a, ca c, dx, _, v2, rfl, q, hc, hn, ?_, Post.done p1 l1.z _ h2⟩
      unfold fnames
      rw [lookup_zip, show (flds c).findIdx? (· == f) = some i from hi]
      exact h1
    · exact p1.elim
  · exact p1.elim

/-! ### calls of defs -/
theorem passF {X : Cx} : Passes (L2.CX X.prog X.w) X (fun _ _ _ => False) := fun pins σ H s e s' I h => by
  obtain ⟨_, _, _, _, _, _, _, _, _, _, _, _, z⟩ := h
  exact z.elim
def mCall (g : FnM) (t : M (List W)) : M W := do
  let ws ← t
  fun _ S => g ws S
theorem call_imp {K : PySem.W.Frag} {g : FnM} {t : M (List W)} {σ : L2.St} {H : Hp} {Q : VK} (h : tE K ca E (mCall g t) σ H Q) : tA K ca E t σ H (fun vs H1 => spM K ca g vs H1 Q E) := by
  obtain ⟨io, r, S, l, p⟩ := h
  exact tA_imp (tA_bind l p) fun vs H1 ⟨io1, S1, ws, e1, l1, rvs, p1⟩ => ⟨io1, ws, S1, l1.z, rvs, p1⟩
section
variable {k : Nat} {f : Addr} {g : FnM} {x : Str} {p pos apos : Pos} {e : Expr} {es : List Expr} {t : M (List W)}
/-- f(a, ..) -/
theorem me_call (F : Fm X.prog X.w X.K X.mg X.base ca k f g) (hr : Room k X.A) (hm : X.mg x = some (.ref f)) (hk : PySem.W.keepIn X.K (.ref f) = true) (hx : Passes (L2.CX X.prog X.w) X E) (ha : MA X ca E (e :: es) t)
    (hg : Gl X x := by rfl) (hdb : (x == ("__debug__" : Str)) = false := by decide) (he : starEach (e :: es) X.env = (false, eval e X.env) :: starEach es X.env := by rfl) (hpl : (backTo pos (starEach es X.env)).any (·.1) = false := by rfl) :
    ME X ca E (.Call (.Name x p) (e :: es) [] pos) (mCall g t) := by
  refine ⟨fun pins s σ H Q I h => ?_⟩
  refine wpAny_Call_Name_kw (ld_glob I hg hm ?_ hdb)
  refine PySem.W.callWith_K (h₀ := X.base) I.ok.mod.kin hk (thn (ha.run pos pins s σ H _ I (call_imp h)) fun us s1 ⟨vs, H1, I1, r, q⟩ => ⟨I1.kIn, ?_⟩) he hpl
  exact wpAny_call (run_fnR F hr hx I1 r q)
theorem me_call0 (F : Fm X.prog X.w X.K X.mg X.base ca k f g) (hr : Room k X.A) (hm : X.mg x = some (.ref f)) (hk : PySem.W.keepIn X.K (.ref f) = true) (hx : Passes (L2.CX X.prog X.w) X E)
    (hg : Gl X x := by rfl) (hdb : (x == ("__debug__" : Str)) = false := by decide) : ME X ca E (.Call (.Name x p) [] [] pos) (mCall g mNil) := by
  refine ⟨fun pins s σ H Q I h => ?_⟩
  refine wpAny_Call_Name_kw (ld_glob I hg hm ?_ hdb)
  obtain ⟨io, r, S, l, pp⟩ := h
  exact PySem.W.callWith_K0 I.kIn hk (wpAny_call (run_fnR (us := []) F hr hx I .nil ⟨io, [], S, l.z, .nil, pp⟩))
end
/-- a method of an instance of the class c -/
def mMeth (c : Cl) (g : FnM) (o : M W) (t : M (List W)) : M W := do
  let w ← o
  let w' ← (fun _ S => match getO c S w with
    | some _ => .ok w S
    | none => .stuck : M W)
  let ws ← t
  fun _ S => g (w' :: ws) S
theorem lookup_none {c : Cl} {m : Str} (h : (fnames c).contains m = false) (vs : List V) : ((fnames c).zip vs).lookup m = none := by
  generalize fnames c = ns at h
  induction ns generalizing vs with
  | nil => rfl
  | cons n ns ih =>
    cases vs with
    | nil => rfl
    | cons v vs =>
      rw [List.contains_cons] at h
      obtain ⟨h1, h2⟩ := Bool.or_eq_false_iff.mp h
      rw [List.zip_cons_cons, List.lookup_cons, h1]
      exact ih vs h2
section
variable {k : Nat} {f : Addr} {g : FnM} {c : Cl} {m : Str} {p pos apos : Pos} {o e : Expr} {es : List Expr} {mo : M W} {t : M (List W)}
theorem meth_imp {K : PySem.W.Frag} {σ : L2.St} {H : Hp} {Q : VK} (hl : (fnames c).contains m = false) (h : tE K ca E (mMeth c g mo t) σ H Q) :
    tE K ca E mo σ H (fun x H1 => ∃ a dx fs, x = .ref a ∧ H1 a = some (.ins (ca c) dx fs) ∧ fs.lookup m = none ∧ tA K ca E t σ H1 fun vs H2 => spM K ca g (x :: vs) H2 Q E) := by
  obtain ⟨io, r, S, l, p⟩ := h
  refine tE_imp (tE_bind l p) fun v H1 ⟨io1, S1, w, e1, l1, rv, p1⟩ => ?_
  rw [bind_def] at p1
  cases gg : getO c S1 w with
  | none =>
    simp only [gg] at p1
    exact p1.elim
  | some xs =>
    simp only [gg] at p1
    obtain ⟨a, dx, vs, rfl, q, ll, rr⟩ := getO_ok l1.z rv gg
    refine ⟨a, dx, _, rfl, q, lookup_none hl vs, ?_⟩
    exact tA_imp (tA_bind l1 p1) fun us H2 ⟨io2, S2, ws, e2, l2, rvs, p2⟩ => ⟨io2, w :: ws, S2, l2.z, .cons (rv.mono e2) rvs, p2⟩
theorem me_meth {pl : Sem Bool} (F : Fm X.prog X.w X.K X.mg X.base ca k f g) (hr : Room k X.A) (hc : Cls X.K (ca c)) (hm : Meth X.K (ca c) m f) (hl : (fnames c).contains m = false) (hx : Passes (L2.CX X.prog X.w) X E) (ho : ME X ca E o mo) (ha : MA X ca E (e :: es) t)
    (hst : starEach (e :: es) X.env = (false, eval e X.env) :: starEach es X.env := by rfl) (hpl : (backTo pos (starEach es X.env)).any (·.1) = false := by rfl)
    (ht : eval (.Call (.Attribute o m apos) (e :: es) [] pos) X.env = (do
      let ov ← eval o X.env
      standAt apos.atName
      let (f, first) ← holding [ov] (getMethod ov m pl)
      callWith pos f first (backTo pos (starEach (e :: es) X.env)) (backToKw pos (keywordEach [] X.env))) := by rfl) :
    ME X ca E (.Call (.Attribute o m apos) (e :: es) [] pos) (mMeth c g mo t) := by
  refine ⟨fun pins s σ H Q I h => ?_⟩
  refine PySem.W.methodCall_KW (pl := pl) (thn (ho.run pins s σ H _ I (meth_imp hl h)) fun u s1 ⟨x, H1, I1, rx, a, dx, fs, ex, ea, l, q⟩ => ?_) ht
  subst ex
  obtain rfl : u = Value.ref a := rx
  refine getmeth_ok I1 ea hc hm l ?_
  refine PySem.W.callWith_K (first := [.ref a]) (h₀ := X.base) I.ok.mod.kin hm.kp (thn (ha.run pos pins s1 σ H1 _ I1 q) fun us s2 ⟨vs, H2, I2, r, q2⟩ => ⟨I2.kIn, ?_⟩) hst hpl
  exact wpAny_call (run_fnR (us := .ref a :: us) (vs := .ref a :: vs) F hr hx I2 (.cons rfl r) q2)
theorem me_meth0 {pl : Sem Bool} (F : Fm X.prog X.w X.K X.mg X.base ca k f g) (hr : Room k X.A) (hc : Cls X.K (ca c)) (hm : Meth X.K (ca c) m f) (hl : (fnames c).contains m = false) (hx : Passes (L2.CX X.prog X.w) X E) (ho : ME X ca E o mo)
    (ht : eval (.Call (.Attribute o m apos) [] [] pos) X.env = (do
      let ov ← eval o X.env
      standAt apos.atName
      let (f, first) ← holding [ov] (getMethod ov m pl)
      callWith pos f first (backTo pos (starEach [] X.env)) (backToKw pos (keywordEach [] X.env))) := by rfl) :
    ME X ca E (.Call (.Attribute o m apos) [] [] pos) (mMeth c g mo mNil) := by
  refine ⟨fun pins s σ H Q I h => ?_⟩
  refine PySem.W.methodCall_KW (pl := pl) (thn (ho.run pins s σ H _ I (meth_imp hl h)) fun u s1 ⟨x, H1, I1, rx, a, dx, fs, ex, ea, l, q⟩ => ?_) ht
  subst ex
  obtain rfl : u = Value.ref a := rx
  refine getmeth_ok I1 ea hc hm l ?_
  obtain ⟨io, r, S, ll, pp⟩ := q
  exact PySem.W.callWith_K0 (first := [.ref a]) I1.kIn hm.kp (wpAny_call (run_fnR (us := [.ref a]) (vs := [.ref a]) F hr hx I1 (.cons rfl .nil) (pp.done ll.z [] .nil)))
end
end
end SL

set_option Elab.async false
set_option linter.all false
set_option maxRecDepth 100000
set_option maxHeartbeats 2000000
namespace SL
open PySem PySem.Spec PyProof.Rows L2

section
variable {X : Cx} {ca : Ca} {E : XK}
/-! ### a property -/
/-- the getter's run at the object; it raises nothing -/
def noX : Res W → Res W
  | .exc _ _ _ => .stuck
  | r => r
def mProp (c : Cl) (g : FnM) (o : M W) : M W := do
  let w ← o
  fun _ S => match getO c S w with
    | some _ => noX (g [w] S)
    | none => .stuck
theorem post_noX {K : PySem.W.Frag} {io : List Addr} {H : Hp} {R : W → List Addr → Hp → Prop} {r : Res W} (p : Post K ca E io H R (noX r)) (E' : XK) : Post K ca E' io H R r := by
  cases r with
  | ok w S => exact p
  | exc c ws S => exact p.elim
  | stuck => exact p
theorem me_prop {k : Nat} {c : Cl} {f : Str} {g : FnM} {p q : Addr} {fd : FuncData} {e : Expr} {m : M W} {pos : Pos} (hc : Cls X.K (ca c)) (hp : PropOf X.K (ca c) f p q) (F : FnOk X.prog X.w X.K X.mg X.base (L2.CX X.prog X.w) k q fd ["self"] (spM X.K ca g)) (hr : Room (k + 1) X.A) (hb : Binds X.K fd ["self"] []) (he : ME X ca E e m)
    (hab : attributeBase e f X.env (eval e X.env) = eval e X.env := by rfl) : ME X ca E (.Attribute e f pos) (mProp c g m) := by
  refine PE.weak (pe_prop (E := fun _ _ _ => False) (dvs := []) he hc hp F hr hb .nil passF hab) fun σ H Q h => ?_
  obtain ⟨io, r, S, l, p⟩ := h
  refine tE_imp (tE_bind l p) fun v H1 ⟨io1, S1, w, e1, l1, rv, p1⟩ => ?_
  cases gg : getO c S1 w with
  | none =>
    simp only [gg] at p1
    exact p1.elim
  | some xs =>
    simp only [gg] at p1
    obtain ⟨a, dx, vs, rfl, q, ll, rr⟩ := getO_ok l1.z rv gg
    exact ⟨a, dx, _, rfl, q, io1, [w], S1, l1.z, .cons rv .nil, post_noX p1 _⟩

/-! ### a new instance -/
/-- the new object at the store's end, __init__'s run; what it hands back is the object -/
def newR (c : Cl) (g : FnM) : FnM := fun ws S => match g (.loc S.length :: ws) (S ++ [.ins c []]) with
  | .ok .non S' => .ok (.loc S.length) S'
  | .ok _ _ => .stuck
  | .exc d es S' => .exc d es S'
  | .stuck => .stuck
theorem rv_ext_loc {K : PySem.W.Frag} {io : List Addr} {H H' : Hp} {n : Nat} {v : V} {io' : List Addr} (e : Ext io H io' H') (h : RV K ca io H (.loc n) v) : RV K ca io' H' (.loc n) v := h.mono e
theorem new_imp {K : PySem.W.Frag} {c : Cl} {g : FnM} {io : List Addr} {S : Sto} {ws : List W} {vs : List V} {H : Hp} {Q : VK} (z : Rl0 K ca io S H) (rvs : RVs K ca io H ws vs) (p : Post K ca E io H (fun w io' H' => ∀ v, RV K ca io' H' w v → Q v H') (newR c g ws S)) :
    ∀ x dx, H x = none → H dx = none → dx ≠ x → spM K ca g (V.ref x :: vs) (upd (upd H dx (.own x)) x (.ins (ca c) dx [])) (fun v H2 => v = .non ∧ Q (.ref x) H2) E := by
  intro x dx nx ndx hne
  have nx2 : (upd H dx (.own x)) x = none := by
    rw [upd_ne hne.symm]
    exact nx
  have e1 : Ext io H io (upd H dx (.own x)) := ext_new ndx
  have z1 := z.new (o := .own x) ndx
  have e2 : Ext io (upd H dx (.own x)) (io ++ [x]) (upd (upd H dx (.own x)) x (.ins (ca c) dx [])) := ext_cell nx2
  have hc : RC K ca (io ++ [x]) (upd (upd H dx (.own x)) x (.ins (ca c) dx [])) x (.ins c []) := ⟨dx, [], by rw [upd_same]; simp, Nat.zero_le _, .nil⟩
  have z2 := z1.cell nx2 hc
  have ee := e1.trans e2
  refine ⟨io ++ [x], .loc S.length :: ws, S ++ [.ins c []], z2, .cons (rv_cell z) (rvs.mono ee), ?_⟩
  unfold newR at p
  split at p
  · rename_i w S' hw
    rw [hw]
    intro io' H' e z' v rv
    exact ⟨rv, p io' H' (ee.trans e) z' _ ((rv_cell (K := K) (ca := ca) (H' := upd (upd H dx (.own x)) x (.ins (ca c) dx [])) (p := x) z).mono e)⟩
  · exact p.elim
  · rename_i d es S' hw
    rw [hw]
    exact fun io' H' dd e z' rx => p io' H' dd (ee.trans e) z' rx
  · exact p.elim
section
variable {k : Nat} {f : Addr} {g : FnM} {c : Cl} {x : Str} {p pos : Pos} {e : Expr} {es : List Expr} {t : M (List W)}
theorem mk_imp {K : PySem.W.Frag} {σ : L2.St} {H : Hp} {Q : VK} (h : tE K ca E (mCall (newR c g) t) σ H Q) : tA K ca E t σ H fun vs H1 => ∀ x dx, H1 x = none → H1 dx = none → dx ≠ x → spM K ca g (V.ref x :: vs) (upd (upd H1 dx (.own x)) x (.ins (ca c) dx [])) (fun v H2 => v = .non ∧ Q (.ref x) H2) E := by
  obtain ⟨io, r, S, l, p⟩ := h
  exact tA_imp (tA_bind l p) fun vs H1 ⟨io1, S1, ws, e1, l1, rvs, p1⟩ => new_imp l1.z rvs p1
/-- C(a, ..) -/
theorem me_new (F : Fm X.prog X.w X.K X.mg X.base ca k f g) (Mm : Mk X.K (ca c) f) (hr : Room (k + 1) X.A) (hm : X.mg x = some (.ref (ca c))) (hx : Passes (L2.CX X.prog X.w) X E) (ha : MA X ca E (e :: es) t)
    (hg : Gl X x := by rfl) (hdb : (x == ("__debug__" : Str)) = false := by decide) (he : starEach (e :: es) X.env = (false, eval e X.env) :: starEach es X.env := by rfl) (hpl : (backTo pos (starEach es X.env)).any (·.1) = false := by rfl) :
    ME X ca E (.Call (.Name x p) (e :: es) [] pos) (mCall (newR c g) t) := PE.weak (StX.pe_makeR Mm F hr hg hm hx ha hdb he hpl) fun σ H Q h => mk_imp h
/-- C(a, .., *b) -/
theorem me_newS (F : Fm X.prog X.w X.K X.mg X.base ca k f g) (Mm : Mk X.K (ca c) f) (hr : Room (k + 1) X.A) (hm : X.mg x = some (.ref (ca c))) (hx : Passes (L2.CX X.prog X.w) X E) (ha : MA X ca E (e :: es) t)
    (hg : Gl X x := by rfl) (hdb : (x == ("__debug__" : Str)) = false := by decide) (he : starEach (e :: es) X.env = (false, eval e X.env) :: starEach es X.env := by rfl) (hst : (backTo pos (starEach es X.env)).any (·.1) = true := by rfl) :
    ME X ca E (.Call (.Name x p) (e :: es) [] pos) (mCall (newR c g) t) := by
  refine ⟨fun pins s σ H Q I h => ?_⟩
  refine wpAny_Call_Name_kw (ld_glob I hg hm ?_ hdb)
  refine PySem.W.callWith_S2 (h₀ := X.base) I.ok.mod.kin Mm.kp (thn (ha.run pos pins s σ H _ I (mk_imp h)) fun us s1 ⟨vs, H1, I1, r, q⟩ => ⟨I1.kIn, ?_⟩) he hst
  exact StX.run_makeR Mm F hr hx I1 r q
/-- C(*b) -/
theorem me_new1 {m : M W} {sp_ : Pos} (F : Fm X.prog X.w X.K X.mg X.base ca k f g) (Mm : Mk X.K (ca c) f) (hr : Room (k + 1) X.A) (hm : X.mg x = some (.ref (ca c))) (hx : Passes (L2.CX X.prog X.w) X E) (he : ME X ca E e m)
    (hg : Gl X x := by rfl) (hdb : (x == ("__debug__" : Str)) = false := by decide) (hst : starEach [.Starred e sp_] X.env = [(true, eval e X.env)] := by rfl) :
    ME X ca E (.Call (.Name x p) [.Starred e sp_] [] pos) (mCall (newR c g) (mStar m mNil)) := by
  refine ⟨fun pins s σ H Q I h => ?_⟩
  refine wpAny_Call_Name_kw (ld_glob I hg hm ?_ hdb)
  have h2 : tE X.K ca E m σ H (fun v H1 => ∃ io1 S1 w xs, Rl0 X.K ca io1 S1 H1 ∧ RV X.K ca io1 H1 w v ∧ getQ S1 w = some xs ∧ Post X.K ca E io1 H1 (fun w io' H' => ∀ v, RV X.K ca io' H' w v → Q v H') (newR c g xs S1)) := by
    obtain ⟨io, r, S, l, pp⟩ := h
    have pp2 : Post X.K ca E io H (fun w io' H' => ∀ v, RV X.K ca io' H' w v → Q v H') ((m >>= fun w => (fun _ S => match getQ S w with
      | some xs => newR c g xs S
      | none => .stuck : M W)) r S) := by
      have e : mCall (newR c g) (mStar m mNil) r S = (m >>= fun w => (fun _ S => match getQ S w with
        | some xs => newR c g xs S
        | none => .stuck : M W)) r S := by
        unfold mCall mStar mNil
        simp only [bind_def, pure_def]
        cases m r S with
        | ok w S' =>
          simp only
          cases getQ S' w with
          | none => rfl
          | some xs => simp
        | exc c ws S' => rfl
        | stuck => rfl
      rw [e] at pp
      exact pp
    refine tE_imp (tE_bind l pp2) fun v H1 ⟨io1, S1, w, e1, l1, rv, p1⟩ => ?_
    cases gg : getQ S1 w with
    | none =>
      simp only [gg] at p1
      exact p1.elim
    | some xs =>
      simp only [gg] at p1
      exact ⟨io1, S1, w, xs, l1.z, rv, gg, p1⟩
  refine PySem.W.callWith_S (h₀ := X.base) I.ok.mod.kin Mm.kp (thn (he.run pins s σ H _ I h2) fun u s1 ⟨y, H1, I1, ry, io1, S1, w, xs, z, rv, gg, p1⟩ => ?_) hst
  obtain ⟨a, vs, rfl, q, r⟩ := getQ_ok z rv gg
  obtain rfl : u = Value.ref a := ry
  exact StX.star_any I1 q.symm fun us s2 I2 rvs => ⟨I2.kIn, StX.run_makeR Mm F hr hx I2 rvs (new_imp z r p1)⟩
end

/-! ### built-in functions -/
def BltM (X : Cx) (ca : Ca) (E : XK) (f : Value) (g : FnM) : Prop := CallR X f (fun vs H Q => spM X.K ca g vs H Q E)
section
variable {x : Str} {id T : String} {p pos : Pos} {e : Expr} {es : List Expr} {t : M (List W)} {g : FnM}
theorem me_callB (hc : BltM X ca E (.builtin id) g) (hm : X.mg x = none) (ha : MA X ca E (e :: es) t) (hg : Gl X x := by rfl) (hv : bootBuiltins x = some (.builtin id) := by decide +kernel) (hn : x ≠ "__name__" := by decide) (hdb : (x == ("__debug__" : Str)) = false := by decide)
    (he : starEach (e :: es) X.env = (false, eval e X.env) :: starEach es X.env := by rfl) (hpl : (backTo pos (starEach es X.env)).any (·.1) = false := by rfl) : ME X ca E (.Call (.Name x p) (e :: es) [] pos) (mCall g t) :=
  PE.weak (pe_callB hc hg hm hv ha hn hdb he hpl) fun σ H Q h => call_imp h
theorem me_callTy (hc : BltM X ca E (.type T) g) (hm : X.mg x = none) (ha : MA X ca E (e :: es) t) (hg : Gl X x := by rfl) (hv : bootBuiltins x = some (.type T) := by decide +kernel) (hn : x ≠ "__name__" := by decide) (hdb : (x == ("__debug__" : Str)) = false := by decide)
    (he : starEach (e :: es) X.env = (false, eval e X.env) :: starEach es X.env := by rfl) (hpl : (backTo pos (starEach es X.env)).any (·.1) = false := by rfl) : ME X ca E (.Call (.Name x p) (e :: es) [] pos) (mCall g t) :=
  PE.weak (pe_callTy hc hg hm hv ha hn hdb he hpl) fun σ H Q h => call_imp h
end
theorem RVs.one {K : PySem.W.Frag} {io : List Addr} {H : Hp} {w : W} {vs : List V} (h : RVs K ca io H [w] vs) : ∃ v, vs = [v] ∧ RV K ca io H w v := by
  obtain ⟨v, r, rfl, h1, h2⟩ := h.inv
  cases (show r = [] from h2)
  exact ⟨v, rfl, h1⟩
theorem RVs.two {K : PySem.W.Frag} {io : List Addr} {H : Hp} {w u : W} {vs : List V} (h : RVs K ca io H [w, u] vs) : ∃ v y, vs = [v, y] ∧ RV K ca io H w v ∧ RV K ca io H u y := by
  obtain ⟨v, r, rfl, h1, h2⟩ := h.inv
  obtain ⟨y, rfl, h3⟩ := RVs.one h2
  exact ⟨v, y, rfl, h1, h3⟩
def bLen : FnM := fun ws S => match ws with
  | [.str z] => if z.length ≤ 16000000 then .ok (.int z.length) S else .stuck
  | [w] => match getQ S w with
    | some xs => .ok (.int xs.length) S
    | none => .stuck
  | _ => .stuck
theorem bm_len : BltM X ca E (.builtin "len") bLen := by
  intro pins s σ H vs us Q I r h
  obtain ⟨io, ws, S, z, rvs, p⟩ := h
  unfold bLen at p
  split at p
  · obtain ⟨v, rfl, rv⟩ := rvs.one
    cases (show v = _ from rv)
    split at p
    · rename_i hl
      exact call_len_str pins s σ H _ us Q I r ⟨_, rfl, lim_le hl, p.done z _ rfl⟩
    · exact p.elim
  · obtain ⟨v, rfl, rv⟩ := rvs.one
    split at p
    · rename_i xs e1
      obtain ⟨a, us2, rfl, q, rr⟩ := getQ_ok z rv e1
      refine call_len_seq pins s σ H _ us Q I r ⟨a, us2, rfl, q, ?_⟩
      rw [rr.len]
      exact p.done z _ rfl
    · exact p.elim
  · exact p.elim
def bAbs : FnM := fun ws S => match ws with
  | [.int i] => .ok (.int (if i < 0 then -i else i)) S
  | _ => .stuck
theorem bm_abs : BltM X ca E (.builtin "abs") bAbs := by
  intro pins s σ H vs us Q I r h
  obtain ⟨io, ws, S, z, rvs, p⟩ := h
  unfold bAbs at p
  split at p
  · obtain ⟨v, rfl, rv⟩ := rvs.one
    cases (show v = _ from rv)
    exact call_abs pins s σ H _ us Q I r ⟨_, rfl, p.done z _ rfl⟩
  · exact p.elim
/-- the greatest, the least of some ints -/
def maxL : List Int → Option Int
  | [] => none
  | x :: xs => some (xs.foldl max x)
def minL : List Int → Option Int
  | [] => none
  | x :: xs => some (xs.foldl min x)
theorem foldl_max_ge : ∀ (xs : List Int) (a : Int), a ≤ xs.foldl max a ∧ (∀ y ∈ xs, y ≤ xs.foldl max a) ∧ (xs.foldl max a = a ∨ xs.foldl max a ∈ xs)
  | [], a => ⟨Int.le_refl _, by simp, .inl rfl⟩
  | x :: xs, a => by
    obtain ⟨h1, h2, h3⟩ := foldl_max_ge xs (max a x)
    refine ⟨Int.le_trans (Int.le_max_left a x) h1, fun y hy => ?_, ?_⟩
    · rcases List.mem_cons.mp hy with rfl | hy
      · exact Int.le_trans (Int.le_max_right a y) h1
      · exact h2 y hy
    · rcases h3 with h3 | h3
      · by_cases q : a ≤ x
        · refine .inr (List.mem_cons.mpr (.inl ?_))
          rw [List.foldl_cons, h3]
          exact Int.max_eq_right q
        · refine .inl ?_
          rw [List.foldl_cons, h3]
          exact Int.max_eq_left (by omega)
      · exact .inr (List.mem_cons.mpr (.inr h3))
theorem foldl_min_le : ∀ (xs : List Int) (a : Int), xs.foldl min a ≤ a ∧ (∀ y ∈ xs, xs.foldl min a ≤ y) ∧ (xs.foldl min a = a ∨ xs.foldl min a ∈ xs)
  | [], a => ⟨Int.le_refl _, by simp, .inl rfl⟩
  | x :: xs, a => by
    obtain ⟨h1, h2, h3⟩ := foldl_min_le xs (min a x)
    refine ⟨Int.le_trans h1 (Int.min_le_left a x), fun y hy => ?_, ?_⟩
    · rcases List.mem_cons.mp hy with rfl | hy
      · exact Int.le_trans h1 (Int.min_le_right a y)
      · exact h2 y hy
    · rcases h3 with h3 | h3
      · by_cases q : a ≤ x
        · refine .inl ?_
          rw [List.foldl_cons, h3]
          exact Int.min_eq_left q
        · refine .inr (List.mem_cons.mpr (.inl ?_))
          rw [List.foldl_cons, h3]
          exact Int.min_eq_right (by omega)
      · exact .inr (List.mem_cons.mpr (.inr h3))
theorem maxL_is {xs : List Int} {m k : Int} (h : maxL xs = some m) (hk : k ∈ xs) (h2 : ∀ y ∈ xs, y ≤ k) : k = m := by
  cases xs with
  | nil => cases h
  | cons x xs =>
    cases h
    obtain ⟨a, b, c⟩ := foldl_max_ge xs x
    have l1 : k ≤ xs.foldl max x := by
      rcases List.mem_cons.mp hk with rfl | hk
      · exact a
      · exact b k hk
    have l2 : xs.foldl max x ≤ k := by
      rcases c with c | c
      · rw [c]
        exact h2 x List.mem_cons_self
      · exact h2 _ (List.mem_cons_of_mem _ c)
    omega
theorem minL_is {xs : List Int} {m k : Int} (h : minL xs = some m) (hk : k ∈ xs) (h2 : ∀ y ∈ xs, k ≤ y) : k = m := by
  cases xs with
  | nil => cases h
  | cons x xs =>
    cases h
    obtain ⟨a, b, c⟩ := foldl_min_le xs x
    have l1 : xs.foldl min x ≤ k := by
      rcases List.mem_cons.mp hk with rfl | hk
      · exact a
      · exact b k hk
    have l2 : k ≤ xs.foldl min x := by
      rcases c with c | c
      · rw [c]
        exact h2 x List.mem_cons_self
      · exact h2 _ (List.mem_cons_of_mem _ c)
    omega
def getIs (S : Sto) (w : W) : Option (List Int) := match getL S w with
  | some xs => intsOf xs
  | none => none
theorem getIs_ok {K : PySem.W.Frag} {io : List Addr} {S : Sto} {H : Hp} (z : Rl0 K ca io S H) {w : W} {v : V} {ns : List Int} (h : RV K ca io H w v) (g : getIs S w = some ns) : ∃ a, v = .ref a ∧ SqL K H a (ns.map V.int) := by
  unfold getIs at g
  cases e : getL S w with
  | none => simp [e] at g
  | some xs =>
    simp only [e] at g
    obtain ⟨a, vs, rfl, q, r⟩ := getL_ok z h e
    rw [intsOf_eq g] at r
    rw [r.ints] at q
    exact ⟨a, rfl, .of q⟩
def bMax : FnM := fun ws S => match ws with
  | [.int i, .int j] => .ok (.int (if j > i then j else i)) S
  | [w] => match getIs S w with
    | some ns => match maxL ns with
      | some m => .ok (.int m) S
      | none => .stuck
    | none => .stuck
  | _ => .stuck
def bMin : FnM := fun ws S => match ws with
  | [.int i, .int j] => .ok (.int (if j < i then j else i)) S
  | [w] => match getIs S w with
    | some ns => match minL ns with
      | some m => .ok (.int m) S
      | none => .stuck
    | none => .stuck
  | _ => .stuck
theorem bm_max (hc : X.calm = true) : BltM X ca E (.builtin "max") bMax := by
  intro pins s σ H vs us Q I r h
  obtain ⟨io, ws, S, z, rvs, p⟩ := h
  unfold bMax at p
  split at p
  · obtain ⟨v, y, rfl, rv, ry⟩ := rvs.two
    cases (show v = _ from rv)
    cases (show y = _ from ry)
    exact call_max2 hc pins s σ H _ us Q I r ⟨_, _, rfl, p.done z _ rfl⟩
  · obtain ⟨v, rfl, rv⟩ := rvs.one
    split at p
    · rename_i ns e1
      obtain ⟨a, rfl, q⟩ := getIs_ok z rv e1
      split at p
      · rename_i m hm
        refine cr_max hc pins s σ H _ us Q I r ⟨a, ns, rfl, q, ?_, fun k hk h2 => ?_⟩
        · cases ns with
          | nil => cases hm
          | cons n ns => exact Nat.succ_pos _
        · rw [maxL_is hm hk h2]
          exact p.done z _ rfl
      · exact p.elim
    · exact p.elim
  · exact p.elim
theorem bm_min (hc : X.calm = true) : BltM X ca E (.builtin "min") bMin := by
  intro pins s σ H vs us Q I r h
  obtain ⟨io, ws, S, z, rvs, p⟩ := h
  unfold bMin at p
  split at p
  · obtain ⟨v, y, rfl, rv, ry⟩ := rvs.two
    cases (show v = _ from rv)
    cases (show y = _ from ry)
    exact call_min2 hc pins s σ H _ us Q I r ⟨_, _, rfl, p.done z _ rfl⟩
  · obtain ⟨v, rfl, rv⟩ := rvs.one
    split at p
    · rename_i ns e1
      obtain ⟨a, rfl, q⟩ := getIs_ok z rv e1
      split at p
      · rename_i m hm
        refine cr_min hc pins s σ H _ us Q I r ⟨a, ns, rfl, q, ?_, fun k hk h2 => ?_⟩
        · cases ns with
          | nil => cases hm
          | cons n ns => exact Nat.succ_pos _
        · rw [minL_is hm hk h2]
          exact p.done z _ rfl
      · exact p.elim
    · exact p.elim
  · exact p.elim
def bSum : FnM := fun ws S => match ws with
  | [w] => match getIs S w with
    | some ns => .ok (.int ns.sum) S
    | none => .stuck
  | _ => .stuck
theorem bm_sum (hc : X.calm = true) : BltM X ca E (.builtin "sum") bSum := by
  intro pins s σ H vs us Q I r h
  obtain ⟨io, ws, S, z, rvs, p⟩ := h
  unfold bSum at p
  split at p
  · obtain ⟨v, rfl, rv⟩ := rvs.one
    split at p
    · rename_i ns e1
      obtain ⟨a, rfl, q⟩ := getIs_ok z rv e1
      exact cr_sum hc pins s σ H _ us Q I r ⟨a, ns, rfl, q, p.done z _ rfl⟩
    · exact p.elim
  · exact p.elim
def blsOf : List W → Option (List Bool)
  | [] => some []
  | .bl b :: xs => match blsOf xs with
    | some bs => some (b :: bs)
    | none => none
  | _ => none
theorem blsOf_eq : ∀ {xs : List W} {bs : List Bool}, blsOf xs = some bs → xs = bs.map W.bl
  | [], bs, h => by simp [blsOf] at h; subst h; rfl
  | x :: xs, bs, h => by
    cases x <;> simp [blsOf] at h
    cases e : blsOf xs with
    | none => simp [e] at h
    | some is =>
      simp [e] at h
      subst h
      rw [blsOf_eq e]
      rfl
theorem RVs.bls {K : PySem.W.Frag} {io : List Addr} {H : Hp} {bs : List Bool} : ∀ {vs : List V}, RVs K ca io H (bs.map W.bl) vs → vs = bs.map V.bl := by
  induction bs with
  | nil => intro vs h; exact h
  | cons n ns ih =>
    intro vs h
    obtain ⟨v, r, rfl, h1, h2⟩ := h.inv
    rw [ih h2, show v = V.bl n from h1] <;> rfl
def bAll : FnM := fun ws S => match ws with
  | [w] => match getL S w with
    | some xs => match blsOf xs with
      | some bs => .ok (.bl (bs.all id)) S
      | none => .stuck
    | none => .stuck
  | _ => .stuck
def bAny : FnM := fun ws S => match ws with
  | [w] => match getL S w with
    | some xs => match blsOf xs with
      | some bs => .ok (.bl (bs.any id)) S
      | none => .stuck
    | none => .stuck
  | _ => .stuck
theorem bm_all (hc : X.calm = true) : BltM X ca E (.builtin "all") bAll := by
  intro pins s σ H vs us Q I r h
  obtain ⟨io, ws, S, z, rvs, p⟩ := h
  unfold bAll at p
  split at p
  · obtain ⟨v, rfl, rv⟩ := rvs.one
    split at p
    · rename_i xs e1
      obtain ⟨a, vs, rfl, q, rr⟩ := getL_ok z rv e1
      split at p
      · rename_i bs e2
        rw [blsOf_eq e2] at rr
        rw [rr.bls] at q
        exact cr_all hc pins s σ H _ us Q I r ⟨a, bs, rfl, .of q, p.done z _ rfl⟩
      · exact p.elim
    · exact p.elim
  · exact p.elim
theorem bm_any (hc : X.calm = true) : BltM X ca E (.builtin "any") bAny := by
  intro pins s σ H vs us Q I r h
  obtain ⟨io, ws, S, z, rvs, p⟩ := h
  unfold bAny at p
  split at p
  · obtain ⟨v, rfl, rv⟩ := rvs.one
    split at p
    · rename_i xs e1
      obtain ⟨a, vs, rfl, q, rr⟩ := getL_ok z rv e1
      split at p
      · rename_i bs e2
        rw [blsOf_eq e2] at rr
        rw [rr.bls] at q
        exact cr_any hc pins s σ H _ us Q I r ⟨a, bs, rfl, .of q, p.done z _ rfl⟩
      · exact p.elim
    · exact p.elim
  · exact p.elim
def bInt : FnM := fun ws S => match ws with
  | [.int i] => .ok (.int i) S
  | [.bl k] => .ok (.int (if k then 1 else 0)) S
  | _ => .stuck
theorem bm_int : BltM X ca E (.type "int") bInt := by
  intro pins s σ H vs us Q I r h
  obtain ⟨io, ws, S, z, rvs, p⟩ := h
  unfold bInt at p
  split at p
  · obtain ⟨v, rfl, rv⟩ := rvs.one
    cases (show v = _ from rv)
    exact call_int1 pins s σ H _ us Q I r (.inl ⟨_, rfl, p.done z _ rfl⟩)
  · obtain ⟨v, rfl, rv⟩ := rvs.one
    cases (show v = _ from rv)
    exact call_int1 pins s σ H _ us Q I r (.inr ⟨_, rfl, p.done z _ rfl⟩)
  · exact p.elim
/-- list(..): stays as it is | may change -/
def bList : FnM := fun ws S => match ws with
  | [w] => match getQ S w with
    | some xs => .ok (.lst xs) S
    | none => .stuck
  | _ => .stuck
def bListC : FnM := fun ws S => match ws with
  | [w] => match getQ S w with
    | some xs => .ok (.loc S.length) (S ++ [.lst xs])
    | none => .stuck
  | _ => .stuck
theorem bm_list : BltM X ca E (.type "list") bList := by
  intro pins s σ H vs us Q I r h
  obtain ⟨io, ws, S, z, rvs, p⟩ := h
  unfold bList at p
  split at p
  · obtain ⟨v, rfl, rv⟩ := rvs.one
    split at p
    · rename_i xs e1
      obtain ⟨a, vs, rfl, q, rr⟩ := getQ_ok z rv e1
      exact call_list_of pins s σ H _ us Q I r ⟨a, vs, rfl, q, fun l hl => p.newW z hl _ (rv_newL z hl rr)⟩
    · exact p.elim
  · exact p.elim
theorem bm_listC : BltM X ca E (.type "list") bListC := by
  intro pins s σ H vs us Q I r h
  obtain ⟨io, ws, S, z, rvs, p⟩ := h
  unfold bListC at p
  split at p
  · obtain ⟨v, rfl, rv⟩ := rvs.one
    split at p
    · rename_i xs e1
      obtain ⟨a, vs, rfl, q, rr⟩ := getQ_ok z rv e1
      exact call_list_of pins s σ H _ us Q I r ⟨a, vs, rfl, q, fun l hl => newC p z hl ⟨vs, upd_same, rr.mono (ext_cell hl)⟩ _ (rv_cell z)⟩
    · exact p.elim
  · exact p.elim
def bTuple : FnM := fun ws S => match ws with
  | [.tup xs] => .ok (.tup xs) S
  | [w] => match getL S w with
    | some xs => .ok (.tup xs) S
    | none => .stuck
  | _ => .stuck
theorem bm_tuple : BltM X ca E (.type "tuple") bTuple := by
  intro pins s σ H vs us Q I r h
  obtain ⟨io, ws, S, z, rvs, p⟩ := h
  unfold bTuple at p
  split at p
  · obtain ⟨v, rfl, rv⟩ := rvs.one
    obtain ⟨a, vs, rfl, q, rr⟩ := rv.tupI
    exact call_tuple_of pins s σ H _ us Q I r ⟨a, vs, rfl, .inr ⟨q.sq, p.done z _ ⟨a, vs, rfl, q, rr⟩⟩⟩
  · obtain ⟨v, rfl, rv⟩ := rvs.one
    split at p
    · rename_i xs e1
      obtain ⟨a, vs, rfl, q, rr⟩ := getL_ok z rv e1
      exact call_tuple_of pins s σ H _ us Q I r ⟨a, vs, rfl, .inl ⟨.of q, fun l hl => p.newW z hl _ (rv_newT z hl rr)⟩⟩
    · exact p.elim
  · exact p.elim
def bDivmod : FnM := fun ws S => match ws with
  | [.int i, .int j] => if 0 < j ∧ j < 1073741824 then .ok (.tup [.int (i / j), .int (i % j)]) S else .stuck
  | _ => .stuck
theorem bm_divmod : BltM X ca E (.builtin "divmod") bDivmod := by
  intro pins s σ H vs us Q I r h
  obtain ⟨io, ws, S, z, rvs, p⟩ := h
  unfold bDivmod at p
  split at p
  · obtain ⟨v, y, rfl, rv, ry⟩ := rvs.two
    cases (show v = _ from rv)
    cases (show y = _ from ry)
    split at p
    · rename_i hl
      exact call_divmod pins s σ H _ us Q I r ⟨_, _, rfl, hl, fun l hl => p.newW z hl _ (rv_newT z hl (.cons rfl (.cons rfl .nil)))⟩
    · exact p.elim
  · exact p.elim
end
end SL

set_option Elab.async false
set_option linter.all false
set_option maxRecDepth 100000
set_option maxHeartbeats 2000000
namespace SL
open PySem PySem.Spec PyProof.Rows L2

/-! ### statements -/
inductive Fw where
  | nx (r : Rho) | rt (w : W) | bk (r : Rho) | ct (r : Rho)
abbrev MSt := M Fw
def RS (K : PySem.W.Frag) (ca : Ca) (D : Ends) : Fw → List Addr → Hp → Prop
  | .nx r, io, H => ∀ σ, RE K ca io H r σ → D.nx σ H
  | .rt w, io, H => ∀ v, RV K ca io H w v → D.rt v H
  | .bk r, io, H => ∀ σ, RE K ca io H r σ → D.bk σ H
  | .ct r, io, H => ∀ σ, RE K ca io H r σ → D.ct σ H
def tS (K : PySem.W.Frag) (ca : Ca) (E : XK) (m : MSt) : TS := fun D σ H => ∃ io r S, Rl K ca io r S σ H ∧ Post K ca E io H (RS K ca D) (m r S)
abbrev MS (X : Cx) (ca : Ca) (E : XK) (st : Stmt) (m : MSt) : Prop := PS X st (tS X.K ca E m)
abbrev MSs (X : Cx) (ca : Ca) (E : XK) (st : List Stmt) (m : MSt) : Prop := PSs X st (tS X.K ca E m)
theorem PS.weak {X : Cx} {e : Stmt} {t u : TS} (h : PS X e t) (i : ∀ D σ H, u D σ H → t D σ H) : PS X e u := ⟨fun pins s σ H D I hw => h.run pins s σ H D I (i D σ H hw)⟩
theorem PSs.weak {X : Cx} {e : List Stmt} {t u : TS} (h : PSs X e t) (i : ∀ D σ H, u D σ H → t D σ H) : PSs X e u := ⟨fun pins s σ H D I hw => h.run pins s σ H D I (i D σ H hw)⟩
theorem PI.weak {X : Cx} {tg e : Expr} {t u : TI} (h : PI X tg e t) (i : ∀ σ H Q, u σ H Q → t σ H Q) : PI X tg e u := ⟨fun pins s σ H Q I hw => h.run pins s σ H Q I (i σ H Q hw)⟩
def sNext : MSt := fun r S => .ok (.nx r) S
def sSeq (a b : MSt) : MSt := fun r S => match a r S with
  | .ok (.nx r') S' => b r' S'
  | x => x
def sSet (i : Nat) (m : M W) : MSt := do
  let w ← m
  fun r S => .ok (.nx (r.set i (some w))) S
def sExpr (m : M W) : MSt := do
  let _ ← m
  sNext
def sRet (m : M W) : MSt := do
  let w ← m
  pure (.rt w)
def sRetN : MSt := pure (.rt .non)
def sIf (t : M Bool) (a b : MSt) : MSt := mIf t a b
def sBreak : MSt := fun r S => .ok (.bk r) S
def sCont : MSt := fun r S => .ok (.ct r) S
section
variable {K : PySem.W.Frag} {ca : Ca} {E : XK} {io : List Addr} {r : Rho} {S : Sto} {σ : L2.St} {H : Hp}
theorem RE.set {i : Nat} {w : W} {v : V} (h : RE K ca io H r σ) (hv : RV K ca io H w v) : RE K ca io H (r.set i (some w)) (σ.set i (some v)) := by
  refine ⟨by simp [h.1], fun j u q => ?_⟩
  by_cases e : i = j
  · subst e
    have hl : i < r.length := by
      have := (List.getElem?_eq_some_iff.mp q).1
      simpa using this
    rw [List.getElem?_set_self hl] at q
    cases q
    exact ⟨v, by rw [List.getElem?_set_self (by rw [← h.1]; exact hl)], hv⟩
  · rw [List.getElem?_set_ne e] at q
    obtain ⟨v2, h1, h2⟩ := h.2 j u q
    exact ⟨v2, by rw [List.getElem?_set_ne e]; exact h1, h2⟩
theorem RE.del {i : Nat} (h : RE K ca io H r σ) : RE K ca io H (r.set i none) (σ.set i none) := by
  refine ⟨by simp [h.1], fun j u q => ?_⟩
  by_cases e : i = j
  · subst e
    have hl : i < r.length := by
      have := (List.getElem?_eq_some_iff.mp q).1
      simpa using this
    rw [List.getElem?_set_self hl] at q
    cases q
  · rw [List.getElem?_set_ne e] at q
    obtain ⟨v2, h1, h2⟩ := h.2 j u q
    exact ⟨v2, by rw [List.getElem?_set_ne e]; exact h1, h2⟩
theorem tS_at {m : MSt} {D : Ends} (l : Rl K ca io r S σ H) (p : Post K ca E io H (RS K ca D) (m r S)) : tS K ca E m D σ H := ⟨io, r, S, l, p⟩
end
section
variable {X : Cx} {ca : Ca} {E : XK} {st : Stmt} {rest : List Stmt} {a b : MSt} {m : M W} {e : Expr} {pos : Pos}
theorem ms_nil : MSs X ca E [] sNext := PSs.weak pss_nil fun D σ H h => by
  obtain ⟨io, r, S, l, p⟩ := h
  exact p.done l.z _ l.e
theorem ms_cons (h1 : MS X ca E st a) (h2 : MSs X ca E rest b) : MSs X ca E (st :: rest) (sSeq a b) := PSs.weak (pss_cons h1 h2) fun D σ H h => by
  obtain ⟨io, r, S, l, p⟩ := h
  refine ⟨io, r, S, l, ?_⟩
  unfold sSeq at p
  cases q : a r S with
  | stuck =>
    simp only [q] at p
    exact p
  | exc c ws S' =>
    simp only [q] at p
    exact p
  | ok f S' =>
    cases f with
    | nx r' =>
      simp only [q] at p
      exact fun io' H' e z σ' re => ⟨io', r', S', ⟨z, re⟩, p.mono e⟩
    | rt w =>
      simp only [q] at p
      exact p
    | bk r' =>
      simp only [q] at p
      exact p
    | ct r' =>
      simp only [q] at p
      exact p
theorem ms_one (h : MS X ca E st a) : MSs X ca E [st] a := pss_one h
theorem ms_pass : MS X ca E (.Pass pos) sNext := PS.weak ps_pass fun D σ H h => by
  obtain ⟨io, r, S, l, p⟩ := h
  exact p.done l.z _ l.e
theorem ms_break : MS X ca E (.Break pos) sBreak := PS.weak ps_break fun D σ H h => by
  obtain ⟨io, r, S, l, p⟩ := h
  exact p.done l.z _ l.e
theorem ms_cont : MS X ca E (.Continue pos) sCont := PS.weak ps_continue fun D σ H h => by
  obtain ⟨io, r, S, l, p⟩ := h
  exact p.done l.z _ l.e
theorem ms_expr (h : ME X ca E e m) (hs : swapsWith e none pos.line X.env = pure false := by rfl) : MS X ca E (.Expr e pos) (sExpr m) := PS.weak (ps_expr h hs) fun D σ H h => by
  obtain ⟨io, r, S, l, p⟩ := h
  exact tE_imp (tE_bind l p) fun v H1 ⟨io1, S1, w, e1, l1, rv, p1⟩ => Post.done p1 l1.z _ l1.e
theorem ms_ret (h : ME X ca E e m) : MS X ca E (.Return (some e) pos) (sRet m) := PS.weak (ps_ret h) fun D σ H h => by
  obtain ⟨io, r, S, l, p⟩ := h
  exact tE_imp (tE_bind l p) fun v H1 ⟨io1, S1, w, e1, l1, rv, p1⟩ => p1.done l1.z _ rv
theorem ms_retN : MS X ca E (.Return none pos) sRetN := PS.weak ps_retN fun D σ H h => by
  obtain ⟨io, r, S, l, p⟩ := h
  exact p.done l.z _ rfl
theorem ms_set (i : Nat) {x : Str} {pos' : Pos} (hN : X.N.Nodup) (h : ME X ca E e m) (hi : X.N[i]? = some x := by rfl) (hx : Loc X.env.scope x := by first | exact Or.inl rfl | exact Or.inr rfl) (hs : swapsWith e (some (.Name x pos')) pos.line X.env = pure false := by rfl)
    (hf : X.fn x = true ∨ X.env.scope.names.lookup x = some .local := by first | exact .inl rfl | exact .inr rfl | assumption) : MS X ca E (.Assign [.Name x pos'] e pos) (sSet i m) := PS.weak (ps_set (i := i) hN hi hx h hs hf) fun D σ H h => by
  obtain ⟨io, r, S, l, p⟩ := h
  exact tE_imp (tE_bind l p) fun v H1 ⟨io1, S1, w, e1, l1, rv, p1⟩ => Post.done p1 l1.z _ (l1.e.set rv)
theorem ms_if {c : Expr} {xs ys : List Stmt} {mt : M Bool} (hc : MT X ca E c mt) (ha : MSs X ca E xs a) (hb : MSs X ca E ys b) : MS X ca E (.If c xs ys pos) (sIf mt a b) := PS.weak (ps_if hc ha hb) fun D σ H h => by
  obtain ⟨io, r, S, l, p⟩ := h
  refine tT_imp (tT_bind l p) fun k H1 ⟨io1, S1, e1, l1, p1⟩ => ?_
  cases k with
  | true => exact iteT ⟨io1, r, S1, l1, p1⟩
  | false => exact iteF ⟨io1, r, S1, l1, p1⟩
theorem ms_never : MS X ca E st (fun _ _ => .stuck) := PS.weak ps_never fun D σ H h => by
  obtain ⟨io, r, S, l, p⟩ := h
  exact p
end

/-! ### targets -/
inductive Tg where
  | n (i : Nat) | t (is : List Nat)
def setAll : List Nat → List W → Rho → Option Rho
  | [], [], r => some r
  | i :: is, w :: ws, r => setAll is ws (r.set i (some w))
  | _, _, _ => none
def Tg.run : Tg → W → Rho → Option Rho
  | .n i, w, r => some (r.set i (some w))
  | .t is, .tup ws, r => setAll is ws r
  | _, _, _ => none
def gNs : List Nat → TGs
  | [] => gNil
  | i :: is => gCons (gName i) (gNs is)
def Tg.g (K : PySem.W.Frag) : Tg → TG
  | .n i => gName i
  | .t is => gTup K is.length (gNs is)
def Tg.slots : Tg → List Nat
  | .n i => [i]
  | .t is => is
theorem wipe_get (σ : L2.St) (vs : List Nat) (j : Nat) : (wipe σ vs)[j]? = if j ∈ vs then (σ[j]?.map fun _ => none) else σ[j]? := by
  induction vs with
  | nil => simp [wipe]
  | cons v vs ih =>
    show ((wipe σ vs).set v none)[j]? = _
    by_cases e : v = j
    · subst e
      rw [List.getElem?_set]
      simp only [if_true, List.mem_cons, true_or]
      have hl := wipe_length σ vs
      by_cases h : v < σ.length
      · rw [if_pos (by rw [hl]; exact h)]
        rw [List.getElem?_eq_getElem h]
        rfl
      · rw [if_neg (by rw [hl]; exact h)]
        rw [List.getElem?_eq_none (by omega)]
        rfl
    · rw [List.getElem?_set_ne e, ih]
      simp only [List.mem_cons]
      by_cases hm : j ∈ vs
      · rw [if_pos hm, if_pos (.inr hm)]
      · rw [if_neg hm, if_neg (by intro q; rcases q with q | q; exact e q.symm; exact hm q)]
theorem wipe_set (σ : L2.St) {i : Nat} {x : Option V} {vs : List Nat} (h : i ∈ vs) : wipe (σ.set i x) vs = wipe σ vs := by
  refine List.ext_getElem? fun j => ?_
  rw [wipe_get, wipe_get]
  by_cases hm : j ∈ vs
  · rw [if_pos hm, if_pos hm, List.getElem?_set]
    by_cases e : i = j
    · subst e
      rw [if_pos rfl]
      by_cases hl : i < σ.length
      · rw [if_pos hl, List.getElem?_eq_getElem hl]
        rfl
      · rw [if_neg hl, List.getElem?_eq_none (by omega)]
    · rw [if_neg e]
  · have ne : i ≠ j := fun e => by
      subst e
      exact hm h
    rw [if_neg hm, if_neg hm, List.getElem?_set_ne ne]
section
variable {K : PySem.W.Frag} {ca : Ca} {io : List Addr} {r r1 : Rho} {σ : L2.St} {H : Hp}
theorem gNs_ok : ∀ {is : List Nat} {ws : List W} {vs : List V} {r : Rho} {σ : L2.St} {Q : L2.St → Hp → Prop}, setAll is ws r = some r1 → RVs K ca io H ws vs → RE K ca io H r σ →
    (∀ σ2, RE K ca io H r1 σ2 → (∀ us, (∀ i ∈ is, i ∈ us) → wipe σ2 us = wipe σ us) → Q σ2 H) → gNs is vs σ H Q
  | [], [], vs, r, σ, Q, e, h, re, k => by
    cases (show vs = [] from h)
    simp [setAll] at e
    subst e
    exact ⟨rfl, k σ re fun _ _ => rfl⟩
  | i :: is, w :: ws, vs, r, σ, Q, e, h, re, k => by
    obtain ⟨v, vr, rfl, h1, h2⟩ := h.inv
    refine ⟨v, vr, rfl, ?_⟩
    refine gNs_ok (is := is) (ws := ws) (r := r.set i (some w)) e h2 (re.set h1) fun σ2 h3 h4 => k σ2 h3 fun us hu => ?_
    rw [h4 us (fun j hj => hu j (List.mem_cons_of_mem _ hj)), wipe_set σ (hu i List.mem_cons_self)]
  | [], _ :: _, _, _, _, _, e, _, _, _ => by simp [setAll] at e
  | _ :: _, [], _, _, _, _, e, _, _, _ => by simp [setAll] at e
theorem setAll_len : ∀ {is : List Nat} {ws : List W} {r r1 : Rho}, setAll is ws r = some r1 → ws.length = is.length
  | [], [], _, _, _ => rfl
  | i :: is, w :: ws, r, r1, e => by
    rw [List.length_cons, List.length_cons, setAll_len (is := is) (ws := ws) e]
  | [], _ :: _, _, _, e => by simp [setAll] at e
  | _ :: _, [], _, _, e => by simp [setAll] at e
theorem Tg.ok (T : Tg) {w : W} {v : V} {Q : L2.St → Hp → Prop} (e : T.run w r = some r1) (h : RV K ca io H w v) (re : RE K ca io H r σ)
    (k : ∀ σ2, RE K ca io H r1 σ2 → (∀ us, (∀ i ∈ T.slots, i ∈ us) → wipe σ2 us = wipe σ us) → Q σ2 H) : T.g K v σ H Q := by
  cases T with
  | n i =>
    cases (show some (r.set i (some w)) = some r1 from e)
    exact k _ (re.set h) fun us hu => wipe_set σ (hu i (List.mem_singleton.mpr rfl))
  | t is =>
    cases w <;> first | (simp [Tg.run] at e; done) | skip
    rename_i ws
    obtain ⟨a, vs, rfl, q, rr⟩ := h.tupI
    have e2 : setAll is ws r = some r1 := e
    refine ⟨a, vs, rfl, q.sq, by rw [rr.len, setAll_len e2], gNs_ok e2 rr re k⟩
end

/-! ### what a for walks -/
/-- the items ws come one by one -/
def WalkW (K : PySem.W.Frag) (ca : Ca) (io : List Addr) (H : Hp) (J : It) (ws : List W) : Prop :=
  ∃ (G : Hp → Prop) (Y : Nat → Hp → V → Hp → Prop), Walk J ws.length G Y ∧ (∀ io2 H2, Ext io H io2 H2 → G H2) ∧
    ∀ i io2 S2 H2 x H3, Ext io H io2 H2 → Rl0 K ca io2 S2 H2 → Y i H2 x H3 → i < ws.length → ∃ w, ws[i]? = some w ∧ Ext io2 H2 io2 H3 ∧ Rl0 K ca io2 S2 H3 ∧ RV K ca io2 H3 w x
def tI (K : PySem.W.Frag) (ca : Ca) (E : XK) (m : M (List W)) : TI := fun σ H R => ∃ io r S, Rl K ca io r S σ H ∧ Post K ca E io H (fun ws io' H' => ∀ J, WalkW K ca io' H' J ws → R J H') (m r S)
abbrev MI (X : Cx) (ca : Ca) (E : XK) (tg e : Expr) (m : M (List W)) : Prop := PI X tg e (tI X.K ca E m)
def itL (w : W) (S : Sto) : Res (List W) := match w with
  | .lst xs => .ok xs S
  | .scr ns => .ok (ns.map W.int) S
  | _ => .stuck
def itT (w : W) (S : Sto) : Res (List W) := match w with
  | .tup xs => .ok xs S
  | _ => .stuck
def iL (m : M W) : M (List W) := do
  let w ← m
  fun _ S => itL w S
def iT (m : M W) : M (List W) := do
  let w ← m
  fun _ S => itT w S
/-- lo, lo + c, .. -/
def rngW (lo c : Int) (n : Nat) : List W := (List.range n).map fun (i : Nat) => W.int (lo + (i : Int) * c)
def itR1 (ws : List W) (S : Sto) : Res (List W) := match ws with
  | [.int j] => if -(2 ^ 62) ≤ j ∧ j < 2 ^ 62 then .ok (rngW 0 1 j.toNat) S else .stuck
  | _ => .stuck
def itR2 (ws : List W) (S : Sto) : Res (List W) := match ws with
  | [.int i, .int j] => if -(2 ^ 62) ≤ i ∧ i < 2 ^ 62 ∧ -(2 ^ 62) ≤ j ∧ j < 2 ^ 62 then .ok (rngW i 1 (j - i).toNat) S else .stuck
  | _ => .stuck
def itR3 (ws : List W) (S : Sto) : Res (List W) := match ws with
  | [.int i, .int j, .int c] => if c ≠ 0 ∧ c.natAbs < 1073741824 ∧ Builtin.Range.small i j c = true ∧ 0 ≤ Builtin.Range.rangeSize i j c then .ok (rngW i c (Builtin.Range.rangeSize i j c).toNat) S else .stuck
  | _ => .stuck
def iR1 (m : M (List W)) : M (List W) := do
  let ws ← m
  fun _ S => itR1 ws S
def iR2 (m : M (List W)) : M (List W) := do
  let ws ← m
  fun _ S => itR2 ws S
def iR3 (m : M (List W)) : M (List W) := do
  let ws ← m
  fun _ S => itR3 ws S
def enumW (ws : List W) : List W := (List.range ws.length).zipWith (fun (i : Nat) w => W.tup [.int (i : Int), w]) ws
def itE (w : W) (S : Sto) : Res (List W) := match w with
  | .lst xs => .ok (enumW xs) S
  | _ => .stuck
def iE (m : M W) : M (List W) := do
  let w ← m
  fun _ S => itE w S
section
variable {X : Cx} {ca : Ca} {E : XK} {tg e : Expr} {m : M W}
theorem walk_at {K : PySem.W.Frag} {io : List Addr} {H : Hp} {J : It} {ws : List W} {vs : List V} {G : Hp → Prop} (r : RVs K ca io H ws vs) (w : Walk J vs.length G (YAt vs)) (hG : ∀ io2 H2, Ext io H io2 H2 → G H2) : WalkW K ca io H J ws := by
  refine ⟨G, YAt vs, by rw [← r.len]; exact w, hG, fun i io2 S2 H2 x H3 e z y hi => ?_⟩
  obtain ⟨rfl, hx⟩ := y
  obtain ⟨w, h1, h2⟩ := r.getV hx
  exact ⟨w, h1, Ext.refl _ _, z, h2.mono e⟩
theorem mi_list (h : ME X ca E e m) : MI X ca E tg e (iL m) := PI.weak (pi_list h) fun σ H Q h => by
  obtain ⟨io, r, S, l, p⟩ := h
  refine tE_imp (tE_bind l p) fun v H1 ⟨io1, S1, w, e1, l1, rv, p1⟩ => ?_
  unfold itL at p1
  split at p1
  · obtain ⟨a, vs, rfl, q, rr⟩ := rv.lstI
    exact ⟨a, rfl, ⟨vs, q.sq⟩, p1.done l1.z _ (walk_at rr walk_list fun io2 H2 e => .of (e.keep _ _ q.2 q.1))⟩
  · rename_i ns
    obtain ⟨a, rfl, q⟩ := (show ∃ a, v = .ref a ∧ FzS X.K io1 H1 a (ns.map V.int) from rv)
    refine ⟨a, rfl, ⟨_, q.sq⟩, p1.done l1.z _ (walk_at (RVs.of_ints ns) walk_list fun io2 H2 e => ?_)⟩
    rcases q with ⟨q | ⟨o, q⟩, n⟩ | q
    · exact .inl (.inl (e.keep _ _ n q))
    · exact .inl (.inr ⟨o, e.keep _ _ n q⟩)
    · exact .inr q
  · exact p1.elim
theorem mi_tup (h : ME X ca E e m) : MI X ca E tg e (iT m) := PI.weak (pi_tup h) fun σ H Q h => by
  obtain ⟨io, r, S, l, p⟩ := h
  refine tE_imp (tE_bind l p) fun v H1 ⟨io1, S1, w, e1, l1, rv, p1⟩ => ?_
  unfold itT at p1
  split at p1
  · obtain ⟨a, vs, rfl, q, rr⟩ := rv.tupI
    exact ⟨a, rfl, ⟨vs, q.sq⟩, p1.done l1.z _ (walk_at rr walk_tup fun io2 H2 e => .of (e.keep _ _ q.2 q.1))⟩
  · exact p1.elim
theorem rngW_get {lo c : Int} {n i : Nat} (h : i < n) : (rngW lo c n)[i]? = some (.int (lo + (i : Int) * c)) := by
  unfold rngW
  rw [List.getElem?_map, List.getElem?_range h]
  rfl
theorem rngW_len (lo c : Int) (n : Nat) : (rngW lo c n).length = n := by simp [rngW]
theorem walk_rng {K : PySem.W.Frag} {io : List Addr} {H : Hp} {lo : Int} {n : Nat} : WalkW K ca io H (Itr lo n) (rngW lo 1 n) := by
  refine ⟨fun _ => True, YFn fun i => .int (lo + i), by rw [rngW_len]; exact walk_range, fun _ _ _ => trivial, fun i io2 S2 H2 x H3 e z y hi => ?_⟩
  obtain ⟨rfl, rfl⟩ := y
  rw [rngW_len] at hi
  exact ⟨_, rngW_get hi, Ext.refl _ _, z, by rw [Int.mul_one]; rfl⟩
theorem RVs.int1 {K : PySem.W.Frag} {io : List Addr} {H : Hp} {i : Int} {vs : List V} (h : RVs K ca io H [.int i] vs) : vs = [.int i] := by
  obtain ⟨v, rfl, rv⟩ := h.one
  rw [show v = .int i from rv]
theorem RVs.int2 {K : PySem.W.Frag} {io : List Addr} {H : Hp} {i j : Int} {vs : List V} (h : RVs K ca io H [.int i, .int j] vs) : vs = [.int i, .int j] := by
  obtain ⟨v, y, rfl, rv, ry⟩ := h.two
  rw [show v = .int i from rv, show y = .int j from ry]
theorem mi_range1 {a : Expr} {t : M (List W)} {p pos : Pos} (hm : X.mg "range" = none) (ha : MA X ca E [a] t) (hg : Gl X "range" := by rfl) (hs : starEach [a] X.env = [(false, eval a X.env)] := by rfl) : MI X ca E tg (.Call (.Name "range" p) [a] [] pos) (iR1 t) :=
  PI.weak (pi_range1 hg hm ha hs) fun σ H Q h => by
    obtain ⟨io, r, S, l, p⟩ := h
    refine tA_imp (tA_bind l p) fun vs H1 ⟨io1, S1, ws, e1, l1, rvs, p1⟩ => ?_
    unfold itR1 at p1
    split at p1
    · split at p1
      · rename_i h
        exact ⟨_, rvs.int1, h.1, h.2, p1.done l1.z _ walk_rng⟩
      · exact p1.elim
    · exact p1.elim
theorem mi_range2 {a b : Expr} {t : M (List W)} {p pos : Pos} (hm : X.mg "range" = none) (ha : MA X ca E [a, b] t) (hg : Gl X "range" := by rfl) (hs : starEach [a, b] X.env = [(false, eval a X.env), (false, eval b X.env)] := by rfl)
    (hs2 : starEach [b] X.env = [(false, eval b X.env)] := by rfl) : MI X ca E tg (.Call (.Name "range" p) [a, b] [] pos) (iR2 t) :=
  PI.weak (pi_range2 hg hm ha hs hs2) fun σ H Q h => by
    obtain ⟨io, r, S, l, p⟩ := h
    refine tA_imp (tA_bind l p) fun vs H1 ⟨io1, S1, ws, e1, l1, rvs, p1⟩ => ?_
    unfold itR2 at p1
    split at p1
    · split at p1
      · rename_i h
        exact ⟨_, _, rvs.int2, h, p1.done l1.z _ walk_rng⟩
      · exact p1.elim
    · exact p1.elim
end
end SL

set_option Elab.async false
set_option linter.all false
set_option maxRecDepth 100000
set_option maxHeartbeats 2000000
namespace SL
open PySem PySem.Spec PyProof.Rows L2

section
variable {X : Cx} {ca : Ca} {E : XK} {e : Expr} {m : M W}
theorem enumW_get {ws : List W} {i : Nat} {w : W} (h : ws[i]? = some w) : (enumW ws)[i]? = some (.tup [.int (i : Nat), w]) := by
  have hl := (List.getElem?_eq_some_iff.mp h).1
  unfold enumW
  rw [List.getElem?_zipWith, List.getElem?_range hl, h] <;> rfl
theorem enumW_len (ws : List W) : (enumW ws).length = ws.length := by simp [enumW]
theorem mi_enum {a : Expr} {p pos tpos : Pos} {elts : List Expr} {kk : Nat} (hm : X.mg "enumerate" = none) (ha : ME X ca E a m) (hg : Gl X "enumerate" := by rfl) (hs : starEach [a] X.env = [(false, eval a X.env)] := by rfl) :
    MI X ca E (.Tuple elts kk tpos) (.Call (.Name "enumerate" p) [a] [] pos) (iE m) := by
  refine PI.weak (pi_enum hg hm (ma_cons (m := m) ha (ma_nil (ca := ca) (E := E)) hs) hs) fun σ H Q h => ?_
  obtain ⟨io, r, S, l, p⟩ := h
  have p' : Post X.K ca E io H (fun ws io' H' => ∀ J, WalkW X.K ca io' H' J ws → Q J H') ((mCons m mNil >>= fun ws => (fun _ S => match ws with
      | [w] => itE w S
      | _ => .stuck : M (List W))) r S) := by
    have e : (mCons m mNil >>= fun ws => (fun _ S => match ws with
        | [w] => itE w S
        | _ => .stuck : M (List W))) r S = iE m r S := by
      unfold mCons mNil iE
      simp only [bind_def, pure_def]
      cases m r S <;> rfl
    rw [e]
    exact p
  refine tA_imp (tA_bind l p') fun vs H1 ⟨io1, S1, ws, e1, l1, rvs, p1⟩ => ?_
  split at p1
  · rename_i w
    obtain ⟨v, rfl, rv⟩ := rvs.one
    unfold itE at p1
    split at p1
    · rename_i xs
      obtain ⟨a1, us, rfl, q, rr⟩ := rv.lstI
      refine ⟨a1, us, rfl, q.sq, p1.done l1.z _ ?_⟩
      refine ⟨_, _, by rw [enumW_len, ← rr.len]; exact walk_enum, fun io2 H2 e => SqL.of (e.keep _ _ q.2 q.1), fun i io2 S2 H2 x H3 e z y hi => ?_⟩
      obtain ⟨T, x1, y1, rfl, nT, rfl, h1, h2⟩ := y
      obtain ⟨w1, g1, g2⟩ := rr.getV h2
      cases h1
      exact ⟨_, enumW_get g1, ext_new nT, z.new nT, rv_newT z nT (.cons rfl (.cons (g2.mono e) .nil))⟩
    · exact p1.elim
  · exact p1.elim

/-! ### for -/
def sForL (T : Tg) (b : MSt) : List W → MSt
  | [], r, S => .ok (.nx r) S
  | x :: xs, r, S => match T.run x r with
    | none => .stuck
    | some r1 => match b r1 S with
      | .ok (.nx r2) S2 => sForL T b xs r2 S2
      | .ok (.ct r2) S2 => sForL T b xs r2 S2
      | .ok (.bk r2) S2 => .ok (.nx r2) S2
      | .ok (.rt w) S2 => .ok (.rt w) S2
      | .exc c ws S2 => .exc c ws S2
      | .stuck => .stuck
def sFor (T : Tg) (mi : M (List W)) (b : MSt) : MSt := do
  let xs ← mi
  sForL T b xs
abbrev MG (X : Cx) (tg : Expr) (T : Tg) : Prop := PG X tg (T.g X.K)
theorem mg_name (i : Nat) {x : Str} {pos : Pos} (hN : X.N.Nodup) (hi : X.N[i]? = some x := by rfl) (hx : Loc X.env.scope x := by first | exact Or.inl rfl | exact Or.inr rfl) (hf : X.fn x = true ∨ X.env.scope.names.lookup x = some .local := by first | exact .inl rfl | exact .inr rfl | assumption) :
    MG X (.Name x pos) (.n i) := pg_name hN hi hx hf
abbrev MGs (X : Cx) (es : List Expr) (is : List Nat) : Prop := PGs X es (gNs is)
theorem mgs_nil : MGs X [] [] := pgs_nil
theorem mgs_cons {es : List Expr} {is : List Nat} {e : Expr} {i : Nat} (h : PG X e (gName i)) (t : MGs X es is) (hs : (assignEach (e :: es) X.env).map (·.2) = assign e X.env :: (assignEach es X.env).map (·.2) := by rfl) : MGs X (e :: es) (i :: is) := pgs_cons h t hs
theorem mg_tup {es : List Expr} {k : Nat} {is : List Nat} {pos : Pos} (hc : X.calm = true) (h : MGs X es is) (hl : es.length = is.length := by rfl) (hn : (assignEach es X.env).length = es.length := by rfl) (hst : (assignEach es X.env).findIdx? (·.1) = none := by rfl) : MG X (.Tuple es k pos) (.t is) := by
  have := pg_tup (k := k) (pos := pos) (n := es.length) hc h hn hst
  rw [hl] at this
  exact this
theorem for_turn {K : PySem.W.Frag} {T : Tg} {b : MSt} {x : W} {xs : List W} {io : List Addr} {r : Rho} {S : Sto} {H : Hp} {σ : L2.St} {D : Ends} {v : V} {N : L2.St → Hp → Prop}
    (l : Rl K ca io r S σ H) (rv : RV K ca io H x v) (p : Post K ca E io H (RS K ca D) (sForL T b (x :: xs) r S))
    (hN : ∀ io' r' S' σ' H', Ext io H io' H' → Rl K ca io' r' S' σ' H' → Post K ca E io' H' (RS K ca D) (sForL T b xs r' S') → N σ' H') :
    T.g K v σ H fun σ2 H2 => tS K ca E b { D with nx := N, ct := N, bk := D.nx } σ2 H2 := by
  unfold sForL at p
  cases e : T.run x r with
  | none =>
    simp only [e] at p
    exact p.elim
  | some r1 =>
    simp only [e] at p
    refine T.ok e rv l.e fun σ2 re _ => ⟨io, r1, S, ⟨l.z, re⟩, ?_⟩
    cases q : b r1 S with
    | stuck =>
      simp only [q] at p
      exact p
    | exc c ws S2 =>
      simp only [q] at p
      exact p
    | ok f S2 =>
      cases f with
      | nx r2 =>
        simp only [q] at p
        exact fun io' H' e z σ' re' => hN io' r2 S2 σ' H' e ⟨z, re'⟩ (p.mono e)
      | ct r2 =>
        simp only [q] at p
        exact fun io' H' e z σ' re' => hN io' r2 S2 σ' H' e ⟨z, re'⟩ (p.mono e)
      | bk r2 =>
        simp only [q] at p
        exact p
      | rt w =>
        simp only [q] at p
        exact p
theorem ms_for {T : Tg} {tg iter : Expr} {body : List Stmt} {mi : M (List W)} {b : MSt} {pos : Pos} (hp : PassesOwn (model X.prog X.w) X.A X.env X.xe) (hc : X.calm = true) (hi : MI X ca E tg iter mi) (hg : MG X tg T) (hb : MSs X ca E body b)
    (hs : ∀ x, foldedSetIterable iter X.env x = pure x := by intro _; rfl) : MS X ca E (.For tg iter body [] pos) (sFor T mi b) := by
  refine PS.weak (ps_for hp hc hi hg hb hs) fun D σ H h => ?_
  obtain ⟨io, r, S, l, p⟩ := h
  show tI X.K ca E mi σ H _
  have p0 := p
  unfold sFor at p0
  refine ⟨io, r, S, l, ?_⟩
  rw [bind_def] at p0
  cases q : mi r S with
  | stuck =>
    simp only [q] at p0
    exact p0
  | exc c ws S2 =>
    simp only [q] at p0
    exact p0
  | ok xs S1 =>
    simp only [q] at p0
    intro io1 H1 e1 z1 J ⟨G, Y, wk, hG, hY⟩
    have l1 := l.mono e1 z1
    have p1 := p0.mono e1
    refine for_it wk (fun i σ' H' => ∃ io' r' S', Ext io1 H1 io' H' ∧ Rl X.K ca io' r' S' σ' H' ∧ Post X.K ca E io' H' (RS X.K ca D) (sForL T b (xs.drop i) r' S')) ⟨io1, r, S1, Ext.refl _ _, l1, p1⟩ (fun i σ' H' _ ⟨io', r', S', e, _, _⟩ => hG io' H' e) ?_ ?_
    · rintro i x σ' H' H3 hi ⟨io', r', S', e, l', p'⟩ y
      obtain ⟨w, hw, e3, z3, rv⟩ := hY i io' S' H' x H3 e l'.z y hi
      have hd : xs.drop i = w :: xs.drop (i + 1) := by
        rw [List.drop_eq_getElem_cons hi]
        rw [List.getElem?_eq_getElem hi] at hw
        rw [Option.some.inj hw]
      rw [hd] at p'
      exact for_turn (l'.mono e3 z3) rv (p'.mono e3) fun io4 r4 S4 σ4 H4 e4 l4 p4 => ⟨io4, r4, S4, (e.trans e3).trans e4, l4, p4⟩
    · rintro σ' H' ⟨io', r', S', e, l', p'⟩
      rw [List.drop_length] at p'
      exact Post.done p' l'.z _ l'.e

/-! ### while -/
def sWhileN (t : M Bool) (b : MSt) : Nat → MSt
  | 0, _, _ => .stuck
  | n + 1, r, S => match t r S with
    | .ok false S1 => .ok (.nx r) S1
    | .ok true S1 => match b r S1 with
      | .ok (.nx r2) S2 => sWhileN t b n r2 S2
      | .ok (.ct r2) S2 => sWhileN t b n r2 S2
      | .ok (.bk r2) S2 => .ok (.nx r2) S2
      | .ok (.rt w) S2 => .ok (.rt w) S2
      | .exc c ws S2 => .exc c ws S2
      | .stuck => .stuck
    | .exc c ws S1 => .exc c ws S1
    | .stuck => .stuck
open Classical in
/-- as many turns as it takes -/
noncomputable def sWhile (t : M Bool) (b : MSt) : MSt := fun r S => if h : ∃ n, sWhileN t b n r S ≠ .stuck then sWhileN t b h.choose r S else .stuck
theorem ms_while {c : Expr} {body : List Stmt} {t : M Bool} {b : MSt} {pos : Pos} (hp : PassesOwn (model X.prog X.w) X.A X.env X.xe) (hc : MT X ca E c t) (hb : MSs X ca E body b) : MS X ca E (.While c body [] pos) (sWhile t b) := by
  refine PS.weak (ps_while hp hc hb) fun D σ H h => ?_
  obtain ⟨io, r, S, l, p⟩ := h
  unfold sWhile at p
  split at p
  · rename_i hn
    generalize hn.choose = n at p
    refine ⟨fun n σ H => ∃ io r S, Rl X.K ca io r S σ H ∧ Post X.K ca E io H (RS X.K ca D) (sWhileN t b n r S), ⟨n, io, r, S, l, p⟩, ?_⟩
    rintro n σ H ⟨io, r, S, l, p⟩
    cases n with
    | zero => exact p.elim
    | succ n =>
      unfold sWhileN at p
      refine ⟨io, r, S, l, ?_⟩
      cases q : t r S with
      | stuck =>
        simp only [q] at p
        exact p
      | exc c ws S2 =>
        simp only [q] at p
        exact p
      | ok k S1 =>
        intro io1 H1 e1 z1
        have l1 := l.mono e1 z1
        cases k with
        | false =>
          simp only [q] at p
          exact iteF (Post.done (p.mono e1) z1 _ l1.e)
        | true =>
          simp only [q] at p
          refine iteT ⟨fun σ' H' => ∃ io r S, Rl X.K ca io r S σ' H' ∧ Post X.K ca E io H' (RS X.K ca D) (sWhileN t b n r S), fun σ' H' z => ⟨n, Nat.lt_succ_self n, z⟩, io1, r, S1, l1, ?_⟩
          have p1 := p.mono e1
          cases q2 : b r S1 with
          | stuck =>
            simp only [q2] at p1
            exact p1
          | exc c ws S2 =>
            simp only [q2] at p1
            exact p1
          | ok f S2 =>
            cases f with
            | nx r2 =>
              simp only [q2] at p1
              exact fun io' H' e z σ' re' => ⟨io', r2, S2, ⟨z, re'⟩, p1.mono e⟩
            | ct r2 =>
              simp only [q2] at p1
              exact fun io' H' e z σ' re' => ⟨io', r2, S2, ⟨z, re'⟩, p1.mono e⟩
            | bk r2 =>
              simp only [q2] at p1
              exact p1
            | rt w =>
              simp only [q2] at p1
              exact p1
  · exact p.elim
theorem sWhileN_mono {t : M Bool} {b : MSt} : ∀ (n k : Nat) (r : Rho) (S : Sto), sWhileN t b n r S ≠ .stuck → sWhileN t b (n + k) r S = sWhileN t b n r S
  | 0, k, r, S, h => absurd rfl h
  | n + 1, k, r, S, h => by
    have e : n + 1 + k = (n + k) + 1 := by omega
    rw [e]
    unfold sWhileN at h ⊢
    cases q : t r S with
    | stuck => rfl
    | exc c ws S2 => rfl
    | ok x S1 =>
      cases x with
      | false => rfl
      | true =>
        simp only [q] at h ⊢
        cases q2 : b r S1 with
        | stuck => rfl
        | exc c ws S2 => rfl
        | ok f S2 =>
          cases f with
          | nx r2 =>
            simp only [q2] at h ⊢
            exact sWhileN_mono n k r2 S2 h
          | ct r2 =>
            simp only [q2] at h ⊢
            exact sWhileN_mono n k r2 S2 h
          | bk r2 => rfl
          | rt w => rfl
theorem sWhile_is {t : M Bool} {b : MSt} {n : Nat} {r : Rho} {S : Sto} {x : Res Fw} (h : sWhileN t b n r S = x) (hx : x ≠ .stuck) : sWhile t b r S = x := by
  have hn : ∃ n, sWhileN t b n r S ≠ .stuck := ⟨n, by rw [h]; exact hx⟩
  unfold sWhile
  rw [dif_pos hn]
  have h2 := hn.choose_spec
  generalize hn.choose = j at h2 ⊢
  rw [← sWhileN_mono j n r S h2, Nat.add_comm, sWhileN_mono n j r S (by rw [h]; exact hx), h]

/-! ### comprehensions -/
def wipeR (r : Rho) : List Nat → Rho
  | [] => r
  | v :: vs => (wipeR r vs).set v none
def lcTurn (T : Tg) (tt : M Bool) (te : M W) (x : W) (r : Rho) (S : Sto) : Res (Option W) := match T.run x r with
  | none => .stuck
  | some r1 => match tt r1 S with
    | .ok true S1 => match te r1 S1 with
      | .ok w S2 => .ok (some w) S2
      | _ => .stuck
    | .ok false S1 => .ok none S1
    | _ => .stuck
/-- the new list is the store's n-th object -/
def lcGo (T : Tg) (tt : M Bool) (te : M W) (n : Nat) : List W → M Nat
  | [], _, S => .ok n S
  | x :: xs, r, S => match lcTurn T tt te x r S with
    | .ok (some w) S1 => match S1[n]? with
      | some (.lst acc) => if acc.length < 16000000 then lcGo T tt te n xs r (S1.set n (.lst (acc ++ [w]))) else .stuck
      | _ => .stuck
    | .ok none S1 => lcGo T tt te n xs r S1
    | _ => .stuck
def mYes : M Bool := pure true
def lcAll (vs : List Nat) (T : Tg) (mi : M (List W)) (tt : M Bool) (te : M W) : M Nat := fun r S => match mi r S with
  | .ok xs S1 => if T.slots.all vs.contains then lcGo T tt te S1.length xs (wipeR r vs) (S1 ++ [.lst []]) else .stuck
  | .exc c ws S1 => .exc c ws S1
  | .stuck => .stuck
/-- the list may change behind the comprehension -/
def mLcC (vs : List Nat) (T : Tg) (mi : M (List W)) (tt : M Bool) (te : M W) : M W := do
  let n ← lcAll vs T mi tt te
  pure (.loc n)
open Classical in
/-- it stays as it is; within no object was made that changes -/
noncomputable def mLc (vs : List Nat) (T : Tg) (mi : M (List W)) (tt : M Bool) (te : M W) : M W := fun r S => match mi r S with
  | .ok xs S1 => if T.slots.all vs.contains then match lcGo T tt te S1.length xs (wipeR r vs) (S1 ++ [.lst []]) with
      | .ok n S2 => match S2[n]? with
        | some (.lst acc) => if S2.length = n + 1 ∧ clos n acc = true ∧ Kept S1 S2 then .ok (.lst acc) (S2.take n) else .stuck
        | _ => .stuck
      | _ => .stuck
    else .stuck
  | .exc c ws S1 => .exc c ws S1
  | .stuck => .stuck
theorem RE.wipe {K : PySem.W.Frag} {io : List Addr} {r : Rho} {σ : L2.St} {H : Hp} (h : RE K ca io H r σ) : ∀ vs, RE K ca io H (wipeR r vs) (L2.wipe σ vs)
  | [] => h
  | v :: vs => (RE.wipe h vs).del
theorem wipe_wipe (σ : L2.St) (vs : List Nat) : wipe (wipe σ vs) vs = wipe σ vs := by
  refine List.ext_getElem? fun j => ?_
  rw [wipe_get, wipe_get]
  by_cases hm : j ∈ vs
  · rw [if_pos hm, if_pos hm]
    cases σ[j]? <;> rfl
  · rw [if_neg hm]
/-- what is wanted of a run of turns -/
def PostL (K : PySem.W.Frag) (ca : Ca) (io : List Addr) (H : Hp) (R : List Addr → Sto → Hp → Prop) : Res Nat → Prop
  | .ok _ S' => ∀ io' H', Ext io H io' H' → Rl0 K ca io' S' H' → R io' S' H'
  | _ => False
theorem PostL.mono {K : PySem.W.Frag} {io io' : List Addr} {H H' : Hp} {R : List Addr → Sto → Hp → Prop} {r : Res Nat} (e : Ext io H io' H') (h : PostL K ca io H R r) : PostL K ca io' H' R r := by
  cases r with
  | ok a S => exact fun io2 H2 f z => h io2 H2 (e.trans f) z
  | exc c ws S => exact h
  | stuck => exact h
theorem lc_turn {K : PySem.W.Frag} {T : Tg} {tt : M Bool} {te : M W} {n : Nat} {x : W} {xs : List W} {io : List Addr} {r : Rho} {S : Sto} {H : Hp} {σ : L2.St} {v : V} {vs : List Nat} {R : List Addr → Sto → Hp → Prop} {Dd : Addr} {N : Hp → Prop}
    (z : Rl0 K ca io S H) (re : RE K ca io H (wipeR r vs) (wipe σ vs)) (rv : RV K ca io H x v) (hs : T.slots.all vs.contains = true) (p : PostL K ca io H R (lcGo T tt te n (x :: xs) (wipeR r vs) S)) (hD : io[n]? = some Dd)
    (hN : ∀ io' S' H', Ext io H io' H' → Rl0 K ca io' S' H' → PostL K ca io' H' R (lcGo T tt te n xs (wipeR r vs) S') → N H') :
    T.g K v (wipe σ vs) H fun σ2 H2 => wipe σ2 vs = wipe σ vs ∧ tT K ca (fun _ _ _ => False) tt σ2 H2 fun b H3 =>
      if b = true then tE K ca (fun _ _ _ => False) te σ2 H3 fun y H4 => ∃ acc, H4 Dd = some (.lst acc) ∧ acc.length < sizeLine ∧ N (upd H4 Dd (.lst (acc ++ [y]))) else N H3 := by
  unfold lcGo lcTurn at p
  cases e : T.run x (wipeR r vs) with
  | none =>
    simp only [e] at p
    exact p.elim
  | some r1 =>
    simp only [e] at p
    refine T.ok e rv re fun σ2 re2 hw => ⟨?_, io, r1, S, ⟨z, re2⟩, ?_⟩
    · rw [hw vs fun i hi => by simpa using List.all_eq_true.mp hs i hi, wipe_wipe]
    · cases q : tt r1 S with
      | stuck =>
        simp only [q] at p
        exact p.elim
      | exc c ws S2 =>
        simp only [q] at p
        exact p.elim
      | ok k S1 =>
        intro io1 H1 e1 z1
        cases k with
        | false =>
          simp only [q] at p
          exact iteF (hN io1 S1 H1 e1 z1 (p.mono e1))
        | true =>
          simp only [q] at p
          refine iteT ⟨io1, r1, S1, ⟨z1, re2.mono e1⟩, ?_⟩
          cases q2 : te r1 S1 with
          | stuck =>
            simp only [q2] at p
            exact p.elim
          | exc c ws S2 =>
            simp only [q2] at p
            exact p.elim
          | ok w S2 =>
            simp only [q2] at p
            intro io2 H2 e2 z2 y ry
            have ee := e1.trans e2
            have hD2 := ee.get hD
            cases q3 : S2[n]? with
            | none =>
              simp only [q3] at p
              exact p.elim
            | some c =>
              cases c <;> simp only [q3] at p <;> first | exact p.elim | skip
              rename_i acc
              obtain ⟨a2, g1, us, g2, g3⟩ := z2.at q3
              rw [hD2] at g1
              cases g1
              split at p
              · rename_i hl
                refine ⟨us, g2, by rw [g3.len]; exact lim_lt hl, ?_⟩
                have e3 : Ext io2 H2 io2 (upd H2 Dd (.lst (us ++ [y]))) := ext_put hD2 g2
                refine hN io2 _ _ (ee.trans e3) (z2.put hD2 g2 (c := .lst (acc ++ [w])) ⟨us ++ [y], upd_same, (g3.app (.cons ry .nil)).mono e3⟩) (p.mono (ee.trans e3))
              · exact p.elim
section
variable {elt tg iter : Expr} {ifs : List Expr} {scope : Scope} {own : List (Str × Nat)} {pos : Pos} {T : Tg} {mi : M (List W)} {tt : M Bool} {te : M W}
/-- the reading of a comprehension: all its turns -/
theorem lc_imp {K : PySem.W.Frag} {vs : List Nat} {io : List Addr} {r : Rho} {S : Sto} {σ : L2.St} {H : Hp} {Q : VK} {R : W → List Addr → Hp → Prop} {f : Sto → Sto → Res W} (l : Rl K ca io r S σ H)
    (p : Post K ca E io H R (match mi r S with
      | .ok xs S1 => if T.slots.all vs.contains then match lcGo T tt te S1.length xs (wipeR r vs) (S1 ++ [.lst []]) with
          | .ok n S2 => f S1 S2
          | _ => .stuck
        else .stuck
      | .exc c ws S1 => .exc c ws S1
      | .stuck => .stuck))
    (hf : ∀ io1 S1 H1 Dd io' S2 H2, Rl0 K ca io1 S1 H1 → H1 Dd = none → Ext io H io1 H1 → Ext (io1 ++ [Dd]) (upd H1 Dd (.lst [])) io' H2 → Rl0 K ca io' S2 H2 → Post K ca E io1 H1 R (f S1 S2) → Q (.ref Dd) H2) :
    tLc (tI K ca E mi) (T.g K) (tT K ca (fun _ _ _ => False) tt) (tE K ca (fun _ _ _ => False) te) vs σ H Q := by
  refine ⟨io, r, S, l, ?_⟩
  cases q : mi r S with
  | stuck =>
    simp only [q] at p
    exact p.elim
  | exc c ws S2 =>
    simp only [q] at p
    exact p
  | ok xs S1 =>
    simp only [q] at p
    intro io1 H1 e1 z1 J ⟨G, Y, wk, hG, hY⟩ Dd nD
    have p1 := p.mono e1
    have l1 := l.mono e1 z1
    split at p1
    · rename_i hs
      have e2 : Ext io1 H1 (io1 ++ [Dd]) (upd H1 Dd (.lst [])) := ext_cell nD
      have z2 : Rl0 K ca (io1 ++ [Dd]) (S1 ++ [.lst []]) (upd H1 Dd (.lst [])) := z1.cell nD ⟨[], upd_same, .nil⟩
      have hn : (io1 ++ [Dd])[S1.length]? = some Dd := by
        rw [List.getElem?_append_right (by rw [z1.len]; exact Nat.le_refl _), z1.len, Nat.sub_self]
        rfl
      have p2 : PostL K ca (io1 ++ [Dd]) (upd H1 Dd (.lst [])) (fun io' S2 H2 => Post K ca E io1 H1 R (f S1 S2)) (lcGo T tt te S1.length xs (wipeR r vs) (S1 ++ [.lst []])) := by
        cases g : lcGo T tt te S1.length xs (wipeR r vs) (S1 ++ [.lst []]) with
        | ok n S2 =>
          simp only [g] at p1
          exact fun _ _ _ _ => p1
        | exc c ws S2 =>
          simp only [g] at p1
          exact p1
        | stuck =>
          simp only [g] at p1
          exact p1
      refine lc_it wk (fun i H' => ∃ io' S', Ext (io1 ++ [Dd]) (upd H1 Dd (.lst [])) io' H' ∧ Rl0 K ca io' S' H' ∧ PostL K ca io' H' (fun io' S2 H2 => Post K ca E io1 H1 R (f S1 S2)) (lcGo T tt te S1.length (xs.drop i) (wipeR r vs) S'))
        ⟨_, _, Ext.refl _ _, z2, p2⟩ (fun i H' _ ⟨io', S', e, _, _⟩ => hG io' H' (e2.trans e)) ?_ ?_
      · rintro i x H' H3 hi ⟨io', S', e, z', p'⟩ y
        obtain ⟨w, hw, e3, z3, rv⟩ := hY i io' S' H' x H3 (e2.trans e) z' y hi
        have hd : xs.drop i = w :: xs.drop (i + 1) := by
          rw [List.drop_eq_getElem_cons hi]
          rw [List.getElem?_eq_getElem hi] at hw
          rw [Option.some.inj hw]
        rw [hd] at p'
        have re := ((l1.e.mono e2).mono (e.trans e3)).wipe vs
        exact lc_turn z3 re rv hs (p'.mono e3) (e.trans e3 |>.get hn) fun io4 S4 H4 e4 z4 p4 => ⟨io4, S4, (e.trans e3).trans e4, z4, p4⟩
      · rintro H' ⟨io', S', e, z', p'⟩
        rw [List.drop_length] at p'
        exact hf io1 S1 H1 Dd io' S' H' z1 nD e1 e z' (p' io' H' (Ext.refl _ _) z')
    · exact p1.elim
theorem lcC_imp {K : PySem.W.Frag} {vs : List Nat} {σ : L2.St} {H : Hp} {Q : VK} (h : tE K ca E (mLcC vs T mi tt te) σ H Q) : tLc (tI K ca E mi) (T.g K) (tT K ca (fun _ _ _ => False) tt) (tE K ca (fun _ _ _ => False) te) vs σ H Q := by
  obtain ⟨io, r, S, l, p⟩ := h
  refine lc_imp (f := fun S1 S2 => .ok (.loc S1.length) S2) (R := fun w io' H' => ∀ v, RV K ca io' H' w v → Q v H') l ?_ ?_
  · have e : ∀ n xs r S, ∀ k S2, lcGo T tt te n xs r S = .ok k S2 → k = n := by
      intro n xs
      induction xs with
      | nil =>
        intro r S k S2 h
        cases h
        rfl
      | cons x xs ih =>
        intro r S k S2 h
        unfold lcGo at h
        split at h
        · split at h
          · split at h
            · exact ih _ _ _ _ h
            · cases h
          · cases h
        · exact ih _ _ _ _ h
        · cases h
    unfold mLcC lcAll at p
    rw [bind_def] at p
    cases q : mi r S with
    | stuck =>
      simp only [q] at p ⊢
      exact p
    | exc c ws S2 =>
      simp only [q] at p ⊢
      exact p
    | ok xs S1 =>
      simp only [q] at p ⊢
      by_cases hs : T.slots.all vs.contains = true
      · rw [if_pos hs] at p ⊢
        cases g : lcGo T tt te S1.length xs (wipeR r vs) (S1 ++ [.lst []]) with
        | ok n S2 =>
          have := e _ _ _ _ _ _ g
          subst this
          simp only [g] at p ⊢
          exact p
        | exc c ws S2 =>
          exfalso
          have : ∀ n xs r S, ∀ c ws S2, lcGo T tt te n xs r S ≠ .exc c ws S2 := by
            intro n xs
            induction xs with
            | nil => intro r S c ws S2 h; cases h
            | cons x xs ih =>
              intro r S c ws S2 h
              unfold lcGo at h
              split at h
              · split at h
                · split at h
                  · exact ih _ _ _ _ _ h
                  · cases h
                · cases h
              · exact ih _ _ _ _ _ h
              · cases h
          exact this _ _ _ _ _ _ _ g
        | stuck =>
          simp only [g] at p ⊢
          exact p
      · rw [if_neg hs] at p ⊢
        exact p
  · intro io1 S1 H1 Dd io' S2 H2 z1 nD e1 e z' p'
    refine p' io' H2 ((ext_cell nD).trans e) z' _ ⟨Dd, rfl, e.get ?_⟩
    rw [List.getElem?_append_right (by rw [z1.len]; exact Nat.le_refl _), z1.len, Nat.sub_self]
    rfl
theorem lcF_imp {K : PySem.W.Frag} {vs : List Nat} {σ : L2.St} {H : Hp} {Q : VK} (h : tE K ca E (mLc vs T mi tt te) σ H Q) : tLc (tI K ca E mi) (T.g K) (tT K ca (fun _ _ _ => False) tt) (tE K ca (fun _ _ _ => False) te) vs σ H Q := by
  obtain ⟨io, r, S, l, p⟩ := h
  have key : ∀ n xs r S, ∀ k S2, lcGo T tt te n xs r S = .ok k S2 → k = n := by
    intro n xs
    induction xs with
    | nil =>
      intro r S k S2 h
      cases h
      rfl
    | cons x xs ih =>
      intro r S k S2 h
      unfold lcGo at h
      split at h
      · split at h
        · split at h
          · exact ih _ _ _ _ h
          · cases h
        · cases h
      · exact ih _ _ _ _ h
      · cases h
  unfold mLc at p
  cases q : mi r S with
  | stuck =>
    simp only [q] at p
    exact p.elim
  | exc c ws S2 =>
    simp only [q] at p
    refine lc_imp (E := E) (f := fun _ _ => .stuck) (R := fun w io' H' => ∀ v, RV K ca io' H' w v → Q v H') l (by simp only [q]; exact p) fun _ _ _ _ _ _ _ _ _ _ _ _ p' => p'.elim
  | ok xs S1 =>
    simp only [q] at p
    classical
    refine lc_imp (f := fun S1 S2 => match S2[S1.length]? with
        | some (.lst acc) => if S2.length = S1.length + 1 ∧ clos S1.length acc = true ∧ Kept S1 S2 then .ok (.lst acc) (S2.take S1.length) else .stuck
        | _ => .stuck) (R := fun w io' H' => (∀ v, RV K ca io' H' w v → Q v H')) l ?_ ?_
    · simp only [q]
      by_cases hs : T.slots.all vs.contains = true
      · rw [if_pos hs] at p ⊢
        cases g : lcGo T tt te S1.length xs (wipeR r vs) (S1 ++ [.lst []]) with
        | ok n S2 =>
          have := key _ _ _ _ _ _ g
          subst this
          simp only [g] at p ⊢
          exact p
        | exc c ws S2 =>
          simp only [g] at p
          exact p.elim
        | stuck =>
          simp only [g] at p
          exact p.elim
      · rw [if_neg hs] at p
        exact p.elim
    · intro io1 S1 H1 Dd io' S2 H2 z1 nD e1 e z' p'
      have hn : (io1 ++ [Dd])[S1.length]? = some Dd := by
        rw [List.getElem?_append_right (by rw [z1.len]; exact Nat.le_refl _), z1.len, Nat.sub_self]
        rfl
      split at p'
      · rename_i acc g
        split at p'
        · rename_i hk
          obtain ⟨k1, k2, k3⟩ := hk
          obtain ⟨t, rfl, ht⟩ := e.pre
          have ln := z'.len
          rw [k1] at ln
          simp only [List.length_append, List.length_singleton, z1.len] at ln
          have ht0 : t = [] := List.length_eq_zero_iff.mp (by omega)
          subst ht0
          rw [List.append_nil] at z' e
          obtain ⟨a, g1, us, g2, g3⟩ := z'.at g
          rw [hn] at g1
          cases g1
          rw [← z1.len] at k2
          refine p' io1 H2 ⟨⟨[], by simp, by simp⟩, fun a o na q d => ?_, fun a o q => ?_⟩ (z1.shrink z' k3) _ ⟨Dd, us, rfl, ⟨g2, z1.free nD⟩, g3.shrink k2⟩
          · have ne := ne_of_none q nD
            refine e.kp a o (fun m => ?_) (by rw [upd_ne ne]; exact q) d
            rcases List.mem_append.mp m with m | m
            · exact na m
            · exact ne (List.mem_singleton.mp m)
          · exact e.dom a o (by rw [upd_ne (ne_of_none q nD)]; exact q)
        · exact p'.elim
      · exact p'.elim
/-- [e for x in ..] as a value: it stays as it is | it may change -/
theorem me_lc (vs : List Nat) (hc : X.calm = true) (hN : X.N.Nodup) (hi : MI X ca E tg iter mi) (ok : BlkOk X.N X.env.scope scope own) (hv : own.map (·.2) = vs)
    (hg : ∀ (s : Shared) (H : Hp) (C : Addr) (cl : List (Str × Addr)) (fp : List Addr), MG (X.blk s H scope (compEnvC scope cl C X.env) fp) tg T) (ht : ∀ (s : Shared) (H : Hp) (C : Addr) (cl : List (Str × Addr)) (fp : List Addr), PTs (X.blk s H scope (compEnvC scope cl C X.env) fp) ifs (tT X.K ca (fun _ _ _ => False) tt))
    (he : ∀ (s : Shared) (H : Hp) (C : Addr) (cl : List (Str × Addr)) (fp : List Addr), ME (X.blk s H scope (compEnvC scope cl C X.env) fp) ca (fun _ _ _ => False) elt te) (hs : ∀ x, foldedSetIterable iter X.env x = pure x := by intro _; rfl) :
    ME X ca E (.ListComp elt [⟨tg, iter, ifs, 0⟩] scope pos) (mLc vs T mi tt te) := by
  subst hv
  exact PE.weak (pe_lc hc hN hi ok hg ht he hs) fun σ H Q h => lcF_imp h
theorem me_lcC (vs : List Nat) (hc : X.calm = true) (hN : X.N.Nodup) (hi : MI X ca E tg iter mi) (ok : BlkOk X.N X.env.scope scope own) (hv : own.map (·.2) = vs)
    (hg : ∀ (s : Shared) (H : Hp) (C : Addr) (cl : List (Str × Addr)) (fp : List Addr), MG (X.blk s H scope (compEnvC scope cl C X.env) fp) tg T) (ht : ∀ (s : Shared) (H : Hp) (C : Addr) (cl : List (Str × Addr)) (fp : List Addr), PTs (X.blk s H scope (compEnvC scope cl C X.env) fp) ifs (tT X.K ca (fun _ _ _ => False) tt))
    (he : ∀ (s : Shared) (H : Hp) (C : Addr) (cl : List (Str × Addr)) (fp : List Addr), ME (X.blk s H scope (compEnvC scope cl C X.env) fp) ca (fun _ _ _ => False) elt te) (hs : ∀ x, foldedSetIterable iter X.env x = pure x := by intro _; rfl) :
    ME X ca E (.ListComp elt [⟨tg, iter, ifs, 0⟩] scope pos) (mLcC vs T mi tt te) := by
  subst hv
  exact PE.weak (pe_lc hc hN hi ok hg ht he hs) fun σ H Q h => lcC_imp h
/-- y = [e for x in ..] -/
theorem ms_setLc (i : Nat) (vs : List Nat) {y : Str} {py spos : Pos} (hc : X.calm = true) (hN : X.N.Nodup) (hi : MI X ca E tg iter mi) (ok : BlkOk X.N X.env.scope scope own) (hv : own.map (·.2) = vs)
    (hg : ∀ (s : Shared) (H : Hp) (C : Addr) (cl : List (Str × Addr)) (fp : List Addr), MG (X.blk s H scope (compEnvC scope cl C X.env) fp) tg T) (ht : ∀ (s : Shared) (H : Hp) (C : Addr) (cl : List (Str × Addr)) (fp : List Addr), PTs (X.blk s H scope (compEnvC scope cl C X.env) fp) ifs (tT X.K ca (fun _ _ _ => False) tt))
    (he : ∀ (s : Shared) (H : Hp) (C : Addr) (cl : List (Str × Addr)) (fp : List Addr), ME (X.blk s H scope (compEnvC scope cl C X.env) fp) ca (fun _ _ _ => False) elt te)
    (hy : X.N[i]? = some y := by rfl) (hyl : X.env.scope.names.lookup y = some .local := by rfl) (hsw : swapsWith (.ListComp elt [⟨tg, iter, ifs, 0⟩] scope pos) (some (.Name y py)) spos.line X.env = pure true := by exact sw_true rfl rfl rfl (by decide +kernel)) (hs : ∀ x, foldedSetIterable iter X.env x = pure x := by intro _; rfl) :
    MS X ca E (.Assign [.Name y py] (.ListComp elt [⟨tg, iter, ifs, 0⟩] scope pos) spos) (sSet i (mLc vs T mi tt te)) := by
  subst hv
  refine PS.weak (ps_setLc (i := i) (g := T.g X.K) (te := tE X.K ca (fun _ _ _ => False) te) hc hN hy hyl hsw hi ok hg ht he hs) fun D σ H h => ?_
  obtain ⟨io, r, S, l, p⟩ := h
  exact lcF_imp (tE_imp (tE_bind l p) fun v H1 ⟨io1, S1, w, e1, l1, rv, p1⟩ => Post.done p1 l1.z _ (l1.e.set rv))
theorem ms_setLcC (i : Nat) (vs : List Nat) {y : Str} {py spos : Pos} (hc : X.calm = true) (hN : X.N.Nodup) (hi : MI X ca E tg iter mi) (ok : BlkOk X.N X.env.scope scope own) (hv : own.map (·.2) = vs)
    (hg : ∀ (s : Shared) (H : Hp) (C : Addr) (cl : List (Str × Addr)) (fp : List Addr), MG (X.blk s H scope (compEnvC scope cl C X.env) fp) tg T) (ht : ∀ (s : Shared) (H : Hp) (C : Addr) (cl : List (Str × Addr)) (fp : List Addr), PTs (X.blk s H scope (compEnvC scope cl C X.env) fp) ifs (tT X.K ca (fun _ _ _ => False) tt))
    (he : ∀ (s : Shared) (H : Hp) (C : Addr) (cl : List (Str × Addr)) (fp : List Addr), ME (X.blk s H scope (compEnvC scope cl C X.env) fp) ca (fun _ _ _ => False) elt te)
    (hy : X.N[i]? = some y := by rfl) (hyl : X.env.scope.names.lookup y = some .local := by rfl) (hsw : swapsWith (.ListComp elt [⟨tg, iter, ifs, 0⟩] scope pos) (some (.Name y py)) spos.line X.env = pure true := by exact sw_true rfl rfl rfl (by decide +kernel)) (hs : ∀ x, foldedSetIterable iter X.env x = pure x := by intro _; rfl) :
    MS X ca E (.Assign [.Name y py] (.ListComp elt [⟨tg, iter, ifs, 0⟩] scope pos) spos) (sSet i (mLcC vs T mi tt te)) := by
  subst hv
  refine PS.weak (ps_setLc (i := i) (g := T.g X.K) (te := tE X.K ca (fun _ _ _ => False) te) hc hN hy hyl hsw hi ok hg ht he hs) fun D σ H h => ?_
  obtain ⟨io, r, S, l, p⟩ := h
  exact lcC_imp (tE_imp (tE_bind l p) fun v H1 ⟨io1, S1, w, e1, l1, rv, p1⟩ => Post.done p1 l1.z _ (l1.e.set rv))
theorem mts_nil {X : Cx} {ca : Ca} {E : XK} : PTs X [] (tT X.K ca E mYes) := ⟨fun pins s σ H Q I h => by
  obtain ⟨io, r, S, l, p⟩ := h
  exact pts_nil.run pins s σ H Q I (p.done l.z)⟩
theorem mts_one {X : Cx} {ca : Ca} {E : XK} {c : Expr} {t : M Bool} (h : MT X ca E c t) : PTs X [c] (tT X.K ca E t) := pts_one h
end
end
end SL

set_option Elab.async false
set_option linter.all false
set_option maxRecDepth 100000
set_option maxHeartbeats 2000000
namespace SL
open PySem PySem.Spec PyProof.Rows L2

section
variable {X : Cx} {ca : Ca} {E : XK}
/-! ### methods of built-in types -/
def recvOk (T : String) (S : Sto) (w : W) : Bool := match w with
  | .str _ => decide (T = "str")
  | .dct _ _ => decide (T = "dict")
  | .lst _ => decide (T = "list")
  | .ktup _ => decide (T = "tuple")
  | .loc n => match S[n]? with
    | some (.lst _) => decide (T = "list")
    | some (.dk _ _) => decide (T = "dict")
    | some (.dt _ _) => decide (T = "dict")
    | _ => false
  | _ => false
theorem recv_ok {K : PySem.W.Frag} {io : List Addr} {S : Sto} {H : Hp} (z : Rl0 K ca io S H) {T : String} {w : W} {v : V} (h : RV K ca io H w v) (g : recvOk T S w = true) : tyV K T v H := by
  cases w <;> first | (simp [recvOk] at g; done) | skip
  · cases (show v = _ from h)
    exact (of_decide_eq_true (show decide (T = "str") = true from g) : T = "str")
  · rename_i n
    obtain ⟨a, rfl, q⟩ := h.locI
    unfold recvOk at g
    cases e : S[n]? with
    | none => simp [e] at g
    | some c =>
      obtain ⟨a2, q2, rc⟩ := z.at e
      rw [q] at q2
      cases q2
      cases c with
      | lst xs =>
        simp only [e] at g
        obtain ⟨vs, h1, _⟩ := rc
        exact .inl ⟨of_decide_eq_true g, vs, .of h1⟩
      | ins c xs => simp [e] at g
      | dk ks xs =>
        simp only [e] at g
        obtain ⟨vs, h1, _⟩ := rc
        exact .inr (.inr (.inl ⟨of_decide_eq_true g, .inl ⟨_, h1⟩⟩))
      | dt ks xs =>
        simp only [e] at g
        obtain ⟨vs, h1, _⟩ := rc
        exact .inr (.inr (.inl ⟨of_decide_eq_true g, .inr ⟨_, h1⟩⟩))
  · obtain ⟨a, vs, rfl, q, r⟩ := h.lstI
    exact .inl ⟨of_decide_eq_true g, vs, q.sq⟩
  · rename_i ks xs
    obtain ⟨a, vs, rfl, q, n, l, r⟩ := (show ∃ a vs, v = .ref a ∧ H a = some (.dK (ks.zip vs)) ∧ a ∉ io ∧ vs.length = ks.length ∧ RVs K ca io H xs vs from h)
    exact .inr (.inr (.inl ⟨of_decide_eq_true g, .inl ⟨_, q⟩⟩))
  · obtain ⟨a, vs, rfl, q, r⟩ := (show ∃ a vs, v = .ref a ∧ WrT K a vs ∧ RVs K ca io H _ vs from h)
    obtain ⟨o, its, n, h1, h2, h3, h4, h5, h6⟩ := q
    exact .inr (.inl ⟨of_decide_eq_true g, o, h1, h2, h6⟩)
def mBm (T : String) (fm : FnM) (o : M W) (t : M (List W)) : M W := do
  let w ← o
  let w' ← (fun _ S => if recvOk T S w then .ok w S else .stuck : M W)
  let ws ← t
  fun _ S => fm (w' :: ws) S
def MtS (X : Cx) (ca : Ca) (E : XK) (id : String) (fm : FnM) : Prop := MtR X id (fun x xs H Q => spM X.K ca fm (x :: xs) H Q E)
theorem bm_imp {K : PySem.W.Frag} {T : String} {fm : FnM} {mo : M W} {t : M (List W)} {σ : L2.St} {H : Hp} {Q : VK} (h : tE K ca E (mBm T fm mo t) σ H Q) : tBM K T (fun x xs H Q => spM K ca fm (x :: xs) H Q E) (tE K ca E mo) (tA K ca E t) σ H Q := by
  obtain ⟨io, r, S, l, p⟩ := h
  refine tE_imp (tE_bind l p) fun v H1 ⟨io1, S1, w, e1, l1, rv, p1⟩ => ?_
  rw [bind_def] at p1
  by_cases g : recvOk T S1 w = true
  · simp only [g, if_true] at p1
    exact ⟨recv_ok l1.z rv g, tA_imp (tA_bind l1 p1) fun vs H2 ⟨io2, S2, ws, e2, l2, rvs, p2⟩ => ⟨io2, w :: ws, S2, l2.z, .cons (rv.mono e2) rvs, p2⟩⟩
  · simp only [g] at p1
    exact False.elim p1
section
variable {o e : Expr} {es : List Expr} {mo : M W} {t : M (List W)} {name : Str} {apos cpos : Pos} {T id : String} {fm : FnM}
theorem me_bm (pa : PlainAttrs T) (slot : Slot T name id) (hty : typeOf (.builtin id) = pure (.type "method_descriptor")) (hm : MtS X ca E id fm) (ho : ME X ca E o mo) (ha : MA X ca E (e :: es) t)
    (hbase : attributeBase o name X.env (eval o X.env) = eval o X.env := by rfl)
    (hfew : ((backTo cpos (starEach (e :: es) X.env)).all (fun x => !x.1) && (backToKw cpos (keywordEach [] X.env)).all (fun x => x.1.isSome)
      && decide ((e :: es).length + ([] : List Keyword).length + (if ([] : List Keyword).isEmpty then 0 else 1) < 30)) = true := by rfl)
    (hline : (apos.endLine == cpos.line) = true := by rfl) (hs : starEach (e :: es) X.env = (false, eval e X.env) :: starEach es X.env := by rfl) (hplain : (backTo cpos (starEach es X.env)).any (·.1) = false := by rfl) :
    ME X ca E (.Call (.Attribute o name apos) (e :: es) [] cpos) (mBm T fm mo t) := PE.weak (pe_bm pa slot hty hm ho ha hbase hfew hline hs hplain) fun σ H Q h => bm_imp h
theorem me_bm0 (pa : PlainAttrs T) (slot : Slot T name id) (hty : typeOf (.builtin id) = pure (.type "method_descriptor")) (hm : MtS X ca E id fm) (ho : ME X ca E o mo)
    (hbase : attributeBase o name X.env (eval o X.env) = eval o X.env := by rfl) (hline : (apos.endLine == cpos.line) = true := by rfl) : ME X ca E (.Call (.Attribute o name apos) [] [] cpos) (mBm T fm mo mNil) :=
  PE.weak (pe_bm0 pa slot hty hm ho hbase hline) fun σ H Q h => by
    have h2 := bm_imp h
    exact tE_imp h2 fun v H1 ⟨ty, io, r, S, l, p⟩ => ⟨ty, p.done l.z [] .nil⟩
end
/-- the cell that w names -/
def cellL (S : Sto) (w : W) : Option (Nat × List W) := match w with
  | .loc n => match S[n]? with
    | some (.lst xs) => some (n, xs)
    | _ => none
  | _ => none
theorem cellL_ok {K : PySem.W.Frag} {io : List Addr} {S : Sto} {H : Hp} (z : Rl0 K ca io S H) {w : W} {v : V} {n : Nat} {xs : List W} (h : RV K ca io H w v) (g : cellL S w = some (n, xs)) : ∃ a vs, v = .ref a ∧ io[n]? = some a ∧ H a = some (.lst vs) ∧ RVs K ca io H xs vs := by
  cases w <;> first | (simp [cellL] at g; done) | skip
  rename_i m
  obtain ⟨a, rfl, q⟩ := h.locI
  unfold cellL at g
  cases e : S[m]? with
  | none => simp [e] at g
  | some c =>
    cases c <;> simp [e] at g
    obtain ⟨rfl, rfl⟩ := g
    obtain ⟨a2, q2, vs, h1, h2⟩ := z.at e
    rw [q] at q2
    cases q2
    exact ⟨a, vs, rfl, q, h1, h2⟩
theorem cell_put {K : PySem.W.Frag} {io : List Addr} {S : Sto} {H : Hp} {n : Nat} {a : Addr} {vs us : List V} {ys : List W} {α : Type} {R : α → List Addr → Hp → Prop} {x : α} (z : Rl0 K ca io S H) (q : io[n]? = some a) (h1 : H a = some (.lst vs)) (h2 : RVs K ca io H ys us)
    (p : Post K ca E io H R (.ok x (S.set n (.lst ys)))) : R x io (upd H a (.lst us)) := by
  have e : Ext io H io (upd H a (.lst us)) := ext_put q h1
  exact p io _ e (z.put q h1 ⟨us, upd_same, h2.mono e⟩)
def fAppend : FnM := fun ws S => match ws with
  | [w, x] => match cellL S w with
    | some (n, xs) => if xs.length < 16000000 then .ok .non (S.set n (.lst (xs ++ [x]))) else .stuck
    | none => .stuck
  | _ => .stuck
theorem fm_append : MtS X ca E "list.append" fAppend := by
  intro pins s σ H x xs v us Q I rx rs h
  obtain ⟨io, ws, S, z, rvs, p⟩ := h
  unfold fAppend at p
  split at p
  · obtain ⟨v1, v2, e, r1, r2⟩ := rvs.two
    cases e
    split at p
    · rename_i n ys g
      obtain ⟨a, vs, rfl, q, h1, h2⟩ := cellL_ok z r1 g
      split at p
      · rename_i hl
        rw [← h2.len] at hl
        exact mt_append pins s σ H _ _ v us Q I rx rs ⟨a, vs, _, rfl, rfl, h1, lim_lt hl, cell_put z q h1 (h2.app (.cons r2 .nil)) p _ rfl⟩
      · exact p.elim
    · exact p.elim
  · exact p.elim
def fExtend : FnM := fun ws S => match ws with
  | [w, x] => match cellL S w, getL S x with
    | some (n, xs), some ys => if xs.length + ys.length < 16000000 then .ok .non (S.set n (.lst (xs ++ ys))) else .stuck
    | _, _ => .stuck
  | _ => .stuck
theorem fm_extend : MtS X ca E "list.extend" fExtend := by
  intro pins s σ H x xs v us Q I rx rs h
  obtain ⟨io, ws, S, z, rvs, p⟩ := h
  unfold fExtend at p
  split at p
  · obtain ⟨v1, v2, e, r1, r2⟩ := rvs.two
    cases e
    split at p
    · rename_i n ys zs g g2
      obtain ⟨a, vs, rfl, q, h1, h2⟩ := cellL_ok z r1 g
      obtain ⟨b, bs, rfl, h3, h4⟩ := getL_ok z r2 g2
      split at p
      · rename_i hl
        rw [← h2.len, ← h4.len] at hl
        exact mt_extend pins s σ H _ _ v us Q I rx rs ⟨a, b, vs, bs, rfl, rfl, h1, h3, lim_le (Nat.le_of_lt hl), cell_put z q h1 (h2.app h4) p _ rfl⟩
      · exact p.elim
    · exact p.elim
  · exact p.elim
def fPop : FnM := fun ws S => match ws with
  | [w] => match cellL S w with
    | some (n, xs) => match xs[xs.length - 1]? with
      | some y => .ok y (S.set n (.lst xs.dropLast))
      | none => .stuck
    | none => .stuck
  | [w, .int i] => match cellL S w with
    | some (n, xs) => if -(2 ^ 63) ≤ i ∧ i < 2 ^ 63 then match seqIndex? i xs.length with
        | some k => match xs[k]? with
          | some y => .ok y (S.set n (.lst (xs.eraseIdx k)))
          | none => .stuck
        | none => .stuck
      else .stuck
    | none => .stuck
  | _ => .stuck
theorem RVs.dropLast {K : PySem.W.Frag} {io : List Addr} {H : Hp} {ws : List W} {vs : List V} (h : RVs K ca io H ws vs) : RVs K ca io H ws.dropLast vs.dropLast := by
  rw [List.dropLast_eq_take, List.dropLast_eq_take, h.len]
  exact h.take _
theorem fm_pop : MtS X ca E "list.pop" fPop := by
  intro pins s σ H x xs v us Q I rx rs h
  obtain ⟨io, ws, S, z, rvs, p⟩ := h
  unfold fPop at p
  split at p
  · obtain ⟨v1, e, r1⟩ := rvs.one
    cases e
    split at p
    · rename_i n ys g
      obtain ⟨a, vs, rfl, q, h1, h2⟩ := cellL_ok z r1 g
      split at p
      · rename_i y hy
        obtain ⟨v2, g1, g2⟩ := h2.get hy
        rw [← h2.len] at g1
        refine mt_pop pins s σ H _ _ v us Q I rx rs ⟨a, vs, v2, rfl, rfl, h1, g1, ?_⟩
        have e : Ext io H io (upd H a (.lst vs.dropLast)) := ext_put q h1
        exact cell_put z q h1 h2.dropLast p _ (g2.mono e)
      · exact p.elim
    · exact p.elim
  · obtain ⟨v1, v2, e, r1, r2⟩ := rvs.two
    cases e
    cases (show v2 = _ from r2)
    split at p
    · rename_i n ys g
      obtain ⟨a, vs, rfl, q, h1, h2⟩ := cellL_ok z r1 g
      split at p
      · rename_i hi
        split at p
        · rename_i k hk
          split at p
          · rename_i y hy
            obtain ⟨v2, g1, g2⟩ := h2.get hy
            rw [← h2.len] at hk
            refine mt_popAt pins s σ H _ _ v us Q I rx rs ⟨a, vs, _, k, v2, rfl, rfl, h1, hi.1, hi.2, hk, g1, ?_⟩
            have e : Ext io H io (upd H a (.lst (vs.eraseIdx k))) := ext_put q h1
            exact cell_put z q h1 (h2.erase k) p _ (g2.mono e)
          · exact p.elim
        · exact p.elim
      · exact p.elim
    · exact p.elim
  · exact p.elim

/-! ### stores -/
section
variable {o i e : Expr} {mo mi m : M W} {pos pos' : Pos}
def opSetL (o i x : W) (S : Sto) : Res Unit := match i with
  | .int k => match cellL S o with
    | some (n, xs) => match ixN xs.length k with
      | some j => .ok () (S.set n (.lst (xs.set j x)))
      | none => .stuck
    | none => .stuck
  | _ => .stuck
/-- o[i] = e, o a list -/
def sIxSet (mo mi m : M W) : MSt := do
  let x ← m
  let a ← mo
  let b ← mi
  fun r S => match opSetL a b x S with
    | .ok _ S' => .ok (.nx r) S'
    | _ => .stuck
theorem ms_ixset (ho : ME X ca E o mo) (hi : ME X ca E i mi) (h : ME X ca E e m)
    (ha : ∀ v, assign (.Subscript o i pos') X.env v = (do
      let ov ← holding [v] (eval o X.env)
      let iv ← holding [v, ov] (eval i X.env)
      standAt pos'
      holding [v, ov, iv] (setItem ov iv v)
      release [v, ov, iv] []) := by intro _; rfl)
    (hs : swapsWithSole [.Subscript o i pos'] e pos.line X.env = pure false := by rfl) (hw : swappedStores [.Subscript o i pos'] e X.env = pure none := by rfl) (h1 : (assignEach [.Subscript o i pos'] X.env).map (·.2) = [assign (.Subscript o i pos') X.env] := by rfl) :
    MS X ca E (.Assign [.Subscript o i pos'] e pos) (sIxSet mo mi m) := PS.weak (ps_asg h (pg_sub ho hi set_list ha) hs hw h1) fun D σ H h => by
  obtain ⟨io, r, S, l, p⟩ := h
  refine tE_imp (tE_bind l p) fun v H1 ⟨io1, S1, w, e1, l1, rv, p1⟩ => ?_
  refine tE_imp (tE_bind l1 p1) fun v2 H2 ⟨io2, S2, w2, e2, l2, rv2, p2⟩ => ?_
  refine tE_imp (tE_bind l2 p2) fun v3 H3 ⟨io3, S3, w3, e3, l3, rv3, p3⟩ => ?_
  simp only [opSetL] at p3
  cases w3 <;> first | exact False.elim p3 | skip
  rename_i k
  cases (show v3 = _ from rv3)
  cases g : cellL S3 w2 with
  | none =>
    simp only [g] at p3
    exact False.elim p3
  | some nx =>
    obtain ⟨n, xs⟩ := nx
    simp only [g] at p3
    cases g2 : ixN xs.length k with
    | none =>
      simp only [g2] at p3
      exact False.elim p3
    | some j =>
      simp only [g2] at p3
      obtain ⟨a, vs, rfl, q, h1, h2⟩ := cellL_ok l3.z (rv2.mono e3) g
      rw [← h2.len] at g2
      refine ⟨a, vs, k, j, rfl, rfl, h1, g2, ?_⟩
      have rw_ := ((rv.mono e2).mono e3)
      have e : Ext io3 H3 io3 (upd H3 a (.lst (vs.set j v))) := ext_put q h1
      exact cell_put l3.z q h1 (h2.set j rw_) p3 _ (l3.e.mono e)
/-- o.f = e -/
def setO (c : Cl) (f : Fl) (o x : W) (S : Sto) : Res Unit := match o with
  | .loc n => match S[n]?, fix c f with
    | some (.ins d xs), some i => if d = c ∧ i ≤ xs.length then .ok () (S.set n (.ins c (if i < xs.length then xs.set i x else xs ++ [x]))) else .stuck
    | _, _ => .stuck
  | _ => .stuck
def sFldSet (c : Cl) (f : Fl) (mo m : M W) : MSt := do
  let x ← m
  let a ← mo
  fun r S => match setO c f a x S with
    | .ok _ S' => .ok (.nx r) S'
    | _ => .stuck
theorem fix_lt {c : Cl} {f : Fl} {i : Nat} (h : fix c f = some i) : i < (flds c).length := by
  unfold fix at h
  obtain ⟨h1, _⟩ := List.findIdx?_eq_some_iff_getElem.mp h
  exact h1
theorem flds_few (c : Cl) : (flds c).length ≤ 5 := by cases c <;> first | decide | exact Nat.zero_le _
theorem ms_fldset {c : Cl} {f : Fl} {x : Str} (hc : Cls X.K (ca c)) (hn : NoAttr X.K (ca c) (fname f)) (ho : ME X ca E o mo) (h : ME X ca E e m) (hx : x = fname f := by rfl) (hs : swapsWith e (some (.Attribute o x pos')) pos.line X.env = pure false := by rfl) :
    MS X ca E (.Assign [.Attribute o x pos'] e pos) (sFldSet c f mo m) := by
  subst hx
  refine PS.weak (ps_fld ho h hs) fun D σ H h => ?_
  obtain ⟨io, r, S, l, p⟩ := h
  refine tE_imp (tE_bind l p) fun v H1 ⟨io1, S1, w, e1, l1, rv, p1⟩ => ?_
  refine tE_imp (tE_bind l1 p1) fun v2 H2 ⟨io2, S2, w2, e2, l2, rv2, p2⟩ => ?_
  simp only [setO] at p2
  cases w2 <;> first | exact False.elim p2 | skip
  rename_i n
  obtain ⟨a, rfl, q⟩ := rv2.locI
  cases g : S2[n]? with
  | none =>
    simp only [g] at p2
    exact False.elim p2
  | some ce =>
    cases ce <;> simp only [g] at p2 <;> first | exact False.elim p2 | skip
    rename_i d xs
    cases g2 : fix c f with
    | none =>
      simp only [g2] at p2
      exact False.elim p2
    | some i =>
      simp only [g2] at p2
      by_cases hk : d = c ∧ i ≤ xs.length
      · rw [if_pos hk] at p2
        obtain ⟨rfl, hi⟩ := hk
        obtain ⟨a2, q2, dx, vs, h1, h2, h3⟩ := l2.z.at g
        rw [q] at q2
        cases q2
        have hlz : ((fnames d).zip vs).length < 1000 := by
          rw [List.length_zip]
          have := flds_few d
          omega
        refine ⟨a, ca d, dx, _, rfl, h1, hc, hn, hlz, ?_⟩
        have hp := putF_zip f v (flds d) vs i g2 (by rw [h3.len]; exact hi)
        rw [show fnames d = (flds d).map fname from rfl, hp]
        have rw_ := rv.mono e2
        have h4 : RVs X.K ca io2 H2 (if i < xs.length then xs.set i w else xs ++ [w]) (if i < vs.length then vs.set i v else vs ++ [v]) := by
          rw [h3.len]
          split
          · exact h3.set i rw_
          · exact h3.app (.cons rw_ .nil)
        have e : Ext io2 H2 io2 (upd H2 a (.ins (ca d) dx (((flds d).map fname).zip (if i < vs.length then vs.set i v else vs ++ [v])))) := ext_put q h1
        refine p2 io2 _ e (l2.z.put q h1 (c := .ins d (if i < xs.length then xs.set i w else xs ++ [w])) ⟨dx, _, upd_same, ?_, h4.mono e⟩) _ (l2.e.mono e)
        have := fix_lt g2
        split <;> simp <;> omega
      · rw [if_neg hk] at p2
        exact False.elim p2
end
end
end SL

set_option Elab.async false
set_option linter.all false
set_option maxRecDepth 100000
set_option maxHeartbeats 2000000
namespace SL
open PySem PySem.Spec PyProof.Rows L2

section
variable {X : Cx} {ca : Ca} {E : XK}
/-! ### several targets -/
/-- a, b = x, y and a, b, c = x, y, z where no tuple is made -/
def sPar (is : List Nat) (t : M (List W)) : MSt := do
  let ws ← t
  fun r S => match setAll is ws r with
    | some r1 => .ok (.nx r1) S
    | none => .stuck
/-- targets = e, e a tuple -/
def sTg (T : Tg) (m : M W) : MSt := do
  let w ← m
  fun r S => match T.run w r with
    | some r1 => .ok (.nx r1) S
    | none => .stuck
/-- (a, b, ..) = e, e a list -/
def sTgL (is : List Nat) (m : M W) : MSt := do
  let w ← m
  fun r S => match getL S w with
    | some ws => match setAll is ws r with
      | some r1 => .ok (.nx r1) S
      | none => .stuck
    | none => .stuck
section
variable {i j l : Nat} {x y z : Str} {a b c e tg : Expr} {t : M (List W)} {m : M W} {px py pz pt pos pt2 : Pos} {kt k2 : Nat}
theorem ms_par2 (i j : Nat) (hc : X.calm = true) (hN : X.N.Nodup) (ha : MA X ca E [a, b] t) (hi : X.N[i]? = some x := by rfl) (hj : X.N[j]? = some y := by rfl) (hij : i ≠ j := by decide)
    (hx : X.env.scope.names.lookup x = some .local := by rfl) (hy : X.env.scope.names.lookup y = some .local := by rfl)
    (hw : swappedStores [.Tuple [.Name x px, .Name y py] kt pt] (.Tuple [a, b] k2 pt2) X.env = pure (some [x, y]) := by rfl)
    (hs : swapsWithSole [.Tuple [.Name x px, .Name y py] kt pt] (.Tuple [a, b] k2 pt2) pos.line X.env = pure false := by rfl) :
    MS X ca E (.Assign [.Tuple [.Name x px, .Name y py] kt pt] (.Tuple [a, b] k2 pt2) pos) (sPar [i, j] t) := PS.weak (ps_par hc hN hi hj hij hx hy ha hw hs) fun D σ H h => by
  obtain ⟨io, r, S, l, p⟩ := h
  refine tA_imp (tA_bind l p) fun vs H1 ⟨io1, S1, ws, e1, l1, rvs, p1⟩ => ?_
  match ws, rvs, p1 with
  | [w1, w2], rvs, p1 =>
    obtain ⟨v1, v2, rfl, r1, r2⟩ := rvs.two
    exact ⟨v1, v2, rfl, Post.done p1 l1.z _ ((l1.e.set r1).set r2)⟩
  | [], _, p1 => exact False.elim p1
  | [_], _, p1 => exact False.elim p1
  | _ :: _ :: _ :: _, _, p1 => exact False.elim p1
theorem ms_par3 (i j l : Nat) (hc : X.calm = true) (hN : X.N.Nodup) (ha : MA X ca E [a, b, c] t) (hi : X.N[i]? = some x := by rfl) (hj : X.N[j]? = some y := by rfl) (hl : X.N[l]? = some z := by rfl) (hij : i ≠ j := by decide) (hil : i ≠ l := by decide) (hjl : j ≠ l := by decide)
    (hx : X.env.scope.names.lookup x = some .local := by rfl) (hy : X.env.scope.names.lookup y = some .local := by rfl) (hz : X.env.scope.names.lookup z = some .local := by rfl)
    (hw : swappedStores [.Tuple [.Name x px, .Name y py, .Name z pz] kt pt] (.Tuple [a, b, c] k2 pt2) X.env = pure (some [x, y, z]) := by rfl)
    (hs : swapsWithSole [.Tuple [.Name x px, .Name y py, .Name z pz] kt pt] (.Tuple [a, b, c] k2 pt2) pos.line X.env = pure false := by rfl) :
    MS X ca E (.Assign [.Tuple [.Name x px, .Name y py, .Name z pz] kt pt] (.Tuple [a, b, c] k2 pt2) pos) (sPar [i, j, l] t) := PS.weak (ps_par3 hc hN hi hj hl hij hil hjl hx hy hz ha hw hs) fun D σ H h => by
  obtain ⟨io, r, S, l, p⟩ := h
  refine tA_imp (tA_bind l p) fun vs H1 ⟨io1, S1, ws, e1, l1, rvs, p1⟩ => ?_
  match ws, rvs, p1 with
  | [w1, w2, w3], rvs, p1 =>
    obtain ⟨v1, vr, rfl, r1, rr⟩ := rvs.inv
    obtain ⟨v2, v3, rfl, r2, r3⟩ := rr.two
    exact ⟨v1, v2, v3, rfl, Post.done p1 l1.z _ (((l1.e.set r1).set r2).set r3)⟩
  | [], _, p1 => exact False.elim p1
  | [_], _, p1 => exact False.elim p1
  | [_, _], _, p1 => exact False.elim p1
  | _ :: _ :: _ :: _ :: _, _, p1 => exact False.elim p1
theorem ms_tg (T : Tg) (hg : MG X tg T) (h : ME X ca E e m) (hs : swapsWithSole [tg] e pos.line X.env = pure false := by rfl) (hw : swappedStores [tg] e X.env = pure none := by rfl)
    (h1 : (assignEach [tg] X.env).map (·.2) = [assign tg X.env] := by rfl) : MS X ca E (.Assign [tg] e pos) (sTg T m) := PS.weak (ps_asg h hg hs hw h1) fun D σ H h => by
  obtain ⟨io, r, S, l, p⟩ := h
  refine tE_imp (tE_bind l p) fun v H1 ⟨io1, S1, w, e1, l1, rv, p1⟩ => ?_
  cases g : T.run w r with
  | none =>
    simp only [g] at p1
    exact False.elim p1
  | some r1 =>
    simp only [g] at p1
    exact T.ok g rv l1.e fun σ2 re _ => Post.done p1 l1.z _ re
theorem ms_tgL {es : List Expr} {k : Nat} {is : List Nat} {tpos : Pos} (hc : X.calm = true) (hg : MGs X es is) (h : ME X ca E e m) (hl : es.length = is.length := by rfl) (hn : (assignEach es X.env).length = es.length := by rfl) (hst : (assignEach es X.env).findIdx? (·.1) = none := by rfl)
    (hs : swapsWithSole [.Tuple es k tpos] e pos.line X.env = pure false := by rfl) (hw : swappedStores [.Tuple es k tpos] e X.env = pure none := by rfl)
    (h1 : (assignEach [.Tuple es k tpos] X.env).map (·.2) = [assign (.Tuple es k tpos) X.env] := by rfl) : MS X ca E (.Assign [.Tuple es k tpos] e pos) (sTgL is m) := PS.weak (ps_asg h (pg_unl (n := es.length) hc hg hn hst) hs hw h1) fun D σ H h => by
  obtain ⟨io, r, S, l, p⟩ := h
  refine tE_imp (tE_bind l p) fun v H1 ⟨io1, S1, w, e1, l1, rv, p1⟩ => ?_
  cases g : getL S1 w with
  | none =>
    simp only [g] at p1
    exact False.elim p1
  | some ws =>
    simp only [g] at p1
    cases g2 : setAll is ws r with
    | none =>
      simp only [g2] at p1
      exact False.elim p1
    | some r1 =>
      simp only [g2] at p1
      obtain ⟨a, vs, rfl, q, rr⟩ := getL_ok l1.z rv g
      exact ⟨a, vs, rfl, .of q, by rw [rr.len, setAll_len g2, hl], gNs_ok g2 rr l1.e fun σ2 re _ => Post.done p1 l1.z _ re⟩
end
/-! ### x += e (whole numbers) -/
def sAug (i : Nat) (m : M W) : MSt := fun r S => match r[i]? with
  | some (some (.int a)) => match m r S with
    | .ok (.int b) S' => .ok (.nx (r.set i (some (.int (a + b))))) S'
    | .ok _ _ => .stuck
    | .exc c ws S' => .exc c ws S'
    | .stuck => .stuck
  | _ => .stuck
theorem ms_aug (i : Nat) {x : Str} {e : Expr} {m : M W} {pos pos' : Pos} (hN : X.N.Nodup) (he : ME X ca E e m) (hi : X.N[i]? = some x := by rfl) (hx : Loc X.env.scope x := by first | exact Or.inl rfl | exact Or.inr rfl)
    (hf : X.fn x = true ∨ X.env.scope.names.lookup x = some .local := by first | exact .inl rfl | exact .inr rfl | assumption) : MS X ca E (.AugAssign (.Name x pos') .Add e pos) (sAug i m) := by
  refine PS.weak (ps_aug (i := i) hN hi hx he ip_add hf) fun D σ H h => ?_
  obtain ⟨io, r, S, l, p⟩ := h
  unfold sAug at p
  split at p
  · rename_i a q
    obtain ⟨v, hv, rv⟩ := l.e.2 i _ q
    cases (show v = _ from rv)
    refine ⟨_, hv, io, r, S, l, ?_⟩
    cases q2 : m r S with
    | stuck =>
      simp only [q2] at p
      exact p
    | exc c ws S' =>
      simp only [q2] at p
      exact p
    | ok w S' =>
      cases w <;> simp only [q2] at p <;> first | exact False.elim p | skip
      intro io1 H1 e1 z1 y ry
      cases (show y = _ from ry)
      exact ⟨_, _, rfl, rfl, p io1 H1 e1 z1 _ ((l.e.mono e1).set (w := .int _) (v := .int _) rfl)⟩
  · exact p.elim

/-! ### a def -/
def endOf : Res Fw → Res W
  | .ok (.nx _) S => .ok .non S
  | .ok (.rt w) S => .ok w S
  | .ok _ _ => .stuck
  | .exc c ws S => .exc c ws S
  | .stuck => .stuck
/-- n slots, k parameters -/
def fnM (n k : Nat) (b : MSt) : FnM := fun ws S => if ws.length = k then endOf (b (ws.map some ++ List.replicate (n - k) none) S) else .stuck
end
section
variable {P : Program} {w : World} {K : PySem.W.Frag} {mg : Str → Option Value} {base : Heap} {ca : Ca}
theorem RE.start {io : List Addr} {H : Hp} {N : List Str} {ws : List W} {vs : List V} (h : RVs K ca io H ws vs) : RE K ca io H (ws.map some ++ List.replicate (N.length - ws.length) none) (L2.start N vs) := by
  unfold L2.start
  refine ⟨by simp [h.len], fun i u q => ?_⟩
  by_cases hi : i < ws.length
  · rw [List.getElem?_append_left (by simpa using hi), List.getElem?_map] at q
    cases e : ws[i]? with
    | none =>
      rw [e] at q
      cases q
    | some w =>
      rw [e] at q
      cases q
      obtain ⟨v, h1, h2⟩ := h.get e
      refine ⟨v, ?_, h2⟩
      rw [List.getElem?_append_left (by rw [List.length_map, h.len]; exact hi), List.getElem?_map, h1]
      rfl
  · rw [List.getElem?_append_right (by simpa using Nat.le_of_not_lt hi), List.getElem?_replicate] at q
    split at q <;> cases q
theorem fo_ok {x qual : Str} {params : Arguments} {body : List Stmt} {scope : Scope} {f : Addr} {fd : FuncData} {N ps : List Str} {k n j : Nat} {m : MSt} (F : FunD K x qual params body scope [] [] f fd) (Sc : FnScope N ps scope) (hn : N.length = n) (hj : ps.length = j)
    (h : ∀ (cdv : Value) (A : Around) (outer : List Env) (s : Shared) (H : Hp) (E : XK), Room k (A.deeper (envOfC qual scope s.heap.objs.size f cdv)) → MSs (cxOf (L2.CX P w) P w K mg base N qual scope f cdv A outer s H E) ca E body m) :
    FnOk P w K mg base (L2.CX P w) (k + 1) f fd ps (spM K ca (fnM n j m)) := by
  subst hn hj
  refine F.ok Sc (fun vs H Q E hs => ?_) (fun cdv A outer s H vs Q E hr hs => ⟨_, h cdv A outer s H E hr, ?_⟩)
  · obtain ⟨io, ws, S, z, rvs, p⟩ := hs
    unfold fnM at p
    split at p
    · rename_i hl
      rw [rvs.len, hl]
    · exact p.elim
  · obtain ⟨io, ws, S, z, rvs, p⟩ := hs
    unfold fnM at p
    split at p
    · rename_i hl
      refine ⟨io, ws.map some ++ List.replicate (N.length - ws.length) none, S, ⟨z, RE.start rvs⟩, ?_⟩
      rw [← hl] at p
      cases q : m (ws.map some ++ List.replicate (N.length - ws.length) none) S with
      | stuck =>
        rw [q] at p
        exact p
      | exc c es S' =>
        rw [q] at p
        exact p
      | ok fw S' =>
        rw [q] at p
        cases fw with
        | nx r => exact fun io' H' e z' σ _ => p io' H' e z' _ rfl
        | rt w => exact fun io' H' e z' v rv => p io' H' e z' v rv
        | bk r => exact p.elim
        | ct r => exact p.elim
    · exact p.elim
theorem fm_of {f : Addr} {fd : FuncData} {ps : List Str} {k : Nat} {g : FnM} (F : FnOk P w K mg base (L2.CX P w) k f fd ps (spM K ca g)) (hb : Binds K fd ps []) : Fm P w K mg base ca k f g :=
  (FnOk.raw F hb .nil).imp fun vs H Q E h => by
    rw [List.append_nil]
    exact h
/-- a def | method | property | class as it stands in the module -/
def FnAt (P : Program) (w : World) (K : PySem.W.Frag) (mg : Str → Option Value) (base : Heap) (ca : Ca) (x : Str) (k : Nat) (g : FnM) : Prop := ∃ f, mg x = some (.ref f) ∧ PySem.W.keepIn K (.ref f) = true ∧ Fm P w K mg base ca k f g
def MethAt (P : Program) (w : World) (K : PySem.W.Frag) (mg : Str → Option Value) (base : Heap) (ca : Ca) (c : Cl) (m : Str) (k : Nat) (g : FnM) : Prop := ∃ f, Cls K (ca c) ∧ Meth K (ca c) m f ∧ Fm P w K mg base ca k f g
def PropAt (P : Program) (w : World) (K : PySem.W.Frag) (mg : Str → Option Value) (base : Heap) (ca : Ca) (c : Cl) (m : Str) (k : Nat) (g : FnM) : Prop := ∃ p q fd, Cls K (ca c) ∧ PropOf K (ca c) m p q ∧ Binds K fd ["self"] [] ∧ FnOk P w K mg base (L2.CX P w) k q fd ["self"] (spM K ca g)
def NewAt (P : Program) (w : World) (K : PySem.W.Frag) (mg : Str → Option Value) (base : Heap) (ca : Ca) (c : Cl) (x : Str) (k : Nat) (g : FnM) : Prop := ∃ f, mg x = some (.ref (ca c)) ∧ Mk K (ca c) f ∧ Fm P w K mg base ca k f g
/-- what a body of a def has around it -/
structure Bd (X : Cx) (E : XK) (k : Nat) : Prop where
  hr : Room k X.A
  pc : Passes (L2.CX X.prog X.w) X E
  calm : X.calm = true
theorem Bd.of {qual : Str} {scope : Scope} {f : Addr} {N : List Str} {cdv : Value} {A : Around} {outer : List Env} {s : Shared} {H : Hp} {E : XK} {k : Nat} (hr : Room k (A.deeper (envOfC qual scope s.heap.objs.size f cdv))) :
    Bd (cxOf (L2.CX P w) P w K mg base N qual scope f cdv A outer s H E) E k := ⟨hr, passes_call (takes_of rfl rfl rfl rfl) fun _ _ _ _ h => h, rfl⟩
/-- .. of a comprehension's block -/
theorem Bd.blk {X : Cx} {E : XK} {k : Nat} (b : Bd X E k) {s : Shared} {H : Hp} {scope : Scope} {cenv : Env} {fp : List Addr} : Bd (X.blk s H scope cenv fp) (fun _ _ _ => False) k := ⟨b.hr, passF, b.calm⟩
end
end SL

set_option Elab.async false
set_option linter.all false
set_option maxRecDepth 100000
set_option maxHeartbeats 2000000
namespace PySem
set_option maxHeartbeats 1000000 in
theorem meets_enumerate_newB1 {v : Value} {o : Obj} {H : Heap → Prop} (B : Begins v o H) :
    Meets (Builtin.«enumerate.__new__» ⟨[.type "enumerate", v], []⟩) (fun _ R s => H s.heap ∧
      R (.ok (.ret (.ref (s.heap.push o).objs.size))) { s with heap := (s.heap.push o).push { cls := .type "enumerate", data := .fields #[.none, .bool false, .ref s.heap.objs.size, rawInt 0, .none, .none] } }) :=
  .of_wp fun prog w A R s h => by
    obtain ⟨hp, g, d, tk, os⟩ := s; obtain ⟨h1, h⟩ := h
    have hsub := sub_enumerate
    have q1 : ∀ {A' : Around} {E : Value → Shared → Prop} {Q : Value → Shared → Prop}, Q (.ref hp.objs.size) ⟨hp.push o, g, d, tk, os⟩ → wpAny (model prog w) A' (pyIter v) Q E ⟨hp, g, d, tk, os⟩ :=
      fun q => B.iter prog w _ _ ⟨hp, g, d, tk, os⟩ _ h1 q
    wp_walk using q1
    refine wpAny_stack_any fun st => wpAny_pure ?_
    split
    · rename_i c _ _ _ _ _
      cases (c == Value.type "enumerate")
      · wp_walk using q1
        exact ⟨_, rfl, h⟩
      · wp_walk using q1
        exact ⟨_, rfl, h⟩
    · wp_walk using q1
      exact ⟨_, rfl, h⟩
section
variable {prog : Program} {w : World} {A : Around} {E : Value → Shared → Prop} {s : Shared}
theorem enum_begins1 {v : Value} {o : Obj} {H : Heap → Prop} {Q : Value → Shared → Prop} (B : Begins v o H) (h1 : H s.heap)
    (h : ∀ h', IsEnum h' (s.heap.objs.size + 1) s.heap.objs.size 0 .none → h'.get? s.heap.objs.size = some o → h'.objs.size = s.heap.objs.size + 2 →
      (∀ b o, s.heap.get? b = some o → h'.get? b = some o) → Q (.ref (s.heap.objs.size + 1)) { s with heap := h' }) :
    wpAny (model prog w) A (call (.type "enumerate") [v]) Q E s := by
  refine callType_new F.called_enumerate (by decide) (F.typeCall_enumerate_1 _) (F.newCall_enumerate_1 _) (fun obj => F.args_object_init_2 obj _) F.entry_enumerate_new
    (meets_enumerate_newB1 B) ⟨h1, ?_⟩
  have hz : (s.heap.push o).objs.size = s.heap.objs.size + 1 := Heap.size_push ..
  show _ ∧ _
  rw [hz]
  have he : IsEnum ((s.heap.push o).push { cls := .type "enumerate", data := .fields #[.none, .bool false, .ref s.heap.objs.size, rawInt 0, .none, .none] }) (s.heap.objs.size + 1) s.heap.objs.size 0 .none := by
    have := Heap.get?_push_size (s.heap.push o) (o := { cls := .type "enumerate", data := .fields #[.none, .bool false, .ref s.heap.objs.size, rawInt 0, .none, .none] }) rfl
    rw [hz] at this; exact this
  refine ⟨⟨_, he, rfl⟩, h _ he (Heap.get?_push_of_some _ (Heap.get?_push_size _ B.free)) (by rw [Heap.size_push, hz]) fun b o x => Heap.get?_push_of_some _ (Heap.get?_push_of_some _ x)⟩
end
end PySem
namespace SL
open PySem PySem.Spec PyProof.Rows L2
theorem isTup_tuple {h : Heap} {a : Addr} {items : Array Value} (x : IsTup h a items) : h.IsTuple a items := by
  obtain ⟨o, e, c, n, d⟩ := x
  exact ⟨o, e, c, n, d⟩
/-- enumerate over the tuple at a -/
def Itet (K : PySem.W.Frag) (a : Addr) : It :=
  ⟨fun i H => ∃ (xs : List V) (x : V), SqT K H a xs ∧ xs[i]? = some x, fun i H v H' => ∃ T x, v = .ref T ∧ H T = none ∧ H' = upd H T (.tup [.int (i : Nat), x]) ∧ ∀ xs, SqT K H a xs → xs[i]? = some x, fun i H => ∃ xs : List V, SqT K H a xs ∧ xs.length ≤ i⟩
theorem turn_enumT {P : Program} {w : World} {K : PySem.W.Frag} {elts : List Expr} {kk : Nat} {tpos : Pos} (a e it : Addr) :
    Turn P w K (.Tuple elts kk tpos) (Itet K a) [e, it] e (fun i h => (∃ old, IsEnum h e it ((i : Nat) : Int) old) ∧ h.IsTupleIter it a i ∧ e ≠ it) where
  mem := by simp
  obj := fun i h st b hb => by
    obtain ⟨⟨old, he⟩, ⟨o, ho, hc, hd⟩, _⟩ := st
    have e' : b = e ∨ b = it := by simpa using hb
    rcases e' with z | z
    · rw [z]; exact ⟨_, he, fun v q => nomatch q⟩
    · rw [z]; exact ⟨o, ho, fun v q => by rw [hd] at q; cases q⟩
  keep := fun i h h' st k => let ⟨⟨old, he⟩, hi, hne⟩ := st; ⟨⟨old, k e (by simp) _ he⟩, hi.at fun o q => k it (by simp) o q, hne⟩
  item := by
    intro X hP hw hK hc i pins s σ H E I hf st hg
    subst hP hw hK
    obtain ⟨⟨old, he⟩, hit, hne⟩ := st
    obtain ⟨xs, x, hq, hx⟩ := hg
    obtain ⟨its, rv, p, hz⟩ := I.tuple hq
    obtain ⟨u, hu, ru⟩ := rv.get hx
    have hel : e < s.heap.objs.size := Heap.lt_size he
    have hil : it < s.heap.objs.size := by obtain ⟨_, q, _⟩ := hit; exact Heap.lt_size q
    have hat : a ≠ it := by
      obtain ⟨o1, q1, c1, _⟩ := hit
      obtain ⟨o2, q2, c2, _⟩ := p
      intro z
      subst z
      rw [q1] at q2
      cases q2
      rw [c1] at c2
      exact absurd (Value.type.inj c2) (by decide)
    have hae : a ≠ e := by
      obtain ⟨o2, q2, c2, _⟩ := p
      intro z
      subst z
      have q1 : s.heap.get? a = some _ := he
      rw [q1] at q2
      cases q2
      exact absurd (Value.type.inj c2) (by decide)
    have D := Draws.tuple (prog := X.prog) (w := X.w) (A := X.A.in1) (I.ok.hd hc) it a hat its.toArray
    have hi : i < its.toArray.size := by
      rw [List.size_toArray]
      exact (List.getElem?_eq_some_iff.mp hu).1
    refine wpAny_pyNext_enum_itemD D he ⟨hit, isTup_tuple p⟩ hi hne (by simp only [List.mem_cons, List.mem_nil_iff, or_false, not_or]; exact ⟨hne, fun z => hae z.symm⟩) fun x' h' tk hP' ho st' hT hsz hk => ?_
    have ex : x' = u := by
      have q : its.toArray[i]? = some x' := hP'
      rw [List.getElem?_toArray, hu] at q
      exact (Option.some.inj q).symm
    subst ex
    refine ⟨_, rfl, wpAny_letOwnedTupleGo_enum (s := { s with heap := h', toks := tk + 1 }) ho fun h'' he' sb => ?_⟩
    have hT2 : h''.get? s.heap.objs.size = some { cls := .type "tuple", data := .seq #[.int i tk, x'] } := (sb.2 _ (Nat.ne_of_gt hel)).trans hT
    have new : ObjOk X.prog X.w (upd H s.heap.objs.size (.tup [.int (i : Nat), x])) h'' s.heap.objs.size (.tup [.int (i : Nat), x]) :=
      ⟨by show 2 ≤ sizeLine; decide, [.int i tk, x'], .cons ⟨_, rfl⟩ (.cons ru .nil), ⟨_, hT2, rfl, _, rfl⟩⟩
    have I1 : Inv X pins σ (upd H s.heap.objs.size (.tup [.int (i : Nat), x])) { s with heap := h'', toks := tk + 1 } :=
      I.turnedNew (ch := [e, it]) (fun b ob hb q => (sb.2 b (fun z => hb (by simp [z]))).trans (hk b ob (fun z => hb (by simp [z])) (fun z => hb (by simp [z])) q)) hf (Nat.le_refl _) new
    refine ⟨.ref s.heap.objs.size, _, I1, rfl, ⟨_, x, rfl, I.hok.fresh (Nat.le_refl _), rfl, fun ys hy => by rw [I.tuple_inj hy hq]; exact hx⟩, ⟨⟨x', ?_⟩, st'.1.at fun o q => (sb.2 it (Ne.symm hne)).trans q, hne⟩, fun b hb => ?_⟩
    · have e1 : ((i + 1 : Nat) : Int) = (i : Int) + 1 := by omega
      rw [e1]; exact he'
    · have hb' : b < s.heap.objs.size := by
        have e' : b = e ∨ b = it := by simpa using hb
        rcases e' with z | z
        · rw [z]; exact hel
        · rw [z]; exact hil
      rw [upd_ne (Nat.ne_of_lt hb')]
      exact (hf b hb).1
  done := by
    intro X hP hw hK hc i pins s σ H E I hf st hg
    subst hP hw hK
    obtain ⟨⟨old, he⟩, hit, hne⟩ := st
    obtain ⟨xs, hq, hx⟩ := hg
    obtain ⟨its, rv, p, hz⟩ := I.tuple hq
    obtain ⟨f0, f1, f2, f3, f4, f5⟩ := hf it (by simp)
    have hl := rv.length
    have hat : a ≠ it := by
      obtain ⟨o1, q1, c1, _⟩ := hit
      obtain ⟨o2, q2, c2, _⟩ := p
      intro z
      subst z
      rw [q1] at q2
      cases q2
      rw [c1] at c2
      exact absurd (Value.type.inj c2) (by decide)
    have hT : s.TypeIs (.ref e) "enumerate" := ⟨_, he, rfl⟩
    unfold pyNext
    refine wpAny_bind (wpAny_attempt (wpAny_callSpecial?_slot (name := Str.ofString "__next__") hT F.slot_enumerate_next
      (wpAny_call_entry F.slot_enumerate_next hT F.entry_enumerate_next ?_ (F.args_enumerate_next_1 _))))
    show wpAny _ _ (field (.ref e) 2 >>= _) _ _ _
    refine wpAny_bind (wpAny_field he rfl (x := .ref it) rfl ?_)
    refine wpAny_bind (wpAny_nextOf_tuple_end (I.ok.hd hc) hit (isTup_tuple p) (by simp; omega) fun h' x he' hx' => ?_)
    obtain ⟨o, ho, hc2⟩ := hx'
    refine wpAny_bind (wpAny_isInstance (T := "StopIteration") (b := true) ⟨o, ho, hc2⟩ isSubtype_stop ?_)
    exact wpAny_pure ⟨rfl, I.turned (t' := s.toks) (fun b o hb q => he' b o hb q) f0 f1 f3 f4 f5⟩
  self := fun A i s Q E st h => let ⟨⟨_, he⟩, _⟩ := st; wpAny_pyIter_enum he h
def iEnumT (K : PySem.W.Frag) (ta : TA) : TI := fun σ H R => ta σ H fun vs H1 => ∃ a xs, vs = [.ref a] ∧ SqT K H1 a xs ∧ R (Itet K a) H1
theorem pi_enumT {X : Cx} {e : Expr} {ta : TA} {p pos tpos : Pos} {elts : List Expr} {kk : Nat} (hg : Gl X "enumerate") (hm : X.mg "enumerate" = none) (ha : PA X [e] ta) (hs : starEach [e] X.env = [(false, eval e X.env)] := by rfl) :
    PI X (.Tuple elts kk tpos) (.Call (.Name "enumerate" p) [e] [] pos) (iEnumT X.K ta) := by
  refine ⟨fun pins s σ H R I h => ?_⟩
  refine Call_ (ld_blt I hg hm boot_enumerate (PyProof.Rows.callWith_type1 (thn (ha.run pos pins s σ H _ I h) fun us s1 ⟨vs, H1, I1, r1, q1⟩ => ?_) hs rfl))
  obtain ⟨a, xs, ex, hq, q⟩ := q1
  subst ex
  cases r1 with
  | cons r rr =>
    cases rr
    cases r
    obtain ⟨its, rv, p', hz⟩ := I1.tuple hq
    refine enum_begins1 (begins_tuple a its.toArray) (isTup_tuple p') fun h' he hit hsz hk => wpAny_pyIter_enum he ?_
    have I2 : Inv X pins σ H1 { s1 with heap := h' } := I1.kept (t' := s1.toks) hk
    refine ⟨s1.heap.objs.size + 1, [s1.heap.objs.size + 1, s1.heap.objs.size], _, _, H1, rfl, I2, turn_enumT a (s1.heap.objs.size + 1) s1.heap.objs.size, ⟨⟨.none, he⟩, ⟨_, hit, rfl, rfl⟩, Nat.succ_ne_self _⟩, fun b hb => ?_, q⟩
    have e' : b = s1.heap.objs.size + 1 ∨ b = s1.heap.objs.size := by simpa using hb
    have hle : s1.heap.objs.size ≤ b := by
      rcases e' with z | z
      · rw [z]; exact Nat.le_add_right _ _
      · rw [z]; exact Nat.le_refl _
    exact I1.fpOk hle (I1.hok.fresh hle)
theorem walk_enumT {K : PySem.W.Frag} {a : Addr} {xs : List V} : Walk (Itet K a) xs.length (fun H => SqT K H a xs) (YPair (fun i => some (.int (i : Nat))) (fun i => xs[i]?)) := by
  refine ⟨fun i _ hi q => ⟨xs, xs[i], q, by simp [hi]⟩, fun _ q => ⟨xs, q, Nat.le_refl _⟩, fun i H v H' _ q y => ?_⟩
  obtain ⟨T, x, h1, h2, h3, h4⟩ := y
  exact ⟨T, .int (i : Nat), x, h1, h2, h3, rfl, h4 xs q⟩
def itET (w : W) (S : Sto) : Res (List W) := match w with
  | .tup xs => .ok (enumW xs) S
  | _ => .stuck
def iET (m : M W) : M (List W) := do
  let w ← m
  fun _ S => itET w S
section
variable {X : Cx} {ca : Ca} {E : XK} {m : M W}
theorem mi_enumT {a : Expr} {p pos tpos : Pos} {elts : List Expr} {kk : Nat} (hm : X.mg "enumerate" = none) (ha : ME X ca E a m) (hg : Gl X "enumerate" := by rfl) (hs : starEach [a] X.env = [(false, eval a X.env)] := by rfl) :
    MI X ca E (.Tuple elts kk tpos) (.Call (.Name "enumerate" p) [a] [] pos) (iET m) := by
  refine PI.weak (pi_enumT hg hm (ma_cons (m := m) ha (ma_nil (ca := ca) (E := E)) hs) hs) fun σ H Q h => ?_
  obtain ⟨io, r, S, l, p⟩ := h
  have p' : Post X.K ca E io H (fun ws io' H' => ∀ J, WalkW X.K ca io' H' J ws → Q J H') ((mCons m mNil >>= fun ws => (fun _ S => match ws with
      | [w] => itET w S
      | _ => .stuck : M (List W))) r S) := by
    have e : (mCons m mNil >>= fun ws => (fun _ S => match ws with
        | [w] => itET w S
        | _ => .stuck : M (List W))) r S = iET m r S := by
      unfold mCons mNil iET
      simp only [bind_def, pure_def]
      cases m r S <;> rfl
    rw [e]
    exact p
  refine tA_imp (tA_bind l p') fun vs H1 ⟨io1, S1, ws, e1, l1, rvs, p1⟩ => ?_
  split at p1
  · rename_i w
    obtain ⟨v, rfl, rv⟩ := rvs.one
    unfold itET at p1
    split at p1
    · rename_i xs
      obtain ⟨a1, us, rfl, q, rr⟩ := rv.tupI
      refine ⟨a1, us, rfl, q.sq, p1.done l1.z _ ?_⟩
      refine ⟨_, _, by rw [enumW_len, ← rr.len]; exact walk_enumT, fun io2 H2 e => SqT.of (e.keep _ _ q.2 q.1), fun i io2 S2 H2 x H3 e z y hi => ?_⟩
      obtain ⟨T, x1, y1, rfl, nT, rfl, h1, h2⟩ := y
      obtain ⟨w1, g1, g2⟩ := rr.getV h2
      cases h1
      exact ⟨_, enumW_get g1, ext_new nT, z.new nT, rv_newT z nT (.cons rfl (.cons (g2.mono e) .nil))⟩
    · exact p1.elim
  · exact p1.elim
/-! ### range with a step -/
theorem walk_rngC {K : PySem.W.Frag} {io : List Addr} {H : Hp} {lo c : Int} {n : Nat} : WalkW K ca io H (Itc lo c n) (rngW lo c n) := by
  refine ⟨fun _ => True, YFn fun i => .int (lo + (i : Nat) * c), by rw [rngW_len]; exact walk_rangeC, fun _ _ _ => trivial, fun i io2 S2 H2 x H3 e z y hi => ?_⟩
  obtain ⟨rfl, rfl⟩ := y
  rw [rngW_len] at hi
  exact ⟨_, rngW_get hi, Ext.refl _ _, z, rfl⟩
theorem mi_range3 {a b c : Expr} {t : M (List W)} {tg : Expr} {p pos : Pos} (hm : X.mg "range" = none) (ha : MA X ca E [a, b, c] t) (hg : Gl X "range" := by rfl)
    (hs : starEach [a, b, c] X.env = (false, eval a X.env) :: starEach [b, c] X.env := by rfl) (hpl : (backTo pos (starEach [b, c] X.env)).any (·.1) = false := by rfl) : MI X ca E tg (.Call (.Name "range" p) [a, b, c] [] pos) (iR3 t) :=
  PI.weak (pi_range3 hg hm ha hs hpl) fun σ H Q h => by
    obtain ⟨io, r, S, l, p⟩ := h
    refine tA_imp (tA_bind l p) fun vs H1 ⟨io1, S1, ws, e1, l1, rvs, p1⟩ => ?_
    unfold itR3 at p1
    split at p1
    · rename_i i j k
      split at p1
      · rename_i h
        obtain ⟨h1, h2, h3, h4⟩ := h
        obtain ⟨v, r, rfl, q1, q2⟩ := rvs.inv
        cases (show v = _ from q1)
        rw [q2.int2]
        exact ⟨_, _, _, _, rfl, ⟨h1, h2, h3, (Int.toNat_of_nonneg h4).symm⟩, p1.done l1.z _ walk_rngC⟩
      · exact p1.elim
    · exact p1.elim
end
end SL

set_option Elab.async false
set_option linter.all false
set_option maxRecDepth 100000
set_option maxHeartbeats 2000000
namespace SL
open PySem PySem.Spec PyProof.Rows L2
theorem _root_.L2.OpR.weak {X : Cx} {g : Value → Value → Sem Value} {r q : R2} (h : OpR X g r) (i : ∀ x y H Q, q x y H Q → r x y H Q) : OpR X g q := fun pins s σ H x y v u Q I rx ry hw => h pins s σ H x y v u Q I rx ry (i x y H Q hw)
section
variable {X : Cx} {ca : Ca} {E : XK}
/-! ### what an expression leaves behind is locked -/
noncomputable def mFr (m : M W) : M W := fun r S => frR S (m r S)
theorem me_fr {e : Expr} {m : M W} (h : ME X ca E e m) : ME X ca E e (mFr m) := PE.weak h fun σ H Q h => by
  obtain ⟨io, r, S, l, p⟩ := h
  exact ⟨io, r, S, l, post_fr l.z p⟩
/-! ### whole numbers: powers -/
def opPow : Op2 := fun a b S => match a, b with
  | .int i, .int j => if 0 ≤ j ∧ j ≤ 1000000 ∧ i.natAbs < 2 ^ 64 then .ok (.int (i ^ j.toNat)) S else .stuck
  | _, _ => .stuck
theorem om_pow : OpM X ca E (binaryOp .Pow) opPow := op_pow.weak fun x y H Q h => by
  obtain ⟨io, S, a, b, z, ra, rb, p⟩ := h
  unfold opPow at p
  split at p
  · rename_i i j
    cases (show x = _ from ra)
    cases (show y = _ from rb)
    split at p
    · rename_i hc
      exact ⟨i, j, rfl, rfl, hc, p.done z _ rfl⟩
    · exact p.elim
  · exact p.elim
/-! ### a list made of two, that may change -/
def opAddC : Op2 := fun a b S => match getL S a, getL S b with
  | some xs, some ys => if xs.length + ys.length ≤ 16000000 then .ok (.loc S.length) (S ++ [.lst (xs ++ ys)]) else .stuck
  | _, _ => .stuck
/-! ### flat values in a list or tuple -/
def flatW : W → Bool
  | .non | .bl _ | .int _ | .str _ => true
  | _ => false
def toV : W → V
  | .bl b => .bl b
  | .int i => .int i
  | .str s => .str s
  | _ => .non
def eqW (y x : W) : Bool := eqV (toV y) (toV x)
theorem flat_ok {K : PySem.W.Frag} {io : List Addr} {H : Hp} {w : W} {v : V} (h : RV K ca io H w v) (f : flatW w = true) : v = toV w ∧ flatV v = true := by
  cases w <;> first | (cases f; done) | skip
  · exact ⟨h, by rw [show v = .non from h]; rfl⟩
  · exact ⟨h, by rw [show v = .bl _ from h]; rfl⟩
  · exact ⟨h, by rw [show v = .int _ from h]; rfl⟩
  · exact ⟨h, by rw [show v = .str _ from h]; rfl⟩
theorem flats_ok {K : PySem.W.Frag} {io : List Addr} {H : Hp} : ∀ {ws : List W} {vs : List V}, RVs K ca io H ws vs → ws.all flatW = true → vs = ws.map toV ∧ vs.all flatV = true
  | [], vs, h, f => by
    cases (show vs = [] from h)
    exact ⟨rfl, rfl⟩
  | w :: ws, vs, h, f => by
    obtain ⟨v, r, rfl, h1, h2⟩ := h.inv
    rw [List.all_cons, Bool.and_eq_true] at f
    obtain ⟨e1, f1⟩ := flat_ok h1 f.1
    obtain ⟨e2, f2⟩ := flats_ok h2 f.2
    exact ⟨by rw [List.map_cons, ← e1, ← e2], by rw [List.all_cons, f1, f2]; rfl⟩
def inW (x : W) (xs : List W) : Bool := xs.any fun y => eqW y x
/-- isinstance(x, T) of values that are no instances -/
def tyName (S : Sto) : W → Option String
  | .non => some "NoneType"
  | .bl _ => some "bool"
  | .int _ => some "int"
  | .str _ => some "str"
  | .tup _ => some "tuple"
  | .lst _ => some "list"
  | .loc n => match S[n]? with
    | some (.lst _) => some "list"
    | _ => none
  | _ => none
def isiT (a b : String) : Bool := decide (a = b) || (decide (a = "bool") && decide (b = "int"))
def bIsi : FnM := fun ws S => match ws with
  | [w, .ty n] => match tyName S w with
    | some t => if n = "int" ∨ n = "str" ∨ n = "bool" ∨ n = "tuple" ∨ n = "list" then .ok (.bl (isiT t n)) S else .stuck
    | none => .stuck
  | _ => .stuck
theorem isi_kit {t n : String} (ht : t = "NoneType" ∨ t = "bool" ∨ t = "int" ∨ t = "str" ∨ t = "tuple" ∨ t = "list") (hn : n = "int" ∨ n = "str" ∨ n = "bool" ∨ n = "tuple" ∨ n = "list") : kitB t n = some (isiT t n) := by
  rcases ht with rfl | rfl | rfl | rfl | rfl | rfl <;> rcases hn with rfl | rfl | rfl | rfl | rfl <;> decide +kernel
theorem tyName_ok {K : PySem.W.Frag} {io : List Addr} {S : Sto} {H : Hp} (z : Rl0 K ca io S H) {w : W} {v : V} {t : String} (h : RV K ca io H w v) (g : tyName S w = some t) : TyX K H v (.type t) ∧ (t = "NoneType" ∨ t = "bool" ∨ t = "int" ∨ t = "str" ∨ t = "tuple" ∨ t = "list") := by
  cases w <;> simp only [tyName] at g <;> first | (cases g; done) | skip
  · cases g
    cases (show v = .non from h)
    exact ⟨.base .non, by simp⟩
  · cases g
    cases (show v = .bl _ from h)
    exact ⟨.base (.bl _), by simp⟩
  · cases g
    cases (show v = .int _ from h)
    exact ⟨.base (.int _), by simp⟩
  · cases g
    cases (show v = .str _ from h)
    exact ⟨.base (.str _), by simp⟩
  · rename_i n
    split at g
    · rename_i xs q
      cases g
      obtain ⟨a, vs, rfl, h1, h2⟩ := getL_ok (xs := xs) z h (by simp only [getL, q])
      exact ⟨.base (.lst h1), by simp⟩
    · cases g
  · cases g
    obtain ⟨a, vs, rfl, q, r⟩ := h.tupI
    exact ⟨.base (.tup q.1), by simp⟩
  · cases g
    obtain ⟨a, vs, rfl, q, r⟩ := h.lstI
    exact ⟨.base (.lst q.1), by simp⟩
theorem bm_isi : BltM X ca E (.builtin "isinstance") bIsi := by
  intro pins s σ H xs us Q I r h
  obtain ⟨io, ws, S, z, rvs, p⟩ := h
  unfold bIsi at p
  split at p
  · rename_i w n
    obtain ⟨v, y, rfl, r1, r2⟩ := rvs.two
    cases (show y = .ty n from r2)
    cases g : tyName S w with
    | none =>
      simp only [g] at p
      exact p.elim
    | some t =>
      simp only [g] at p
      split at p
      · rename_i hn
        obtain ⟨ty, ht⟩ := tyName_ok z r1 g
        exact call_isi pins s σ H _ us Q I r ⟨v, .ty n, .type t, .type n, _, rfl, .ty n, ty, kit_ty (isi_kit ht hn), p.done z _ rfl⟩
      · exact p.elim
  · exact p.elim
theorem om_addC : OpM X ca E (binaryOp .Add) opAddC := op_cat.weak fun x y H Q h => by
  obtain ⟨io, S, a, b, z, ra, rb, p⟩ := h
  unfold opAddC at p
  split at p
  · rename_i e1 e2
    obtain ⟨a1, vs, rfl, q, r⟩ := getL_ok z ra e1
    obtain ⟨a2, us, rfl, q2, r2⟩ := getL_ok z rb e2
    split at p
    · rename_i hl
      rw [← r.len, ← r2.len] at hl
      exact ⟨_, _, _, _, rfl, rfl, q, q2, lim_le hl, fun l hl => newC p z hl ⟨_, upd_same, (r.app r2).mono (ext_cell hl)⟩ _ (rv_cell z)⟩
    · exact p.elim
  · exact p.elim
/-! ### the place of a flat value in a list -/
def fIndex : FnM := fun ws S => match ws with
  | [w, x] => match getL S w with
    | some xs => if flatW x && xs.all flatW then match xs.findIdx? (fun y => eqW y x) with
        | some j => .ok (.int (j : Nat)) S
        | none => .stuck
      else .stuck
    | none => .stuck
  | _ => .stuck
theorem fm_index : MtS X ca E "list.index" fIndex := by
  intro pins s σ H x xs v us Q I rx rxs h
  obtain ⟨io, ws, S, z, rvs, p⟩ := h
  unfold fIndex at p
  split at p
  · rename_i w y
    obtain ⟨v1, y1, e, r1, r2⟩ := rvs.two
    cases e
    cases g : getL S w with
    | none =>
      simp only [g] at p
      exact p.elim
    | some xs =>
      simp only [g] at p
      obtain ⟨a, vs, rfl, q, r⟩ := getL_ok z r1 g
      split at p
      · rename_i f
        rw [Bool.and_eq_true] at f
        obtain ⟨e1, f1⟩ := flat_ok r2 f.1
        obtain ⟨e2, f2⟩ := flats_ok r f.2
        cases gi : xs.findIdx? (fun y_1 => eqW y_1 y) with
        | none =>
          simp only [gi] at p
          exact p.elim
        | some j =>
          simp only [gi] at p
          obtain ⟨hj, h1, h2⟩ := List.findIdx?_eq_some_iff_getElem.mp gi
          refine mt_index pins s σ H _ _ v us Q I rx rxs ⟨a, vs, y1, j, toV xs[j], rfl, rfl, .of q, f1, f2, ?_, ?_, fun m z' hm hz => ?_, p.done z _ rfl⟩
          · rw [e2, List.getElem?_map, List.getElem?_eq_getElem hj]
            rfl
          · rw [e1]
            exact h1
          · rw [e2, List.getElem?_map, List.getElem?_eq_getElem (by omega)] at hz
            cases hz
            have := h2 m hm
            rw [e1]
            simpa [eqW] using this
      · exact p.elim
  · exact p.elim
theorem inW_ok (x : W) (xs : List W) : inV (toV x) (xs.map toV) = inW x xs := by
  unfold inV inW eqW
  rw [List.any_map]
  rfl
def opInQ : Op2 := fun a b S => match getQ S b with
  | some xs => if flatW a && xs.all flatW then .ok (.bl (inW a xs)) S else .stuck
  | none => .stuck
def opNotInQ : Op2 := fun a b S => match getQ S b with
  | some xs => if flatW a && xs.all flatW then .ok (.bl (!inW a xs)) S else .stuck
  | none => .stuck
theorem om_inQ : OpM X ca E (compareOp .In) opInQ := op_in_seq.weak fun x y H Q h => by
  obtain ⟨io, S, a, b, z, ra, rb, p⟩ := h
  unfold opInQ at p
  cases g : getQ S b with
  | none =>
    simp only [g] at p
    exact p.elim
  | some xs =>
    simp only [g] at p
    obtain ⟨q, vs, rfl, hq, rr⟩ := getQ_ok z rb g
    split at p
    · rename_i f
      rw [Bool.and_eq_true] at f
      obtain ⟨e1, f1⟩ := flat_ok ra f.1
      obtain ⟨e2, f2⟩ := flats_ok rr f.2
      refine ⟨q, vs, rfl, hq, f1, f2, ?_⟩
      have := p.done z
      rw [e1, e2, inW_ok]
      exact p.done z _ rfl
    · exact p.elim
theorem om_notInQ : OpM X ca E (compareOp .NotIn) opNotInQ := op_notIn_seq.weak fun x y H Q h => by
  obtain ⟨io, S, a, b, z, ra, rb, p⟩ := h
  unfold opNotInQ at p
  cases g : getQ S b with
  | none =>
    simp only [g] at p
    exact p.elim
  | some xs =>
    simp only [g] at p
    obtain ⟨q, vs, rfl, hq, rr⟩ := getQ_ok z rb g
    split at p
    · rename_i f
      rw [Bool.and_eq_true] at f
      obtain ⟨e1, f1⟩ := flat_ok ra f.1
      obtain ⟨e2, f2⟩ := flats_ok rr f.2
      refine ⟨q, vs, rfl, hq, f1, f2, ?_⟩
      rw [e1, e2, inW_ok]
      exact p.done z _ rfl
    · exact p.elim
/-! ### dicts -/
section
variable {κ : Type} [DecidableEq κ]
def dVal (ks : List κ) (xs : List W) (k : κ) : Option W := ((ks.zip xs).find? fun kv => decide (kv.1 = k)).map (·.2)
def dPutK (ks : List κ) (k : κ) : List κ := if k ∈ ks then ks else ks ++ [k]
def dPutV (ks : List κ) (xs : List W) (k : κ) (w : W) : List W := if k ∈ ks then (ks.zip xs).map (fun kv => if kv.1 = k then w else kv.2) else xs ++ [w]
theorem dVal_ok {K : PySem.W.Frag} {io : List Addr} {H : Hp} (k : κ) : ∀ {ks : List κ} {xs : List W} {vs : List V}, RVs K ca io H xs vs → match dVal ks xs k with
    | none => valV (ks.zip vs) k = none
    | some w => ∃ v, valV (ks.zip vs) k = some v ∧ RV K ca io H w v
  | [], xs, vs, h => by simp [dVal, valV]
  | j :: ks, [], vs, h => by
    cases (show vs = [] from h)
    simp [dVal, valV]
  | j :: ks, x :: xs, vs, h => by
    obtain ⟨v, r, rfl, h1, h2⟩ := h.inv
    have ih := dVal_ok k (ks := ks) h2
    by_cases e : j = k
    · simp only [dVal, List.zip_cons_cons, List.find?_cons, decide_eq_true e, Option.map_some]
      exact ⟨v, valV_pos e, h1⟩
    · rw [List.zip_cons_cons, valV_neg (p := (j, v)) e]
      unfold dVal at ih ⊢
      simp only [List.zip_cons_cons, List.find?_cons, decide_eq_false e]
      exact ih
theorem any_mem (k : κ) : ∀ (ks : List κ) (vs : List V), vs.length = ks.length → (((ks.zip vs).any fun kv => decide (kv.1 = k)) = true ↔ k ∈ ks)
  | [], vs, h => by simp
  | j :: ks, [], h => by simp at h
  | j :: ks, v :: vs, h => by
    have ih := any_mem k ks vs (by simpa using h)
    simp only [List.zip_cons_cons, List.any_cons, Bool.or_eq_true, decide_eq_true_eq, List.mem_cons, ih]
    exact ⟨fun q => q.elim (fun e => .inl e.symm) .inr, fun q => q.elim (fun e => .inl e.symm) .inr⟩
theorem put_map {K : PySem.W.Frag} {io : List Addr} {H : Hp} (k : κ) {w : W} {v : V} (hv : RV K ca io H w v) : ∀ {ks : List κ} {xs : List W} {vs : List V}, vs.length = ks.length → RVs K ca io H xs vs →
    ∃ us, (ks.zip vs).map (fun kv => if kv.1 = k then (kv.1, v) else kv) = ks.zip us ∧ us.length = ks.length ∧ RVs K ca io H ((ks.zip xs).map (fun kv => if kv.1 = k then w else kv.2)) us
  | [], xs, vs, hl, h => ⟨[], by simp, rfl, by simp [RVs]⟩
  | j :: ks, xs, [], hl, h => by simp at hl
  | j :: ks, [], v2 :: vs, hl, h => by cases (show v2 :: vs = [] from h)
  | j :: ks, x :: xs, vs, hl, h => by
    obtain ⟨v2, r, rfl, h1, h2⟩ := h.inv
    obtain ⟨us, e, l, rr⟩ := put_map k hv (ks := ks) (by simpa using hl) h2
    by_cases q : j = k
    · refine ⟨v :: us, ?_, by simp [l], ?_⟩
      · simp only [List.zip_cons_cons, List.map_cons, e, if_pos q]
      · simp only [List.zip_cons_cons, List.map_cons, if_pos q]
        exact .cons hv rr
    · refine ⟨v2 :: us, ?_, by simp [l], ?_⟩
      · simp only [List.zip_cons_cons, List.map_cons, e, if_neg q]
      · simp only [List.zip_cons_cons, List.map_cons, if_neg q]
        exact .cons h1 rr
theorem dPut_ok {K : PySem.W.Frag} {io : List Addr} {H : Hp} (k : κ) {w : W} {v : V} (hv : RV K ca io H w v) {ks : List κ} {xs : List W} {vs : List V} (hl : vs.length = ks.length) (h : RVs K ca io H xs vs) :
    ∃ us, putK (ks.zip vs) k v = (dPutK ks k).zip us ∧ us.length = (dPutK ks k).length ∧ RVs K ca io H (dPutV ks xs k w) us := by
  have e := any_mem k ks vs hl
  unfold putK dPutK dPutV
  by_cases q : k ∈ ks
  · rw [if_pos (e.mpr q), if_pos q, if_pos q]
    exact put_map k hv hl h
  · rw [if_neg (fun z => q (e.mp z)), if_neg q, if_neg q]
    refine ⟨vs ++ [v], ?_, by simp [hl], h.app (.cons hv .nil)⟩
    rw [List.zip_append hl.symm]
    rfl
end
def keyW : W → Option Key
  | .int i => some (.inl i)
  | .str s => some (.inr s)
  | _ => none
def keysW : List W → Option (List Key)
  | [] => some []
  | x :: xs => match keyW x, keysW xs with
    | some k, some ks => some (k :: ks)
    | _, _ => none
theorem keyW_ok {K : PySem.W.Frag} {io : List Addr} {H : Hp} {w : W} {v : V} {k : Key} (h : RV K ca io H w v) (g : keyW w = some k) : v = kV k := by
  cases w <;> simp only [keyW] at g <;> first | (cases g; done) | skip
  · cases g
    exact h
  · cases g
    exact h
theorem keysW_ok {K : PySem.W.Frag} {io : List Addr} {H : Hp} : ∀ {ws : List W} {vs : List V} {k : List Key}, RVs K ca io H ws vs → keysW ws = some k → vs = k.map kV
  | [], vs, k, h, g => by
    cases (show vs = [] from h)
    cases g
    rfl
  | w :: ws, vs, k, h, g => by
    obtain ⟨v, r, rfl, h1, h2⟩ := h.inv
    unfold keysW at g
    cases e1 : keyW w with
    | none => simp [e1] at g
    | some k1 =>
      cases e2 : keysW ws with
      | none => simp [e1, e2] at g
      | some k2 =>
        simp [e1, e2] at g
        subst g
        rw [List.map_cons, ← keyW_ok h1 e1, ← keysW_ok h2 e2]
/-- what the dict d holds at the key k -/
def dLook (S : Sto) (d k : W) : Option (Option W) := match d with
  | .dct ks xs => (keyW k).map fun q => dVal ks xs q
  | .loc n => match S[n]? with
    | some (.dk ks xs) => (keyW k).map fun q => dVal ks xs q
    | some (.dt ks xs) => match k with
      | .tup us => (keysW us).map fun q => dVal ks xs q
      | _ => none
    | _ => none
  | _ => none
def OptR (K : PySem.W.Frag) (ca : Ca) (io : List Addr) (H : Hp) : Option W → Option V → Prop
  | none, r => r = none
  | some w, r => ∃ v, r = some v ∧ RV K ca io H w v
theorem optR {K : PySem.W.Frag} {io : List Addr} {H : Hp} {κ : Type} [DecidableEq κ] (k : κ) {ks : List κ} {xs : List W} {vs : List V} (h : RVs K ca io H xs vs) : OptR K ca io H (dVal ks xs k) (valV (ks.zip vs) k) := by
  have z := dVal_ok k (ks := ks) h
  cases e : dVal ks xs k with
  | none =>
    rw [e] at z
    exact z
  | some w =>
    rw [e] at z
    exact z
theorem dLook_ok {K : PySem.W.Frag} {io : List Addr} {S : Sto} {H : Hp} (z : Rl0 K ca io S H) {d k : W} {x y : V} {o : Option W} (hd : RV K ca io H d x) (hk : RV K ca io H k y) (g : dLook S d k = some o) :
    ∃ a r, x = .ref a ∧ DGet H a y r ∧ OptR K ca io H o r ∧ IsD H a := by
  unfold dLook at g
  split at g
  · rename_i ks xs
    obtain ⟨a, vs, rfl, q, n, l, r⟩ := (show ∃ a vs, x = .ref a ∧ H a = some (.dK (ks.zip vs)) ∧ a ∉ io ∧ vs.length = ks.length ∧ RVs K ca io H xs vs from hd)
    obtain ⟨q1, e1, rfl⟩ := Option.map_eq_some_iff.mp g
    rw [keyW_ok hk e1]
    exact ⟨a, _, rfl, .k q, optR q1 r, .inl ⟨_, .inl q⟩⟩
  · rename_i n
    split at g
    · rename_i ks xs e
      obtain ⟨a, rfl, hn⟩ := hd.locI
      obtain ⟨a2, h2, vs, q, l, r⟩ := z.at e
      rw [hn] at h2
      cases h2
      obtain ⟨q1, e1, rfl⟩ := Option.map_eq_some_iff.mp g
      rw [keyW_ok hk e1]
      exact ⟨a, _, rfl, .k q, optR q1 r, .inl ⟨_, .inl q⟩⟩
    · rename_i ks xs e
      split at g
      · rename_i us
        obtain ⟨a, rfl, hn⟩ := hd.locI
        obtain ⟨a2, h2, vs, q, l, r⟩ := z.at e
        rw [hn] at h2
        cases h2
        obtain ⟨q1, e1, rfl⟩ := Option.map_eq_some_iff.mp g
        obtain ⟨b, us2, rfl, qb, rb⟩ := hk.tupI
        refine ⟨a, _, rfl, .t q (k := q1) ?_, optR q1 r, .inr ⟨_, .inl q⟩⟩
        rw [← keysW_ok rb e1]
        exact qb.1
      · cases g
    · cases g
  · cases g
def opDGet : Op2 := fun d k S => match dLook S d k with
  | some (some w) => .ok w S
  | _ => .stuck
def opDIn : Op2 := fun k d S => match dLook S d k with
  | some o => .ok (.bl o.isSome) S
  | _ => .stuck
def opDNotIn : Op2 := fun k d S => match dLook S d k with
  | some o => .ok (.bl (!o.isSome)) S
  | _ => .stuck
section
variable {a b e d i : Expr} {m ma mb md mi : M W} {pos pos' apos : Pos}
theorem me_dget (hu : X.A.units + 64 < cLine) (hd : ME X ca E d md) (hi : ME X ca E i mi) (hs : NoSl i := by exact fun _ _ => rfl) : ME X ca E (.Subscript d i pos) (mOp opDGet md mi) := PE.weak (pe_dget (by omega) hd hi hs) fun σ H Q h => by
  obtain ⟨io, r, S, l, p⟩ := h
  refine tE_imp (tE_bind l p) fun v H1 ⟨io1, S1, w1, e1, l1, r1, p1⟩ => ?_
  refine tE_imp (tE_bind l1 p1) fun v2 H2 ⟨io2, S2, w2, e2, l2, r2, p2⟩ => ?_
  unfold opDGet at p2
  split at p2
  · rename_i w g
    obtain ⟨a, o, rfl, dg, ho, _⟩ := dLook_ok l2.z (r1.mono e2) r2 g
    obtain ⟨v3, rfl, r3⟩ := ho
    exact ⟨a, v3, rfl, dg, p2.done l2.z _ r3⟩
  · exact p2.elim
theorem din_imp {K : PySem.W.Frag} {σ : L2.St} {H : Hp} {Q : VK} {mi md : M W} (h : tE K ca E (mOp opDIn mi md) σ H Q) : tDIn (tE K ca E mi) (tE K ca E md) σ H Q := by
  obtain ⟨io, r, S, l, p⟩ := h
  refine tE_imp (tE_bind l p) fun v H1 ⟨io1, S1, w1, e1, l1, r1, p1⟩ => ?_
  refine tE_imp (tE_bind l1 p1) fun v2 H2 ⟨io2, S2, w2, e2, l2, r2, p2⟩ => ?_
  unfold opDIn at p2
  split at p2
  · rename_i o g
    obtain ⟨a, q, rfl, dg, ho, _⟩ := dLook_ok l2.z r2 (r1.mono e2) g
    refine ⟨a, q, rfl, dg, ?_⟩
    have hs : q.isSome = o.isSome := by
      cases o with
      | none =>
        cases (show q = none from ho)
        rfl
      | some w =>
        obtain ⟨v3, rfl, _⟩ := ho
        rfl
    rw [hs]
    exact p2.done l2.z _ rfl
  · exact p2.elim
theorem dnotin_imp {K : PySem.W.Frag} {σ : L2.St} {H : Hp} {Q : VK} {mi md : M W} (h : tE K ca E (mOp opDNotIn mi md) σ H Q) : tDNotIn (tE K ca E mi) (tE K ca E md) σ H Q := by
  obtain ⟨io, r, S, l, p⟩ := h
  refine tE_imp (tE_bind l p) fun v H1 ⟨io1, S1, w1, e1, l1, r1, p1⟩ => ?_
  refine tE_imp (tE_bind l1 p1) fun v2 H2 ⟨io2, S2, w2, e2, l2, r2, p2⟩ => ?_
  unfold opDNotIn at p2
  split at p2
  · rename_i o g
    obtain ⟨a, q, rfl, dg, ho, _⟩ := dLook_ok l2.z r2 (r1.mono e2) g
    refine ⟨a, q, rfl, dg, ?_⟩
    have hs : q.isSome = o.isSome := by
      cases o with
      | none =>
        cases (show q = none from ho)
        rfl
      | some w =>
        obtain ⟨v3, rfl, _⟩ := ho
        rfl
    rw [hs]
    exact p2.done l2.z _ rfl
  · exact p2.elim
theorem me_din (hu : X.A.units + 64 < cLine) (hi : ME X ca E i mi) (hd : ME X ca E d md) (h1 : behindInMarks .In d = false := by first | exact nobehind _ (by decide) (by decide) | rfl) : ME X ca E (.Compare i [.In] [d] pos) (mOp opDIn mi md) :=
  PE.weak (pe_cmp (pc_din (by omega) hi hd) h1) fun σ H Q h => din_imp h
theorem me_dnotin (hu : X.A.units + 64 < cLine) (hi : ME X ca E i mi) (hd : ME X ca E d md) (h1 : behindInMarks .NotIn d = false := by first | exact nobehind _ (by decide) (by decide) | rfl) : ME X ca E (.Compare i [.NotIn] [d] pos) (mOp opDNotIn mi md) :=
  PE.weak (pe_cmp (pc_dnotin (by omega) hi hd) h1) fun σ H Q h => dnotin_imp h
theorem mt_din (hu : X.A.units + 64 < cLine) (hi : ME X ca E i mi) (hd : ME X ca E d md) (h1 : behindInMarks .In d = false := by first | exact nobehind _ (by decide) (by decide) | rfl) : MT X ca E (.Compare i [.In] [d] pos) (mB (mOp opDIn mi md)) :=
  PT.weak (pt_cmp (pc_din (by omega) hi hd) h1) fun σ H Q h => by
    have := tB_imp h
    exact din_imp this
theorem mt_dnotin (hu : X.A.units + 64 < cLine) (hi : ME X ca E i mi) (hd : ME X ca E d md) (h1 : behindInMarks .NotIn d = false := by first | exact nobehind _ (by decide) (by decide) | rfl) : MT X ca E (.Compare i [.NotIn] [d] pos) (mB (mOp opDNotIn mi md)) :=
  PT.weak (pt_cmp (pc_dnotin (by omega) hi hd) h1) fun σ H Q h => by
    have := tB_imp h
    exact dnotin_imp this
/-- d[i] = e -/
def opDPut (d k w : W) (S : Sto) : Res Unit := match d with
  | .loc n => match S[n]? with
    | some (.dk ks xs) => match keyW k with
      | some q => if ks.length < 16000000 then .ok () (S.set n (.dk (dPutK ks q) (dPutV ks xs q w))) else .stuck
      | none => .stuck
    | some (.dt ks xs) => match k with
      | .tup us => match keysW us with
        | some q => if ks.length < 16000000 then .ok () (S.set n (.dt (dPutK ks q) (dPutV ks xs q w))) else .stuck
        | none => .stuck
      | _ => .stuck
    | _ => .stuck
  | _ => .stuck
def sDPutM (md mi m : M W) : MSt := do
  let x ← m
  let a ← md
  let b ← mi
  fun r S => match opDPut a b x S with
    | .ok _ S' => .ok (.nx r) S'
    | _ => .stuck
def mDNewK : M W := fun _ S => .ok (.loc S.length) (S ++ [.dk [] []])
def mDNewT : M W := fun _ S => .ok (.loc S.length) (S ++ [.dt [] []])
theorem me_dnewK : ME X ca E (.Dict [] [] pos) mDNewK := PE.weak pe_dnewK fun σ H Q h => by
  obtain ⟨io, r, S, l, p⟩ := h
  exact fun q hq => newC p l.z hq ⟨[], upd_same, rfl, .nil⟩ _ (rv_cell l.z)
theorem me_dnewT : ME X ca E (.Dict [] [] pos) mDNewT := PE.weak pe_dnewT fun σ H Q h => by
  obtain ⟨io, r, S, l, p⟩ := h
  exact fun q hq => newC p l.z hq ⟨[], upd_same, rfl, .nil⟩ _ (rv_cell l.z)
end
end
end SL

set_option Elab.async false
set_option linter.all false
set_option maxRecDepth 100000
set_option maxHeartbeats 2000000
namespace SL
open PySem PySem.Spec PyProof.Rows L2
section
variable {X : Cx} {ca : Ca} {E : XK}
section
variable {e d i : Expr} {m md mi : M W} {pos pos' : Pos}
theorem ms_dput (hu : X.A.units + 64 < cLine) (hd : ME X ca E d md) (hi : ME X ca E i mi) (h : ME X ca E e m) (hs : swapsWith e (some (.Subscript d i pos')) pos.line X.env = pure false := by rfl) : MS X ca E (.Assign [.Subscript d i pos'] e pos) (sDPutM md mi m) := PS.weak (ps_dput (by omega) hd hi h hs) fun D σ H h => by
  obtain ⟨io, r, S, l, p⟩ := h
  refine tE_imp (tE_bind l p) fun v H1 ⟨io1, S1, w, e1, l1, rv, p1⟩ => ?_
  refine tE_imp (tE_bind l1 p1) fun v2 H2 ⟨io2, S2, w2, e2, l2, rv2, p2⟩ => ?_
  refine tE_imp (tE_bind l2 p2) fun v3 H3 ⟨io3, S3, w3, e3, l3, rv3, p3⟩ => ?_
  have hv := (rv.mono e2).mono e3
  have hd := rv2.mono e3
  simp only [opDPut] at p3
  cases w2 <;> first | exact False.elim p3 | skip
  rename_i n _
  dsimp only at p3
  cases g : S3[n]? with
  | none =>
    simp only [g] at p3
    exact False.elim p3
  | some c =>
    obtain ⟨a, ha, rc⟩ := l3.z.at g
    obtain ⟨a2, rfl, hn⟩ := hd.locI
    rw [ha] at hn
    cases hn
    cases c with
    | lst _ =>
      simp only [g] at p3
      exact False.elim p3
    | ins _ _ =>
      simp only [g] at p3
      exact False.elim p3
    | dk ks xs =>
      simp only [g] at p3
      obtain ⟨vs, q, hl, r⟩ := rc
      cases gk : keyW w3 with
      | none =>
        simp only [gk] at p3
        exact False.elim p3
      | some k =>
        simp only [gk] at p3
        by_cases hlim : ks.length < 16000000
        · rw [if_pos hlim] at p3
          rw [keyW_ok rv3 gk]
          obtain ⟨us, e4, l4, r4⟩ := dPut_ok k hv hl r
          refine ⟨a, _, rfl, .k q (lim_lt (by rw [List.length_zip, hl, Nat.min_self]; exact hlim)), ?_⟩
          rw [e4]
          have ex : Ext io3 H3 io3 (upd H3 a (.dK ((dPutK ks k).zip us))) := ext_put ha q
          refine p3 io3 _ ex (l3.z.put ha q ⟨us, upd_same, l4, r4.mono ex⟩) _ (l3.e.mono ex)
        · rw [if_neg hlim] at p3
          exact False.elim p3
    | dt ks xs =>
      simp only [g] at p3
      obtain ⟨vs, q, hl, r⟩ := rc
      obtain ⟨us, rfl⟩ : ∃ us, w3 = .tup us := by cases w3 <;> first | exact False.elim p3 | exact ⟨_, rfl⟩
      dsimp only at p3
      cases gk : keysW us with
      | none =>
        simp only [gk] at p3
        exact False.elim p3
      | some k =>
        simp only [gk] at p3
        by_cases hlim : ks.length < 16000000
        · rw [if_pos hlim] at p3
          obtain ⟨b, us2, rfl, qb, rb⟩ := rv3.tupI
          have ek := keysW_ok rb gk
          have qb1 := qb.1
          rw [ek] at qb1
          obtain ⟨us, e4, l4, r4⟩ := dPut_ok k hv hl r
          refine ⟨a, _, rfl, .t q qb1 (lim_lt (by rw [List.length_zip, hl, Nat.min_self]; exact hlim)), ?_⟩
          rw [e4]
          have ex : Ext io3 H3 io3 (upd H3 a (.dT ((dPutK ks k).zip us))) := ext_put ha q
          refine p3 io3 _ ex (l3.z.put ha q ⟨us, upd_same, l4, r4.mono ex⟩) _ (l3.e.mono ex)
        · rw [if_neg hlim] at p3
          exact False.elim p3
end
/-! ### def f(a, .., *v) -/
def fnMS (n k : Nat) (b : MSt) : FnM := fun ws S => if k ≤ ws.length ∧ ws.length - k ≤ 16000000 then endOf (b ((ws.take k).map some ++ some (.tup (ws.drop k)) :: List.replicate (n - k - 1) none) S) else .stuck
end
/-! ### sorted(set(l)), l a list of whole numbers -/
def insS (k : Int) : List Int → List Int
  | [] => [k]
  | x :: xs => if k < x then k :: x :: xs else if k = x then x :: xs else x :: insS k xs
def sortS : List Int → List Int
  | [] => []
  | x :: xs => insS x (sortS xs)
theorem mem_insS (k j : Int) : ∀ xs : List Int, j ∈ insS k xs ↔ j = k ∨ j ∈ xs
  | [] => by simp [insS]
  | x :: xs => by
    unfold insS
    split
    · simp
    · split
      · rename_i e
        subst e
        simp
      · simp only [List.mem_cons, mem_insS k j xs]
        exact ⟨fun h => by rcases h with h | h | h <;> simp [h], fun h => by rcases h with h | h | h <;> simp [h]⟩
theorem mem_sortS (j : Int) : ∀ xs : List Int, j ∈ sortS xs ↔ j ∈ xs
  | [] => by simp [sortS]
  | x :: xs => by simp only [sortS, mem_insS, mem_sortS j xs, List.mem_cons]
theorem insS_pw (k : Int) : ∀ xs : List Int, xs.Pairwise (· < ·) → (insS k xs).Pairwise (· < ·)
  | [], _ => by simp [insS]
  | x :: xs, h => by
    obtain ⟨h1, h2⟩ := List.pairwise_cons.mp h
    unfold insS
    split
    · rename_i e
      refine List.pairwise_cons.mpr ⟨fun y hy => ?_, h⟩
      rcases List.mem_cons.mp hy with rfl | hy
      · exact e
      · exact Int.lt_trans e (h1 y hy)
    · split
      · exact h
      · refine List.pairwise_cons.mpr ⟨fun y hy => ?_, insS_pw k xs h2⟩
        rcases (mem_insS k y xs).mp hy with rfl | hy
        · omega
        · exact h1 y hy
theorem sortS_pw : ∀ xs : List Int, (sortS xs).Pairwise (· < ·)
  | [] => .nil
  | x :: xs => insS_pw x _ (sortS_pw xs)
theorem pw_unique : ∀ {xs ys : List Int}, xs.Pairwise (· < ·) → ys.Pairwise (· < ·) → (∀ k, k ∈ xs ↔ k ∈ ys) → xs = ys
  | [], [], _, _, _ => rfl
  | [], y :: ys, _, _, h => by simpa using (h y)
  | x :: xs, [], _, _, h => by simpa using (h x)
  | x :: xs, y :: ys, hx, hy, h => by
    obtain ⟨x1, x2⟩ := List.pairwise_cons.mp hx
    obtain ⟨y1, y2⟩ := List.pairwise_cons.mp hy
    have e : x = y := by
      rcases List.mem_cons.mp ((h x).mp List.mem_cons_self) with e | m
      · exact e
      · rcases List.mem_cons.mp ((h y).mpr List.mem_cons_self) with e | m2
        · exact e.symm
        · have := y1 x m
          have := x1 y m2
          omega
    subst e
    rw [pw_unique x2 y2 fun k => ⟨fun m => ?_, fun m => ?_⟩]
    · rcases List.mem_cons.mp ((h k).mp (List.mem_cons_of_mem _ m)) with e | m2
      · have := x1 k m
        omega
      · exact m2
    · rcases List.mem_cons.mp ((h k).mpr (List.mem_cons_of_mem _ m)) with e | m2
      · have := y1 k m
        omega
      · exact m2
end SL

set_option Elab.async false
set_option linter.all false
set_option maxRecDepth 100000
set_option maxHeartbeats 6000000
/-! set(l) of a list of whole numbers; sorted of it -/
namespace L2
open PySem PySem.Spec PyProof.Rows
section
variable {P : Program} {w : World} {A : Around} {E : Value → Shared → Prop} {s : Shared}
abbrev esO (w : World) : Obj := { cls := .type "set", dict := none, data := .set #[] 0 (.fresh 0 0 (!w.params.followText "set-order")) }
theorem eset_lstI {l : Addr} {items : Array Value} (ns : List Int) {Q : Value → Shared → Prop} (hh : A.handled = none) (hl : s.heap.IsList l items) (hit : IntsAre items.toList ns) (hb : ns.length + 1 < scanBound)
    (h : ∀ (h' : Heap) (tk c : Nat), SetR w h' s.heap.objs.size (fun j => decide (j ∈ ns)) c → c ≤ ns.length → (∀ b o, s.heap.get? b = some o → h'.get? b = some o) → Q (.ref s.heap.objs.size) { s with heap := h', toks := tk }) :
    wpAny (model P w) A (call (.type "set") [.ref l]) Q E s := by
  have hisz : items.size = ns.length := by rw [← IntsAre.length hit, Array.length_toList]
  obtain ⟨c, tl, hmro⟩ := F.called_set.mro
  have hmade := F.called_set.made
  have hsub := F.called_set.sub
  refine wpAny_call (codeAny_of_tree ?_)
  show wpAny _ _ (callAny (.type "set") _) _ _ _
  refine wpAny_pure ⟨Code.quiet_builtin _ (by decide +kernel), codeAny_builtin F.entry_type_call ?_⟩
  rw [Around.under_plain (weight_type_call_type "set" [.ref l] []) rfl]
  have h1 := F.called_set.notType
  have h2 := F.called_set.canCreate
  have hct := F.typeCall_set_1 (.ref l)
  repeat (any_goals (first | assumption | wp_step))
  refine codeAny_mono (code_set_led1 (.ref l) (E := E) (Q₁ := fun obj s₁ => obj = .ref s.heap.objs.size ∧ s₁ = { s with heap := s.heap.push (esO w) }) ⟨rfl, rfl⟩) fun r s₁ hr => ?_
  cases r with
  | error e => exact hr
  | ok fl =>
    cases fl with
    | ret obj =>
      obtain ⟨rfl, rfl⟩ := hr
      have hS : (s.heap.push (esO w)).get? s.heap.objs.size = some (esO w) := Heap.get?_push_size _ rfl
      have hT : Shared.TypeIs { s with heap := s.heap.push (esO w) } (.ref s.heap.objs.size) "set" := ⟨_, hS, rfl⟩
      have hli := F.called_set.init.lookup
      have hbi := F.called_set.init.bind (.ref s.heap.objs.size)
      repeat (any_goals (first | assumption | wp_step))
      refine codeAny_mono (codeAny_call_builtin (R := wants (fun r s₂ => r = .none ∧ ∃ h' tk c, s₂ = { s with heap := h', toks := tk } ∧ SetR w h' s.heap.objs.size (fun j => decide (j ∈ ns)) c ∧ c ≤ ns.length ∧
          (∀ b o, s.heap.get? b = some o → h'.get? b = some o)) E) F.called_set.init.plain F.entry_set_init (check_set_init_1 hT ?_)) fun r₂ s₂ hr₂ => ?_
      · obtain ⟨⟨ocls, odict, odata, oslots⟩, hol, hcl, nl, hdl⟩ := hl
        simp only at hcl hdl
        subst hcl hdl
        have hol' : (s.heap.push (esO w)).get? l = some { cls := .type "list", dict := odict, data := .seq items nl, slots := oslots } := Heap.get?_push_of_some _ hol
        have hsls := F.sub_list_set
        have hslf := F.sub_list_frozenset
        have hne : (Value.type "list" == Value.type "dict") = false := by decide
        have hl1 : (s.heap.push (esO w)).IsList l items := ⟨_, hol', rfl, nl, rfl⟩
        unfold Builtin.«set.__init__» noKeywords Builtin.Frozenset.updateFrom
        generalize hPI : pyIter = PI
        wp_walk
        subst hPI
        refine wpAny_pyIter_list (s := { s with heap := s.heap.push (esO w) }) hl1 ?_
        refine wpAny_bind (wpAny_runValue ?_)
        have hlS : l < s.heap.objs.size := Heap.lt_size hol
        have hz1 : (s.heap.push (esO w)).objs.size = s.heap.objs.size + 1 := Heap.size_push ..
        have hneI : l ≠ (s.heap.push (esO w)).objs.size := Nat.ne_of_lt (by rw [hz1]; exact Nat.lt_succ_of_lt hlS)
        have hSf : s.heap.objs.size ∉ [(s.heap.push (esO w)).objs.size, l] := by
          rw [hz1]
          intro m
          rcases List.mem_cons.mp m with e | m
          · exact Nat.ne_of_lt (Nat.lt_succ_self _) e
          · exact Nat.ne_of_gt hlS (List.mem_singleton.mp m)
        have hval : ∀ (i : Nat) (v : Value), items[i]? = some v → ∃ k t, ns[i]? = some k ∧ v = .int k t := fun i v hv => by
          have hi : i < ns.length := by rw [← hisz]; exact (Array.getElem?_eq_some_iff.mp hv).1
          obtain ⟨t, e⟩ := PyProof.Rows.IntsAre.int_at hit i v (by rw [Array.getElem?_toList]; exact hv)
          exact ⟨ns[i], t, List.getElem?_eq_getElem hi, by rw [e, List.getD_eq_getElem?_getD, List.getElem?_eq_getElem hi] <;> rfl⟩
        refine set_update_ints ((Walks.list (by simp [hh]) _ l hneI items).toS) s.heap.objs.size hSf ns hisz hb hval (items.size - 0) 0 _ (by omega) (Nat.zero_le _)
          ⟨⟨_, Heap.get?_push_size _ rfl, rfl, rfl⟩, (hl1.push _)⟩ ⟨0, Nat.le_refl 0, setR_new_at (Heap.get?_push_of_some _ hS)⟩ fun s' c' hm hc' hS' => ?_
        obtain ⟨h', g2, d', tk', os'⟩ := s'
        cases (show g2 = s.gens from hm.gens)
        cases (show d' = s.drawn from hm.drawn)
        cases (show os' = s.os from hm.os)
        show wpAny _ _ _ _ _ _
        refine wpAny_pure ?_
        show wpAny _ _ (ret Value.none) _ _ _
        rw [hisz] at hc'
        refine wpAny_pure ⟨rfl, h', tk', c', rfl, hS', hc', fun b o e => ?_⟩
        have hb0 : b < s.heap.objs.size := Heap.lt_size e
        refine hm.heap b o (fun m => ?_) (Heap.get?_push_of_some _ (Heap.get?_push_of_some _ e))
        rcases List.mem_cons.mp m with e | m
        · exact Nat.ne_of_lt hb0 e
        · exact Nat.ne_of_lt (by rw [hz1]; exact Nat.lt_succ_of_lt hb0) (List.mem_singleton.mp m)
      · cases r₂ with
        | error e => exact hr₂
        | ok fl₂ =>
          cases fl₂ with
          | ret r =>
            obtain ⟨rfl, h', tk, c', rfl, hS', hc', hk'⟩ := hr₂
            repeat (any_goals (first | assumption | wp_step))
            exact h _ _ _ hS' hc' hk'
          | _ => exact hr₂.elim
    | _ => exact hr.elim
end
end L2
namespace SL
open PySem PySem.Spec PyProof.Rows L2
section
variable {X : Cx} {ca : Ca} {E : XK}
def rSetL (K : PySem.W.Frag) (w : World) : List V → Hp → VK → Prop := fun vs H Q => ∃ (a : Addr) (ns : List Int), vs = [V.ref a] ∧ SqL K H a (ns.map V.int) ∧ ns.length ≤ 1000 ∧
  ∀ (p : Addr), H p = none → Q (.ref p) (upd H p (SetO w p (fun j => decide (j ∈ ns)) (sortS ns).length))
theorem set_size {w : World} {h : Heap} {a : Addr} {ns : List Int} {c : Nat} (R : SetR w h a (fun j => decide (j ∈ ns)) c) : c = (sortS ns).length := by
  obtain ⟨o, es, ep, t, ho, hex, hd, g, nd, hm, hb, hf, hn, hr, hl⟩ := R
  have h2 : (sortS ns).Nodup := (sortS_pw ns).imp fun h => Int.ne_of_lt h
  have pm := (List.perm_ext_iff_of_nodup nd h2).mpr fun k => by
    rw [mem_sortS, ← decide_eq_true_eq (p := k ∈ ns)]
    exact (hm k).symm
  have := pm.length_eq
  rw [List.length_map, Array.length_toList] at this
  rw [← this, ← hn]
theorem cr_setL (hc : X.calm = true) : CallR X (.type "set") (rSetL X.K X.w) := by
  intro pins s σ H vs us Q I r h
  obtain ⟨a, ns, rfl, hq, hl, q⟩ := h
  obtain ⟨u, rfl, rx⟩ := vals1 r
  cases rx
  obtain ⟨its, rv, pl, hz⟩ := I.list hq
  have hi : IntsAre its.toArray.toList ns := ints_of_vals rv
  refine eset_lstI ns (I.ok.hd hc) pl.isList hi (by unfold scanBound; omega) fun h' tk c R hcn k => ?_
  have hn : H s.heap.objs.size = none := I.hok.fresh (Nat.le_refl _)
  exact ⟨.ref _, _, I.call (ch := []) (t' := tk) (Un.laid k (Nat.le_refl _) hn) (I.hok.laid k (Nat.le_refl _) (setO_new R)) I.bare (fun _ z => nomatch z), rfl, by have := set_size R; subst this; exact q _ hn⟩
/-- sorted(set(l)) -/
def mSortSet (m : M W) : M W := do
  let w ← m
  fun _ S => match getIs S w with
    | some ns => if ns.length ≤ 1000 ∧ (sortS ns).length < 64 then .ok (.lst ((sortS ns).map W.int)) S else .stuck
    | none => .stuck
theorem me_sortset {e : Expr} {m : M W} {p1 p2 pos1 pos2 : Pos} (hc : X.calm = true) (hm : X.mg "sorted" = none) (hm2 : X.mg "set" = none) (he : ME X ca E e m) (hg : Gl X "sorted" := by rfl) (hg2 : Gl X "set" := by rfl)
    (hs : starEach [e] X.env = (false, eval e X.env) :: starEach [] X.env := by rfl)
    (hs2 : starEach [.Call (.Name "set" p2) [e] [] pos2] X.env = (false, eval (.Call (.Name "set" p2) [e] [] pos2) X.env) :: starEach [] X.env := by rfl) (hpl1 : (backTo pos1 (starEach [] X.env)).any (·.1) = false := by rfl) (hpl2 : (backTo pos2 (starEach [] X.env)).any (·.1) = false := by rfl) :
    ME X ca E (.Call (.Name "sorted" p1) [.Call (.Name "set" p2) [e] [] pos2] [] pos1) (mSortSet m) := by
  have h1 : PE X (.Call (.Name "set" p2) [e] [] pos2) _ := pe_callTy (cr_setL hc) hg2 hm2 (by decide +kernel) (pa_cons he pa_nil hs) (by decide) (by decide) hs hpl2
  have h2 : PE X (.Call (.Name "sorted" p1) [.Call (.Name "set" p2) [e] [] pos2] [] pos1) _ := pe_callB (cr_sortedSet hc) hg hm (by decide +kernel) (pa_cons h1 pa_nil hs2) (by decide) (by decide) hs2 hpl1
  refine PE.weak h2 fun σ H Q h => ?_
  obtain ⟨io, r, S, l, p⟩ := h
  refine tE_imp (tE_bind l p) fun v H1 ⟨io1, S1, w, e1, l1, rv, p1⟩ => ?_
  cases g : getIs S1 w with
  | none =>
    simp only [g] at p1
    exact False.elim p1
  | some ns =>
    simp only [g] at p1
    obtain ⟨a, rfl, q⟩ := getIs_ok l1.z rv g
    by_cases hn : ns.length ≤ 1000 ∧ (sortS ns).length < 64
    · rw [if_pos hn] at p1
      refine ⟨a, ns, rfl, q, hn.1, fun p2 np => ?_⟩
      have l2 := l1.z.new (o := SetO X.w p2 (fun j => decide (j ∈ ns)) (sortS ns).length) np
      have e2 : Ext io1 H1 io1 (upd H1 p2 (SetO X.w p2 (fun j => decide (j ∈ ns)) (sortS ns).length)) := ext_new np
      refine ⟨p2, _, (sortS ns).length, rfl, upd_same, hn.2, fun out p3 h1 h2 h3 np3 => ?_⟩
      have eo : out = sortS ns := pw_unique h1 (sortS_pw ns) fun k => by rw [h2 k, decide_eq_true_eq, mem_sortS]
      subst eo
      exact (p1.mono e2).newW l2 np3 _ (rv_newL l2 np3 (RVs.of_ints _))
    · rw [if_neg hn] at p1
      exact False.elim p1
end
end SL

set_option Elab.async false
set_option linter.all false
set_option maxRecDepth 100000
set_option maxHeartbeats 2000000
namespace SL
open PySem PySem.Spec PyProof.Rows L2
def cname : Cl → Str
  | .LightError => "LightError" | .InvalidStairs => "InvalidStairs" | .InvalidTick => "InvalidTick" | .UnknownTrip => "UnknownTrip" | .InvalidCount => "InvalidCount" | .TooManyTrips => "TooManyTrips"
  | .Contradiction => "Contradiction" | .TextFault => "TextFault" | .InvalidCode => "InvalidCode" | .InvalidName => "InvalidName" | .UnknownName => "UnknownName" | .InvalidOperation => "InvalidOperation"
  | .Trip => "Trip" | .Stairs => "Stairs" | .Scene => "Scene" | .Story => "Story" | .Reader => "Reader" | .Electrician => "Electrician" | .Panel => "Panel" | .Trial => "Trial"
  | .lam _ => ""
/-- the functions that were made while the law ran, the tables, what stands as it is -/
structure Lm where
  at_ : Nat → Addr
  tabs : List (Addr × Str)
  pins : List (Addr × HO)
abbrev caL (K : PySem.W.Frag) (L : Lm) : Ca := ⟨fun c => match c with
  | .lam n => L.at_ n
  | c => He.ga K (cname c), L.tabs, L.pins⟩
abbrev caK (K : PySem.W.Frag) : Ca := caL K ⟨fun _ => 0, [], []⟩
section
variable {X : Cx} {ca : Ca} {E : XK} {j k : Nat} {g : FnM} {c : Cl} {x m : Str} {p pos apos : Pos} {e o : Expr} {es : List Expr} {t : M (List W)} {mo : M W}
/-- f(a, ..) -/
theorem me_fn (F : FnAt X.prog X.w X.K X.mg X.base ca x k g) (b : Bd X E j) (ha : MA X ca E (e :: es) t) (hk : k ≤ j := by decide)
    (hg : Gl X x := by rfl) (hdb : (x == ("__debug__" : Str)) = false := by decide) (he : starEach (e :: es) X.env = (false, eval e X.env) :: starEach es X.env := by rfl) (hpl : (backTo pos (starEach es X.env)).any (·.1) = false := by rfl) :
    ME X ca E (.Call (.Name x p) (e :: es) [] pos) (mFr (mCall g t)) := by
  obtain ⟨f, h1, h2, h3⟩ := F
  exact me_fr (me_call h3 (b.hr.mono hk) h1 h2 b.pc ha hg hdb he hpl)
theorem me_fnK (F : FnAt X.prog X.w X.K X.mg X.base ca x k g) (b : Bd X E j) (ha : MA X ca E (e :: es) t) (hk : k ≤ j := by decide)
    (hg : Gl X x := by rfl) (hdb : (x == ("__debug__" : Str)) = false := by decide) (he : starEach (e :: es) X.env = (false, eval e X.env) :: starEach es X.env := by rfl) (hpl : (backTo pos (starEach es X.env)).any (·.1) = false := by rfl) :
    ME X ca E (.Call (.Name x p) (e :: es) [] pos) (mCall g t) := by
  obtain ⟨f, h1, h2, h3⟩ := F
  exact me_call h3 (b.hr.mono hk) h1 h2 b.pc ha hg hdb he hpl
theorem me_fn0 (F : FnAt X.prog X.w X.K X.mg X.base ca x k g) (b : Bd X E j) (hk : k ≤ j := by decide)
    (hg : Gl X x := by rfl) (hdb : (x == ("__debug__" : Str)) = false := by decide) : ME X ca E (.Call (.Name x p) [] [] pos) (mFr (mCall g mNil)) := by
  obtain ⟨f, h1, h2, h3⟩ := F
  exact me_fr (me_call0 h3 (b.hr.mono hk) h1 h2 b.pc hg hdb)
/-- o.m(a, ..) -/
theorem me_mt {pl : Sem Bool} (F : MethAt X.prog X.w X.K X.mg X.base ca c m k g) (b : Bd X E j) (ho : ME X ca E o mo) (ha : MA X ca E (e :: es) t) (hk : k ≤ j := by decide) (hl : (fnames c).contains m = false := by decide)
    (hst : starEach (e :: es) X.env = (false, eval e X.env) :: starEach es X.env := by rfl) (hpl : (backTo pos (starEach es X.env)).any (·.1) = false := by rfl)
    (ht : eval (.Call (.Attribute o m apos) (e :: es) [] pos) X.env = (do
      let ov ← eval o X.env
      standAt apos.atName
      let (f, first) ← holding [ov] (getMethod ov m pl)
      callWith pos f first (backTo pos (starEach (e :: es) X.env)) (backToKw pos (keywordEach [] X.env))) := by rfl) :
    ME X ca E (.Call (.Attribute o m apos) (e :: es) [] pos) (mFr (mMeth c g mo t)) := by
  obtain ⟨f, h1, h2, h3⟩ := F
  exact me_fr (me_meth h3 (b.hr.mono hk) h1 h2 hl b.pc ho ha hst hpl ht)
theorem me_mtK {pl : Sem Bool} (F : MethAt X.prog X.w X.K X.mg X.base ca c m k g) (b : Bd X E j) (ho : ME X ca E o mo) (ha : MA X ca E (e :: es) t) (hk : k ≤ j := by decide) (hl : (fnames c).contains m = false := by decide)
    (hst : starEach (e :: es) X.env = (false, eval e X.env) :: starEach es X.env := by rfl) (hpl : (backTo pos (starEach es X.env)).any (·.1) = false := by rfl)
    (ht : eval (.Call (.Attribute o m apos) (e :: es) [] pos) X.env = (do
      let ov ← eval o X.env
      standAt apos.atName
      let (f, first) ← holding [ov] (getMethod ov m pl)
      callWith pos f first (backTo pos (starEach (e :: es) X.env)) (backToKw pos (keywordEach [] X.env))) := by rfl) :
    ME X ca E (.Call (.Attribute o m apos) (e :: es) [] pos) (mMeth c g mo t) := by
  obtain ⟨f, h1, h2, h3⟩ := F
  exact me_meth h3 (b.hr.mono hk) h1 h2 hl b.pc ho ha hst hpl ht
theorem me_mt0 {pl : Sem Bool} (F : MethAt X.prog X.w X.K X.mg X.base ca c m k g) (b : Bd X E j) (ho : ME X ca E o mo) (hk : k ≤ j := by decide) (hl : (fnames c).contains m = false := by decide)
    (ht : eval (.Call (.Attribute o m apos) [] [] pos) X.env = (do
      let ov ← eval o X.env
      standAt apos.atName
      let (f, first) ← holding [ov] (getMethod ov m pl)
      callWith pos f first (backTo pos (starEach [] X.env)) (backToKw pos (keywordEach [] X.env))) := by rfl) :
    ME X ca E (.Call (.Attribute o m apos) [] [] pos) (mFr (mMeth c g mo mNil)) := by
  obtain ⟨f, h1, h2, h3⟩ := F
  exact me_fr (me_meth0 h3 (b.hr.mono hk) h1 h2 hl b.pc ho ht)
theorem me_mt0K {pl : Sem Bool} (F : MethAt X.prog X.w X.K X.mg X.base ca c m k g) (b : Bd X E j) (ho : ME X ca E o mo) (hk : k ≤ j := by decide) (hl : (fnames c).contains m = false := by decide)
    (ht : eval (.Call (.Attribute o m apos) [] [] pos) X.env = (do
      let ov ← eval o X.env
      standAt apos.atName
      let (f, first) ← holding [ov] (getMethod ov m pl)
      callWith pos f first (backTo pos (starEach [] X.env)) (backToKw pos (keywordEach [] X.env))) := by rfl) :
    ME X ca E (.Call (.Attribute o m apos) [] [] pos) (mMeth c g mo mNil) := by
  obtain ⟨f, h1, h2, h3⟩ := F
  exact me_meth0 h3 (b.hr.mono hk) h1 h2 hl b.pc ho ht
/-- o.p, p a property -/
theorem me_pr (F : PropAt X.prog X.w X.K X.mg X.base ca c m k g) (b : Bd X E j) (ho : ME X ca E o mo) (hk : k + 1 ≤ j := by decide) (hab : attributeBase o m X.env (eval o X.env) = eval o X.env := by rfl) : ME X ca E (.Attribute o m pos) (mFr (mProp c g mo)) := by
  obtain ⟨p, q, fd, h1, h2, h3, h4⟩ := F
  exact me_fr (me_prop h1 h2 h4 (b.hr.mono hk) h3 ho hab)
/-- C(a, ..) -/
theorem me_nw (F : NewAt X.prog X.w X.K X.mg X.base ca c x k g) (b : Bd X E j) (ha : MA X ca E (e :: es) t) (hk : k + 1 ≤ j := by decide)
    (hg : Gl X x := by rfl) (hdb : (x == ("__debug__" : Str)) = false := by decide) (he : starEach (e :: es) X.env = (false, eval e X.env) :: starEach es X.env := by rfl) (hpl : (backTo pos (starEach es X.env)).any (·.1) = false := by rfl) :
    ME X ca E (.Call (.Name x p) (e :: es) [] pos) (mFr (mCall (newR c g) t)) := by
  obtain ⟨f, h1, h2, h3⟩ := F
  exact me_fr (me_new h3 h2 (b.hr.mono hk) h1 b.pc ha hg hdb he hpl)
theorem me_nwS (F : NewAt X.prog X.w X.K X.mg X.base ca c x k g) (b : Bd X E j) (ha : MA X ca E (e :: es) t) (hk : k + 1 ≤ j := by decide)
    (hg : Gl X x := by rfl) (hdb : (x == ("__debug__" : Str)) = false := by decide) (he : starEach (e :: es) X.env = (false, eval e X.env) :: starEach es X.env := by rfl) (hst : (backTo pos (starEach es X.env)).any (·.1) = true := by rfl) :
    ME X ca E (.Call (.Name x p) (e :: es) [] pos) (mFr (mCall (newR c g) t)) := by
  obtain ⟨f, h1, h2, h3⟩ := F
  exact me_fr (me_newS h3 h2 (b.hr.mono hk) h1 b.pc ha hg hdb he hst)
theorem me_nw1 {m : M W} {sp_ : Pos} (F : NewAt X.prog X.w X.K X.mg X.base ca c x k g) (b : Bd X E j) (he : ME X ca E e m) (hk : k + 1 ≤ j := by decide)
    (hg : Gl X x := by rfl) (hdb : (x == ("__debug__" : Str)) = false := by decide) (hst : starEach [.Starred e sp_] X.env = [(true, eval e X.env)] := by rfl) :
    ME X ca E (.Call (.Name x p) [.Starred e sp_] [] pos) (mFr (mCall (newR c g) (mStar m mNil))) := by
  obtain ⟨f, h1, h2, h3⟩ := F
  exact me_fr (me_new1 h3 h2 (b.hr.mono hk) h1 b.pc he hg hdb hst)
end
/-! ### defs as they stand, from the head's words -/
section
variable {P : Program} {w : World} {K : PySem.W.Frag} {mg : Str → Option Value} {base : Heap} {ca : Ca} {x m : Str} {c : Cl} {k : Nat} {g : FnM}
/-- a def that is not called to the end -/
theorem fm_stuck {f : Addr} : Fm P w K mg base ca k f (fun _ _ => .stuck) := by
  intro A outer s H us vs Q E hr e0 r h
  obtain ⟨io, ws, S, z, rvs, p⟩ := h
  exact p.elim
theorem bnd1 (fd : FuncData) {qual : Str} {params : Arguments} {body : List Stmt} {scope : Scope} {f : Addr} {n1 : Str} (F : FunD K x qual params body scope [] [] f fd)
    (h : ∀ (us : List Value), us.length = 1 → Binds K fd [n1] []) : True := trivial
end
end SL

set_option Elab.async false
set_option linter.all false
set_option maxRecDepth 100000
set_option maxHeartbeats 2000000
namespace SL
open PySem PySem.Spec PyProof.Rows L2
/-! ### what the head tells of the module: functions by their places, facts -/
inductive Pl where
  | fn (x : Str) | me (C m : Str) | pr (C f : Str) | cm (C f : Str)
def inRec (K : PySem.W.Frag) (p : Addr) (T : String) : Addr := match PySem.W.recIn K p T with
  | some (.ref g :: _) => g
  | _ => 0
def Pl.at (K : PySem.W.Frag) : Pl → Addr
  | .fn x => He.ga K x
  | .me C m => He.ma K (He.ga K C) m
  | .pr C f => inRec K (He.ma K (He.ga K C) f) "property"
  | .cm C f => inRec K (He.ma K (He.ga K C) f) "classmethod"
structure Df where
  pl : Pl
  name : Str
  qual : Str
  params : Arguments
  body : List Stmt
  scope : Scope
def fnV (K : PySem.W.Frag) (p : Addr) : He.FnW := match K.lookup p with
  | some ⟨_, _, .func fd, _⟩ => some (fd.name, fd.qualname, fd.params, fd.body, fd.scope, fd.globals, fd.closure, fd.builtins)
  | _ => none
def Df.val (d : Df) : He.FnW := some (d.name, d.qual, d.params, .stmts d.body, d.scope, mainGlobals, [], builtinsNs)
def Df.ok (K : PySem.W.Frag) (d : Df) : Bool := PySem.W.keepIn K (.ref (d.pl.at K)) && (match K.lookup (d.pl.at K) with
  | some ⟨_, _, .func fd, _⟩ => PySem.W.codeIn K fd.code d.qual && (He.dflB K fd.defaults [] && He.kwdB K fd.kwdefaults [])
  | _ => false)
theorem Df.funD {K : PySem.W.Frag} {d : Df} (e : fnV K (d.pl.at K) = d.val) (c : d.ok K = true) : ∃ fd, FunD K d.name d.qual d.params d.body d.scope [] [] (d.pl.at K) fd := by
  obtain ⟨kp, c2⟩ := He.ba c
  unfold fnV at e
  cases q : K.lookup (d.pl.at K) with
  | none =>
    rw [q] at c2
    cases c2
  | some o =>
    obtain ⟨oc, od, dt, osl⟩ := o
    rw [q] at c2 e
    cases dt with
    | func fd =>
      obtain ⟨n1, n2, n3, n4, n5, n6, n7, n8, n9, n10, n11, n12, n13, n14, n15⟩ := fd
      have e2 : (some (n1, n2, n3, n4, n5, n6, n7, n15) : He.FnW) = some (d.name, d.qual, d.params, .stmts d.body, d.scope, mainGlobals, [], builtinsNs) := e
      simp only [Option.some.injEq, Prod.mk.injEq] at e2
      obtain ⟨h1, h2, h3, h4, h5, h6, h7, h8⟩ := e2
      subst h1 h2 h3 h4 h5 h6 h7 h8
      have c3 : (PySem.W.codeIn K n13 d.qual && (He.dflB K n8 [] && He.kwdB K n9 [])) = true := c2
      obtain ⟨k1, k2⟩ := He.ba c3
      obtain ⟨k3, k4⟩ := He.ba k2
      exact ⟨_, ⟨oc, od, n8, n9, n10, n11, n12, n13, n14, osl, rfl, q, k1, He.dflB_ok k3, He.kwdB_ok k4⟩, kp⟩
    | _ => cases c2
/-- the names' tuple of texts -/
def tupS (K : PySem.W.Frag) (x : Str) (zs : List Str) : Bool := match K.lookup (He.ga K x) with
  | some ⟨.type c, none, .seq its _, _⟩ => decide (c = "tuple") && (decide (its.size ≤ sizeLine) && He.relAll (zs.map V.str) its.toList)
  | _ => false
theorem tupS_ok {K : PySem.W.Frag} {x : Str} {zs : List Str} (h : tupS K x zs = true) : WrT K (He.ga K x) (zs.map V.str) := by
  unfold tupS at h
  cases q : K.lookup (He.ga K x) with
  | none =>
    rw [q] at h
    cases h
  | some o =>
    rw [q] at h
    obtain ⟨oc, od, dt, osl⟩ := o
    cases oc with
    | type c =>
      cases od with
      | some d => cases dt <;> cases h
      | none =>
        cases dt with
        | seq its n =>
          obtain ⟨h1, h2⟩ := He.ba h
          obtain ⟨h3, h4⟩ := He.ba h2
          have ec : c = "tuple" := of_decide_eq_true h1
          subst ec
          exact ⟨_, its, n, q, rfl, rfl, of_decide_eq_true h3, He.relAll_ok h4, rfl⟩
        | _ => cases h
    | _ => cases od <;> cases dt <;> cases h
inductive Fx where
  | fa (f : He.Fa) | pr (C f : Str) | tp (x : Str) (zs : List Str) | cm (C m : Str)
/-- C.m is a classmethod -/
def cmB (K : PySem.W.Frag) (C m : Str) : Bool := He5.wrapB K (He.ga K C) "classmethod" "classmethod.__get__" m && (PySem.W.fnIn K (Pl.at K (.cm C m)) && PySem.W.readsIn K (He.ga K C) (.type "type"))
def prB (K : PySem.W.Frag) (C f : Str) : Bool := He.eqO (PySem.W.findIn K (.ref (He.ga K C)) f) (some (some (.ref (He.ma K (He.ga K C) f)))) &&
  (He.eqO (PySem.W.specialIn K (.ref (He.ma K (He.ga K C) f)) "__get__") (some (some (.builtin "property.__get__"))) && (decide (PySem.W.takesIn K (.ref (He.ma K (He.ga K C) f)) = some true) &&
  (match PySem.W.recIn K (He.ma K (He.ga K C) f) "property" with
    | some (.ref _ :: _) => true
    | _ => false)))
theorem prB_ok {K : PySem.W.Frag} {C f : Str} (h : prB K C f = true) : PropOf K (He.ga K C) f (He.ma K (He.ga K C) f) (Pl.at K (.pr C f)) := by
  obtain ⟨h1, h2⟩ := He.ba h
  obtain ⟨h3, h4⟩ := He.ba h2
  obtain ⟨h5, h6⟩ := He.ba h4
  refine ⟨He.eqO_ok h1, He.eqO_ok h3, of_decide_eq_true h5, ?_⟩
  cases q : PySem.W.recIn K (He.ma K (He.ga K C) f) "property" with
  | none =>
    rw [q] at h6
    cases h6
  | some l =>
    rw [q] at h6
    cases l with
    | nil => cases h6
    | cons v r =>
      cases v with
      | ref g =>
        have e : Pl.at K (.pr C f) = g := by simp only [Pl.at, inRec, q]
        rw [e]
        exact ⟨r, rfl⟩
      | _ => cases h6
def Fx.ok (K : PySem.W.Frag) : Fx → Bool
  | .fa f => f.ok K
  | .pr C f => prB K C f
  | .tp x zs => tupS K x zs
  | .cm C m => cmB K C m
structure ClmF (K : PySem.W.Frag) (C : Addr) (m : Str) (p g : Addr) : Prop where
  rd : ClX.CRead K C (.type "type")
  me : ClX.CMet K C (.type "type") m p g
theorem cmB_ok {K : PySem.W.Frag} {C m : Str} (h : cmB K C m = true) : ClmF K (He.ga K C) m (He.ma K (He.ga K C) m) (Pl.at K (.cm C m)) := by
  obtain ⟨h1, h2⟩ := He.ba h
  obtain ⟨h3, h4⟩ := He.ba h2
  have hw := He5.wrapB_ok h1
  have e : He5.wf K (He.ga K C) "classmethod" m = Pl.at K (.cm C m) := rfl
  rw [e] at hw
  refine ⟨⟨h4, ?_⟩, hw.1, hw.2, h3⟩
  have h := h4
  unfold PySem.W.readsIn at h
  obtain ⟨h, _⟩ := He.ba h
  obtain ⟨h, _⟩ := He.ba h
  obtain ⟨h, h3⟩ := He.ba h
  obtain ⟨_, h2⟩ := He.ba h
  unfold PySem.W.specialIn
  rw [beq_iff_eq.mp h2, Option.bind_some]
  exact beq_iff_eq.mp h3
abbrev AlP : Type := Bool × List He.FnW
/-- what the names reach in n steps, and the interpreter's own statics (a class read looks there) -/
def frX (g : Addr → Option Obj) (n : Nat) : PySem.W.Frag := He.frT g (He.asD g n) ++ He.frG g [PySem.cStatics]
theorem frX_in {n : Nat} {h : Heap} : (frX h.get? n).In h := fun a o e => by
  unfold frX at e
  rw [List.lookup_append] at e
  cases q : (He.frT h.get? (He.asD h.get? n)).lookup a with
  | some u =>
    rw [q] at e
    cases e
    exact He.frT_in _ _ q
  | none =>
    rw [q] at e
    exact He.frG_in _ _ e
def obsP (n : Nat) (fs : List Fx) (ds : List Df) (g : Addr → Option Obj) : AlP :=
  ((fs.all fun f => f.ok (frX g n)) && (ds.all fun d => d.ok (frX g n)), ds.map fun d => fnV (frX g n) (d.pl.at (frX g n)))
structure SaysP (fs : List Fx) (ds : List Df) (K : PySem.W.Frag) : Prop where
  fa : ∀ f ∈ fs, f.ok K = true
  df : ∀ d ∈ ds, ∃ fd, FunD K d.name d.qual d.params d.body d.scope [] [] (d.pl.at K) fd
theorem saysP_of {n : Nat} {fs : List Fx} {ds : List Df} {h : Heap} (e : obsP n fs ds h.get? = (true, ds.map Df.val)) : SaysP fs ds (frX h.get? n) := by
  have e1 := congrArg (fun z : AlP => z.1) e
  have e2 := congrArg (fun z : AlP => z.2) e
  obtain ⟨h1, h2⟩ := He.ba e1
  refine ⟨fun f hf => List.all_eq_true.mp h1 f hf, fun d hd => Df.funD ?_ (List.all_eq_true.mp h2 d hd)⟩
  exact List.map_inj_left.mp e2 d hd
def hookP (n : Nat) (fs : List Fx) (ds : List Df) : PySem.W.Hook where
  α := AlP
  obs := fun s => obsP n fs ds s.heap.get?
  val := fun _ => (true, ds.map Df.val)
  says := fun _ h => ∃ K : PySem.W.Frag, K.In h ∧ SaysP fs ds K
  of := fun _ _ e => ⟨_, frX_in, saysP_of e⟩
  keeps := fun _ _ _ ⟨K, hK, c⟩ k => ⟨K, PySem.W.Frag.In.keeps hK k, c⟩
theorem obsP_eq {n : Nat} {fs : List Fx} {ds : List Df} {g : Addr → Option Obj} {s : Shared} (h : ∀ a, g a = s.heap.get? a) : obsP n fs ds g = (hookP n fs ds).obs s := by
  have e : g = s.heap.get? := funext h
  rw [e] <;> rfl
/-- the module as the walk needs it -/
structure Sy (fs : List Fx) (ds : List Df) (K : PySem.W.Frag) (mg : Str → Option Value) : Prop where
  hp : ∃ h : Heap, K.In h ∧ h.Ns mainGlobals mg
  sa : SaysP fs ds K
section
variable {fs : List Fx} {ds : List Df} {K : PySem.W.Frag} {mg : Str → Option Value}
theorem Sy.f (Z : Sy fs ds K mg) (i : Nat) {f : Fx} (h : fs[i]? = some f) : f.ok K = true := Z.sa.fa f (List.mem_of_getElem? h)
theorem Sy.glo (Z : Sy fs ds K mg) (i : Nat) {x : Str} (h : fs[i]? = some (.fa (.glo x)) := by rfl) : mg x = some (.ref (He.ga K x)) := by
  obtain ⟨h1, X, G⟩ := Z.hp
  exact He.glo_ok X G (Z.f i h)
theorem Sy.free (Z : Sy fs ds K mg) (i : Nat) {x : Str} (h : fs[i]? = some (.fa (.free x)) := by rfl) : mg x = none := by
  obtain ⟨h1, X, G⟩ := Z.hp
  exact He.free_ok X G (Z.f i h)
theorem Sy.int (Z : Sy fs ds K mg) (i : Nat) {x : Str} {j : Int} (h : fs[i]? = some (.fa (.int x j)) := by rfl) : ∃ t, mg x = some (.int j t) := by
  obtain ⟨h1, X, G⟩ := Z.hp
  exact He.int_ok X G (Z.f i h)
theorem Sy.str (Z : Sy fs ds K mg) (i : Nat) {x z : Str} (h : fs[i]? = some (.fa (.str x z)) := by rfl) : ∃ t, mg x = some (.str z t) := by
  obtain ⟨h1, X, G⟩ := Z.hp
  exact He.str_ok X G (Z.f i h)
theorem Sy.cls (Z : Sy fs ds K mg) (i : Nat) {x : Str} (h : fs[i]? = some (.fa (.cls x)) := by rfl) : Cls K (He.ga K x) := He.cls_ok (Z.f i h)
theorem Sy.noat (Z : Sy fs ds K mg) (i : Nat) {x f : Str} (h : fs[i]? = some (.fa (.noat x f)) := by rfl) : NoAttr K (He.ga K x) f := He.noat_ok (Z.f i h)
theorem Sy.tp (Z : Sy fs ds K mg) (i : Nat) {x : Str} {zs : List Str} (h : fs[i]? = some (.tp x zs) := by rfl) : WrT K (He.ga K x) (zs.map V.str) := tupS_ok (Z.f i h)
theorem Sy.d (Z : Sy fs ds K mg) (i : Nat) {d : Df} (h : ds[i]? = some d := by rfl) : ∃ fd, FunD K d.name d.qual d.params d.body d.scope [] [] (d.pl.at K) fd := Z.sa.df d (List.mem_of_getElem? h)
theorem rvs_strs {ca : Ca} {io : List Addr} {H : Hp} : ∀ zs : List Str, RVs K ca io H (zs.map W.str) (zs.map V.str)
  | [] => .nil
  | z :: zs => .cons rfl (rvs_strs zs)
theorem me_tp {X : Cx} {ca : Ca} {E : XK} {x : Str} {zs : List Str} {pos : Pos} (h : WrT X.K (He.ga X.K x) (zs.map V.str)) (hm : X.mg x = some (.ref (He.ga X.K x))) (hg : Gl X x := by rfl) (hd : (x == ("__debug__" : Str)) = false := by decide) : ME X ca E (.Name x pos) (mC (.ktup (zs.map W.str))) :=
  me_gtup hm h (fun io H => rvs_strs zs) hg hd
variable {P : Program} {w : World} {base : Heap} {ca : Ca} {x qual m : Str} {c : Cl} {k n j : Nat} {params : Arguments} {body : List Stmt} {scope : Scope} {N ps : List Str} {b : MSt}
abbrev BindOk (x qual : Str) (params : Arguments) (body : List Stmt) (scope : Scope) (ps : List Str) : Prop :=
  ∀ (kV doc pm : Value) (an : Option Addr) (cdv ct : Value) (us : List Value), us.length = ps.length → bindArgs (PySem.W.fnOf x qual params body scope .none kV doc pm an cdv ct) ⟨us, []⟩ = pure (ps.zip us)
abbrev DerOk (P : Program) (w : World) (K : PySem.W.Frag) (mg : Str → Option Value) (base : Heap) (ca : Ca) (N : List Str) (qual : Str) (scope : Scope) (k : Nat) (f : Addr) (body : List Stmt) (b : MSt) : Prop :=
  ∀ (cdv : Value) (A : Around) (outer : List Env) (s : Shared) (H : Hp) (E : XK), Bd (cxOf (L2.CX P w) P w K mg base N qual scope f cdv A outer s H E) E k → MSs (cxOf (L2.CX P w) P w K mg base N qual scope f cdv A outer s H E) ca E body b
theorem Sy.fn (Z : Sy fs ds K mg) (i ig : Nat) (hd : ds[i]? = some ⟨.fn x, x, qual, params, body, scope⟩) (hg : fs[ig]? = some (.fa (.glo x))) (Sc : FnScope N ps scope) (hn : N.length = n) (hj : ps.length = j)
    (hb : BindOk x qual params body scope ps) (h : ∀ f, DerOk P w K mg base ca N qual scope k f body b) : FnAt P w K mg base ca x (k + 1) (fnM n j b) := by
  obtain ⟨fd, F⟩ := Z.d i hd
  exact ⟨_, Z.glo ig hg, F.kp, fm_of (fo_ok F Sc hn hj fun cdv A outer s H E hr => h _ cdv A outer s H E (Bd.of hr)) (F.bindsN hb)⟩
theorem Sy.meth (Z : Sy fs ds K mg) (i ic im : Nat) {C : Str} (hd : ds[i]? = some ⟨.me C x, x, qual, params, body, scope⟩) (hC : ca c = He.ga K C) (hc : fs[ic]? = some (.fa (.cls C))) (hm : fs[im]? = some (.fa (.meth C x))) (Sc : FnScope N ps scope) (hn : N.length = n) (hj : ps.length = j)
    (hb : BindOk x qual params body scope ps) (h : ∀ f, DerOk P w K mg base ca N qual scope k f body b) : MethAt P w K mg base ca c x (k + 1) (fnM n j b) := by
  obtain ⟨fd, F⟩ := Z.d i hd
  refine ⟨_, ?_, ?_, fm_of (fo_ok F Sc hn hj fun cdv A outer s H E hr => h _ cdv A outer s H E (Bd.of hr)) (F.bindsN hb)⟩
  · rw [hC]
    exact Z.cls ic hc
  · rw [hC]
    exact He.meth_ok (Z.f im hm)
theorem Sy.prop (Z : Sy fs ds K mg) (i ic im : Nat) {C : Str} (hd : ds[i]? = some ⟨.pr C x, x, qual, params, body, scope⟩) (hC : ca c = He.ga K C) (hc : fs[ic]? = some (.fa (.cls C))) (hm : fs[im]? = some (.pr C x)) (Sc : FnScope N ["self"] scope) (hn : N.length = n)
    (hb : BindOk x qual params body scope ["self"]) (h : ∀ f, DerOk P w K mg base ca N qual scope k f body b) : PropAt P w K mg base ca c x (k + 1) (fnM n 1 b) := by
  obtain ⟨fd, F⟩ := Z.d i hd
  refine ⟨He.ma K (He.ga K C) x, _, fd, ?_, ?_, F.bindsN hb, fo_ok F Sc hn rfl fun cdv A outer s H E hr => h _ cdv A outer s H E (Bd.of hr)⟩
  · rw [hC]
    exact Z.cls ic hc
  · rw [hC]
    exact prB_ok (Z.f im hm)
theorem Sy.new (Z : Sy fs ds K mg) (i ig im : Nat) (hd : ds[i]? = some ⟨.me x "__init__", "__init__", qual, params, body, scope⟩) (hC : ca c = He.ga K x) (hg : fs[ig]? = some (.fa (.glo x))) (hm : fs[im]? = some (.fa (.mkr x))) (Sc : FnScope N ps scope) (hn : N.length = n) (hj : ps.length = j)
    (hb : BindOk "__init__" qual params body scope ps) (h : ∀ f, DerOk P w K mg base ca N qual scope k f body b) : NewAt P w K mg base ca c x (k + 1) (fnM n j b) := by
  obtain ⟨fd, F⟩ := Z.d i hd
  refine ⟨_, ?_, ?_, fm_of (fo_ok F Sc hn hj fun cdv A outer s H E hr => h _ cdv A outer s H E (Bd.of hr)) (F.bindsN hb)⟩
  · rw [hC]
    exact Z.glo ig hg
  · rw [hC]
    exact He.mkr_ok (Z.f im hm)
/-- a classmethod as it stands in the module -/
def ClmAt (P : Program) (w : World) (K : PySem.W.Frag) (mg : Str → Option Value) (base : Heap) (ca : Ca) (c : Cl) (x m : Str) (k : Nat) (g : FnM) : Prop := ∃ p f, mg x = some (.ref (ca c)) ∧ ClmF K (ca c) m p f ∧ Fm P w K mg base ca k f g
theorem Sy.clm (Z : Sy fs ds K mg) (i ig im : Nat) {C : Str} (hd : ds[i]? = some ⟨.cm C x, x, qual, params, body, scope⟩) (hC : ca c = He.ga K C) (hg : fs[ig]? = some (.fa (.glo C))) (hm : fs[im]? = some (.cm C x)) (Sc : FnScope N ps scope) (hn : N.length = n) (hj : ps.length = j)
    (hb : BindOk x qual params body scope ps) (h : ∀ f, DerOk P w K mg base ca N qual scope k f body b) : ClmAt P w K mg base ca c C x (k + 1) (fnM n j b) := by
  obtain ⟨fd, F⟩ := Z.d i hd
  refine ⟨He.ma K (He.ga K C) x, _, ?_, ?_, fm_of (fo_ok F Sc hn hj fun cdv A outer s H E hr => h _ cdv A outer s H E (Bd.of hr)) (F.bindsN hb)⟩
  · rw [hC]
    exact Z.glo ig hg
  · rw [hC]
    exact cmB_ok (Z.f im hm)
theorem fms_ok {pv : Str} {f : Addr} {fd : FuncData} (F : FunD K x qual params body scope [] [] f fd) (Sc : FnScope N (ps ++ [pv]) scope) (hn : N.length = n) (hj : ps.length = j)
    (hb : ∀ (kV doc pm : Value) (an : Option Addr) (cdv ct : Value) (us rest : List Value), us.length = ps.length → bindArgs (PySem.W.fnOf x qual params body scope .none kV doc pm an cdv ct) ⟨us ++ rest, []⟩ = (newTuple rest >>= fun t => pure (ps.zip us ++ [(pv, t)])))
    (h : DerOk P w K mg base ca N qual scope k f body b) : Fm P w K mg base ca (k + 1) f (fnMS n j b) := by
  obtain ⟨oc, od, dV, kV, doc, pm, an, cdv, ct, osl, rfl, lk, hcd, hD, hK⟩ := F.ex
  have eD : dV = .none := by
    rcases hD with ⟨_, rfl⟩ | ⟨e, _⟩
    · rfl
    · exact absurd rfl e
  subst eD hn hj
  refine FnR.imp (StX.fn_star (sp := spM K ca fun ws S => endOf (b (ws.map some ++ List.replicate (N.length - ws.length) none) S)) lk hcd Sc StX.cxUp (hb kV doc pm an cdv ct) fun A outer s H vs Q E hr hsp => ⟨_, h cdv A outer s H E (Bd.of hr), ?_⟩) fun vs H Q E hs => ?_
  · obtain ⟨io, ws, S, z, rvs, p⟩ := hsp
    refine ⟨io, ws.map some ++ List.replicate (N.length - ws.length) none, S, ⟨z, RE.start rvs⟩, ?_⟩
    cases q : b (ws.map some ++ List.replicate (N.length - ws.length) none) S with
    | stuck =>
      simp only [q] at p
      exact p
    | exc c es S' =>
      simp only [q] at p
      exact p
    | ok f S' =>
      simp only [q] at p
      cases f with
      | nx r' => exact fun io' H' e z' σ re => p io' H' e z' _ rfl
      | rt u => exact p
      | bk r' => exact p.elim
      | ct r' => exact p.elim
  · obtain ⟨io, ws, S, z, rvs, p⟩ := hs
    unfold fnMS at p
    split at p
    · rename_i hl
      have h1 : (vs.take ps.length).length = ps.length := by
        rw [List.length_take, rvs.len]
        omega
      refine ⟨vs.take ps.length, vs.drop ps.length, (List.take_append_drop _ _).symm, h1, ?_, fun q hq => ?_⟩
      · rw [List.length_drop, rvs.len]
        exact lim_le hl.2
      · refine ⟨io, ws.take ps.length ++ [.tup (ws.drop ps.length)], S, z.new hq, ((rvs.take _).mono (ext_new hq)).app (.cons (rv_newT z hq (rvs.drop _)) .nil), ?_⟩
        have e2 : (ws.take ps.length ++ [W.tup (ws.drop ps.length)]).map some ++ List.replicate (N.length - (ws.take ps.length ++ [W.tup (ws.drop ps.length)]).length) none = (ws.take ps.length).map some ++ some (.tup (ws.drop ps.length)) :: List.replicate (N.length - ps.length - 1) none := by
          rw [List.map_append, List.append_assoc, List.length_append, List.length_take]
          have e3 : min ps.length ws.length = ps.length := by omega
          rw [e3]
          simp only [List.map_cons, List.map_nil, List.cons_append, List.nil_append, List.length_cons, List.length_nil]
          rw [show N.length - (ps.length + (0 + 1)) = N.length - ps.length - 1 by omega]
        dsimp only
        rw [e2]
        exact p.mono (ext_new hq)
    · exact p.elim
theorem Sy.newS (Z : Sy fs ds K mg) (i ig im : Nat) {pv : Str} (hd : ds[i]? = some ⟨.me x "__init__", "__init__", qual, params, body, scope⟩) (hC : ca c = He.ga K x) (hg : fs[ig]? = some (.fa (.glo x))) (hm : fs[im]? = some (.fa (.mkr x))) (Sc : FnScope N (ps ++ [pv]) scope) (hn : N.length = n) (hj : ps.length = j)
    (hb : ∀ (kV doc pm : Value) (an : Option Addr) (cdv ct : Value) (us rest : List Value), us.length = ps.length → bindArgs (PySem.W.fnOf "__init__" qual params body scope .none kV doc pm an cdv ct) ⟨us ++ rest, []⟩ = (newTuple rest >>= fun t => pure (ps.zip us ++ [(pv, t)])))
    (h : ∀ f, DerOk P w K mg base ca N qual scope k f body b) : NewAt P w K mg base ca c x (k + 1) (fnMS n j b) := by
  obtain ⟨fd, F⟩ := Z.d i hd
  refine ⟨_, ?_, ?_, fms_ok F Sc hn hj hb (h _)⟩
  · rw [hC]
    exact Z.glo ig hg
  · rw [hC]
    exact He.mkr_ok (Z.f im hm)
end
end SL

set_option Elab.async false
set_option linter.all false
set_option maxRecDepth 100000
set_option maxHeartbeats 2000000
namespace SL
open PySem PySem.Spec PyProof.Rows L2
def mNeg (m : M W) : M W := do
  let w ← m
  match w with
  | .int i => pure (.int (-i))
  | _ => fun _ _ => .stuck
section
variable {X : Cx} {ca : Ca} {E : XK}
theorem me_neg {e : Expr} {m : M W} {pos : Pos} (h : ME X ca E e m) : ME X ca E (.UnaryOp .USub e pos) (mNeg m) := PE.weak (pe_un un_neg h) fun σ H Q h => by
  obtain ⟨io, r, S, l, p⟩ := h
  refine tE_imp (tE_bind l p) fun v H1 ⟨io1, S1, w, e1, l1, rv, p1⟩ => ?_
  cases w <;> first | exact False.elim p1 | skip
  exact ⟨_, rv, p1.done l1.z _ rfl⟩
section
variable {elt tg iter : Expr} {ifs : List Expr} {scope : Scope} {own : List (Str × Nat)} {pos : Pos} {T : Tg} {mi : M (List W)} {tt : M Bool} {te : M W} {k : Nat}
abbrev BkOk (X : Cx) (scope : Scope) (k : Nat) (φ : Cx → Prop) : Prop := ∀ (s : Shared) (H : Hp) (C : Addr) (cl : List (Str × Addr)) (fp : List Addr), Bd (X.blk s H scope (compEnvC scope cl C X.env) fp) (fun _ _ _ => False) k → φ (X.blk s H scope (compEnvC scope cl C X.env) fp)
theorem me_lcB (vs : List Nat) (b : Bd X E k) (hN : X.N.Nodup) (hi : MI X ca E tg iter mi) (ok : BlkOk X.N X.env.scope scope own) (hv : own.map (·.2) = vs) (hg : BkOk X scope k fun Y => MG Y tg T) (ht : BkOk X scope k fun Y => PTs Y ifs (tT X.K ca (fun _ _ _ => False) tt))
    (he : BkOk X scope k fun Y => ME Y ca (fun _ _ _ => False) elt te) (hs : ∀ x, foldedSetIterable iter X.env x = pure x := by intro _; rfl) : ME X ca E (.ListComp elt [⟨tg, iter, ifs, 0⟩] scope pos) (mLc vs T mi tt te) :=
  me_lc vs b.calm hN hi ok hv (fun s H C cl fp => hg s H C cl fp b.blk) (fun s H C cl fp => ht s H C cl fp b.blk) (fun s H C cl fp => he s H C cl fp b.blk) hs
theorem me_lcCB (vs : List Nat) (b : Bd X E k) (hN : X.N.Nodup) (hi : MI X ca E tg iter mi) (ok : BlkOk X.N X.env.scope scope own) (hv : own.map (·.2) = vs) (hg : BkOk X scope k fun Y => MG Y tg T) (ht : BkOk X scope k fun Y => PTs Y ifs (tT X.K ca (fun _ _ _ => False) tt))
    (he : BkOk X scope k fun Y => ME Y ca (fun _ _ _ => False) elt te) (hs : ∀ x, foldedSetIterable iter X.env x = pure x := by intro _; rfl) : ME X ca E (.ListComp elt [⟨tg, iter, ifs, 0⟩] scope pos) (mLcC vs T mi tt te) :=
  me_lcC vs b.calm hN hi ok hv (fun s H C cl fp => hg s H C cl fp b.blk) (fun s H C cl fp => ht s H C cl fp b.blk) (fun s H C cl fp => he s H C cl fp b.blk) hs
theorem ms_setLcB (i : Nat) (vs : List Nat) {y : Str} {py spos : Pos} (b : Bd X E k) (hN : X.N.Nodup) (hi : MI X ca E tg iter mi) (ok : BlkOk X.N X.env.scope scope own) (hv : own.map (·.2) = vs) (hg : BkOk X scope k fun Y => MG Y tg T) (ht : BkOk X scope k fun Y => PTs Y ifs (tT X.K ca (fun _ _ _ => False) tt))
    (he : BkOk X scope k fun Y => ME Y ca (fun _ _ _ => False) elt te) (hy : X.N[i]? = some y := by rfl) (hyl : X.env.scope.names.lookup y = some .local := by rfl) (hsw : swapsWith (.ListComp elt [⟨tg, iter, ifs, 0⟩] scope pos) (some (.Name y py)) spos.line X.env = pure true := by exact sw_true rfl rfl rfl (by decide +kernel)) (hs : ∀ x, foldedSetIterable iter X.env x = pure x := by intro _; rfl) :
    MS X ca E (.Assign [.Name y py] (.ListComp elt [⟨tg, iter, ifs, 0⟩] scope pos) spos) (sSet i (mLc vs T mi tt te)) :=
  ms_setLc i vs b.calm hN hi ok hv (fun s H C cl fp => hg s H C cl fp b.blk) (fun s H C cl fp => ht s H C cl fp b.blk) (fun s H C cl fp => he s H C cl fp b.blk) hy hyl hsw hs
theorem ms_setLcCB (i : Nat) (vs : List Nat) {y : Str} {py spos : Pos} (b : Bd X E k) (hN : X.N.Nodup) (hi : MI X ca E tg iter mi) (ok : BlkOk X.N X.env.scope scope own) (hv : own.map (·.2) = vs) (hg : BkOk X scope k fun Y => MG Y tg T) (ht : BkOk X scope k fun Y => PTs Y ifs (tT X.K ca (fun _ _ _ => False) tt))
    (he : BkOk X scope k fun Y => ME Y ca (fun _ _ _ => False) elt te) (hy : X.N[i]? = some y := by rfl) (hyl : X.env.scope.names.lookup y = some .local := by rfl) (hsw : swapsWith (.ListComp elt [⟨tg, iter, ifs, 0⟩] scope pos) (some (.Name y py)) spos.line X.env = pure true := by exact sw_true rfl rfl rfl (by decide +kernel)) (hs : ∀ x, foldedSetIterable iter X.env x = pure x := by intro _; rfl) :
    MS X ca E (.Assign [.Name y py] (.ListComp elt [⟨tg, iter, ifs, 0⟩] scope pos) spos) (sSet i (mLcC vs T mi tt te)) :=
  ms_setLcC i vs b.calm hN hi ok hv (fun s H C cl fp => hg s H C cl fp b.blk) (fun s H C cl fp => ht s H C cl fp b.blk) (fun s H C cl fp => he s H C cl fp b.blk) hy hyl hsw hs
end
end
theorem Sy.fn0 {fs : List Fx} {ds : List Df} {P : Program} {w : World} {K : PySem.W.Frag} {mg : Str → Option Value} {base : Heap} {ca : Ca} {x qual : Str} {params : Arguments} {body : List Stmt} {scope : Scope} {k : Nat} (Z : Sy fs ds K mg) (i ig : Nat)
    (hd : ds[i]? = some ⟨.fn x, x, qual, params, body, scope⟩) (hg : fs[ig]? = some (.fa (.glo x))) : FnAt P w K mg base ca x k (fun _ _ => .stuck) := by
  obtain ⟨fd, F⟩ := Z.d i hd
  exact ⟨_, Z.glo ig hg, F.kp, fm_stuck⟩
theorem Sy.law {fs : List Fx} {ds : List Df} {P : Program} {w : World} {K : PySem.W.Frag} {mg : Str → Option Value} {ca : Ca} {x y qual : Str} {params : Arguments} {body : List Stmt} {scope : Scope} {k n : Nat} {N : List Str} {b : MSt} (Z : Sy fs ds K mg) (i : Nat)
    (hd : ds[i]? = some ⟨.fn x, x, qual, params, body, scope⟩) (Sc : FnScope N [y] scope) (hn : N.length = n) (hb : BindOk x qual params body scope [y]) (h : ∀ base f, DerOk P w K mg base ca N qual scope k f body b) :
    ∃ fd, (∀ (s : Shared) (u : Value), BindsTo s fd ⟨[u], []⟩ [(y, u)]) ∧ ∀ base : Heap, FnOk P w K mg base (L2.CX P w) (k + 1) (He.ga K x) fd [y] (spM K ca (fnM n 1 b)) := by
  obtain ⟨fd, F⟩ := Z.d i hd
  exact ⟨fd, fun s u => F.bindsA hb s [u] rfl, fun base => fo_ok F Sc hn rfl fun cdv A outer s H E hr => h base _ cdv A outer s H E (Bd.of hr)⟩
theorem law_spT {K : PySem.W.Frag} {ca : Ca} {g : FnM} {H : Hp} {a : Addr} {ns : List Int} {S' : Sto} (ht : ∀ p ∈ ca.tabs, H p.1 = some (.tbl #[])) (hp : ca.pins = []) (h : SqL K H a (ns.map V.int)) (e : g [.scr ns] [] = .ok (.bl true) S') : spM K ca g [.ref a] H (fun v _ => v = .bl true) fun _ _ _ => False := by
  refine ⟨[], [.scr ns], [], ⟨rfl, .nil, fun n c a q => by simp at q, ⟨fun p q => ⟨by simp, #[], ht p q, True.intro, fun pos cv hc => ?_⟩, fun p q => ?_⟩⟩, .cons ⟨a, rfl, ?_⟩ .nil, ?_⟩
  · have z : codeAmong pos [] = some cv := hc
    simp [codeAmong] at z
  · rw [hp] at q
    exact absurd q (by simp)
  · rcases h with h | h
    · exact .inl ⟨h, by simp⟩
    · exact .inr h
  · rw [e]
    exact fun io' H' _ _ v rv => rv
theorem law_sp {K : PySem.W.Frag} {ca : Ca} {g : FnM} {H : Hp} {a : Addr} {ns : List Int} {S' : Sto} (h : SqL K H a (ns.map V.int)) (e : g [.scr ns] [] = .ok (.bl true) S') (ht : ca.tabs = [] := by rfl) (hp : ca.pins = [] := by rfl) : spM K ca g [.ref a] H (fun v _ => v = .bl true) fun _ _ _ => False :=
  law_spT (fun p q => by rw [ht] at q; exact absurd q (by simp)) hp h e
/-- the law's end: what it may let out is what this layer's defs may -/
theorem walk_sl {l : PySem.W.OpenLaw} {n k : Nat} {q : Program} {loose : List Str} {XP : (Str → Option Value) → Heap → Prop} {YP : World → Heap → Prop} {d : DefRec} {x : Str} (hn : l.most = some n) (hn2 : n ≤ sizeLine) (hdf : d.params.defaults = []) (hr : Room k callerA)
    (F : ∀ (w : World) (mg : Str → Option Value) (fa : Addr) (h : Heap), YP w h → h.Ns mainGlobals mg → mg d.name = some (.ref fa) → ∃ (K : PySem.W.Frag) (fd : FuncData) (sp : Sp), K.In h ∧ (∀ (s : Shared) (u : Value), BindsTo s fd ⟨[u], []⟩ [(x, u)]) ∧
      (∀ (H : Hp) (a : Addr) (ns : List Int), ns.length ≤ n → SqL K H a (ns.map V.int) → sp [.ref a] H (fun v _ => v = .bl true) fun _ _ _ => False) ∧ ∀ base : Heap, FnOk l.prog w K mg base (L2.CX l.prog w) k fa fd [x] sp) :
    PySem.W.WalkO q loose XP YP l.row.toRowW d [] (fun f vs => PySem.call f vs) := by
  refine Att.attach_call hn hdf fun w s₀ s₁ mg mb fa o pm cd doc a vs ns G Y ho hd hcd hmg hobj hints hlen hg => ?_
  obtain ⟨K, fd, sp, KX, hb, hsp, hF⟩ := F w mg fa _ Y G.T.g hmg
  refine law_call KX G.T.g G.T.b G.T.builtins G.T.nolimit hg hobj hints (Nat.le_trans hlen hn2) hr (fun base _ _ => hF base) hb (fun H _ hS => hsp H a ns hlen hS) fun H e s' c => ?_
  obtain ⟨_, _, _, _, _, _, _, _, _, _, _, _, z⟩ := c
  exact z
end SL

set_option Elab.async false
set_option linter.all false
set_option maxRecDepth 100000
set_option maxHeartbeats 2000000
/-! a star in a target: *a, b = t -/
namespace SL
open PySem PySem.Spec PyProof.Rows L2 PySem.W
section
variable {prog : Program} {w : World} {A : Around} {E : Value → Shared → Prop} {s : Shared}
theorem unpack_star {l : Addr} {items : Array Value} {Q : List Value → Shared → Prop} (hl : IsTup s.heap l items) (hh : A.handled = none) (h1 : 1 ≤ items.size) (hz : items.size ≤ sizeLine)
    (h : ∀ (h2 : Heap) (tk : Nat), (∀ b o, s.heap.get? b = some o → h2.get? b = some o) → Q (.ref h2.objs.size :: items.toList.drop (items.size - 1)) { s with heap := h2.push { cls := .type "list", data := .seq (items.toList.take (items.size - 1)).toArray }, toks := tk }) :
    wpAny (model prog w) A (unpackItems (.ref l) 2 (some 0)) Q E s := by
  have hlt : l ≠ s.heap.objs.size := by obtain ⟨o, ho, _⟩ := hl; exact Nat.ne_of_lt (Heap.lt_size ho)
  unfold unpackItems
  refine wpAny_bind ?_
  unfold notIterableAtAll
  refine wpAny_bind (wpAny_specialOf hl.typeIs slot_tuple_iter.lookup ?_)
  refine wpAny_pure ?_
  simp only [Bool.false_eq_true, if_false]
  refine wpAny_bind (wpAny_holding (iter_tuple hl ?_))
  refine wpAny_bind (wpAny_holding (draw_tuple hlt 0 0 _ _ ⟨_, Heap.get?_push_size _ rfl, rfl, rfl⟩ (hl.push _) (by omega) fun h₁ hit₁ hs₁ => ?_))
  have hl₁ : IsTup h₁ l items := (hl.push _).extBut hs₁.extBut hlt
  have hit₁' := hit₁
  obtain ⟨oi, hoi, _⟩ := hit₁'
  have hl₁' := hl₁
  obtain ⟨ol, hol, _⟩ := hl₁'
  rw [List.drop_zero, List.take_zero]
  rw [if_neg (show ¬ (([] : List Value).length < 0) by simp)]
  refine wpAny_bind (wpAny_holding (kun_collect (s := { s with heap := h₁ }) (T := "tuple_iterator") (.inr (.inr (.inr rfl))) (Walks.tuple (A := A.in1) hh s.heap.objs.size l hlt items) (fun j u st => st.1.typeIs) (k := 0) (by omega) ⟨hit₁, hl₁⟩ (Heap.lt_size hoi) (Heap.lt_size hol) (fun h₂ tk hk => ?_) hz))
  rw [List.drop_zero]
  have hlen : items.toList.length = items.size := Array.length_toList
  show wpAny _ _ (if items.toList.length < 2 - 1 - 0 then _ else _) _ _ _
  rw [if_neg (by rw [hlen]; omega)]
  show wpAny _ _ (newList (items.toList.take (items.toList.length - 1)) >>= fun d => pure ([] ++ [d] ++ items.toList.drop (items.toList.length - 1))) _ _ _
  rw [hlen]
  have he : ∀ b o, s.heap.get? b = some o → h₂.get? b = some o := fun b o e => by
    have hb : b ≠ s.heap.objs.size := Nat.ne_of_lt (Heap.lt_size e)
    exact hk b o hb (hs₁.extBut b o hb (Heap.get?_push_of_some _ e))
  exact wpAny_bind (wpAny_newList (s := { s with heap := h₂, toks := tk }) (wpAny_pure (h h₂ tk he)) (by rw [List.length_take, hlen]; omega))
end
section
variable {X : Cx}
/-- *a, b = a tuple: a new list at slot i, the last one at slot j -/
def gStar (K : PySem.W.Frag) (i j : Nat) : TG := fun v σ H Q => ∃ t xs y, v = .ref t ∧ SqT K H t (xs ++ [y]) ∧ ∀ p, H p = none → Q ((σ.set i (some (.ref p))).set j (some y)) (upd H p (.lst xs))
theorem pg_star {a b : Expr} {i j k : Nat} {pa pos : Pos} (hc : X.calm = true) (ha : PG X a (gName i)) (hb : PG X b (gName j)) (hs : (assignEach [.Starred a pa, b] X.env).map (·.2) = [assign a X.env, assign b X.env] := by rfl) (hf : (assignEach [.Starred a pa, b] X.env).findIdx? (·.1) = some 0 := by rfl) :
    PG X (.Tuple [.Starred a pa, b] k pos) (gStar X.K i j) := by
  refine ⟨fun pins s σ H v u Q I r h => ?_⟩
  obtain ⟨t, xs, y, rfl, hq, h⟩ := h
  cases r
  obtain ⟨its, rv, ht, hz⟩ := I.tuple hq
  have el := rv.length
  have el2 : its.length = xs.length + 1 := by rw [← el, List.length_append, List.length_singleton]
  have esz : its.toArray.size = its.length := List.size_toArray
  rw [assign_Tuple]
  refine wpAny_bind (wpAny_standAt ?_)
  unfold unpack
  have hlen : (assignEach [.Starred a pa, b] X.env).length = 2 := by
    have := congrArg List.length hs
    simpa using this
  rw [hlen, hf, hs]
  refine wpAny_bind (wpAny_holding (unpack_star ht (I.ok.hd hc) (by rw [esz]; omega) (by rw [esz, ← el]; exact hz) fun h2 tk hk => ?_))
  have I1 : Inv X pins σ H { s with heap := h2, toks := tk } := I.kept hk
  have np : H h2.objs.size = none := I1.hok.fresh (Nat.le_refl _)
  have e1 : its.toArray.size - 1 = xs.length := by rw [esz]; omega
  rw [e1]
  have r1 : Vals xs (its.take xs.length) := by
    have := rv.take xs.length
    rwa [List.take_left'] at this
    rfl
  have r2 : Vals [y] (its.drop xs.length) := by
    have := rv.drop xs.length
    rwa [List.drop_left'] at this
    rfl
  have ez : xs.length ≤ sizeLine := by
    rw [List.length_append] at hz
    exact Nat.le_trans (Nat.le_add_right _ _) hz
  show wpAny _ _ (assignInOrder _ (Value.ref h2.objs.size :: its.drop xs.length)) _ _ { s with heap := h2.push { cls := .type "list", data := .seq (its.take xs.length).toArray }, toks := tk }
  generalize its.take xs.length = us1 at r1 ⊢
  generalize its.drop xs.length = us2 at r2 ⊢
  have I2 : Inv X pins σ (upd H h2.objs.size (.lst xs)) { s with heap := h2.push { cls := .type "list", data := .seq us1.toArray }, toks := tk } :=
    I1.laid (t' := tk) (a := h2.objs.size) (o := .lst xs) (h' := h2.push { cls := .type "list", data := .seq us1.toArray }) (fun b u e => Heap.get?_push_of_some _ e) (Nat.le_refl _) ⟨ez, us1, 0, r1, Heap.get?_push_size _ rfl⟩
  obtain ⟨uy, rfl, ry⟩ := r2.one
  show wpAny _ _ (do holding [uy] (assign a X.env (.ref h2.objs.size)); assignInOrder [assign b X.env] [uy]) _ _ _
  refine wpAny_bind (wpAny_holding (thn (ha.run pins _ σ _ (.ref h2.objs.size) _ (fun σ' H' => gName j y σ' H' Q) I2 rfl ?_) fun _ s3 ⟨σ3, H3, I3, q3⟩ => ?_))
  · exact h _ np
  · show wpAny _ _ (do holding [] (assign b X.env uy); assignInOrder [] []) _ _ _
    refine wpAny_bind (wpAny_holding (thn (hb.run pins s3 σ3 H3 y uy Q I3 ry q3) fun _ s4 h4 => ?_))
    exact wpAny_pure h4
end
end SL
namespace SL
open PySem PySem.Spec PyProof.Rows L2
def starRun (i j : Nat) : W → Rho → Option Rho
  | .tup ws, r => match ws.getLast? with
    | some y => some ((r.set i (some (.lst ws.dropLast))).set j (some y))
    | none => none
  | _, _ => none
section
variable {K : PySem.W.Frag} {ca : Ca} {io : List Addr} {r r1 : Rho} {S : Sto} {σ : L2.St} {H : Hp}
theorem star_ok {i j : Nat} {w : W} {v : V} {Q : L2.St → Hp → Prop} (e : starRun i j w r = some r1) (h : RV K ca io H w v) (l : Rl K ca io r S σ H)
    (k : ∀ σ2 H2, Ext io H io H2 → Rl K ca io r1 S σ2 H2 → Q σ2 H2) : gStar K i j v σ H Q := by
  cases w <;> first | (simp [starRun] at e; done) | skip
  rename_i ws
  obtain ⟨a, vs, rfl, q, rr⟩ := h.tupI
  unfold starRun at e
  dsimp only at e
  cases hg : ws.getLast? with
  | none =>
    rw [hg] at e
    cases e
  | some y =>
    rw [hg] at e
    cases e
    obtain ⟨ts, rfl⟩ := List.getLast?_eq_some_iff.mp hg
    have r1 : RVs K ca io H ts (vs.take ts.length) := by
      have := rr.take ts.length
      rwa [List.take_left' rfl] at this
    have r2 : RVs K ca io H [y] (vs.drop ts.length) := by
      have := rr.drop ts.length
      rwa [List.drop_left' rfl] at this
    obtain ⟨vy, vr, e2, ry, rn⟩ := r2.inv
    cases (show vr = [] from rn)
    have ev : vs = vs.take ts.length ++ [vy] := by
      rw [← e2, List.take_append_drop]
    rw [List.dropLast_concat] at k
    refine ⟨a, vs.take ts.length, vy, rfl, by rw [← ev]; exact q.sq, fun p np => ?_⟩
    have ex := ext_new (io := io) (o := .lst (vs.take ts.length)) np
    refine k _ _ ex ⟨l.z.new np, ?_⟩
    exact ((l.e.mono ex).set (rv_newL l.z np r1)).set (ry.mono ex)
end
def sForSL (i j : Nat) (b : MSt) : List W → MSt
  | [], r, S => .ok (.nx r) S
  | x :: xs, r, S => match starRun i j x r with
    | none => .stuck
    | some r1 => match b r1 S with
      | .ok (.nx r2) S2 => sForSL i j b xs r2 S2
      | .ok (.ct r2) S2 => sForSL i j b xs r2 S2
      | .ok (.bk r2) S2 => .ok (.nx r2) S2
      | .ok (.rt w) S2 => .ok (.rt w) S2
      | .exc c ws S2 => .exc c ws S2
      | .stuck => .stuck
def sForS (i j : Nat) (mi : M (List W)) (b : MSt) : MSt := do
  let xs ← mi
  sForSL i j b xs
section
variable {X : Cx} {ca : Ca} {E : XK}
theorem for_turnS {K : PySem.W.Frag} {i j : Nat} {b : MSt} {x : W} {xs : List W} {io : List Addr} {r : Rho} {S : Sto} {H : Hp} {σ : L2.St} {D : Ends} {v : V} {N : L2.St → Hp → Prop}
    (l : Rl K ca io r S σ H) (rv : RV K ca io H x v) (p : Post K ca E io H (RS K ca D) (sForSL i j b (x :: xs) r S))
    (hN : ∀ io' r' S' σ' H', Ext io H io' H' → Rl K ca io' r' S' σ' H' → Post K ca E io' H' (RS K ca D) (sForSL i j b xs r' S') → N σ' H') :
    gStar K i j v σ H fun σ2 H2 => tS K ca E b { D with nx := N, ct := N, bk := D.nx } σ2 H2 := by
  unfold sForSL at p
  cases e : starRun i j x r with
  | none =>
    simp only [e] at p
    exact p.elim
  | some r1 =>
    simp only [e] at p
    refine star_ok e rv l fun σ2 H2 e2 l2 => ⟨io, r1, S, l2, ?_⟩
    have p := p.mono e2
    cases q : b r1 S with
    | stuck =>
      simp only [q] at p
      exact p
    | exc c ws S2 =>
      simp only [q] at p
      exact p
    | ok f S2 =>
      cases f with
      | nx r2 =>
        simp only [q] at p
        exact fun io' H' e z σ' re' => hN io' r2 S2 σ' H' (e2.trans e) ⟨z, re'⟩ (p.mono e)
      | ct r2 =>
        simp only [q] at p
        exact fun io' H' e z σ' re' => hN io' r2 S2 σ' H' (e2.trans e) ⟨z, re'⟩ (p.mono e)
      | bk r2 =>
        simp only [q] at p
        exact p
      | rt w =>
        simp only [q] at p
        exact p
theorem ms_forS {i j : Nat} {tg iter : Expr} {body : List Stmt} {mi : M (List W)} {b : MSt} {pos : Pos} (hp : PassesOwn (model X.prog X.w) X.A X.env X.xe) (hc : X.calm = true) (hi : MI X ca E tg iter mi) (hg : PG X tg (gStar X.K i j)) (hb : MSs X ca E body b)
    (hs : ∀ x, foldedSetIterable iter X.env x = pure x := by intro _; rfl) : MS X ca E (.For tg iter body [] pos) (sForS i j mi b) := by
  refine PS.weak (ps_for hp hc hi hg hb hs) fun D σ H h => ?_
  obtain ⟨io, r, S, l, p⟩ := h
  show tI X.K ca E mi σ H _
  have p0 := p
  unfold sForS at p0
  refine ⟨io, r, S, l, ?_⟩
  rw [bind_def] at p0
  cases q : mi r S with
  | stuck =>
    simp only [q] at p0
    exact p0
  | exc c ws S2 =>
    simp only [q] at p0
    exact p0
  | ok xs S1 =>
    simp only [q] at p0
    intro io1 H1 e1 z1 J ⟨G, Y, wk, hG, hY⟩
    have l1 := l.mono e1 z1
    have p1 := p0.mono e1
    refine for_it wk (fun n σ' H' => ∃ io' r' S', Ext io1 H1 io' H' ∧ Rl X.K ca io' r' S' σ' H' ∧ Post X.K ca E io' H' (RS X.K ca D) (sForSL i j b (xs.drop n) r' S')) ⟨io1, r, S1, Ext.refl _ _, l1, p1⟩ (fun n σ' H' _ ⟨io', r', S', e, _, _⟩ => hG io' H' e) ?_ ?_
    · rintro n x σ' H' H3 hi ⟨io', r', S', e, l', p'⟩ y
      obtain ⟨w, hw, e3, z3, rv⟩ := hY n io' S' H' x H3 e l'.z y hi
      have hd : xs.drop n = w :: xs.drop (n + 1) := by
        rw [List.drop_eq_getElem_cons hi]
        rw [List.getElem?_eq_getElem hi] at hw
        rw [Option.some.inj hw]
      rw [hd] at p'
      exact for_turnS (l'.mono e3 z3) rv (p'.mono e3) fun io4 r4 S4 σ4 H4 e4 l4 p4 => ⟨io4, r4, S4, (e.trans e3).trans e4, l4, p4⟩
    · rintro σ' H' ⟨io', r', S', e, l', p'⟩
      rw [List.drop_length] at p'
      exact Post.done p' l'.z _ l'.e
/-- *a, b = e -/
def sTgS (i j : Nat) (m : M W) : MSt := do
  let w ← m
  fun r S => match starRun i j w r with
    | some r1 => .ok (.nx r1) S
    | none => .stuck
theorem ms_tgS {i j : Nat} {tg e : Expr} {m : M W} {pos : Pos} (hg : PG X tg (gStar X.K i j)) (h : ME X ca E e m) (hs : swapsWithSole [tg] e pos.line X.env = pure false := by rfl) (hw : swappedStores [tg] e X.env = pure none := by rfl)
    (h1 : (assignEach [tg] X.env).map (·.2) = [assign tg X.env] := by rfl) : MS X ca E (.Assign [tg] e pos) (sTgS i j m) := PS.weak (ps_asg h hg hs hw h1) fun D σ H q => by
  obtain ⟨io, r, S, l, p⟩ := q
  refine tE_imp (tE_bind l p) fun v H1 ⟨io1, S1, w, e1, l1, rv, p1⟩ => ?_
  cases g : starRun i j w r with
  | none =>
    simp only [g] at p1
    exact False.elim p1
  | some r1 =>
    simp only [g] at p1
    exact star_ok g rv l1 fun σ2 H2 e2 l2 => Post.done (Post.mono e2 p1) l2.z _ l2.e
end
end SL

set_option Elab.async false
set_option linter.all false
set_option maxRecDepth 100000
set_option maxHeartbeats 2000000
/-! texts -/
namespace SL
open PySem PySem.Spec PyProof.Rows L2
section
variable {X : Cx} {ca : Ca} {E : XK}
/-! ### str(x), int(x), len(s) -/
def bStr : FnM := fun ws S => match ws with
  | [.int i] => if i.natAbs.log2 < 1920 then .ok (.str (toString i)) S else .stuck
  | [.str z] => .ok (.str z) S
  | _ => .stuck
theorem bm_str : BltM X ca E (.type "str") bStr := by
  intro pins s σ H vs us Q I r h
  obtain ⟨io, ws, S, z, rvs, p⟩ := h
  unfold bStr at p
  split at p
  · split at p
    · rename_i i hl
      obtain ⟨v, rfl, rv⟩ := rvs.one
      cases (show v = _ from rv)
      exact call_str_int pins s σ H _ us Q I r ⟨_, rfl, hl, p.done z _ rfl⟩
    · exact p.elim
  · obtain ⟨v, rfl, rv⟩ := rvs.one
    cases (show v = _ from rv)
    exact SkE.call_str_str pins s σ H _ us Q I r ⟨_, rfl, p.done z _ rfl⟩
  · exact p.elim
def bIntS : FnM := fun ws S => match ws with
  | [.str z] => if z.length ≤ 640 then match PySem.intText? z with
      | some n => .ok (.int n) S
      | none => .stuck
    else .stuck
  | _ => .stuck
theorem bm_intS : BltM X ca E (.type "int") bIntS := by
  intro pins s σ H vs us Q I r h
  obtain ⟨io, ws, S, z, rvs, p⟩ := h
  unfold bIntS at p
  split at p
  · rename_i y
    split at p
    · rename_i hl
      cases g : PySem.intText? y with
      | none =>
        simp only [g] at p
        exact p.elim
      | some n =>
        simp only [g] at p
        obtain ⟨v, rfl, rv⟩ := rvs.one
        cases (show v = _ from rv)
        exact call_int_str pins s σ H _ us Q I r ⟨_, n, rfl, g, hl, p.done z _ rfl⟩
    · exact p.elim
  · exact p.elim
def bLenS : FnM := fun ws S => match ws with
  | [.str z] => if z.length ≤ 16000000 then .ok (.int z.length) S else .stuck
  | _ => .stuck
theorem bm_lenS : BltM X ca E (.builtin "len") bLenS := by
  intro pins s σ H vs us Q I r h
  obtain ⟨io, ws, S, z, rvs, p⟩ := h
  unfold bLenS at p
  split at p
  · split at p
    · rename_i hl
      obtain ⟨v, rfl, rv⟩ := rvs.one
      cases (show v = _ from rv)
      exact call_len_str pins s σ H _ us Q I r ⟨_, rfl, lim_le hl, p.done z _ rfl⟩
    · exact p.elim
  · exact p.elim
/-! ### join, split -/
def strsOf : List W → Option (List Str)
  | [] => some []
  | .str z :: xs => match strsOf xs with
    | some zs => some (z :: zs)
    | none => none
  | _ => none
theorem strsOf_eq : ∀ {xs : List W} {zs : List Str}, strsOf xs = some zs → xs = zs.map W.str
  | [], zs, h => by simp [strsOf] at h; subst h; rfl
  | x :: xs, zs, h => by
    cases x <;> simp [strsOf] at h
    rename_i i
    cases e : strsOf xs with
    | none => simp [e] at h
    | some is =>
      simp [e] at h
      subst h
      rw [strsOf_eq e]
      rfl
theorem strsOf_map (zs : List Str) : strsOf (zs.map W.str) = some zs := by
  induction zs with
  | nil => rfl
  | cons n ns ih => simp [strsOf, ih]
theorem RVs.strs {K : PySem.W.Frag} {io : List Addr} {H : Hp} {zs : List Str} : ∀ {vs : List V}, RVs K ca io H (zs.map W.str) vs → vs = zs.map V.str := by
  induction zs with
  | nil => intro vs h; exact h
  | cons n ns ih =>
    intro vs h
    obtain ⟨v, r, rfl, h1, h2⟩ := h.inv
    rw [ih h2, show v = V.str n from h1] <;> rfl
theorem RVs.of_strs {K : PySem.W.Frag} {io : List Addr} {H : Hp} (zs : List Str) : RVs K ca io H (zs.map W.str) (zs.map V.str) := by
  induction zs with
  | nil => exact .nil
  | cons n ns ih => exact .cons rfl ih
def fJoin : FnM := fun ws S => match ws with
  | [.str a, w] => match getQ S w with
    | some xs => match strsOf xs with
      | some ys => if (ys.map (·.length)).sum + ys.length * a.length ≤ 16777216 then .ok (.str (Txt.join a ys)) S else .stuck
      | none => .stuck
    | none => .stuck
  | _ => .stuck
theorem fm_join : MtS X ca E "str.join" fJoin := by
  intro pins s σ H x xs v us Q I rx rxs h
  obtain ⟨io, ws, S, z, rvs, p⟩ := h
  unfold fJoin at p
  split at p
  · rename_i a w
    obtain ⟨v1, y1, e, r1, r2⟩ := rvs.two
    cases e
    cases (show _ = V.str a from r1)
    cases g : getQ S w with
    | none =>
      simp only [g] at p
      exact p.elim
    | some xs =>
      simp only [g] at p
      cases g2 : strsOf xs with
      | none =>
        simp only [g2] at p
        exact p.elim
      | some ys =>
        simp only [g2] at p
        split at p
        · rename_i hl
          obtain ⟨q, vs, rfl, hq, rr⟩ := getQ_ok z r2 g
          rw [strsOf_eq g2] at rr
          rw [rr.strs] at hq
          exact mt_join pins s σ H _ _ v us Q I rx rxs ⟨a, q, ys, rfl, rfl, hq, hl, p.done z _ rfl⟩
        · exact p.elim
  · exact p.elim
def fSplit : FnM := fun ws S => match ws with
  | [.str a, .str b] => if (b.length == 0) = false ∧ a.length + 2 ≤ 16000000 then .ok (.lst ((Txt.split a b).map W.str)) S else .stuck
  | _ => .stuck
theorem fm_split : MtS X ca E "str.split" fSplit := by
  intro pins s σ H x xs v us Q I rx rxs h
  obtain ⟨io, ws, S, z, rvs, p⟩ := h
  unfold fSplit at p
  split at p
  · rename_i a b
    obtain ⟨v1, y1, e, r1, r2⟩ := rvs.two
    cases e
    cases (show _ = V.str a from r1)
    cases (show _ = V.str b from r2)
    split at p
    · rename_i hl
      exact mt_split pins s σ H _ _ v us Q I rx rxs ⟨a, b, rfl, rfl, hl.1, lim_le hl.2, fun q np => Post.newL p z np _ (rv_newL z np (RVs.of_strs _))⟩
    · exact p.elim
  · exact p.elim
/-! ### a text's signs -/
def signsW (z : Str) : List W := z.cps.toList.map fun c => W.str ⟨#[c]⟩
def iS (m : M W) : M (List W) := do
  let w ← m
  fun _ S => match w with
    | .str z => .ok (signsW z) S
    | _ => .stuck
theorem mi_str {tg e : Expr} {m : M W} (h : ME X ca E e m) : MI X ca E tg e (iS m) := PI.weak (pi_str h) fun σ H Q h => by
  obtain ⟨io, r, S, l, p⟩ := h
  refine tE_imp (tE_bind l p) fun v H1 ⟨io1, S1, w, e1, l1, rv, p1⟩ => ?_
  split at p1
  · rename_i z
    cases (show v = V.str z from rv)
    refine ⟨z, rfl, p1.done l1.z _ ?_⟩
    have hl : (signsW z).length = z.cps.size := by simp [signsW]
    refine ⟨_, _, by rw [hl]; exact walk_str, fun _ _ _ => trivial, fun i io2 S2 H2 x H3 e z' y hi => ?_⟩
    obtain ⟨rfl, c, hc, rfl⟩ := y
    refine ⟨.str ⟨#[c]⟩, ?_, Ext.refl _ _, z', rfl⟩
    unfold signsW
    rw [List.getElem?_map, Array.getElem?_toList, hc]
    rfl
  · exact p1.elim
def signOf (z : Str) : Option Nat := match z.cps.toList with
  | [c] => some c
  | _ => none
theorem signOf_eq {z : Str} {c : Nat} (h : signOf z = some c) : z = ⟨#[c]⟩ := by
  unfold signOf at h
  split at h
  · rename_i d e
    cases h
    obtain ⟨a⟩ := z
    congr 1
    exact Array.toList_inj.mp (by simpa using e)
  · cases h
def opInS : Op2 := fun a b S => match a, b with
  | .str y, .str z => match signOf y with
    | some c => .ok (.bl (decide (c ∈ z.cps.toList))) S
    | none => .stuck
  | _, _ => .stuck
def opNotInS : Op2 := fun a b S => match a, b with
  | .str y, .str z => match signOf y with
    | some c => .ok (.bl (!decide (c ∈ z.cps.toList))) S
    | none => .stuck
  | _, _ => .stuck
theorem om_inS : OpM X ca E (compareOp .In) opInS := op_in_sign.weak fun x y H Q h => by
  obtain ⟨io, S, a, b, z, ra, rb, p⟩ := h
  unfold opInS at p
  split at p
  · rename_i u1 u2
    cases (show x = _ from ra)
    cases (show y = _ from rb)
    cases g : signOf u1 with
    | none =>
      simp only [g] at p
      exact p.elim
    | some c =>
      simp only [g] at p
      exact ⟨c, u2, by rw [signOf_eq g], rfl, p.done z _ rfl⟩
  · exact p.elim
theorem om_notInS : OpM X ca E (compareOp .NotIn) opNotInS := op_notIn_sign.weak fun x y H Q h => by
  obtain ⟨io, S, a, b, z, ra, rb, p⟩ := h
  unfold opNotInS at p
  split at p
  · rename_i u1 u2
    cases (show x = _ from ra)
    cases (show y = _ from rb)
    cases g : signOf u1 with
    | none =>
      simp only [g] at p
      exact p.elim
    | some c =>
      simp only [g] at p
      exact ⟨c, u2, by rw [signOf_eq g], rfl, p.done z _ rfl⟩
  · exact p.elim
/-! ### a class held by a local name, called -/
theorem me_newL {i k : Nat} {f : Addr} {g : FnM} {c : Cl} {x : Str} {p pos : Pos} {e : Expr} {es : List Expr} {t : M (List W)} (F : Fm X.prog X.w X.K X.mg X.base ca k f g) (Mm : Mk X.K (ca c) f) (hr : Room (k + 1) X.A) (hx : Passes (L2.CX X.prog X.w) X E) (ha : MA X ca E (e :: es) t)
    (hN : X.N[i]? = some x) (hv : Vis X.env.scope x) (hdb : (x == ("__debug__" : Str)) = false := by decide) (hcd : (x == ("__classdict__" : Str)) = false := by decide) (he : starEach (e :: es) X.env = (false, eval e X.env) :: starEach es X.env := by rfl) (hst : (backTo pos (starEach es X.env)).any (·.1) = true := by rfl) :
    ME X ca E (.Call (.Name x p) (e :: es) [] pos) (fun r S => match r[i]? with
      | some (some (.cls d)) => if d = c then mCall (newR c g) t r S else .stuck
      | _ => .stuck) := by
  refine ⟨fun pins s σ H Q I h => ?_⟩
  obtain ⟨io, r, S, l, pp⟩ := h
  dsimp only at pp
  split at pp
  · rename_i d hd
    split at pp
    · rename_i hdc
      subst hdc
      obtain ⟨v, hs, rv⟩ := l.e.2 i _ hd
      cases (show v = .ref (ca d) from rv)
      refine wpAny_Call_Name_kw (thn ((pe_var (pos := p) hN hv hdb hcd).run pins s σ H (fun v H1 => v = .ref (ca d) ∧ H1 = H) I ⟨.ref (ca d), hs, rfl, rfl⟩) fun u s1 ⟨v, H1, I1, r1, q1⟩ => ?_)
      obtain ⟨rfl, rfl⟩ := q1
      cases r1
      have hq := mk_imp (Q := Q) ⟨io, r, S, l, pp⟩
      refine PySem.W.callWith_S2 (h₀ := X.base) I.ok.mod.kin Mm.kp (thn (ha.run pos pins s1 σ _ _ I1 hq) fun us s2 ⟨vs, H2, I2, r2, q⟩ => ⟨I2.kIn, ?_⟩) he hst
      exact StX.run_makeR Mm F hr hx I2 r2 q
    · exact pp.elim
  · exact pp.elim
/-! ### a tuple of written texts: the place of one -/
def fIndexT : FnM := fun ws S => match ws with
  | [.ktup xs, .str z] => match strsOf xs with
    | some ys => match ys.findIdx? (fun y => decide (y = z)) with
      | some j => .ok (.int (j : Nat)) S
      | none => .stuck
    | none => .stuck
  | _ => .stuck
theorem fm_indexT : MtS X ca E "tuple.index" fIndexT := by
  intro pins s σ H x xs v us Q I rx rxs h
  obtain ⟨io, ws, S, z, rvs, p⟩ := h
  unfold fIndexT at p
  split at p
  · rename_i ys u
    obtain ⟨v1, y1, e, r1, r2⟩ := rvs.two
    cases e
    cases (show _ = V.str u from r2)
    cases g : strsOf ys with
    | none =>
      simp only [g] at p
      exact p.elim
    | some zs =>
      simp only [g] at p
      cases gi : zs.findIdx? (fun y => decide (y = u)) with
      | none =>
        simp only [gi] at p
        exact p.elim
      | some j =>
        simp only [gi] at p
        obtain ⟨a, vs, rfl, q, rr⟩ := (show ∃ a vs, _ = V.ref a ∧ WrT X.K a vs ∧ RVs X.K ca io H ys vs from r1)
        rw [strsOf_eq g] at rr
        obtain ⟨hj, h1, h2⟩ := List.findIdx?_eq_some_iff_getElem.mp gi
        refine mt_tup_index pins s σ H _ _ v us Q I rx rxs ⟨a, zs, u, j, rfl, rfl, by rw [← rr.strs]; exact q.sq, ?_, fun m hm hz => ?_, p.done z _ rfl⟩
        · rw [List.getElem?_eq_getElem hj, of_decide_eq_true h1]
        · have := h2 m hm
          rw [List.getElem?_eq_getElem (by omega)] at hz
          exact this (decide_eq_true (Option.some.inj hz))
  · exact p.elim
/-! ### a class by its name; a classmethod called -/
theorem me_gcls {c : Cl} {x : Str} {pos : Pos} (hm : X.mg x = some (.ref (ca c))) (hg : Gl X x := by rfl) (hd : (x == ("__debug__" : Str)) = false := by decide) : ME X ca E (.Name x pos) (mC (.cls c)) :=
  PE.weak (pe_glob (v := .ref (ca c)) hg hm rfl hd) fun σ H Q h => by
    obtain ⟨io, r, S, l, p⟩ := h
    exact p.done l.z _ rfl
theorem me_cm {j k : Nat} {g : FnM} {c : Cl} {x m : Str} {p pos apos : Pos} {e : Expr} {es : List Expr} {t : M (List W)} {pl : Sem Bool} (F : ClmAt X.prog X.w X.K X.mg X.base ca c x m k g) (b : Bd X E j) (ha : MA X ca E (e :: es) t) (hk : k ≤ j := by decide)
    (hg : Gl X x := by rfl) (hd : (x == ("__debug__" : Str)) = false := by decide)
    (hst : starEach (e :: es) X.env = (false, eval e X.env) :: starEach es X.env := by rfl) (hpl : (backTo pos (starEach es X.env)).any (·.1) = false := by rfl)
    (ht : eval (.Call (.Attribute (.Name x p) m apos) (e :: es) [] pos) X.env = (do
      let ov ← eval (.Name x p) X.env
      standAt apos.atName
      let (f, first) ← holding [ov] (getMethod ov m pl)
      callWith pos f first (backTo pos (starEach (e :: es) X.env)) (backToKw pos (keywordEach [] X.env))) := by rfl) :
    ME X ca E (.Call (.Attribute (.Name x p) m apos) (e :: es) [] pos) (mFr (mCall g (mCons (mC (.cls c)) t))) := by
  obtain ⟨pp, f, h1, h2, h3⟩ := F
  have hE : PE X (.Name x p) (tC (.ref (ca c))) := pe_glob hg h1 rfl hd
  refine me_fr (PE.weak (ClX.pe_cmeth hE h2.rd h2.me h3 (b.hr.mono hk) b.pc ha hst hpl ht) fun σ H Q h => ?_)
  obtain ⟨io, r, S, l, p⟩ := h
  refine ⟨rfl, tA_imp (tA_bind (f := fun ws => (fun _ S => g (.cls c :: ws) S : M W)) l ?_) fun vs H1 ⟨io1, S1, ws, e1, l1, rvs, p1⟩ => ⟨io1, .cls c :: ws, S1, l1.z, .cons rfl rvs, p1⟩⟩
  have e : (t >>= fun ws => (fun _ S => g (.cls c :: ws) S : M W)) r S = mCall g (mCons (mC (.cls c)) t) r S := by
    unfold mCall mCons mC
    simp only [bind_def, pure_def]
    cases t r S <;> rfl
  rw [e]
  exact p
end
end SL

set_option Elab.async false
set_option linter.all false
set_option maxRecDepth 100000
set_option maxHeartbeats 2000000
/-! objects that change -/
namespace SL
open PySem PySem.Spec PyProof.Rows L2
/-- a class held by slot i, called -/
def mNewL (i : Nat) (c : Cl) (g : FnM) (t : M (List W)) : M W := fun r S => match r[i]? with
  | some (some (.cls d)) => if d = c then mCall (newR c g) t r S else .stuck
  | _ => .stuck
def asC (w : Option W) (c : Cl) (k : Res W) : Res W := match w with
  | some (.cls d) => if d = c then k else .stuck
  | _ => .stuck
section
variable {X : Cx} {ca : Ca} {E : XK} {j k i : Nat} {g : FnM} {c : Cl} {x y : Str} {p pos : Pos} {e o : Expr} {es : List Expr} {t : M (List W)} {m mo : M W}
theorem me_nwL (i : Nat) (F : NewAt X.prog X.w X.K X.mg X.base ca c y k g) (b : Bd X E j) (ha : MA X ca E (e :: es) t) (hk : k + 1 ≤ j := by decide) (hN : X.N[i]? = some x := by rfl) (hv : Vis X.env.scope x := by first | exact .inl rfl | exact .inr (.inl rfl) | exact .inr (.inr rfl))
    (hdb : (x == ("__debug__" : Str)) = false := by decide) (hcd : (x == ("__classdict__" : Str)) = false := by decide) (he : starEach (e :: es) X.env = (false, eval e X.env) :: starEach es X.env := by rfl) (hst : (backTo pos (starEach es X.env)).any (·.1) = true := by rfl) :
    ME X ca E (.Call (.Name x p) (e :: es) [] pos) (mFr (mNewL i c g t)) := by
  obtain ⟨f, h1, h2, h3⟩ := F
  exact me_fr (me_newL h3 h2 (b.hr.mono hk) b.pc ha hN hv hdb hcd he hst)
theorem me_nwK (F : NewAt X.prog X.w X.K X.mg X.base ca c x k g) (b : Bd X E j) (ha : MA X ca E (e :: es) t) (hk : k + 1 ≤ j := by decide)
    (hg : Gl X x := by rfl) (hdb : (x == ("__debug__" : Str)) = false := by decide) (he : starEach (e :: es) X.env = (false, eval e X.env) :: starEach es X.env := by rfl) (hpl : (backTo pos (starEach es X.env)).any (·.1) = false := by rfl) :
    ME X ca E (.Call (.Name x p) (e :: es) [] pos) (mCall (newR c g) t) := by
  obtain ⟨f, h1, h2, h3⟩ := F
  exact me_new h3 h2 (b.hr.mono hk) h1 b.pc ha hg hdb he hpl
end
/-- o.f += m, o a changing object, whole numbers -/
def sFldAdd (c : Cl) (f : Fl) (mo m : M W) : MSt := do
  let w ← mo
  let v ← (fun _ S => match getO c S w, fix c f with
    | some xs, some i => match xs[i]? with
      | some x => .ok x S
      | none => .stuck
    | _, _ => .stuck : M W)
  let y ← m
  fun r S => match v, y with
    | .int a, .int b => match setO c f w (.int (a + b)) S with
      | .ok _ S' => .ok (.nx r) S'
      | _ => .stuck
    | _, _ => .stuck
section
variable {X : Cx} {ca : Ca} {E : XK} {o e : Expr} {mo m : M W} {pos pos' : Pos}
theorem ms_fldadd {c : Cl} {f : Fl} {x : Str} (hc : Cls X.K (ca c)) (hn : NoAttr X.K (ca c) (fname f)) (ho : ME X ca E o mo) (h : ME X ca E e m) (hx : x = fname f := by rfl) :
    MS X ca E (.AugAssign (.Attribute o x pos') .Add e pos) (sFldAdd c f mo m) := by
  subst hx
  refine PS.weak (ps_fldaug ho h in_add) fun D σ H h => ?_
  obtain ⟨io, r, S, l, p⟩ := h
  refine tE_imp (tE_bind l p) fun v1 H1 ⟨io1, S1, w, e1, l1, rv, p1⟩ => ?_
  rw [bind_def] at p1
  cases g0 : getO c S1 w with
  | none =>
    simp only [g0] at p1
    exact False.elim p1
  | some xs0 =>
    cases g1 : fix c f with
    | none =>
      simp only [g0, g1] at p1
      exact False.elim p1
    | some i =>
      cases g2 : xs0[i]? with
      | none =>
        simp only [g0, g1, g2] at p1
        exact False.elim p1
      | some y0 =>
        simp only [g0, g1, g2] at p1
        obtain ⟨a, dx, vs, rfl, q, ll, rr⟩ := getO_ok l1.z rv g0
        obtain ⟨v2, h1, h2⟩ := rr.get g2
        refine ⟨a, ca c, dx, _, v2, rfl, q, hc, hn, ?_, ?_⟩
        · unfold fnames
          rw [lookup_zip, show (flds c).findIdx? (· == f) = some i from g1]
          exact h1
        · refine tE_imp (tE_bind l1 p1) fun v3 H2 ⟨io2, S2, w2, e2, l2, rv2, p2⟩ => ?_
          obtain ⟨a0, rfl⟩ : ∃ a0, y0 = .int a0 := by
            cases y0 <;> first | exact ⟨_, rfl⟩ | exact False.elim p2
          cases (show v2 = _ from h2)
          obtain ⟨b0, rfl⟩ : ∃ b0, w2 = .int b0 := by
            cases w2 <;> first | exact ⟨_, rfl⟩ | exact False.elim p2
          cases (show v3 = _ from rv2)
          have rv' := rv.mono e2
          refine ⟨a0, b0, rfl, rfl, ?_⟩
          dsimp only at p2
          simp only [setO] at p2
          obtain ⟨n, rfl⟩ : ∃ n, w = .loc n := by
            cases w <;> first | exact ⟨_, rfl⟩ | exact False.elim p2
          obtain ⟨a', ea, q3⟩ := rv'.locI
          cases ea
          cases g : S2[n]? with
          | none =>
            simp only [g] at p2
            exact False.elim p2
          | some ce =>
            cases ce <;> simp only [g] at p2 <;> first | exact False.elim p2 | skip
            rename_i d xs
            simp only [g1] at p2
            by_cases hk : d = c ∧ i ≤ xs.length
            · rw [if_pos hk] at p2
              obtain ⟨rfl, hi⟩ := hk
              obtain ⟨a2, q2, dx2, vs2, k1, k2, k3⟩ := l2.z.at g
              rw [q3] at q2
              cases q2
              have hlz : ((fnames d).zip vs2).length < 1000 := by
                rw [List.length_zip]
                have := flds_few d
                omega
              refine ⟨dx2, _, k1, hlz, ?_⟩
              have hp := putF_zip f (.int (a0 + b0)) (flds d) vs2 i g1 (by rw [k3.len]; exact hi)
              rw [show fnames d = (flds d).map fname from rfl, hp]
              have rw_ : RV X.K ca io2 H2 (W.int (a0 + b0)) (V.int (a0 + b0)) := rfl
              have h4 : RVs X.K ca io2 H2 (if i < xs.length then xs.set i (.int (a0 + b0)) else xs ++ [.int (a0 + b0)]) (if i < vs2.length then vs2.set i (.int (a0 + b0)) else vs2 ++ [.int (a0 + b0)]) := by
                rw [k3.len]
                split
                · exact k3.set i rw_
                · exact k3.app (.cons rw_ .nil)
              have e : Ext io2 H2 io2 (upd H2 a (.ins (ca d) dx2 (((flds d).map fname).zip (if i < vs2.length then vs2.set i (.int (a0 + b0)) else vs2 ++ [.int (a0 + b0)])))) := ext_put q3 k1
              refine p2 io2 _ e (l2.z.put q3 k1 (c := .ins d (if i < xs.length then xs.set i (W.int (a0 + b0)) else xs ++ [W.int (a0 + b0)])) ⟨dx2, (if i < vs2.length then vs2.set i (.int (a0 + b0)) else vs2 ++ [.int (a0 + b0)]), upd_same, ?_, h4.mono e⟩) _ (l2.e.mono e)
              have := fix_lt g1
              split <;> simp <;> omega
            · rw [if_neg hk] at p2
              exact False.elim p2
end
end SL

set_option Elab.async false
set_option linter.all false
set_option maxRecDepth 100000
set_option maxHeartbeats 0
namespace SL
open PySem PySem.Spec PyProof.Rows L2
/-! random -/
def N_l_random : List PySem.Str := ["_law_script", "_law_salt", "_law_seed", "_law_cell"]
noncomputable def f_l_random_1 : MSt := sSet 2 (mOp opMod (mOp opAdd (mOp opMul (mVar 2) (mC (.int 31))) (mCall bAbs (mCons (mVar 3) (mNil)))) (mC (.int 2147483647)))
noncomputable def e_l_random_1 : M W := mVar 3
noncomputable def i_l_random_1 : M Bool := mB (mOp opGe (mVar 3) (mOp opPow (mC (.int 10)) (mC (.int 18))))
noncomputable def b_l_random : MSt := sSeq (sSet 2 (mVar 1)) (sSeq (sFor (.n 3) (iL (mVar 0)) (f_l_random_1)) (sRet (mOp opAddC (mLst (mCons (mVar 2) (mCons (mC (.int 0)) (mNil)))) (mLc [3] (.n 3) (iL (mVar 0)) (i_l_random_1) (e_l_random_1)))))
noncomputable abbrev m_l_random : FnM := fnM 4 2 b_l_random
/-! below -/
def N_l_below : List PySem.Str := ["_law_d", "_law_limit", "_law_result"]
noncomputable def b_l_below : MSt := sSeq (sIf (mAnd (mB (mOp opEq (mIx (mVar 0) (mC (.int 1))) (mC (.int 0)))) (mB (mOp opGt (mCall bLen (mCons (mVar 0) (mNil))) (mC (.int 2))))) (sIxSet (mVar 0) (mC (.int 1)) (mBm "list" fPop (mVar 0) (mCons (mC (.int 2)) (mNil)))) (sNext)) (sSeq (sIf (mB (mOp opGt (mIx (mVar 0) (mC (.int 1))) (mC (.int 0)))) (sSeq (sSet 2 (mOp opMod (mIx (mVar 0) (mC (.int 1))) (mVar 1))) (sSeq (sIxSet (mVar 0) (mC (.int 1)) (mOp opFDiv (mIx (mVar 0) (mC (.int 1))) (mVar 1))) (sRet (mVar 2)))) (sNext)) (sSeq (sIxSet (mVar 0) (mC (.int 0)) (mOp opMod (mOp opAdd (mOp opMul (mIx (mVar 0) (mC (.int 0))) (mC (.int 48271))) (mC (.int 11))) (mC (.int 2147483647)))) (sRet (mOp opMod (mOp opFDiv (mIx (mVar 0) (mC (.int 0))) (mC (.int 64))) (mVar 1)))))
noncomputable abbrev m_l_below : FnM := fnM 3 2 b_l_below
/-! trip -/
def N_l_trip : List PySem.Str := ["_law_d", "_law_top", "_law_length", "_law_source", "_law_target", "_law_habit"]
noncomputable def b_l_trip : MSt := sSeq (sSet 3 (mFr (mCall m_l_below (mCons (mVar 0) (mCons (mOp opAdd (mVar 1) (mC (.int 1))) (mNil)))))) (sSeq (sSet 4 (mOp opMod (mOp opAdd (mOp opAdd (mVar 3) (mC (.int 1))) (mFr (mCall m_l_below (mCons (mVar 0) (mCons (mVar 1) (mNil)))))) (mOp opAdd (mVar 1) (mC (.int 1))))) (sSeq (sSet 5 (mIx (mLst (mCons (mC (.str "dark")) (mCons (mC (.str "dark")) (mCons (mC (.str "always")) (mCons (mC (.str "never")) (mNil)))))) (mFr (mCall m_l_below (mCons (mVar 0) (mCons (mC (.int 4)) (mNil))))))) (sRet (mTup (mCons (mFr (mCall m_l_below (mCons (mVar 0) (mCons (mVar 2) (mNil))))) (mCons (mVar 3) (mCons (mVar 4) (mCons (mOp opAdd (mC (.int 1)) (mFr (mCall m_l_below (mCons (mVar 0) (mCons (mIx (mLst (mCons (mC (.int 2)) (mCons (mC (.int 5)) (mNil)))) (mFr (mCall m_l_below (mCons (mVar 0) (mCons (mC (.int 2)) (mNil)))))) (mNil)))))) (mCons (mVar 5) (mNil))))))))))
noncomputable abbrev m_l_trip : FnM := fnM 6 3 b_l_trip
/-! parts -/
def N_l_parts : List PySem.Str := ["_law_d", "_law_most", "_law_top", "_law_length", "_law_time", "_law_k"]
noncomputable def e_l_parts_1 : M W := mFr (mCall m_l_trip (mCons (mVar 0) (mCons (mVar 2) (mCons (mVar 3) (mNil)))))
noncomputable def b_l_parts : MSt := sSeq (sTg (.t [2, 3]) (mTup (mCons (mOp opAdd (mC (.int 1)) (mFr (mCall m_l_below (mCons (mVar 0) (mCons (mIx (mLst (mCons (mC (.int 3)) (mCons (mC (.int 9)) (mNil)))) (mFr (mCall m_l_below (mCons (mVar 0) (mCons (mC (.int 2)) (mNil)))))) (mNil)))))) (mCons (mOp opAdd (mC (.int 1)) (mFr (mCall m_l_below (mCons (mVar 0) (mCons (mIx (mLst (mCons (mC (.int 12)) (mCons (mC (.int 48)) (mNil)))) (mFr (mCall m_l_below (mCons (mVar 0) (mCons (mC (.int 2)) (mNil)))))) (mNil)))))) (mNil))))) (sSeq (sSet 4 (mOp opAdd (mC (.int 1)) (mFr (mCall m_l_below (mCons (mVar 0) (mCons (mIx (mLst (mCons (mC (.int 6)) (mCons (mC (.int 15)) (mCons (mC (.int 60)) (mNil))))) (mFr (mCall m_l_below (mCons (mVar 0) (mCons (mC (.int 3)) (mNil)))))) (mNil))))))) (sRet (mTup (mCons (mVar 2) (mCons (mVar 3) (mCons (mVar 4) (mCons (mCall bTuple (mCons (mLc [5] (.n 5) (iR1 (mCons (mFr (mCall m_l_below (mCons (mVar 0) (mCons (mOp opAdd (mVar 1) (mC (.int 1))) (mNil))))) (mNil))) (mYes) (e_l_parts_1)) (mNil))) (mNil))))))))
noncomputable abbrev m_l_parts : FnM := fnM 6 2 b_l_parts
/-! is_int_in -/
def N_is_int_in : List PySem.Str := ["value", "low", "high"]
noncomputable def b_is_int_in : MSt := sRet (mAndV (mCall bIsi (mCons (mVar 0) (mCons (mC (.ty "int")) (mNil)))) (mAndV (mNotV (mCall bIsi (mCons (mVar 0) (mCons (mC (.ty "bool")) (mNil))))) (mChain opLe opLe (mVar 1) (mVar 0) (mVar 2))))
noncomputable abbrev m_is_int_in : FnM := fnM 3 3 b_is_int_in
/-! is_trip -/
def N_is_trip : List PySem.Str := ["value", "top", "length", "start", "source", "target", "pace", "habit"]
noncomputable def b_is_trip : MSt := sSeq (sIf (mOr (mNot (mB (mCall bIsi (mCons (mVar 0) (mCons (mC (.ty "tuple")) (mNil)))))) (mB (mOp opNe (mCall bLen (mCons (mVar 0) (mNil))) (mC (.int 5))))) (sRet (mC (.bl false))) (sNext)) (sSeq (sTg (.t [3, 4, 5, 6, 7]) (mVar 0)) (sSeq (sIf (mOr (mNot (mB (mFr (mCall m_is_int_in (mCons (mVar 3) (mCons (mC (.int 0)) (mCons (mOp opSub (mVar 2) (mC (.int 1))) (mNil)))))))) (mNot (mB (mFr (mCall m_is_int_in (mCons (mVar 6) (mCons (mC (.int 1)) (mCons (mC (.int 5)) (mNil))))))))) (sRet (mC (.bl false))) (sNext)) (sSeq (sIf (mOr (mNot (mB (mFr (mCall m_is_int_in (mCons (mVar 4) (mCons (mC (.int 0)) (mCons (mVar 1) (mNil)))))))) (mOr (mNot (mB (mFr (mCall m_is_int_in (mCons (mVar 5) (mCons (mC (.int 0)) (mCons (mVar 1) (mNil)))))))) (mB (mOp opEq (mVar 4) (mVar 5))))) (sRet (mC (.bl false))) (sNext)) (sRet (mAndV (mCall bIsi (mCons (mVar 7) (mCons (mC (.ty "str")) (mNil)))) (mOp opInQ (mVar 7) (mC (.ktup (List.map W.str ["dark", "always", "never"])))))))))
noncomputable abbrev m_is_trip : FnM := fnM 8 3 b_is_trip
/-! Trip.__init__ -/
def N_Trip___init__ : List PySem.Str := ["self", "start", "source", "target", "pace", "habit"]
noncomputable def b_Trip___init__ : MSt := sSeq (sFldSet .Trip .start (mVar 0) (mVar 1)) (sSeq (sFldSet .Trip .source (mVar 0) (mVar 2)) (sSeq (sFldSet .Trip .target (mVar 0) (mVar 3)) (sSeq (sFldSet .Trip .pace (mVar 0) (mVar 4)) (sFldSet .Trip .habit (mVar 0) (mVar 5)))))
noncomputable abbrev m_Trip___init__ : FnM := fnM 6 6 b_Trip___init__
/-! Stairs.__init__ -/
def N_Stairs___init__ : List PySem.Str := ["self", "top", "length", "time", "trips", "index", "trip"]
noncomputable def f_Stairs___init___1 : MSt := sIf (mOr (mB (mOp opEq (mVar 5) (mC (.int 8)))) (mNot (mB (mFr (mCall m_is_trip (mCons (mVar 6) (mCons (mVar 1) (mCons (mVar 2) (mNil))))))))) ((fun _ _ => .stuck)) (sNext)
noncomputable def e_Stairs___init___1 : M W := mFr (mCall (newR .Trip m_Trip___init__) (mStar (mVar 6) mNil))
noncomputable def b_Stairs___init__ : MSt := sSeq (sIf (mNot (mB (mFr (mCall m_is_int_in (mCons (mVar 1) (mCons (mC (.int 1)) (mCons (mC (.int 9)) (mNil)))))))) ((fun _ _ => .stuck)) (sNext)) (sSeq (sIf (mNot (mB (mFr (mCall m_is_int_in (mCons (mVar 2) (mCons (mC (.int 1)) (mCons (mC (.int 48)) (mNil)))))))) ((fun _ _ => .stuck)) (sNext)) (sSeq (sIf (mNot (mB (mFr (mCall m_is_int_in (mCons (mVar 3) (mCons (mC (.int 1)) (mCons (mC (.int 60)) (mNil)))))))) ((fun _ _ => .stuck)) (sNext)) (sSeq (sFor (.t [5, 6]) (iET (mVar 4)) (f_Stairs___init___1)) (sSeq (sFldSet .Stairs .top (mVar 0) (mVar 1)) (sSeq (sFldSet .Stairs .length (mVar 0) (mVar 2)) (sSeq (sFldSet .Stairs .time (mVar 0) (mVar 3)) (sFldSet .Stairs .trips (mVar 0) (mLc [6] (.n 6) (iT (mVar 4)) (mYes) (e_Stairs___init___1)))))))))
noncomputable abbrev m_Stairs___init__ : FnM := fnMS 7 4 b_Stairs___init__
/-! Stairs.with_trips -/
def N_Stairs_with_trips : List PySem.Str := ["self", "trips"]
noncomputable def b_Stairs_with_trips : MSt := sRet (mFr (mCall (newR .Stairs m_Stairs___init__) (mCons (mFld .Stairs .top (mVar 0)) (mCons (mFld .Stairs .length (mVar 0)) (mCons (mFld .Stairs .time (mVar 0)) (mStar (mVar 1) (mNil)))))))
noncomputable abbrev m_Stairs_with_trips : FnM := fnM 2 2 b_Stairs_with_trips
/-! made -/
def N_l_made : List PySem.Str := ["_law_parts_here"]
noncomputable def b_l_made : MSt := sRet (mFr (mMeth .Stairs m_Stairs_with_trips (mFr (mCall (newR .Stairs m_Stairs___init__) (mCons (mIx (mVar 0) (mC (.int 0))) (mCons (mIx (mVar 0) (mC (.int 1))) (mCons (mIx (mVar 0) (mC (.int 2))) (mNil)))))) (mCons (mCall bList (mCons (mIx (mVar 0) (mC (.int 3))) (mNil))) (mNil))))
noncomputable abbrev m_l_made : FnM := fnM 1 1 b_l_made
/-! duration -/
def N_l_duration : List PySem.Str := ["_law_trip_here"]
noncomputable def b_l_duration : MSt := sRet (mOp opMul (mCall bAbs (mCons (mOp opSub (mIx (mVar 0) (mC (.int 2))) (mIx (mVar 0) (mC (.int 1)))) (mNil))) (mIx (mVar 0) (mC (.int 3))))
noncomputable abbrev m_l_duration : FnM := fnM 1 1 b_l_duration
/-! walks -/
def N_l_walks : List PySem.Str := ["_law_parts_here", "_law_tick_here", "_law_found", "_law_number", "_law_trip_here", "_law_age"]
noncomputable def f_l_walks_1 : MSt := sIf (mB (mOp opEq (mOp opMod (mOp opSub (mOp opSub (mVar 1) (mVar 5)) (mIx (mVar 4) (mC (.int 0)))) (mIx (mVar 0) (mC (.int 1)))) (mC (.int 0)))) (sExpr (mBm "list" fAppend (mVar 2) (mCons (mTup (mCons (mVar 3) (mCons (mVar 5) (mNil)))) (mNil)))) (sNext)
noncomputable def f_l_walks_2 : MSt := sSeq (sSet 4 (mIx (mIx (mVar 0) (mC (.int 3))) (mVar 3))) (sFor (.n 5) (iR1 (mCons (mCall bMin (mCons (mOp opAdd (mVar 1) (mC (.int 1))) (mCons (mFr (mCall m_l_duration (mCons (mVar 4) (mNil)))) (mNil)))) (mNil))) (f_l_walks_1))
noncomputable def b_l_walks : MSt := sSeq (sSet 2 (mLstC (mNil))) (sSeq (sFor (.n 3) (iR1 (mCons (mCall bLen (mCons (mIx (mVar 0) (mC (.int 3))) (mNil))) (mNil))) (f_l_walks_2)) (sRet (mVar 2)))
noncomputable abbrev m_l_walks : FnM := fnM 6 2 b_l_walks
/-! tick -/
def N_l_tick : List PySem.Str := ["_law_parts_here", "_law_before", "_law_tick_here", "_law_left", "_law_presses", "_law_walks_here", "_law_number", "_law_age", "_law_start", "_law_source", "_law_target", "_law_pace", "_law_habit", "_law_on_floor", "_law_floor", "_law_walk"]
noncomputable def f_l_tick_1 : MSt := sSeq (sTg (.t [8, 9, 10, 11, 12]) (mIx (mIx (mVar 0) (mC (.int 3))) (mVar 6))) (sSeq (sSet 13 (mOp opEq (mOp opMod (mVar 7) (mVar 11)) (mC (.int 0)))) (sIf (mAnd (mB (mVar 13)) (mOr (mB (mOp opEq (mVar 12) (mC (.str "always")))) (mAnd (mB (mOp opEq (mVar 12) (mC (.str "dark")))) (mB (mOp opEq (mVar 3) (mC (.int 0))))))) (sSeq (sSet 14 (mIf (mB (mOp opGt (mVar 10) (mVar 9))) (mOp opAdd (mVar 9) (mOp opFDiv (mVar 7) (mVar 11))) (mOp opSub (mVar 9) (mOp opFDiv (mVar 7) (mVar 11))))) (sSeq (sExpr (mBm "list" fAppend (mVar 4) (mCons (mTup (mCons (mVar 2) (mCons (mVar 6) (mCons (mVar 14) (mNil))))) (mNil)))) (sSet 3 (mIx (mVar 0) (mC (.int 2)))))) (sNext)))
noncomputable def e_l_tick_1 : M W := mIx (mVar 15) (mC (.int 0))
noncomputable def b_l_tick : MSt := sSeq (sPar [3, 4, 5] (mCons (mCall bMax (mCons (mC (.int 0)) (mCons (mOp opSub (mVar 1) (mC (.int 1))) (mNil)))) (mCons (mLstC (mNil)) (mCons (mFr (mCall m_l_walks (mCons (mVar 0) (mCons (mVar 2) (mNil))))) (mNil))))) (sSeq (sFor (.t [6, 7]) (iL (mVar 5)) (f_l_tick_1)) (sRet (mTup (mCons (mVar 3) (mCons (mVar 4) (mCons (mIf (mB (mOp opEq (mVar 3) (mC (.int 0)))) (mSortSet (mLc [15] (.n 15) (iL (mVar 5)) (mYes) (e_l_tick_1))) (mLst (mNil))) (mNil)))))))
noncomputable abbrev m_l_tick : FnM := fnM 16 3 b_l_tick
/-! cycle -/
def N_l_cycle : List PySem.Str := ["_law_parts_here", "_law_longest", "_law_found", "_law_left", "_law_seen", "_law_tick_here", "_law_trip_here"]
noncomputable def e_l_cycle_1 : M W := mFr (mCall m_l_duration (mCons (mVar 6) (mNil)))
noncomputable def t_l_cycle_1 : M Bool := mB (mC (.bl true))
noncomputable def f_l_cycle_1 : MSt := sSeq (sSet 5 (mCall bLen (mCons (mVar 2) (mNil)))) (sSeq (sIf (mB (mOp opGe (mVar 5) (mVar 1))) (sSeq (sIf (mB (mOp opDIn (mTup (mCons (mOp opMod (mVar 5) (mIx (mVar 0) (mC (.int 1)))) (mCons (mVar 3) (mNil)))) (mVar 4))) (sRet (mTup (mCons (mVar 2) (mCons (mOp opDGet (mVar 4) (mTup (mCons (mOp opMod (mVar 5) (mIx (mVar 0) (mC (.int 1)))) (mCons (mVar 3) (mNil))))) (mNil))))) (sNext)) (sDPutM (mVar 4) (mTup (mCons (mOp opMod (mVar 5) (mIx (mVar 0) (mC (.int 1)))) (mCons (mVar 3) (mNil)))) (mVar 5))) (sNext)) (sSeq (sExpr (mBm "list" fAppend (mVar 2) (mCons (mFr (mCall m_l_tick (mCons (mVar 0) (mCons (mVar 3) (mCons (mVar 5) (mNil)))))) (mNil)))) (sSet 3 (mIx (mIx (mVar 2) (mNeg (mC (.int 1)))) (mC (.int 0))))))
noncomputable def b_l_cycle : MSt := sSeq (sTg (.t [1, 2, 3, 4]) (mTup (mCons (mCall bMax (mCons (mOp opAdd (mLst (mCons (mC (.int 0)) (mNil))) (mLc [6] (.n 6) (iT (mIx (mVar 0) (mC (.int 3)))) (mYes) (e_l_cycle_1))) (mNil))) (mCons (mLstC (mNil)) (mCons (mC (.int 0)) (mCons (mDNewT) (mNil))))))) (sWhile (t_l_cycle_1) (f_l_cycle_1))
noncomputable abbrev m_l_cycle : FnM := fnM 7 1 b_l_cycle
/-! Trip.duration -/
def N_Trip_duration : List PySem.Str := ["self"]
noncomputable def b_Trip_duration : MSt := sRet (mOp opMul (mCall bAbs (mCons (mOp opSub (mFld .Trip .target (mVar 0)) (mFld .Trip .source (mVar 0))) (mNil))) (mFld .Trip .pace (mVar 0)))
noncomputable abbrev m_Trip_duration : FnM := fnM 1 1 b_Trip_duration
/-! Stairs.ages -/
def N_Stairs_ages : List PySem.Str := ["self", "number", "tick", "trip", "age", "found"]
noncomputable def t_Stairs_ages_1 : M Bool := mAnd (mB (mOp opLt (mVar 4) (mFr (mProp .Trip m_Trip_duration (mVar 3))))) (mB (mOp opLe (mVar 4) (mVar 2)))
noncomputable def f_Stairs_ages_1 : MSt := sSeq (sExpr (mBm "list" fAppend (mVar 5) (mCons (mVar 4) (mNil)))) (sAug 4 (mFld .Stairs .length (mVar 0)))
noncomputable def b_Stairs_ages : MSt := sSeq (sSet 3 (mIx (mFld .Stairs .trips (mVar 0)) (mVar 1))) (sSeq (sSet 4 (mOp opMod (mOp opSub (mVar 2) (mFld .Trip .start (mVar 3))) (mFld .Stairs .length (mVar 0)))) (sSeq (sSet 5 (mLstC (mNil))) (sSeq (sWhile (t_Stairs_ages_1) (f_Stairs_ages_1)) (sRet (mVar 5)))))
noncomputable abbrev m_Stairs_ages : FnM := fnM 6 3 b_Stairs_ages
/-! Trip.floor_at -/
def N_Trip_floor_at : List PySem.Str := ["self", "age", "floors", "rest"]
noncomputable def b_Trip_floor_at : MSt := sSeq (sTg (.t [2, 3]) (mCall bDivmod (mCons (mVar 1) (mCons (mFld .Trip .pace (mVar 0)) (mNil))))) (sSeq (sIf (mB (mOp opGt (mVar 3) (mC (.int 0)))) (sRet (mC .non)) (sNext)) (sRet (mIf (mB (mOp opGt (mFld .Trip .target (mVar 0)) (mFld .Trip .source (mVar 0)))) (mOp opAdd (mFld .Trip .source (mVar 0)) (mVar 2)) (mOp opSub (mFld .Trip .source (mVar 0)) (mVar 2)))))
noncomputable abbrev m_Trip_floor_at : FnM := fnM 4 2 b_Trip_floor_at
/-! Scene.__init__ -/
def N_Scene___init__ : List PySem.Str := ["self", "light", "presses", "dark"]
noncomputable def b_Scene___init__ : MSt := sSeq (sFldSet .Scene .burning (mVar 0) (mVar 1)) (sSeq (sFldSet .Scene .presses (mVar 0) (mVar 2)) (sFldSet .Scene .dark (mVar 0) (mVar 3)))
noncomputable abbrev m_Scene___init__ : FnM := fnM 4 4 b_Scene___init__
/-! next_scene -/
def N_next_scene : List PySem.Str := ["stairs", "light", "tick", "now", "presses", "walking", "number", "trip", "ages", "age", "floor"]
noncomputable def f_next_scene_1 : MSt := sSeq (sSet 10 (mFr (mMeth .Trip m_Trip_floor_at (mVar 7) (mCons (mVar 9) (mNil))))) (sIf (mAnd (mB (mOp opNotN (mVar 10) (mC .non))) (mOr (mB (mOp opEq (mFld .Trip .habit (mVar 7)) (mC (.str "always")))) (mAnd (mB (mOp opEq (mFld .Trip .habit (mVar 7)) (mC (.str "dark")))) (mB (mOp opEq (mVar 3) (mC (.int 0))))))) (sSeq (sExpr (mBm "list" fAppend (mVar 4) (mCons (mTup (mCons (mVar 6) (mCons (mVar 10) (mNil)))) (mNil)))) (sSet 3 (mFld .Stairs .time (mVar 0)))) (sNext))
noncomputable def f_next_scene_2 : MSt := sSeq (sSet 8 (mFr (mMeth .Stairs m_Stairs_ages (mVar 0) (mCons (mVar 6) (mCons (mVar 2) (mNil)))))) (sSeq (sIf (mB (mOp opNe (mVar 8) (mLst (mNil)))) (sExpr (mBm "list" fAppend (mVar 5) (mCons (mVar 6) (mNil)))) (sNext)) (sFor (.n 9) (iL (mVar 8)) (f_next_scene_1)))
noncomputable def b_next_scene : MSt := sSeq (sPar [3, 4, 5] (mCons (mCall bMax (mCons (mC (.int 0)) (mCons (mOp opSub (mVar 1) (mC (.int 1))) (mNil)))) (mCons (mLstC (mNil)) (mCons (mLstC (mNil)) (mNil))))) (sSeq (sFor (.t [6, 7]) (iE (mFld .Stairs .trips (mVar 0))) (f_next_scene_2)) (sRet (mFr (mCall (newR .Scene m_Scene___init__) (mCons (mVar 3) (mCons (mVar 4) (mCons (mIf (mB (mOp opEq (mVar 3) (mC (.int 0)))) (mVar 5) (mLst (mNil))) (mNil))))))))
noncomputable abbrev m_next_scene : FnM := fnM 11 3 b_next_scene
/-! Story.__init__ -/
def N_Story___init__ : List PySem.Str := ["self", "stairs", "longest", "light", "seen", "tick", "key", "trip"]
noncomputable def e_Story___init___1 : M W := mFr (mProp .Trip m_Trip_duration (mVar 7))
noncomputable def t_Story___init___1 : M Bool := mB (mOp opIsN (mFld .Story .start (mVar 0)) (mC .non))
noncomputable def f_Story___init___1 : MSt := sSeq (sSet 5 (mCall bLen (mCons (mFld .Story .scenes (mVar 0)) (mNil)))) (sSeq (sSet 6 (mTup (mCons (mOp opMod (mVar 5) (mFld .Stairs .length (mVar 1))) (mCons (mVar 3) (mNil))))) (sIf (mAnd (mB (mOp opGe (mVar 5) (mVar 2))) (mB (mOp opDIn (mVar 6) (mVar 4)))) (sFldSet .Story .start (mVar 0) (mOp opDGet (mVar 4) (mVar 6))) (sSeq (sIf (mB (mOp opGe (mVar 5) (mVar 2))) (sDPutM (mVar 4) (mVar 6) (mVar 5)) (sNext)) (sSeq (sExpr (mBm "list" fAppend (mFld .Story .scenes (mVar 0)) (mCons (mFr (mCall m_next_scene (mCons (mVar 1) (mCons (mVar 3) (mCons (mVar 5) (mNil)))))) (mNil)))) (sSet 3 (mFld .Scene .burning (mIx (mFld .Story .scenes (mVar 0)) (mNeg (mC (.int 1))))))))))
noncomputable def b_Story___init__ : MSt := sSeq (sFldSet .Story .scenes (mVar 0) (mLstC (mNil))) (sSeq (sFldSet .Story .start (mVar 0) (mC .non)) (sSeq (sSet 2 (mCall bMax (mCons (mOp opAdd (mLst (mCons (mC (.int 0)) (mNil))) (mLc [7] (.n 7) (iL (mFld .Stairs .trips (mVar 1))) (mYes) (e_Story___init___1))) (mNil)))) (sSeq (sPar [3, 4] (mCons (mC (.int 0)) (mCons (mDNewT) (mNil)))) (sWhile (t_Story___init___1) (f_Story___init___1)))))
noncomputable abbrev m_Story___init__ : FnM := fnM 8 2 b_Story___init__
/-! first_dark -/
def N_first_dark : List PySem.Str := ["stairs", "tick", "scene"]
noncomputable def f_first_dark_1 : MSt := sIf (mB (mOp opNe (mFld .Scene .dark (mVar 2)) (mLst (mNil)))) (sRet (mTup (mCons (mVar 1) (mCons (mCall bListC (mCons (mFld .Scene .dark (mVar 2)) (mNil))) (mNil))))) (sNext)
noncomputable def b_first_dark : MSt := sSeq (sFor (.t [1, 2]) (iE (mFld .Story .scenes (mFr (mCall (newR .Story m_Story___init__) (mCons (mVar 0) (mNil)))))) (f_first_dark_1)) (sRet (mC .non))
noncomputable abbrev m_first_dark : FnM := fnM 3 1 b_first_dark
/-! equal -/
def N_l_equal : List PySem.Str := ["_law_actual", "_law_expected", "_law_k"]
noncomputable def e_l_equal_1 (g : FnM) : M W := mFr (mCall g (mCons (mIx (mVar 0) (mVar 2)) (mCons (mIx (mVar 1) (mVar 2)) (mNil))))
noncomputable def b_l_equal (g : FnM) : MSt := sSeq (sIf (mB (mOp opIsN (mVar 1) (mC .non))) (sRet (mOp opIsN (mVar 0) (mC .non))) (sNext)) (sSeq (sIf (mB (mCall bIsi (mCons (mVar 1) (mCons (mC (.ty "bool")) (mNil))))) (sRet (mAndV (mCall bIsi (mCons (mVar 0) (mCons (mC (.ty "bool")) (mNil)))) (mOp opEq (mVar 0) (mVar 1)))) (sNext)) (sSeq (sIf (mB (mCall bIsi (mCons (mVar 1) (mCons (mC (.ty "int")) (mNil))))) (sRet (mAndV (mCall bIsi (mCons (mVar 0) (mCons (mC (.ty "int")) (mNil)))) (mAndV (mNotV (mCall bIsi (mCons (mVar 0) (mCons (mC (.ty "bool")) (mNil))))) (mOp opEq (mVar 0) (mVar 1))))) (sNext)) (sSeq (sIf (mB (mCall bIsi (mCons (mVar 1) (mCons (mC (.ty "str")) (mNil))))) (sRet (mAndV (mCall bIsi (mCons (mVar 0) (mCons (mC (.ty "str")) (mNil)))) (mOp opEq (mVar 0) (mVar 1)))) (sNext)) (sSeq (sIf (mB (mOp opNe (mCall bIsi (mCons (mVar 1) (mCons (mC (.ty "tuple")) (mNil)))) (mCall bIsi (mCons (mVar 0) (mCons (mC (.ty "tuple")) (mNil)))))) (sRet (mC (.bl false))) (sNext)) (sSeq (sIf (mB (mOp opNe (mCall bIsi (mCons (mVar 1) (mCons (mC (.ty "list")) (mNil)))) (mCall bIsi (mCons (mVar 0) (mCons (mC (.ty "list")) (mNil)))))) (sRet (mC (.bl false))) (sNext)) (sSeq (sIf (mB (mOp opNe (mCall bLen (mCons (mVar 0) (mNil))) (mCall bLen (mCons (mVar 1) (mNil))))) (sRet (mC (.bl false))) (sNext)) (sRet (mCall bAll (mCons (mLc [2] (.n 2) (iR1 (mCons (mCall bLen (mCons (mVar 1) (mNil))) (mNil))) (mYes) ((e_l_equal_1 g))) (mNil))))))))))
noncomputable def m_l_equal : Nat → FnM
  | 0 => fun _ _ => .stuck
  | j + 1 => fnM 3 2 (b_l_equal (m_l_equal j))
noncomputable abbrev mr_l_equal : FnM := m_l_equal 8
/-! darkest_tick -/
def N_darkest_tick : List PySem.Str := ["stairs", "counts", "most", "scene"]
noncomputable def e_darkest_tick_1 : M W := mCall bLen (mCons (mFld .Scene .dark (mVar 3)) (mNil))
noncomputable def b_darkest_tick : MSt := sSeq (sSet 1 (mLc [3] (.n 3) (iL (mFld .Story .scenes (mFr (mCall (newR .Story m_Story___init__) (mCons (mVar 0) (mNil)))))) (mYes) (e_darkest_tick_1))) (sSeq (sSet 2 (mCall bMax (mCons (mVar 1) (mNil)))) (sRet (mIf (mB (mOp opEq (mVar 2) (mC (.int 0)))) (mC .non) (mTup (mCons (mVar 2) (mCons (mBm "list" fIndex (mVar 1) (mCons (mVar 2) (mNil))) (mNil)))))))
noncomputable abbrev m_darkest_tick : FnM := fnM 4 1 b_darkest_tick
/-! is_bright -/
def N_l_is_bright : List PySem.Str := ["_law_parts_here", "_law_one"]
noncomputable def e_l_is_bright_1 : M W := mVar 1
noncomputable def i_l_is_bright_1 : M Bool := mB (mOp opNe (mIx (mVar 1) (mC (.int 2))) (mLst (mNil)))
noncomputable def b_l_is_bright : MSt := sRet (mOp opEq (mLc [1] (.n 1) (iL (mIx (mFr (mCall m_l_cycle (mCons (mVar 0) (mNil)))) (mC (.int 0)))) (i_l_is_bright_1) (e_l_is_bright_1)) (mLst (mNil)))
noncomputable abbrev m_l_is_bright : FnM := fnM 2 1 b_l_is_bright
/-! is_bright -/
def N_is_bright : List PySem.Str := ["stairs", "scene"]
noncomputable def e_is_bright_1 : M W := mOp opEq (mFld .Scene .dark (mVar 1)) (mLst (mNil))
noncomputable def b_is_bright : MSt := sRet (mCall bAll (mCons (mLc [1] (.n 1) (iL (mFld .Story .scenes (mFr (mCall (newR .Story m_Story___init__) (mCons (mVar 0) (mNil)))))) (mYes) (e_is_bright_1)) (mNil)))
noncomputable abbrev m_is_bright : FnM := fnM 2 1 b_is_bright
/-! Trip.parts -/
def N_Trip_parts : List PySem.Str := ["self"]
noncomputable def b_Trip_parts : MSt := sRet (mTup (mCons (mFld .Trip .start (mVar 0)) (mCons (mFld .Trip .source (mVar 0)) (mCons (mFld .Trip .target (mVar 0)) (mCons (mFld .Trip .pace (mVar 0)) (mCons (mFld .Trip .habit (mVar 0)) (mNil)))))))
noncomputable abbrev m_Trip_parts : FnM := fnM 1 1 b_Trip_parts
/-! Stairs.all_trips -/
def N_Stairs_all_trips : List PySem.Str := ["self", "trip"]
noncomputable def e_Stairs_all_trips_1 : M W := mFr (mProp .Trip m_Trip_parts (mVar 1))
noncomputable def b_Stairs_all_trips : MSt := sRet (mCall bTuple (mCons (mLc [1] (.n 1) (iL (mFld .Stairs .trips (mVar 0))) (mYes) (e_Stairs_all_trips_1)) (mNil)))
noncomputable abbrev m_Stairs_all_trips : FnM := fnM 2 1 b_Stairs_all_trips
/-! Stairs.with_time -/
def N_Stairs_with_time : List PySem.Str := ["self", "time", "trips"]
noncomputable def b_Stairs_with_time : MSt := sSeq (sSet 2 (mFr (mProp .Stairs m_Stairs_all_trips (mVar 0)))) (sRet (mFr (mCall (newR .Stairs m_Stairs___init__) (mCons (mFld .Stairs .top (mVar 0)) (mCons (mFld .Stairs .length (mVar 0)) (mCons (mVar 1) (mStar (mVar 2) (mNil))))))))
noncomputable abbrev m_Stairs_with_time : FnM := fnM 3 2 b_Stairs_with_time
/-! bright_times -/
def N_bright_times : List PySem.Str := ["stairs", "time"]
noncomputable def e_bright_times_1 : M W := mVar 1
noncomputable def i_bright_times_1 : M Bool := mB (mFr (mCall m_is_bright (mCons (mFr (mMeth .Stairs m_Stairs_with_time (mVar 0) (mCons (mVar 1) (mNil)))) (mNil))))
noncomputable def b_bright_times : MSt := sRet (mLcC [1] (.n 1) (iR2 (mCons (mC (.int 1)) (mCons (mOp opAdd (mC (.int 60)) (mC (.int 1))) (mNil)))) (i_bright_times_1) (e_bright_times_1))
noncomputable abbrev m_bright_times : FnM := fnM 2 1 b_bright_times
/-! least_time -/
def N_least_time : List PySem.Str := ["stairs", "time"]
noncomputable def f_least_time_1 : MSt := sIf (mB (mFr (mCall m_is_bright (mCons (mFr (mMeth .Stairs m_Stairs_with_time (mVar 0) (mCons (mVar 1) (mNil)))) (mNil))))) (sRet (mVar 1)) (sNext)
noncomputable def b_least_time : MSt := sSeq (sFor (.n 1) (iR2 (mCons (mC (.int 1)) (mCons (mOp opAdd (mC (.int 60)) (mC (.int 1))) (mNil)))) (f_least_time_1)) (sRet (mC .non))
noncomputable abbrev m_least_time : FnM := fnM 2 1 b_least_time
/-! Story.size -/
def N_Story_size : List PySem.Str := ["self"]
noncomputable def b_Story_size : MSt := sRet (mOp opSub (mCall bLen (mCons (mFld .Story .scenes (mVar 0)) (mNil))) (mFld .Story .start (mVar 0)))
noncomputable abbrev m_Story_size : FnM := fnM 1 1 b_Story_size
/-! cheapest_time -/
def N_cheapest_time : List PySem.Str := ["stairs", "best", "time", "story", "lit", "scene"]
noncomputable def e_cheapest_time_1 : M W := mVar 5
noncomputable def i_cheapest_time_1 : M Bool := mB (mOp opGt (mFld .Scene .burning (mVar 5)) (mC (.int 0)))
noncomputable def f_cheapest_time_1 : MSt := sSeq (sSet 3 (mFr (mCall (newR .Story m_Story___init__) (mCons (mFr (mMeth .Stairs m_Stairs_with_time (mVar 0) (mCons (mVar 2) (mNil)))) (mNil))))) (sSeq (sSet 4 (mCall bLen (mCons (mLc [5] (.n 5) (iL (mCut (mFld .Story .scenes (mVar 3)) (mPart (mFld .Story .start (mVar 3))) (mNoPart))) (i_cheapest_time_1) (e_cheapest_time_1)) (mNil)))) (sIf (mOr (mB (mOp opIsN (mVar 1) (mC .non))) (mB (mOp opLt (mOp opMul (mVar 4) (mIx (mVar 1) (mC (.int 1)))) (mOp opMul (mIx (mVar 1) (mC (.int 0))) (mFr (mProp .Story m_Story_size (mVar 3))))))) (sSet 1 (mTup (mCons (mVar 4) (mCons (mFr (mProp .Story m_Story_size (mVar 3))) (mCons (mVar 2) (mNil)))))) (sNext)))
noncomputable def b_cheapest_time : MSt := sSeq (sSet 1 (mC .non)) (sSeq (sFor (.n 2) (iL (mFr (mCall m_bright_times (mCons (mVar 0) (mNil))))) (f_cheapest_time_1)) (sRet (mVar 1)))
noncomputable abbrev m_cheapest_time : FnM := fnM 6 1 b_cheapest_time
end SL

set_option Elab.async false
set_option linter.all false
set_option maxRecDepth 100000
set_option maxHeartbeats 0
namespace SL
open PySem PySem.Spec PyProof.Rows L2
/-! place -/
def N_l_place : List PySem.Str := ["_law_cycle_here", "_law_tick_here", "_law_many", "_law_start"]
noncomputable def b_l_place : MSt := sSeq (sPar [2, 3] (mCons (mCall bLen (mCons (mIx (mVar 0) (mC (.int 0))) (mNil))) (mCons (mIx (mVar 0) (mC (.int 1))) (mNil)))) (sRet (mIf (mB (mOp opLt (mVar 1) (mVar 2))) (mVar 1) (mOp opAdd (mVar 3) (mOp opMod (mOp opSub (mVar 1) (mVar 3)) (mOp opSub (mVar 2) (mVar 3))))))
noncomputable abbrev m_l_place : FnM := fnM 4 2 b_l_place
/-! common_multiple -/
def N_common_multiple : List PySem.Str := ["one", "other", "multiple"]
noncomputable def t_common_multiple_1 : M Bool := mB (mOp opNe (mOp opMul (mOp opFDiv (mVar 2) (mVar 1)) (mVar 1)) (mVar 2))
noncomputable def f_common_multiple_1 : MSt := sAug 2 (mVar 0)
noncomputable def b_common_multiple : MSt := sSeq (sSet 2 (mVar 0)) (sSeq (sWhile (t_common_multiple_1) (f_common_multiple_1)) (sRet (mVar 2)))
noncomputable abbrev m_common_multiple : FnM := fnM 3 2 b_common_multiple
/-! Story.scene -/
def N_Story_scene : List PySem.Str := ["self", "tick"]
noncomputable def b_Story_scene : MSt := sRet (mIx (mFld .Story .scenes (mVar 0)) (mIf (mB (mOp opLt (mVar 1) (mCall bLen (mCons (mFld .Story .scenes (mVar 0)) (mNil))))) (mVar 1) (mOp opAdd (mFld .Story .start (mVar 0)) (mOp opMod (mOp opSub (mVar 1) (mFld .Story .start (mVar 0))) (mFr (mProp .Story m_Story_size (mVar 0)))))))
noncomputable abbrev m_Story_scene : FnM := fnM 2 2 b_Story_scene
/-! first_difference -/
def N_first_difference : List PySem.Str := ["stairs", "other", "one", "two", "tick", "burns"]
noncomputable def f_first_difference_1 : MSt := sSeq (sSet 5 (mOp opGt (mFld .Scene .burning (mFr (mMeth .Story m_Story_scene (mVar 2) (mCons (mVar 4) (mNil))))) (mC (.int 0)))) (sIf (mB (mOp opNe (mVar 5) (mOp opGt (mFld .Scene .burning (mFr (mMeth .Story m_Story_scene (mVar 3) (mCons (mVar 4) (mNil))))) (mC (.int 0))))) (sRet (mTup (mCons (mVar 4) (mCons (mVar 5) (mNil))))) (sNext))
noncomputable def b_first_difference : MSt := sSeq (sPar [2, 3] (mCons (mFr (mCall (newR .Story m_Story___init__) (mCons (mVar 0) (mNil)))) (mCons (mFr (mCall (newR .Story m_Story___init__) (mCons (mVar 1) (mNil)))) (mNil)))) (sSeq (sFor (.n 4) (iR1 (mCons (mOp opAdd (mCall bMax (mCons (mFld .Story .start (mVar 2)) (mCons (mFld .Story .start (mVar 3)) (mNil)))) (mFr (mCall m_common_multiple (mCons (mFr (mProp .Story m_Story_size (mVar 2))) (mCons (mFr (mProp .Story m_Story_size (mVar 3))) (mNil)))))) (mNil))) (f_first_difference_1)) (sRet (mC .non)))
noncomputable abbrev m_first_difference : FnM := fnM 6 2 b_first_difference
/-! first_error -/
def N_first_error : List PySem.Str := ["stairs", "log", "story", "tick", "entry"]
noncomputable def f_first_error_1 : MSt := sIf (mOr (mNot (mB (mCall bIsi (mCons (mVar 4) (mCons (mC (.ty "bool")) (mNil)))))) (mB (mOp opNe (mVar 4) (mOp opGt (mFld .Scene .burning (mFr (mMeth .Story m_Story_scene (mVar 2) (mCons (mVar 3) (mNil))))) (mC (.int 0)))))) (sRet (mVar 3)) (sNext)
noncomputable def b_first_error : MSt := sSeq (sIf (mNot (mB (mCall bIsi (mCons (mVar 1) (mCons (mC (.ty "list")) (mNil)))))) (sRet (mC (.int 0))) (sNext)) (sSeq (sSet 2 (mFr (mCall (newR .Story m_Story___init__) (mCons (mVar 0) (mNil))))) (sSeq (sFor (.t [3, 4]) (iE (mVar 1)) (f_first_error_1)) (sRet (mC .non))))
noncomputable abbrev m_first_error : FnM := fnM 5 2 b_first_error
/-! checks -/
def N_l_checks : List PySem.Str := ["_law_d", "_law_stairs", "_law_cycle_here", "_law_log", "_law_at", "_law_right", "_law_bad", "_law_found", "_law_none", "_law_tick_here"]
noncomputable def e_l_checks_1 : M W := mOp opGt (mIx (mIx (mIx (mVar 2) (mC (.int 0))) (mFr (mCall m_l_place (mCons (mVar 2) (mCons (mVar 9) (mNil)))))) (mC (.int 0))) (mC (.int 0))
noncomputable def b_l_checks : MSt := sSeq (sSet 3 (mLc [9] (.n 9) (iR1 (mCons (mFr (mCall m_l_below (mCons (mVar 0) (mCons (mC (.int 90)) (mNil))))) (mNil))) (mYes) (e_l_checks_1))) (sSeq (sSet 4 (mFr (mCall m_l_below (mCons (mVar 0) (mCons (mOp opAdd (mCall bLen (mCons (mVar 3) (mNil))) (mC (.int 1))) (mNil)))))) (sSeq (sSet 5 (mOp opGt (mIx (mIx (mIx (mVar 2) (mC (.int 0))) (mFr (mCall m_l_place (mCons (mVar 2) (mCons (mVar 4) (mNil)))))) (mC (.int 0))) (mC (.int 0)))) (sSeq (sSet 6 (mIx (mLst (mCons (mNotV (mVar 5)) (mCons (mCall bInt (mCons (mVar 5) (mNil))) (mCons (mC .non) (mCons (mC (.str "True")) (mCons (mLst (mCons (mVar 5) (mNil))) (mCons (mTup (mCons (mVar 5) (mNil))) (mNil)))))))) (mFr (mCall m_l_below (mCons (mVar 0) (mCons (mC (.int 6)) (mNil))))))) (sSeq (sSet 7 (mLst (mCons (mFr (mCall m_first_error (mCons (mVar 1) (mCons (mVar 3) (mNil))))) (mCons (mFr (mCall m_first_error (mCons (mVar 1) (mCons (mOp opAdd (mOp opAdd (mCut (mVar 3) (mNoPart) (mPart (mVar 4))) (mLst (mCons (mVar 6) (mCons (mC .non) (mNil))))) (mCut (mVar 3) (mPart (mVar 4)) (mNoPart))) (mNil))))) (mNil))))) (sSeq (sSet 8 (mIx (mLst (mCons (mC .non) (mCons (mTup (mNil)) (mCons (mC (.int 5)) (mCons (mC (.bl true)) (mCons (mC (.str "log")) (mNil))))))) (mFr (mCall m_l_below (mCons (mVar 0) (mCons (mC (.int 5)) (mNil))))))) (sRet (mFr (mCall mr_l_equal (mCons (mOp opAdd (mVar 7) (mLst (mCons (mFr (mCall m_first_error (mCons (mVar 1) (mCons (mVar 8) (mNil))))) (mNil)))) (mCons (mLst (mCons (mC .non) (mCons (mVar 4) (mCons (mC (.int 0)) (mNil))))) (mNil)))))))))))
noncomputable abbrev m_l_checks : FnM := fnM 10 3 b_l_checks
end SL

set_option Elab.async false
set_option linter.all false
set_option maxRecDepth 100000
set_option maxHeartbeats 0
namespace SL
open PySem PySem.Spec PyProof.Rows L2
/-! read_number -/
def N_read_number : List PySem.Str := ["word", "digit"]
noncomputable def e_read_number_1 : M W := mOp opNotInS (mVar 1) (mC (.str "0123456789"))
noncomputable def b_read_number : MSt := sSeq (sIf (mOr (mNot (mB (mChain opLe opLe (mC (.int 1)) (mCall bLenS (mCons (mVar 0) (mNil))) (mC (.int 2))))) (mB (mCall bAny (mCons (mLc [1] (.n 1) (iS (mVar 0)) (mYes) (e_read_number_1)) (mNil))))) (sRet (mC .non)) (sNext)) (sRet (mIf (mAnd (mB (mOp opGt (mCall bLenS (mCons (mVar 0) (mNil))) (mC (.int 1)))) (mB (mOp opEq (mIx (mVar 0) (mC (.int 0))) (mC (.str "0"))))) (mC .non) (mCall bIntS (mCons (mVar 0) (mNil)))))
noncomputable abbrev m_read_number : FnM := fnM 2 1 b_read_number
/-! read_numbers -/
def N_read_numbers : List PySem.Str := ["words", "first", "count", "numbers", "word"]
noncomputable def e_read_numbers_1 : M W := mFr (mCall m_read_number (mCons (mVar 4) (mNil)))
noncomputable def b_read_numbers : MSt := sSeq (sSet 3 (mLc [4] (.n 4) (iL (mCut (mVar 0) (mPart (mC (.int 1))) (mNoPart))) (mYes) (e_read_numbers_1))) (sRet (mIf (mOr (mB (mOp opNe (mCut (mVar 0) (mNoPart) (mPart (mC (.int 1)))) (mLst (mCons (mVar 1) (mNil))))) (mOr (mB (mOp opNe (mCall bLen (mCons (mVar 3) (mNil))) (mVar 2))) (mB (mOp opInQ (mC .non) (mVar 3))))) (mC .non) (mVar 3)))
noncomputable abbrev m_read_numbers : FnM := fnM 5 3 b_read_numbers
/-! Stairs.parse -/
def N_Stairs_parse : List PySem.Str := ["cls", "text", "lines", "numbers", "trips", "line", "words", "values", "top", "length", "time"]
noncomputable def f_Stairs_parse_1 : MSt := sSeq (sSet 6 (mBm "str" fSplit (mIx (mVar 2) (mVar 5)) (mCons (mC (.str " ")) (mNil)))) (sSeq (sSet 7 (mFr (mCall m_read_numbers (mCons (mCut (mVar 6) (mNoPart) (mPart (mNeg (mC (.int 1))))) (mCons (mC (.str "trip")) (mCons (mC (.int 4)) (mNil))))))) (sSeq (sIf (mOr (mB (mOp opIsN (mVar 7) (mC .non))) (mB (mOp opNotInQ (mIx (mVar 6) (mNeg (mC (.int 1)))) (mC (.ktup (List.map W.str ["dark", "always", "never"])))))) ((fun _ _ => .stuck)) (sNext)) (sExpr (mBm "list" fAppend (mVar 4) (mCons (mTup (mStar (mVar 7) (mCons (mIx (mVar 6) (mNeg (mC (.int 1)))) (mNil)))) (mNil))))))
noncomputable def b_Stairs_parse : MSt := sSeq (sSet 2 (mBm "str" fSplit (mVar 1) (mCons (mC (.str "\n")) (mNil)))) (sSeq (sSet 3 (mFr (mCall m_read_numbers (mCons (mBm "str" fSplit (mIx (mVar 2) (mC (.int 0))) (mCons (mC (.str " ")) (mNil))) (mCons (mC (.str "stairs")) (mCons (mC (.int 3)) (mNil))))))) (sSeq (sIf (mB (mOp opIsN (mVar 3) (mC .non))) ((fun _ _ => .stuck)) (sNext)) (sSeq (sSet 4 (mLstC (mNil))) (sSeq (sFor (.n 5) (iR2 (mCons (mC (.int 1)) (mCons (mCall bLen (mCons (mVar 2) (mNil))) (mNil)))) (f_Stairs_parse_1)) (sSeq (sTgL [8, 9, 10] (mVar 3)) (sRet (mFr (mNewL 0 .Stairs m_Stairs___init__ (mCons (mVar 8) (mCons (mVar 9) (mCons (mVar 10) (mStar (mVar 4) (mNil)))))))))))))
noncomputable abbrev m_Stairs_parse : FnM := fnM 11 2 b_Stairs_parse
/-! Stairs.text -/
def N_Stairs_text : List PySem.Str := ["self", "rows", "trip", "row", "part"]
noncomputable def e_Stairs_text_1 : M W := mTup (mCons (mC (.str "trip")) (mStar (mFr (mProp .Trip m_Trip_parts (mVar 2))) (mNil)))
noncomputable def e_Stairs_text_2 : M W := mCall bStr (mCons (mVar 4) (mNil))
noncomputable def e_Stairs_text_3 : M W := mBm "str" fJoin (mC (.str " ")) (mCons (mLc [4] (.n 4) (iT (mVar 3)) (mYes) (e_Stairs_text_2)) (mNil))
noncomputable def b_Stairs_text : MSt := sSeq (sSet 1 (mOp opAdd (mLst (mCons (mTup (mCons (mC (.str "stairs")) (mCons (mFld .Stairs .top (mVar 0)) (mCons (mFld .Stairs .length (mVar 0)) (mCons (mFld .Stairs .time (mVar 0)) (mNil)))))) (mNil))) (mLc [2] (.n 2) (iL (mFld .Stairs .trips (mVar 0))) (mYes) (e_Stairs_text_1)))) (sRet (mBm "str" fJoin (mC (.str "\n")) (mCons (mLc [3] (.n 3) (iL (mVar 1)) (mYes) (e_Stairs_text_3)) (mNil))))
noncomputable abbrev m_Stairs_text : FnM := fnM 5 1 b_Stairs_text
/-! encode -/
def N_encode : List PySem.Str := ["stairs", "result", "numbers", "habit"]
noncomputable def f_encode_1 : MSt := sExpr (mBm "list" fExtend (mVar 1) (mCons (mLst (mStar (mVar 2) (mCons (mBm "tuple" fIndexT (mC (.ktup (List.map W.str ["dark", "always", "never"]))) (mCons (mVar 3) (mNil))) (mNil)))) (mNil)))
noncomputable def b_encode : MSt := sSeq (sSet 1 (mLstC (mCons (mC (.int 83)) (mCons (mFld .Stairs .top (mVar 0)) (mCons (mFld .Stairs .length (mVar 0)) (mCons (mFld .Stairs .time (mVar 0)) (mCons (mCall bLen (mCons (mFld .Stairs .trips (mVar 0)) (mNil))) (mNil)))))))) (sSeq (sForS 2 3 (iT (mFr (mProp .Stairs m_Stairs_all_trips (mVar 0)))) (f_encode_1)) (sRet (mLstC (mStar (mVar 1) (mCons (mOp opMod (mCall bSum (mCons (mVar 1) (mNil))) (mC (.int 256))) (mNil))))))
noncomputable abbrev m_encode : FnM := fnM 4 1 b_encode
/-! Reader.__init__ -/
def N_Reader___init__ : List PySem.Str := ["self", "code"]
noncomputable def b_Reader___init__ : MSt := sSeq (sFldSet .Reader .code (mVar 0) (mVar 1)) (sFldSet .Reader .place (mVar 0) (mC (.int 0)))
noncomputable abbrev m_Reader___init__ : FnM := fnM 2 2 b_Reader___init__
/-! Reader.read_byte -/
def N_Reader_read_byte : List PySem.Str := ["self", "low", "high"]
noncomputable def b_Reader_read_byte : MSt := sSeq (sIf (mOr (mB (mOp opEq (mFld .Reader .place (mVar 0)) (mCall bLen (mCons (mFld .Reader .code (mVar 0)) (mNil))))) (mNot (mB (mFr (mCall m_is_int_in (mCons (mIx (mFld .Reader .code (mVar 0)) (mFld .Reader .place (mVar 0))) (mCons (mVar 1) (mCons (mVar 2) (mNil))))))))) ((fun _ _ => .stuck)) (sNext)) (sSeq (sFldAdd .Reader .place (mVar 0) (mC (.int 1))) (sRet (mIx (mFld .Reader .code (mVar 0)) (mOp opSub (mFld .Reader .place (mVar 0)) (mC (.int 1))))))
noncomputable abbrev m_Reader_read_byte : FnM := fnM 3 3 b_Reader_read_byte
/-! Reader.read_trip -/
def N_Reader_read_trip : List PySem.Str := ["self", "top", "length", "start", "source", "target", "pace"]
noncomputable def b_Reader_read_trip : MSt := sSeq (sSet 3 (mMeth .Reader m_Reader_read_byte (mVar 0) (mCons (mC (.int 0)) (mCons (mOp opSub (mVar 2) (mC (.int 1))) (mNil))))) (sSeq (sSet 4 (mMeth .Reader m_Reader_read_byte (mVar 0) (mCons (mC (.int 0)) (mCons (mVar 1) (mNil))))) (sSeq (sSet 5 (mMeth .Reader m_Reader_read_byte (mVar 0) (mCons (mC (.int 0)) (mCons (mVar 1) (mNil))))) (sSeq (sIf (mB (mOp opEq (mVar 5) (mVar 4))) ((fun _ _ => .stuck)) (sNext)) (sSeq (sSet 6 (mMeth .Reader m_Reader_read_byte (mVar 0) (mCons (mC (.int 1)) (mCons (mC (.int 5)) (mNil))))) (sRet (mTup (mCons (mVar 3) (mCons (mVar 4) (mCons (mVar 5) (mCons (mVar 6) (mCons (mIx (mC (.ktup (List.map W.str ["dark", "always", "never"]))) (mMeth .Reader m_Reader_read_byte (mVar 0) (mCons (mC (.int 0)) (mCons (mOp opSub (mCall bLen (mCons (mC (.ktup (List.map W.str ["dark", "always", "never"]))) (mNil))) (mC (.int 1))) (mNil))))) (mNil))))))))))))
noncomputable abbrev m_Reader_read_trip : FnM := fnM 7 3 b_Reader_read_trip
/-! decode -/
def N_decode : List PySem.Str := ["code", "reader", "top", "length", "time", "trips", "checksum", "index"]
noncomputable def e_decode_1 : M W := mMeth .Reader m_Reader_read_trip (mVar 1) (mCons (mVar 2) (mCons (mVar 3) (mNil)))
noncomputable def b_decode : MSt := sSeq (sIf (mNot (mB (mCall bIsi (mCons (mVar 0) (mCons (mC (.ty "list")) (mNil)))))) ((fun _ _ => .stuck)) (sNext)) (sSeq (sSet 1 (mCall (newR .Reader m_Reader___init__) (mCons (mVar 0) (mNil)))) (sSeq (sExpr (mMeth .Reader m_Reader_read_byte (mVar 1) (mCons (mC (.int 83)) (mCons (mC (.int 83)) (mNil))))) (sSeq (sSet 2 (mMeth .Reader m_Reader_read_byte (mVar 1) (mCons (mC (.int 1)) (mCons (mC (.int 9)) (mNil))))) (sSeq (sSet 3 (mMeth .Reader m_Reader_read_byte (mVar 1) (mCons (mC (.int 1)) (mCons (mC (.int 48)) (mNil))))) (sSeq (sSet 4 (mMeth .Reader m_Reader_read_byte (mVar 1) (mCons (mC (.int 1)) (mCons (mC (.int 60)) (mNil))))) (sSeq (sSet 5 (mLc [7] (.n 7) (iR1 (mCons (mMeth .Reader m_Reader_read_byte (mVar 1) (mCons (mC (.int 0)) (mCons (mC (.int 8)) (mNil)))) (mNil))) (mYes) (e_decode_1))) (sSeq (sSet 6 (mOp opMod (mCall bSum (mCons (mCut (mVar 0) (mNoPart) (mPart (mFld .Reader .place (mVar 1)))) (mNil))) (mC (.int 256)))) (sSeq (sExpr (mMeth .Reader m_Reader_read_byte (mVar 1) (mCons (mVar 6) (mCons (mVar 6) (mNil))))) (sSeq (sIf (mB (mOp opLt (mFld .Reader .place (mVar 1)) (mCall bLen (mCons (mVar 0) (mNil))))) ((fun _ _ => .stuck)) (sNext)) (sRet (mFr (mCall (newR .Stairs m_Stairs___init__) (mCons (mVar 2) (mCons (mVar 3) (mCons (mVar 4) (mStar (mVar 5) (mNil)))))))))))))))))
noncomputable abbrev m_decode : FnM := fnM 8 1 b_decode
end SL

set_option Elab.async false
set_option linter.all false
set_option maxRecDepth 100000
set_option maxHeartbeats 2000000
namespace SL
open PySem PySem.Spec PyProof.Rows L2
section
variable {X : Cx} {ca : Ca} {E : XK}
/-- t * k, t a tuple -/
def opMulT : Op2 := fun a b S => match a, b with
  | .tup xs, .int k => if xs ≠ [] ∧ 2 ≤ k ∧ k ≤ 1000 ∧ xs.length ≤ 1000 then .ok (.tup (List.replicate k.toNat xs).flatten) S else .stuck
  | _, _ => .stuck
theorem om_mulT : OpM X ca E (binaryOp .Mult) opMulT := (op_repT).weak fun x y H Q h => by
  obtain ⟨io, S, a, b, z, ra, rb, p⟩ := h
  unfold opMulT at p
  split at p
  · rename_i xs k
    split at p
    · rename_i hk
      obtain ⟨h1, h2, h3, h4⟩ := hk
      obtain ⟨l, vs, rfl, q, r⟩ := ra.tupI
      cases (show y = _ from rb)
      have hl := r.len
      refine ⟨l, k, vs, rfl, rfl, q.sq, fun e => h1 (by rw [e] at hl; exact List.length_eq_zero_iff.mp hl.symm), h2, h3, by rw [hl]; exact h4, fun p' np => Post.newW p z np _ (rv_newT z np (r.rep _))⟩
    · exact p.elim
  · exact p.elim
end
end SL

set_option Elab.async false
set_option linter.all false
set_option maxRecDepth 100000
set_option maxHeartbeats 0
namespace SL
open PySem PySem.Spec PyProof.Rows L2
/-! full -/
def N_l_full : List PySem.Str := ["_law_d", "_law_parts_here"]
noncomputable def b_l_full : MSt := sSeq (sSet 1 (mFr (mCall m_l_parts (mCons (mVar 0) (mCons (mC (.int 4)) (mNil)))))) (sSeq (sIf (mOr (mB (mOp opGt (mFr (mCall m_l_below (mCons (mVar 0) (mCons (mC (.int 5)) (mNil))))) (mC (.int 0)))) (mB (mOp opEq (mIx (mVar 1) (mC (.int 3))) (mTup (mNil))))) (sRet (mVar 1)) (sNext)) (sRet (mOp opAdd (mCut (mVar 1) (mNoPart) (mPart (mC (.int 3)))) (mTup (mCons (mCut (mOp opMulT (mIx (mVar 1) (mC (.int 3))) (mC (.int 8))) (mNoPart) (mPart (mC (.int 8)))) (mNil))))))
noncomputable abbrev m_l_full : FnM := fnM 2 1 b_l_full
end SL

set_option Elab.async false
set_option linter.all false
set_option maxRecDepth 100000
set_option maxHeartbeats 2000000
namespace SL
open PySem PySem.Spec PyProof.Rows L2
/-! ### lambdas as values -/
structure LamY where
  params : Arguments
  body : Expr
  scope : Scope
/-- the function object of a lambda -/
def LamO (f c' : Addr) (q : Str) (y : LamY) (cl : List (Str × Addr)) : HO := .ext fun h => ∃ pm ctv : Value, h.get? f = some (PySem.W.kla_obj "<lambda>" q y.params y.body y.scope cl pm c' ctv)
structure LamStep (io : List Addr) (f c' P : Addr) (q : Str) (y : LamY) (cl : List (Str × Addr)) (H H1 : Hp) : Prop where
  nf : H f = none
  ne : f ≠ c'
  atf : H1 f = some (LamO f c' q y cl)
  atc : H1 c' = some (LamX.CodeO c' q)
  old : H c' = none ∨ (H c' = some (LamX.CodeO c' q) ∧ c' ∉ io)
  tab : ∃ ps : Array Value, H1 P = some (.tbl ps) ∧ TriplesOk ps.toList ∧ ∀ (pos : Pos) (cv : Value), codeAmong pos ps.toList = some cv → ∃ c, cv = .ref c ∧ (c = c' ∨ (H c = some (LamX.CodeO c q) ∧ c ∉ io))
  rest : ∀ b, b ≠ f → b ≠ c' → b ≠ P → H1 b = H b
def tMkLam (P : Addr) (q : Str) (y : LamY) (cl : List (Str × Addr)) : TE := fun _ H Q => ∃ io, P ∉ io ∧ TbT io H P q ∧ ∀ (f c' : Addr) (H1 : Hp), LamStep io f c' P q y cl H H1 → Q (.ref f) H1
theorem codeO_tbl {c : Addr} {q : Str} {ps : Array Value} : (LamX.CodeO c q : HO) ≠ .tbl ps := LamX.codeO_ne ps
section
variable {X : Cx} {c P : Addr} {q : Str} {params : Arguments} {body : Expr} {scope : Scope} {pos : Pos}
theorem pe_mkLam (TB : LamX.TabB X.base X.mg c P) (hcode : X.env.code = .ref c) (hq : X.env.qual ++ "<lambda>" = q) (hdef : defaultsOf params X.env = ([], [])) (hfree : ∀ y ∈ scope.names, y.2 = .free → ∃ c, X.env.cells.lookup y.1 = some c) :
    PE X (.Lambda params body scope pos) (tMkLam P q ⟨params, body, scope⟩ (cloFrom X.env.cells scope.names [])) := by
  subst hq
  refine ⟨fun pins s σ H Q I h => ?_⟩
  obtain ⟨io, hPi, ⟨ps, hP, ht, ha⟩, h⟩ := h
  refine PySem.W.kla_eval hdef ?_
  have bP : s.heap.BuiltinsAt X.mg P := TB.bm.keeps I.bk
  have hP' : s.heap.get? P = some { cls := .none, data := .fields ps } := I.hok P _ hP
  have lay : ∀ {s1 : Shared} {H1 : Hp} {c' : Addr} {pm ctv : Value} {tk : Tok}, Inv X pins σ H1 s1 → Inv X pins σ (upd H1 s1.heap.objs.size (LamO s1.heap.objs.size c' (X.env.qual ++ "<lambda>") ⟨params, body, scope⟩ (cloFrom X.env.cells scope.names [])))
      { s1 with heap := s1.heap.push (PySem.W.kla_obj "<lambda>" (X.env.qual ++ "<lambda>") params body scope (cloFrom X.env.cells scope.names []) pm c' ctv), toks := tk } := fun {s1 H1 c' pm ctv tk} I1 =>
    I1.laid (fun b u e => Heap.get?_push_of_some _ e) (Nat.le_refl _) ⟨⟨pm, ctv, Heap.get?_push_size _ rfl⟩, ⟨_, Heap.get?_push_size _ rfl⟩, fun h1 h2 ⟨pm, ctv, e⟩ st => ⟨pm, ctv, st _ e⟩⟩
  cases hc : codeAmong pos ps.toList with
  | none =>
    refine PySem.W.kla_makeFunction (mg := X.mg) (c := c) (P := P) (ps := ps) (closure_ok hfree) I.ok.glob (I.mod.glob.keeps I.bk) hcode (TB.code.keeps I.bk) hP' ht hc TB.gP bP fun c' ctv h' tk hx hge hlt hrec htb => ?_
    obtain ⟨c2, oc, vs, t, e2, hoc, hd, hv⟩ := hrec
    cases e2
    have I1 := LamX.inv_table (t' := tk) (more := #[rawInt pos.line, rawInt pos.col, .ref c']) (q := X.env.qual ++ "<lambda>") (h' := h') I hP (fun b o hb e => hx b o hb e) htb hge ⟨oc, vs, t, hoc, hd, hv⟩
    have I2 := lay (tk := tk) (c' := c') (pm := (X.mg "__name__").getD .none) (ctv := ctv) I1
    have nf : H h'.objs.size = none := I.hok.fresh (Nat.le_trans hge (Nat.le_of_lt hlt))
    have nc : H c' = none := I.hok.fresh hge
    have n1 : h'.objs.size ≠ c' := Nat.ne_of_gt hlt
    have n2 : P ≠ h'.objs.size := ne_of_none hP nf
    have n3 : P ≠ c' := ne_of_none hP nc
    refine ⟨.ref h'.objs.size, _, I2, rfl, h _ c' _ ⟨nf, n1, upd_same, ?_, .inl nc, ⟨ps ++ #[rawInt pos.line, rawInt pos.col, .ref c'], ?_, ?_, fun p' cv hcv => ?_⟩, fun b b1 b2 b3 => ?_⟩⟩
    · show upd _ _ _ c' = _
      rw [upd_ne n1.symm, upd_same]
    · show upd _ _ _ P = _
      rw [upd_ne n2, upd_ne n3, upd_same]
    · rw [show (ps ++ #[rawInt pos.line, rawInt pos.col, .ref c']).toList = ps.toList ++ [rawInt pos.line, rawInt pos.col, .ref c'] by simp]
      exact PySem.TriplesOk_snoc _ _ _ _ ht
    · rw [show (ps ++ #[rawInt pos.line, rawInt pos.col, .ref c']).toList = ps.toList ++ [rawInt pos.line, rawInt pos.col, .ref c'] by simp] at hcv
      rcases LamX.among_app _ ht hcv with z | z
      · obtain ⟨c0, e1, e2, e3⟩ := ha p' cv z
        exact ⟨c0, e1, .inr ⟨e2, e3⟩⟩
      · exact ⟨c', z, .inl rfl⟩
    · show upd _ _ _ b = _
      rw [upd_ne b1, upd_ne b2, upd_ne b3]
  | some cv =>
    obtain ⟨c', e, hco, hci⟩ := ha pos cv hc
    subst e
    refine PySem.W.kla_makeFunctionHit (mg := X.mg) (c := c) (P := P) (ps := ps) (closure_ok hfree) I.ok.glob (I.mod.glob.keeps I.bk) hcode (TB.code.keeps I.bk) hP' ht hc bP fun ctv h' tk hx hsz => ?_
    have I1 : Inv X pins σ H { s with heap := h', toks := tk } := I.kept fun b o e => hx b o e
    have I2 := lay (tk := tk) (c' := c') (pm := (X.mg "__name__").getD .none) (ctv := ctv) I1
    have nf : H h'.objs.size = none := I.hok.fresh hsz
    have n1 : h'.objs.size ≠ c' := (ne_of_none hco nf).symm
    have n2 : P ≠ h'.objs.size := ne_of_none hP nf
    refine ⟨.ref h'.objs.size, _, I2, rfl, h _ c' _ ⟨nf, n1, upd_same, ?_, .inr ⟨hco, hci⟩, ⟨ps, ?_, ht, fun p' cv hcv => ?_⟩, fun b b1 b2 b3 => ?_⟩⟩
    · show upd _ _ _ c' = _
      rw [upd_ne n1.symm, hco]
    · show upd _ _ _ P = _
      rw [upd_ne n2, hP]
    · obtain ⟨c0, e1, e2, e3⟩ := ha p' cv hcv
      exact ⟨c0, e1, .inr ⟨e2, e3⟩⟩
    · show upd _ _ _ b = _
      rw [upd_ne b1]
end
/-! ### behind the making of a lambda -/
section
variable {K : PySem.W.Frag} {ca : Ca} {io : List Addr} {S : Sto} {H H1 : Hp} {f c' P : Addr} {q : Str} {y : LamY} {cl : List (Str × Addr)}
theorem LamStep.ext (s : LamStep io f c' P q y cl H H1) (hP : TbT io H P q) : Ext io H io H1 := by
  obtain ⟨ps, e1, _, _⟩ := hP
  refine ⟨⟨[], by simp, by simp⟩, fun a o n e d => ?_, fun a o e => ?_⟩
  · have af : a ≠ f := ne_of_none e s.nf
    by_cases ac : a = c'
    · subst ac
      rcases s.old with z | ⟨z, _⟩
      · rw [z] at e
        cases e
      · rw [z] at e
        cases e
        exact s.atc
    · have ap : a ≠ P := fun z => d ps (Option.some.inj (e.symm.trans (by rw [z]; exact e1)))
      rw [s.rest a af ac ap]
      exact e
  · by_cases af : a = f
    · exact ⟨_, by rw [af]; exact s.atf⟩
    · by_cases ac : a = c'
      · exact ⟨_, by rw [ac]; exact s.atc⟩
      · by_cases ap : a = P
        · obtain ⟨ps', z, _⟩ := s.tab
          exact ⟨_, by rw [ap]; exact z⟩
        · exact ⟨o, by rw [s.rest a af ac ap]; exact e⟩
theorem LamStep.nin (s : LamStep io f c' P q y cl H H1) (z : Rl0 K ca io S H) : f ∉ io ∧ c' ∉ io := by
  refine ⟨z.free s.nf, ?_⟩
  rcases s.old with e | ⟨_, e⟩
  · exact z.free e
  · exact e
theorem LamStep.rl (s : LamStep io f c' P q y cl H H1) (z : Rl0 K ca io S H) (hP : (P, q) ∈ ca.tabs) (hu : ∀ p ∈ ca.tabs, p.1 = P → p.2 = q) : Rl0 K ca io S H1 := by
  obtain ⟨nP, hT⟩ := z.tb.tab _ hP
  have ex := s.ext hT
  obtain ⟨nf, nc⟩ := s.nin z
  obtain ⟨ps, e1, e2, e3⟩ := hT
  have e1 : H P = some (.tbl ps) := e1
  refine ⟨z.len, z.nd, fun n ce a g1 g2 => ?_, ⟨fun p hp => ?_, fun p hp => ?_⟩⟩
  · have h := z.ce n ce a g1 g2
    have ai : a ∈ io := List.mem_of_getElem? g2
    exact h.mono ex (s.rest a (fun e => nf (e ▸ ai)) (fun e => nc (e ▸ ai)) fun e => nP (show P ∈ io from e ▸ ai))
  · obtain ⟨n, t⟩ := z.tb.tab p hp
    refine ⟨n, ?_⟩
    have cd : ∀ c, H c = some (LamX.CodeO c p.2) → c ∉ io → H1 c = some (LamX.CodeO c p.2) := fun c h1 h2 => ex.kp c _ h2 h1 fun ps => codeO_tbl
    by_cases hb : p.1 = P
    · have hq := hu p hp hb
      obtain ⟨ps', f1, f2, f3⟩ := s.tab
      rw [hb]
      refine ⟨ps', f1, f2, fun pos cv hc => ?_⟩
      obtain ⟨c0, g1, g2⟩ := f3 pos cv hc
      refine ⟨c0, g1, ?_⟩
      rcases g2 with g2 | ⟨g2, g3⟩
      · subst g2
        rw [hq]
        exact ⟨s.atc, nc⟩
      · rw [hq]
        exact ⟨by have := cd c0; rw [hq] at this; exact this g2 g3, g3⟩
    · obtain ⟨ps', f1, f2, f3⟩ := t
      have b1 : p.1 ≠ f := ne_of_none f1 s.nf
      have b2 : p.1 ≠ c' := fun e => by
        rcases s.old with k | ⟨k, _⟩
        · rw [← e, f1] at k
          cases k
        · rw [← e, f1] at k
          exact codeO_tbl (Option.some.inj k).symm
      refine ⟨ps', by rw [s.rest _ b1 b2 hb, f1], f2, fun pos cv hc => ?_⟩
      obtain ⟨c0, g1, g2, g3⟩ := f3 pos cv hc
      exact ⟨c0, g1, cd c0 g2 g3, g3⟩
  · obtain ⟨n, e, d⟩ := z.tb.pin p hp
    exact ⟨n, ex.kp _ _ n e d, d⟩
end
/-! ### the value's number is new -/
mutual
def nlm (n : Nat) : W → Bool
  | .cls c => decide (c ≠ .lam n)
  | .tup xs => nlms n xs
  | .lst xs => nlms n xs
  | .obj c xs => decide (c ≠ .lam n) && nlms n xs
  | .dct _ xs => nlms n xs
  | .ktup xs => nlms n xs
  | .non | .bl _ | .int _ | .str _ | .ty _ | .loc _ | .scr _ => true
def nlms (n : Nat) : List W → Bool
  | [] => true
  | x :: xs => nlm n x && nlms n xs
end
def nlmC (n : Nat) : Ce → Bool
  | .lst xs => nlms n xs
  | .ins c xs => decide (c ≠ .lam n) && nlms n xs
  | .dk _ xs => nlms n xs
  | .dt _ xs => nlms n xs
def mxc : Cl → Nat
  | .lam m => m + 1
  | _ => 0
mutual
def mxw : W → Nat
  | .cls c => mxc c
  | .tup xs => mxs xs
  | .lst xs => mxs xs
  | .obj c xs => mxc c + mxs xs
  | .dct _ xs => mxs xs
  | .ktup xs => mxs xs
  | .non | .bl _ | .int _ | .str _ | .ty _ | .loc _ | .scr _ => 0
def mxs : List W → Nat
  | [] => 0
  | x :: xs => mxw x + mxs xs
end
def mxC : Ce → Nat
  | .lst xs => mxs xs
  | .ins c xs => mxc c + mxs xs
  | .dk _ xs => mxs xs
  | .dt _ xs => mxs xs
def frN (S : Sto) (ws : List W) : Nat := (S.map mxC).sum + mxs ws
theorem mxc_ne {c : Cl} {n : Nat} (h : mxc c ≤ n) : c ≠ .lam n := fun e => by
  subst e
  have h : n + 1 ≤ n := h
  omega
mutual
theorem nlm_of : ∀ {w : W} {n : Nat}, mxw w ≤ n → nlm n w = true
  | .non, _, _ => rfl
  | .bl _, _, _ => rfl
  | .int _, _, _ => rfl
  | .str _, _, _ => rfl
  | .ty _, _, _ => rfl
  | .loc _, _, _ => rfl
  | .scr _, _, _ => rfl
  | .cls c, n, h => decide_eq_true (mxc_ne h)
  | .tup xs, _, h => nlms_of (w := xs) h
  | .lst xs, _, h => nlms_of (w := xs) h
  | .dct _ xs, _, h => nlms_of (w := xs) h
  | .ktup xs, _, h => nlms_of (w := xs) h
  | .obj c xs, n, h => by
    have h : mxc c + mxs xs ≤ n := h
    unfold nlm
    rw [nlms_of (w := xs) (by omega), decide_eq_true (mxc_ne (show mxc c ≤ n by omega))]
    rfl
theorem nlms_of : ∀ {w : List W} {n : Nat}, mxs w ≤ n → nlms n w = true
  | [], _, _ => rfl
  | x :: xs, n, h => by
    have h : mxw x + mxs xs ≤ n := h
    unfold nlms
    rw [nlm_of (w := x) (by omega), nlms_of (w := xs) (by omega)]
    rfl
end
theorem nlmC_of {c : Ce} {n : Nat} (h : mxC c ≤ n) : nlmC n c = true := by
  cases c with
  | lst xs => exact nlms_of (w := xs) h
  | ins c xs =>
    have h : mxc c + mxs xs ≤ n := h
    show (decide (c ≠ .lam n) && nlms n xs) = true
    rw [nlms_of (w := xs) (by omega), decide_eq_true (mxc_ne (show mxc c ≤ n by omega))]
    rfl
  | dk ks xs => exact nlms_of (w := xs) h
  | dt ks xs => exact nlms_of (w := xs) h
theorem sum_mem {l : List Nat} {a : Nat} (h : a ∈ l) : a ≤ l.sum := by
  induction l with
  | nil => cases h
  | cons b l ih =>
    rw [List.sum_cons]
    rcases List.mem_cons.mp h with e | e
    · omega
    · have := ih e
      omega
theorem frN_S {S : Sto} {ws : List W} {c : Ce} (h : c ∈ S) : nlmC (frN S ws) c = true := nlmC_of (by
  have := sum_mem (List.mem_map_of_mem (f := mxC) h)
  unfold frN
  omega)
theorem frN_ws {S : Sto} {ws : List W} : nlms (frN S ws) ws = true := nlms_of (by
  unfold frN
  omega)
section
variable {K : PySem.W.Frag} {ca cb : Ca} {io : List Addr} {S : Sto} {H : Hp} {n : Nat}
mutual
theorem RV.swap (hc : ∀ c, c ≠ .lam n → ca c = cb c) : ∀ {w : W} {v : V}, nlm n w = true → RV K ca io H w v → RV K cb io H w v
  | .non, _, _, h => h
  | .bl _, _, _, h => h
  | .int _, _, _, h => h
  | .str _, _, _, h => h
  | .ty _, _, _, h => h
  | .loc _, _, _, h => h
  | .scr _, _, _, h => h
  | .cls c, v, d, h => by
    have e := hc c (of_decide_eq_true d)
    rw [show v = .ref (ca c) from h, e]
    rfl
  | .tup xs, v, d, h => by
    obtain ⟨a, vs, rfl, q, r⟩ := (show ∃ a vs, v = .ref a ∧ FzT io H a vs ∧ RVs K ca io H xs vs from h)
    exact ⟨a, vs, rfl, q, RVs.swap hc d r⟩
  | .lst xs, v, d, h => by
    obtain ⟨a, vs, rfl, q, r⟩ := (show ∃ a vs, v = .ref a ∧ FzL io H a vs ∧ RVs K ca io H xs vs from h)
    exact ⟨a, vs, rfl, q, RVs.swap hc d r⟩
  | .ktup xs, v, d, h => by
    obtain ⟨a, vs, rfl, q, r⟩ := (show ∃ a vs, v = .ref a ∧ WrT K a vs ∧ RVs K ca io H xs vs from h)
    exact ⟨a, vs, rfl, q, RVs.swap hc d r⟩
  | .obj c xs, v, d, h => by
    obtain ⟨a, dx, vs, rfl, q, m, l, r⟩ := (show ∃ a dx vs, v = .ref a ∧ H a = some (.ins (ca c) dx ((fnames c).zip vs)) ∧ a ∉ io ∧ vs.length ≤ (flds c).length ∧ RVs K ca io H xs vs from h)
    obtain ⟨d1, d2⟩ := Bool.and_eq_true_iff.mp (show (decide (c ≠ .lam n) && nlms n xs) = true from d)
    exact ⟨a, dx, vs, rfl, by rw [← hc c (of_decide_eq_true d1)]; exact q, m, l, RVs.swap hc d2 r⟩
  | .dct ks xs, v, d, h => by
    obtain ⟨a, vs, rfl, q, m, l, r⟩ := (show ∃ a vs, v = .ref a ∧ H a = some (.dK (ks.zip vs)) ∧ a ∉ io ∧ vs.length = ks.length ∧ RVs K ca io H xs vs from h)
    exact ⟨a, vs, rfl, q, m, l, RVs.swap hc d r⟩
theorem RVs.swap (hc : ∀ c, c ≠ .lam n → ca c = cb c) : ∀ {ws : List W} {vs : List V}, nlms n ws = true → RVs K ca io H ws vs → RVs K cb io H ws vs
  | [], _, _, h => h
  | x :: xs, vs, d, h => by
    obtain ⟨v, r, rfl, h1, h2⟩ := h.inv
    obtain ⟨d1, d2⟩ := Bool.and_eq_true_iff.mp (show (nlm n x && nlms n xs) = true from d)
    exact .cons (RV.swap hc d1 h1) (RVs.swap hc d2 h2)
end
theorem RC.swap (hc : ∀ c, c ≠ .lam n → ca c = cb c) {a : Addr} {c : Ce} (d : nlmC n c = true) (h : RC K ca io H a c) : RC K cb io H a c := by
  cases c with
  | lst xs =>
    obtain ⟨vs, h1, h2⟩ := h
    exact ⟨vs, h1, h2.swap hc d⟩
  | ins c xs =>
    obtain ⟨dx, vs, h1, h2, h3⟩ := h
    obtain ⟨d1, d2⟩ := Bool.and_eq_true_iff.mp (show (decide (c ≠ .lam n) && nlms n xs) = true from d)
    exact ⟨dx, vs, by rw [← hc c (of_decide_eq_true d1)]; exact h1, h2, h3.swap hc d2⟩
  | dk ks xs =>
    obtain ⟨vs, h1, h2, h3⟩ := h
    exact ⟨vs, h1, h2, h3.swap hc d⟩
  | dt ks xs =>
    obtain ⟨vs, h1, h2, h3⟩ := h
    exact ⟨vs, h1, h2, h3.swap hc d⟩
theorem Rl0.swap (hc : ∀ c, c ≠ .lam n → ca c = cb c) (h : Rl0 K ca io S H) (d : S.all (nlmC n) = true) (tb : TbOk cb io H) : Rl0 K cb io S H :=
  ⟨h.len, h.nd, fun m c a q q2 => (h.ce m c a q q2).swap hc (List.all_eq_true.mp d c (List.mem_of_getElem? q)), tb⟩
end
/-! ### a lambda's body -/
def fnE (n k : Nat) (m : M W) : FnM := fun ws S => if ws.length = k then m (ws.map some ++ List.replicate (n - k) none) S else .stuck
section
variable {P : Program} {w : World} {K : PySem.W.Frag} {mg : Str → Option Value} {base : Heap} {ca : Ca} {f c' : Addr} {q : Str} {y : LamY} {N ps : List Str} {n j k : Nat} {m : M W}
theorem lam_fm (hp : (f, LamO f c' q y []) ∈ ca.pins) (hc : (c', LamX.CodeO c' q) ∈ ca.pins) (Sc : FnScope N ps y.scope) (hn : N.length = n) (hj : ps.length = j)
    (hb : ∀ (pm cdv ctv : Value) (us : List Value), us.length = ps.length → bindArgs (PySem.W.kla_fn "<lambda>" q y.params y.body y.scope [] pm cdv ctv) ⟨us, []⟩ = pure (ps.zip us))
    (h : ∀ (A : Around) (outer : List Env) (s : Shared) (H : Hp) (E : XK), Bd (cxOf (L2.CX P w) P w K mg base N q y.scope f (.ref c') A outer s H E) E k → ME (cxOf (L2.CX P w) P w K mg base N q y.scope f (.ref c') A outer s H E) ca E y.body m) :
    Fm P w K mg base ca (k + 1) f (fnE n j m) := by
  subst hn hj
  intro A outer s H us vs Q E hr e0 r hs
  obtain ⟨io, ws, S, z, rvs, p⟩ := hs
  unfold fnE at p
  split at p
  · rename_i hl
    obtain ⟨_, hf, _⟩ := z.tb.pin _ hp
    obtain ⟨_, hc, _⟩ := z.tb.pin _ hc
    obtain ⟨⟨pm, ctv, of⟩, _, _⟩ := e0.hok f _ hf
    obtain ⟨⟨oc, ws', t, hoc, hdc, hvc⟩, _, _⟩ := e0.hok c' _ hc
    have lim : s.heap.NoLimit := e0.mod.nolimit.keeps fun b o e => (e0.bs b o e).1
    have hlv : vs.length = ps.length := by rw [rvs.len, hl]
    have hlu : us.length = ps.length := by rw [← r.length, hlv]
    have hkind : ∀ y' ∈ ps.zip us, y.scope.names.lookup y'.1 = some .local ∨ (y.scope.names.lookup y'.1 = some .cell ∧ ((cellsFrom (s.heap.objs.size + 1) y.scope.names []).lookup y'.1).isSome = true) := fun ⟨n, v⟩ hy => by
      rcases Sc.par n (List.of_mem_zip hy).1 with q | q
      · exact .inl q
      · exact .inr ⟨q, PySem.W.cellsFrom_some _ _ _ (.inl q)⟩
    refine PySem.W.kla_callFunE hr.depth of rfl Sc.co Sc.gen rfl ⟨c', oc, ws', t, rfl, hoc, hdc, hvc⟩ ?_
    rw [hb _ _ _ us hlu]
    refine wpAny_pure (wpAny_newFunctionEnv_cells Sc.kind hkind fun env he s1 x => ?_)
    subst he
    refine ⟨lim.keeps x.toInCall.keep, ?_⟩
    have I : Inv (cxOf (L2.CX P w) P w K mg base N q y.scope f (.ref c') A outer s H E) [] (L2.start N vs) H s1 := inv_start Sc hr.hd e0 hlv r x
    have hrl : tE K ca E m (L2.start N vs) H Q := ⟨io, ws.map some ++ List.replicate (N.length - ws.length) none, S, ⟨z, RE.start rvs⟩, by rw [hl]; exact p⟩
    refine PySem.W.kla_codeExpr (wpAny_mono ((h A outer s H E (Bd.of (hr.deeper _))).run [] s1 _ H Q I hrl) (fun v s' hq => ?_) fun e s' hq => hq)
    obtain ⟨v', H', J, rv, q⟩ := hq
    exact ⟨v', H', J.os, J.bare, J.base, J.hok, rv, q⟩
  · exact p.elim
end
/-! ### a function value called -/
def mCallV (n : Nat) (g : FnM) (i : Nat) (t : M (List W)) : M W := fun r S => match r[i]? with
  | some (some (.cls (.lam m))) => if m = n then (mCall g t) r S else .stuck
  | _ => .stuck
/-- the function object of number n stands, and does what g does -/
def LamAt (P : Program) (w : World) (K : PySem.W.Frag) (mg : Str → Option Value) (base : Heap) (ca : Ca) (n k : Nat) (g : FnM) : Prop :=
  Fm P w K mg base ca k (ca (.lam n)) g ∧ ∃ c' q y cl, (ca (.lam n), LamO (ca (.lam n)) c' q y cl) ∈ ca.pins
theorem me_callv {X : Cx} {ca : Ca} {E : XK} {n j k i : Nat} {g : FnM} {x : Str} {p pos : Pos} {e : Expr} {es : List Expr} {t : M (List W)} (F : LamAt X.prog X.w X.K X.mg X.base ca n k g) (b : Bd X E j) (ha : MA X ca E (e :: es) t) (hk : k ≤ j := by decide)
    (hN : X.N[i]? = some x := by rfl) (hv : Vis X.env.scope x := by first | exact .inl rfl | exact .inr (.inl rfl) | exact .inr (.inr rfl)) (hd : (x == ("__debug__" : Str)) = false := by decide) (hcd : (x == ("__classdict__" : Str)) = false := by decide)
    (he : starEach (e :: es) X.env = (false, eval e X.env) :: starEach es X.env := by rfl) (hpl : (backTo pos (starEach es X.env)).any (·.1) = false := by rfl) :
    ME X ca E (.Call (.Name x p) (e :: es) [] pos) (mFr (mCallV n g i t)) := by
  refine me_fr ⟨fun pins s σ H Q I h => ?_⟩
  obtain ⟨F, c', q, y, cl, hpin⟩ := F
  obtain ⟨io, r, S, l, pp⟩ := h
  unfold mCallV at pp
  split at pp
  · rename_i m q1
    split at pp
    · rename_i hm
      subst hm
      obtain ⟨v, hv', rv⟩ := l.e.2 i _ q1
      cases (show v = _ from rv)
      have fnat : ∀ {H2 : Hp} {s2 : Shared} {io2 : List Addr} {S2 : Sto}, Inv X pins σ H2 s2 → Rl0 X.K ca io2 S2 H2 → PySem.W.FnAt (ca (.lam m)) s2.heap := fun I2 z2 => by
        obtain ⟨_, hf, _⟩ := z2.tb.pin _ hpin
        obtain ⟨⟨pm, ctv, of⟩, _, _⟩ := I2.hok _ _ hf
        exact ⟨_, _, _, _, of⟩
      refine wpAny_Call_Name_kw (thn ((pe_var (pos := p) hN hv hd hcd).run pins s σ H (fun v H1 => v = .ref (ca (.lam m)) ∧ H1 = H) I ⟨.ref (ca (.lam m)), hv', rfl, rfl⟩) fun u s1 ⟨v, H1, I1, r1, q1⟩ => ?_)
      obtain ⟨rfl, rfl⟩ := q1
      cases r1
      refine PySem.W.callWith_F (fnat I1 l.z) (thn (ha.run pos pins s1 σ _ _ I1 (tA_bind l pp)) fun us s2 ⟨vs, H2, I2, r2, io1, S1, ws, e1, l1, rvs, p1⟩ => ⟨fnat I2 l1.z, ?_⟩) he hpl
      exact wpAny_call (run_fnR F (b.hr.mono hk) b.pc I2 r2 ⟨io1, ws, S1, l1.z, rvs, p1⟩)
    · exact pp.elim
  · exact pp.elim
end SL

set_option Elab.async false
set_option linter.all false
set_option maxRecDepth 100000
set_option maxHeartbeats 2000000
namespace SL
open PySem PySem.Spec PyProof.Rows L2
/-! ### o.m(a, lambda ..) -/
def lamOut (n : Nat) : Res W → Res W
  | .ok w S' => if nlm n w = true ∧ S'.all (nlmC n) = true then .ok w S' else .stuck
  | _ => .stuck
noncomputable def mMtLam (c : Cl) (g : Nat → FnM) (o : M W) (me : M W) : M W := do
  let w ← o
  let w' ← (fun _ S => match getO c S w with
    | some _ => .ok w S
    | none => .stuck : M W)
  let x ← me
  fun _ S => lamOut (frN S [w', x]) (frR S (g (frN S [w', x]) [w', x, .cls (.lam (frN S [w', x]))] S))
/-- a method that gets a function value: for any number of it, any doing of it -/
def MethL (P : Program) (w : World) (K : PySem.W.Frag) (mg : Str → Option Value) (base : Heap) (c : Cl) (m : Str) (kk k : Nat) (g : Nat → FnM → FnM) : Prop :=
  ∃ f, Cls K (He.ga K (cname c)) ∧ Meth K (He.ga K (cname c)) m f ∧ ∀ (L : Lm) (n : Nat) (gam : FnM), LamAt P w K mg base (caL K L) n kk gam → Fm P w K mg base (caL K L) k f (g n gam)
def Lm.add (L : Lm) (n : Nat) (f c' : Addr) (o u : HO) : Lm := ⟨fun m => if m = n then f else L.at_ m, L.tabs, (f, o) :: (c', u) :: L.pins⟩
theorem Lm.add_at {L : Lm} {n : Nat} {f c' : Addr} {o u : HO} : (L.add n f c' o u).at_ n = f := if_pos rfl
theorem Lm.add_ne {K : PySem.W.Frag} {L : Lm} {n : Nat} {f c' : Addr} {o u : HO} (c : Cl) (h : c ≠ .lam n) : caL K L c = caL K (L.add n f c' o u) c := by
  cases c with
  | lam m =>
    show L.at_ m = if m = n then f else L.at_ m
    rw [if_neg fun e => h (by rw [e])]
  | _ => rfl
theorem lamAt_mk {P : Program} {w : World} {K : PySem.W.Frag} {mg : Str → Option Value} {base : Heap} {L : Lm} {n k : Nat} {f c' : Addr} {q : Str} {y : LamY} {cl : List (Str × Addr)} {g : FnM} (e : L.at_ n = f) (F : Fm P w K mg base (caL K L) k f g) (hp : (f, LamO f c' q y cl) ∈ L.pins) : LamAt P w K mg base (caL K L) n k g := by
  subst e
  exact ⟨F, _, _, _, _, hp⟩
theorem cloFrom_none {cells : List (Str × Addr)} : ∀ {names : List (Str × NameKind)} {acc : List (Str × Addr)}, (∀ y ∈ names, y.2 ≠ .free) → cloFrom cells names acc = acc
  | [], _, _ => rfl
  | (m, k) :: r, acc, h => by
    unfold cloFrom
    have hk : k ≠ .free := h _ List.mem_cons_self
    rw [if_neg (by simpa using hk)]
    exact cloFrom_none fun y hy => h y (List.mem_cons_of_mem _ hy)
section
variable {X : Cx} {L : Lm} {E : XK} {c : Cl} {m q : Str} {kk k j : Nat} {g : Nat → FnM → FnM} {gam : FnM} {o e : Expr} {mo me : M W} {params : Arguments} {body : Expr} {scope : Scope} {lpos pos apos : Pos} {cd P : Addr}
theorem me_mtLam {pl : Sem Bool} (F : MethL X.prog X.w X.K X.mg X.base c m kk k g)
    (Lf : ∀ (L' : Lm) (f c' : Addr), (f, LamO f c' q ⟨params, body, scope⟩ []) ∈ L'.pins → (c', LamX.CodeO c' q) ∈ L'.pins → L'.tabs = L.tabs → Fm X.prog X.w X.K X.mg X.base (caL X.K L') kk f gam)
    (TB : LamX.TabB X.base X.mg cd P) (hcode : X.env.code = .ref cd) (hP : (P, q) ∈ L.tabs) (hu : ∀ p ∈ L.tabs, p.1 = P → p.2 = q) (hq : X.env.qual ++ "<lambda>" = q) (hcc : caL X.K L c = He.ga X.K (cname c))
    (hdef : defaultsOf params X.env = ([], [])) (hnf : ∀ y ∈ scope.names, y.2 ≠ .free)
    (b : Bd X E j) (ho : ME X (caL X.K L) E o mo) (ha : ME X (caL X.K L) E e me) (hk : k ≤ j := by decide) (hl : (fnames c).contains m = false := by decide)
    (hs2 : starEach [.Lambda params body scope lpos] X.env = (false, eval (.Lambda params body scope lpos) X.env) :: starEach [] X.env := by rfl)
    (hst : starEach [e, .Lambda params body scope lpos] X.env = (false, eval e X.env) :: starEach [.Lambda params body scope lpos] X.env := by rfl) (hpl : (backTo pos (starEach [.Lambda params body scope lpos] X.env)).any (·.1) = false := by rfl)
    (ht : eval (.Call (.Attribute o m apos) [e, .Lambda params body scope lpos] [] pos) X.env = (do
      let ov ← eval o X.env
      standAt apos.atName
      let (f, first) ← holding [ov] (getMethod ov m pl)
      callWith pos f first (backTo pos (starEach [e, .Lambda params body scope lpos] X.env)) (backToKw pos (keywordEach [] X.env))) := by rfl) :
    ME X (caL X.K L) E (.Call (.Attribute o m apos) [e, .Lambda params body scope lpos] [] pos) (mMtLam c (fun n => g n gam) mo me) := by
  obtain ⟨fm, hc, hm, F⟩ := F
  refine ⟨fun pins s σ H Q I h => ?_⟩
  obtain ⟨io, r, S, l, p⟩ := h
  refine PySem.W.methodCall_KW (pl := pl) (thn (ho.run pins s σ H _ I (tE_bind l p)) fun u s1 ⟨x, H1, I1, rx, io1, S1, w, e1, l1, rv, p1⟩ => ?_) ht
  rw [bind_def] at p1
  cases gg : getO c S1 w with
  | none =>
    simp only [gg] at p1
    exact p1.elim
  | some xs =>
    simp only [gg] at p1
    obtain ⟨a, dx, vs, rfl, qa, ll, rr⟩ := getO_ok l1.z rv gg
    obtain rfl : u = Value.ref a := rx
    rw [hcc] at qa
    refine getmeth_ok I1 qa hc hm (lookup_none hl vs) ?_
    have hcl : cloFrom X.env.cells scope.names [] = [] := cloFrom_none hnf
    have mk := pe_mkLam (pos := lpos) (body := body) TB hcode hq hdef (fun y hy e => absurd e (hnf y hy))
    rw [hcl] at mk
    refine PySem.W.callWith_K (first := [.ref a]) (h₀ := X.base) I.ok.mod.kin hm.kp (thn ((pa_cons ha (pa_cons mk pa_nil hs2) hst).run pos pins s1 σ H1
      (fun vs2 H3 => ∃ sp : Sp, FnR X.prog X.w X.K X.mg X.base (L2.CX X.prog X.w) k fm sp ∧ sp (V.ref a :: vs2) H3 Q E) I1 ?_) fun us s2 ⟨vs2, H3, I3, r3, sp, hF, hsp⟩ => ⟨I3.kIn, ?_⟩) hst hpl
    · refine tE_imp (tE_bind l1 p1) fun v H2 ⟨io2, S2, w2, e2, l2, rv2, p2⟩ => ?_
      obtain ⟨nP, hT⟩ := l2.z.tb.tab _ hP
      refine ⟨io2, nP, hT, fun f c' H3 st => ?_⟩
      have z3 := st.rl l2.z hP hu
      have ex := st.ext hT
      obtain ⟨nf, nc⟩ := st.nin l2.z
      have hca : ∀ c, c ≠ .lam (frN S2 [w, w2]) → caL X.K L c = caL X.K (L.add (frN S2 [w, w2]) f c' (LamO f c' q ⟨params, body, scope⟩ []) (LamX.CodeO c' q)) c := Lm.add_ne
      have nw : nlms (frN S2 [w, w2]) [w, w2] = true := frN_ws
      obtain ⟨nw1, nw2⟩ := Bool.and_eq_true_iff.mp (show (nlm _ w && nlms _ [w2]) = true from nw)
      obtain ⟨nw2, _⟩ := Bool.and_eq_true_iff.mp (show (nlm _ w2 && nlms _ []) = true from nw2)
      have tb' : TbOk (caL X.K (L.add (frN S2 [w, w2]) f c' (LamO f c' q ⟨params, body, scope⟩ []) (LamX.CodeO c' q))) io2 H3 := ⟨z3.tb.tab, fun p hp => by
        rcases List.mem_cons.mp hp with rfl | hp
        · exact ⟨nf, st.atf, fun ps z => by cases z⟩
        · rcases List.mem_cons.mp hp with rfl | hp
          · exact ⟨nc, st.atc, fun ps => codeO_tbl⟩
          · exact z3.tb.pin p hp⟩
      have z4 := z3.swap hca (List.all_eq_true.mpr fun c hc => frN_S hc) tb'
      refine ⟨_, F _ _ gam (lamAt_mk Lm.add_at (Lf _ f c' List.mem_cons_self (List.mem_cons_of_mem _ List.mem_cons_self) rfl) List.mem_cons_self), io2, [w, w2, .cls (.lam (frN S2 [w, w2]))], S2, z4, ?_, ?_⟩
      · exact .cons (((rv.mono e2).mono ex).swap hca nw1) (.cons ((rv2.mono ex).swap hca nw2) (.cons (show V.ref f = V.ref ((L.add (frN S2 [w, w2]) f c' (LamO f c' q ⟨params, body, scope⟩ []) (LamX.CodeO c' q)).at_ (frN S2 [w, w2])) from by rw [Lm.add_at]) .nil))
      · refine post_fr z4 ?_
        cases hres : frR S2 (g (frN S2 [w, w2]) gam [w, w2, .cls (.lam (frN S2 [w, w2]))] S2) with
        | stuck =>
          simp only [hres, lamOut] at p2
          exact p2.elim
        | exc c ws S' =>
          simp only [hres, lamOut] at p2
          exact p2.elim
        | ok w3 S3 =>
          simp only [hres, lamOut] at p2
          split at p2
          · rename_i hn
            intro io' H' e z v rv3
            refine p2 io' H' (ex.trans e) (z.swap (fun c hc => (hca c hc).symm) hn.2 ⟨z.tb.tab, fun p hp => z.tb.pin p (List.mem_cons_of_mem _ (List.mem_cons_of_mem _ hp))⟩) v (rv3.swap (fun c hc => (hca c hc).symm) hn.1)
          · exact p2.elim
    · exact wpAny_call (run_fnR (us := .ref a :: us) (vs := .ref a :: vs2) hF (b.hr.mono hk) b.pc I3 (.cons rfl r3) hsp)
end
/-! ### the tables that a law's defs need -/
abbrev MkD := He.Defn × Str
def lamQ (q : Str) : Str := (q ++ ".<locals>.") ++ "<lambda>"
structure Tb (K : PySem.W.Frag) (mg : Str → Option Value) (base : Heap) (L : Lm) (tf : List MkD) : Prop where
  tab : ∀ d ∈ tf, ((He.cT K d.1).2, lamQ d.2) ∈ L.tabs
  one : ∀ p ∈ L.tabs, ∀ p' ∈ L.tabs, p.1 = p'.1 → p.2 = p'.2
  tb : ∀ d ∈ tf, LamX.TabB base mg (He.cT K d.1).1 (He.cT K d.1).2
theorem Tb.un {K : PySem.W.Frag} {mg : Str → Option Value} {base : Heap} {L : Lm} {tf : List MkD} (T : Tb K mg base L tf) {d : MkD} (h : d ∈ tf) : ∀ p ∈ L.tabs, p.1 = (He.cT K d.1).2 → p.2 = lamQ d.2 := fun p hp e => T.one p hp _ (T.tab d h) e
section
variable {fs : List Fx} {ds : List Df} {P : Program} {w : World} {K : PySem.W.Frag} {mg : Str → Option Value} {base : Heap} {ca : Ca} {x qual : Str} {c : Cl} {k kk n j : Nat} {params : Arguments} {body : List Stmt} {scope : Scope} {N ps : List Str} {b : MSt}
abbrev DerOkC (P : Program) (w : World) (K : PySem.W.Frag) (mg : Str → Option Value) (base : Heap) (ca : Ca) (N : List Str) (qual : Str) (scope : Scope) (k : Nat) (f c : Addr) (body : List Stmt) (b : MSt) : Prop :=
  ∀ (A : Around) (outer : List Env) (s : Shared) (H : Hp) (E : XK), Bd (cxOf (L2.CX P w) P w K mg base N qual scope f (.ref c) A outer s H E) E k → MSs (cxOf (L2.CX P w) P w K mg base N qual scope f (.ref c) A outer s H E) ca E body b
theorem fnM_start {m : MSt} {vs : List V} {H : Hp} {Q : VK} {E : XK} (hs : spM K ca (fnM N.length ps.length m) vs H Q E) :
    vs.length = ps.length ∧ ∃ (io : List Addr) (r : Rho) (S : Sto), Rl K ca io r S (L2.start N vs) H ∧ Post K ca E io H (fun w io' H' => ∀ v, RV K ca io' H' w v → Q v H') (endOf (m r S)) := by
  obtain ⟨io, ws, S, z, rvs, p⟩ := hs
  unfold fnM at p
  split at p
  · rename_i hl
    refine ⟨by rw [rvs.len, hl], io, ws.map some ++ List.replicate (N.length - ws.length) none, S, ⟨z, RE.start rvs⟩, ?_⟩
    rw [← hl] at p
    exact p
  · exact p.elim
theorem Sy.fnC (Z : Sy fs ds K mg) (i ig : Nat) (hd : ds[i]? = some ⟨.fn x, x, qual, params, body, scope⟩) (hg : fs[ig]? = some (.fa (.glo x))) (Sc : FnScope N ps scope) (hn : N.length = n) (hj : ps.length = j)
    (hb : BindOk x qual params body scope ps) (h : ∀ f, DerOkC P w K mg base ca N qual scope k f (He.cT K (x, none)).1 body b) : FnAt P w K mg base ca x (k + 1) (fnM n j b) := by
  subst hn hj
  obtain ⟨fd, F⟩ := Z.d i hd
  refine ⟨_, Z.glo ig hg, F.kp, fm_of ?_ (F.bindsN hb)⟩
  obtain ⟨oc, od, dV, kV, doc, pm, an, cdv, ct, osl, rfl, lk, hcd, _, _⟩ := F.ex
  obtain ⟨c, rfl⟩ := He.codeIn_ref hcd
  have ec : (He.cT K (x, none)).1 = c := He.codeOf_eq (p := (x, none)) lk rfl
  have h2 := h (He.ga K x)
  rw [ec] at h2
  refine L2.fn_of lk hcd Sc (fun vs H Q E hs => (fnM_start hs).1) fun A outer s H vs Q E hr hs => ⟨_, h2 A outer s H E (Bd.of hr), ?_⟩
  obtain ⟨_, io, r, S, l, p⟩ := fnM_start hs
  refine ⟨io, r, S, l, ?_⟩
  cases q : b r S with
  | stuck =>
    rw [q] at p
    exact p
  | exc c es S' =>
    rw [q] at p
    exact p
  | ok fw S' =>
    rw [q] at p
    cases fw with
    | nx r => exact fun io' H' e z' σ _ => p io' H' e z' _ rfl
    | rt w => exact fun io' H' e z' v rv => p io' H' e z' v rv
    | bk r => exact p.elim
    | ct r => exact p.elim
theorem Sy.methL {bb : Nat → FnM → MSt} (Z : Sy fs ds K mg) (i ic im : Nat) (hd : ds[i]? = some ⟨.me (cname c) x, x, qual, params, body, scope⟩) (hc : fs[ic]? = some (.fa (.cls (cname c)))) (hm : fs[im]? = some (.fa (.meth (cname c) x))) (Sc : FnScope N ps scope) (hn : N.length = n) (hj : ps.length = j)
    (hb : BindOk x qual params body scope ps) (h : ∀ (L : Lm) (m : Nat) (gam : FnM), LamAt P w K mg base (caL K L) m kk gam → ∀ f, DerOk P w K mg base (caL K L) N qual scope k f body (bb m gam)) : MethL P w K mg base c x kk (k + 1) (fun m gam => fnM n j (bb m gam)) := by
  obtain ⟨fd, F⟩ := Z.d i hd
  exact ⟨_, Z.cls ic hc, He.meth_ok (Z.f im hm), fun L m gam hL => fm_of (fo_ok F Sc hn hj fun cdv A outer s H E hr => h L m gam hL _ cdv A outer s H E (Bd.of hr)) (F.bindsN hb)⟩
end
end SL

set_option Elab.async false
set_option linter.all false
set_option maxRecDepth 100000
set_option maxHeartbeats 2000000
namespace SL
open PySem PySem.Spec PyProof.Rows L2
/-! ### the head tells of the tables too -/
def tabOk (K : PySem.W.Frag) (tf : List MkD) : Bool := (tf.all fun d => decide (K.lookup (He.cT K d.1).2 = none)) && (decide ((tf.map fun d => (He.cT K d.1).2).Nodup) && tf.all fun d => decide ((He.cT K d.1).2 ≠ mainGlobals))
def obsQ (n : Nat) (fs : List Fx) (ds : List Df) (tf : List MkD) (g : Addr → Option Obj) : AlP × Bool := (obsP n fs ds g, He.tabsB g (tf.map (·.1)) (frX g n) && tabOk (frX g n) tf)
structure SaysQ (fs : List Fx) (ds : List Df) (tf : List MkD) (h : Heap) (K : PySem.W.Frag) : Prop where
  p : SaysP fs ds K
  hd : ∀ d ∈ tf, PySem.W.codeHdIn K (He.cT K d.1).1 (He.cT K d.1).2 = true
  empty : ∀ d ∈ tf, h.get? (He.cT K d.1).2 = some { cls := .none, data := .fields #[] }
  out : ∀ d ∈ tf, K.lookup (He.cT K d.1).2 = none
  nd : (tf.map fun d => (He.cT K d.1).2).Nodup
  ng : ∀ d ∈ tf, (He.cT K d.1).2 ≠ mainGlobals
theorem saysQ_of {n : Nat} {fs : List Fx} {ds : List Df} {tf : List MkD} {h : Heap} (e : obsQ n fs ds tf h.get? = ((true, ds.map Df.val), true)) : SaysQ fs ds tf h (frX h.get? n) := by
  have e1 : obsP n fs ds h.get? = (true, ds.map Df.val) := congrArg (fun z : AlP × Bool => z.1) e
  have e2 : (He.tabsB h.get? (tf.map (·.1)) (frX h.get? n) && tabOk (frX h.get? n) tf) = true := congrArg (fun z : AlP × Bool => z.2) e
  obtain ⟨h1, h2⟩ := He.ba e2
  obtain ⟨h3, h4⟩ := He.ba h2
  obtain ⟨h5, h6⟩ := He.ba h4
  have key : ∀ d ∈ tf, PySem.W.codeHdIn (frX h.get? n) (He.cT (frX h.get? n) d.1).1 (He.cT (frX h.get? n) d.1).2 = true ∧ h.get? (He.cT (frX h.get? n) d.1).2 = some { cls := .none, data := .fields #[] } := fun d hd => by
    obtain ⟨k1, k2⟩ := He.ba (List.all_eq_true.mp h1 d.1 (List.mem_map_of_mem hd))
    refine ⟨k1, ?_⟩
    cases q : h.get? (He.cT (frX h.get? n) d.1).2 with
    | none =>
      rw [q] at k2
      cases k2
    | some o =>
      rw [q] at k2
      rw [He.emptyTab_eq k2]
  exact ⟨saysP_of e1, fun d hd => (key d hd).1, fun d hd => (key d hd).2, fun d hd => of_decide_eq_true (List.all_eq_true.mp h3 d hd), of_decide_eq_true h5, fun d hd => of_decide_eq_true (List.all_eq_true.mp h6 d hd)⟩
def hookQ (n : Nat) (fs : List Fx) (ds : List Df) (tf : List MkD) : PySem.W.Hook where
  α := AlP × Bool
  obs := fun s => obsQ n fs ds tf s.heap.get?
  val := fun _ => ((true, ds.map Df.val), true)
  says := fun _ h => ∃ K : PySem.W.Frag, K.In h ∧ SaysQ fs ds tf h K
  of := fun _ _ e => ⟨_, frX_in, saysQ_of e⟩
  keeps := fun _ _ _ ⟨K, hK, c⟩ k => ⟨K, PySem.W.Frag.In.keeps hK k, ⟨c.p, c.hd, fun d hd => k _ _ (c.empty d hd), c.out, c.nd, c.ng⟩⟩
theorem obsQ_eq {n : Nat} {fs : List Fx} {ds : List Df} {tf : List MkD} {g : Addr → Option Obj} {s : Shared} (h : ∀ a, g a = s.heap.get? a) : obsQ n fs ds tf g = (hookQ n fs ds tf).obs s := by
  have e : g = s.heap.get? := funext h
  rw [e] <;> rfl
/-- where the law starts -/
abbrev caT (K : PySem.W.Frag) (tf : List MkD) : Ca := caL K ⟨fun _ => 0, tf.map fun d => ((He.cT K d.1).2, lamQ d.2), []⟩
theorem nodup_one {α β γ : Type} {f : α → β} {g : α → γ} : ∀ {l : List α}, (l.map f).Nodup → ∀ a ∈ l, ∀ b ∈ l, f a = f b → g a = g b
  | [], _, a, ha, _, _, _ => absurd ha (by simp)
  | x :: l, h, a, ha, b, hb, e => by
    rw [List.map_cons] at h
    obtain ⟨h1, h2⟩ := List.nodup_cons.mp h
    rcases List.mem_cons.mp ha with ea | ha2
    · rcases List.mem_cons.mp hb with eb | hb2
      · rw [ea, eb]
      · exact absurd (show f x ∈ l.map f by rw [← ea, e]; exact List.mem_map_of_mem hb2) h1
    · rcases List.mem_cons.mp hb with eb | hb2
      · exact absurd (show f x ∈ l.map f by rw [← eb, ← e]; exact List.mem_map_of_mem ha2) h1
      · exact nodup_one h2 a ha2 b hb2 e
theorem tb_start {fs : List Fx} {ds : List Df} {tf : List MkD} {h base : Heap} {K : PySem.W.Frag} {mg : Str → Option Value} (c : SaysQ fs ds tf h K) (hb : ∀ d ∈ tf, LamX.TabB base mg (He.cT K d.1).1 (He.cT K d.1).2) : Tb K mg base ⟨fun _ => 0, tf.map fun d => ((He.cT K d.1).2, lamQ d.2), []⟩ tf where
  tab := fun d hd => List.mem_map_of_mem (f := fun d : MkD => ((He.cT K d.1).2, lamQ d.2)) hd
  one := fun p hp p' hp' e => by
    obtain ⟨d, hd, rfl⟩ := List.mem_map.mp hp
    obtain ⟨d', hd', rfl⟩ := List.mem_map.mp hp'
    exact nodup_one (f := fun d : MkD => (He.cT K d.1).2) (g := fun d : MkD => lamQ d.2) c.nd d hd d' hd' e
  tb := hb
theorem walk_slT {l : PySem.W.OpenLaw} {n k : Nat} {q : Program} {loose : List Str} {XP : (Str → Option Value) → Heap → Prop} {YP : World → Heap → Prop} {d : DefRec} {x : Str} (hn : l.most = some n) (hn2 : n ≤ sizeLine) (hdf : d.params.defaults = []) (hr : Room k callerA)
    (F : ∀ (w : World) (mg : Str → Option Value) (fa : Addr) (h : Heap), YP w h → h.Ns mainGlobals mg → mg d.name = some (.ref fa) → ∃ (K : PySem.W.Frag) (fd : FuncData) (sp : Sp) (cs : List (Addr × Addr)), K.In h ∧ (∀ p ∈ cs, h.get? p.2 = some { cls := .none, data := .fields #[] }) ∧ (∀ p ∈ cs, K.lookup p.2 = none) ∧ (∀ p ∈ cs, PySem.W.CodeHd h p.1 p.2) ∧ (∀ (s : Shared) (u : Value), BindsTo s fd ⟨[u], []⟩ [(x, u)]) ∧
      (∀ (H : Hp) (a : Addr) (ns : List Int), ns.length ≤ n → (∀ p ∈ cs, H p.2 = some (.tbl #[])) → SqL K H a (ns.map V.int) → sp [.ref a] H (fun v _ => v = .bl true) fun _ _ _ => False) ∧
      ∀ base : Heap, K.In base → base.Ns mainGlobals mg → (∀ p ∈ cs, LamX.TabB base mg p.1 p.2) → FnOk l.prog w K mg base (L2.CX l.prog w) k fa fd [x] sp) :
    PySem.W.WalkO q loose XP YP l.row.toRowW d [] (fun f vs => PySem.call f vs) := by
  refine Att.attach_callB hn hdf fun w s₀ s₁ mg mb fa o pm cd doc a vs ns G Y ho hd hcd hmg hobj hints hlen hbits hg => ?_
  obtain ⟨K, fd, sp, cs, KX, hT, nT, C, hb, hsp, hF⟩ := F w mg fa _ Y G.T.g hmg
  refine LamX.law_callTs KX G.T.g G.T.b G.T.builtins G.T.nolimit hg hT nT C G.T.bmain hobj hints (Nat.le_trans hlen hn2) hr hF hb (fun H hH hS => hsp H a ns hlen hH hS) fun H e s' c => ?_
  obtain ⟨_, _, _, _, _, _, _, _, _, _, _, _, z⟩ := c
  exact z
theorem Sy.lawT {fs : List Fx} {ds : List Df} {tf : List MkD} {P : Program} {w : World} {K : PySem.W.Frag} {mg : Str → Option Value} {L : Lm} {x y qual : Str} {params : Arguments} {body : List Stmt} {scope : Scope} {k n : Nat} {N : List Str} {b : MSt} (Z : Sy fs ds K mg) (i : Nat)
    (hd : ds[i]? = some ⟨.fn x, x, qual, params, body, scope⟩) (Sc : FnScope N [y] scope) (hn : N.length = n) (hb : BindOk x qual params body scope [y]) (h : ∀ base f, Tb K mg base L tf → DerOk P w K mg base (caL K L) N qual scope k f body b) :
    ∃ fd, (∀ (s : Shared) (u : Value), BindsTo s fd ⟨[u], []⟩ [(y, u)]) ∧ ∀ base : Heap, Tb K mg base L tf → FnOk P w K mg base (L2.CX P w) (k + 1) (He.ga K x) fd [y] (spM K (caL K L) (fnM n 1 b)) := by
  obtain ⟨fd, F⟩ := Z.d i hd
  exact ⟨fd, fun s u => F.bindsA hb s [u] rfl, fun base T => fo_ok F Sc hn rfl fun cdv A outer s H E hr => h base _ T cdv A outer s H E (Bd.of hr)⟩
end SL

set_option Elab.async false
set_option linter.all false
set_option maxRecDepth 100000
set_option maxHeartbeats 2000000
namespace SL
open PySem PySem.Spec PyProof.Rows L2
/-! ### l.count(x), flat items -/
theorem vals_countP {x : V} : ∀ {ys : List V} {us : List Value}, Vals ys us → ys.all flatV = true → us.countP (eqU x) = ys.countP fun y => eqV y x
  | _, _, .nil, _ => rfl
  | y :: ys, u :: us, .cons r t, f => by
    rw [List.all_cons, Bool.and_eq_true] at f
    rw [List.countP_cons, List.countP_cons, vals_countP t f.2, eqU_of r f.1]
section
variable {X : Cx} {ca : Ca} {E : XK}
theorem mt_countF : MtR X "list.count" (fun x xs H Q => ∃ (a : Addr) (ys : List V) (y : V), x = V.ref a ∧ xs = [y] ∧ SqL X.K H a ys ∧ flatV y = true ∧ ys.all flatV = true ∧ Q (.int ((ys.countP fun z => eqV z y : Nat) : Int)) H) := by
  intro pins s σ H x xs v us Q I rx rxs h
  obtain ⟨a, ys, y, rfl, rfl, hs, fy, fys, q⟩ := h
  cases rx
  cases rxs with
  | cons ry rt =>
    rename_i uy ut
    cases rt
    obtain ⟨its, rv, ⟨⟨cls, dd, data, sl⟩, n, ho, hc, hdn, hd⟩, hlen⟩ := I.list hs
    simp only at hc hd
    subst hc hd
    refine call_meets PySem.F.slot_list_count ⟨_, ho, rfl⟩ PySem.F.entry_list_count (PySem.F.args_list_count_2 _ _)
      (SeqAt.list_countAt a its.toArray n dd sl uy (eqU y)) ⟨ho, fun u' hu' => mem_eqAt ry fy rv fys u' (by simpa using hu'), ?_⟩
    exact ⟨.int ((ys.countP fun z => eqV z y : Nat) : Int), H, I.tok _, ⟨s.toks, by
      have e := vals_countP (x := y) rv fys
      show Value.int ((its.countP (eqU y) : Nat) : Int) s.toks = Value.int _ _
      rw [e]⟩, q⟩
def fCount : FnM := fun ws S => match ws with
  | [w, x] => match getL S w with
    | some xs => if flatW x && xs.all flatW then .ok (.int ((xs.countP fun y => eqW y x : Nat) : Int)) S else .stuck
    | none => .stuck
  | _ => .stuck
theorem fm_count : MtS X ca E "list.count" fCount := by
  intro pins s σ H x xs v us Q I rx rxs h
  obtain ⟨io, ws, S, z, rvs, p⟩ := h
  unfold fCount at p
  split at p
  · rename_i w y
    obtain ⟨v1, y1, e, r1, r2⟩ := rvs.two
    cases e
    cases g : getL S w with
    | none =>
      simp only [g] at p
      exact p.elim
    | some xs =>
      simp only [g] at p
      obtain ⟨a, vs, rfl, q, r⟩ := getL_ok z r1 g
      split at p
      · rename_i f
        rw [Bool.and_eq_true] at f
        obtain ⟨e1, f1⟩ := flat_ok r2 f.1
        obtain ⟨e2, f2⟩ := flats_ok r f.2
        refine mt_countF pins s σ H _ _ v us Q I rx rxs ⟨a, vs, y1, rfl, rfl, .of q, f1, f2, p.done z _ ?_⟩
        show V.int _ = V.int _
        rw [e2, List.countP_map, e1]
        rfl
      · exact p.elim
  · exact p.elim
end
end SL

set_option Elab.async false
set_option linter.all false
set_option maxRecDepth 100000
set_option maxHeartbeats 0
namespace SL
open PySem PySem.Spec PyProof.Rows L2
/-! shuffled -/
def N_l_shuffled : List PySem.Str := ["_law_d", "_law_items", "_law_pool", "_law_result"]
noncomputable def t_l_shuffled_1 : M Bool := mB (mOp opNe (mVar 2) (mLst (mNil)))
noncomputable def f_l_shuffled_1 : MSt := sExpr (mBm "list" fAppend (mVar 3) (mCons (mBm "list" fPop (mVar 2) (mCons (mFr (mCall m_l_below (mCons (mVar 0) (mCons (mCall bLen (mCons (mVar 2) (mNil))) (mNil))))) (mNil))) (mNil)))
noncomputable def b_l_shuffled : MSt := sSeq (sSet 2 (mCall bListC (mCons (mVar 1) (mNil)))) (sSeq (sSet 3 (mLstC (mNil))) (sSeq (sWhile (t_l_shuffled_1) (f_l_shuffled_1)) (sRet (mVar 3))))
noncomputable abbrev m_l_shuffled : FnM := fnM 4 2 b_l_shuffled
/-! check_tick -/
def N_check_tick : List PySem.Str := ["tick"]
noncomputable def b_check_tick : MSt := sIf (mNot (mB (mFr (mCall m_is_int_in (mCons (mVar 0) (mCons (mC (.int 0)) (mCons (mC (.int 1000000000000000000)) (mNil)))))))) ((fun _ _ => .stuck)) (sNext)
noncomputable abbrev m_check_tick : FnM := fnM 1 1 b_check_tick
/-! light -/
def N_light : List PySem.Str := ["stairs", "tick"]
noncomputable def b_light : MSt := sSeq (sExpr (mFr (mCall m_check_tick (mCons (mVar 1) (mNil))))) (sRet (mFld .Scene .burning (mFr (mMeth .Story m_Story_scene (mFr (mCall (newR .Story m_Story___init__) (mCons (mVar 0) (mNil)))) (mCons (mVar 1) (mNil))))))
noncomputable abbrev m_light : FnM := fnM 2 2 b_light
/-! Story.count -/
def N_Story_count : List PySem.Str := ["self", "ticks", "measure", "known", "rounds", "rest", "scene"]
noncomputable def e_Story_count_1 (n : Nat) (gam : FnM) : M W := mFr (mCallV n gam 2 (mCons (mVar 6) (mNil)))
noncomputable def b_Story_count (n : Nat) (gam : FnM) : MSt := sSeq (sSet 3 (mLc [6] (.n 6) (iL (mFld .Story .scenes (mVar 0))) (mYes) ((e_Story_count_1 n gam)))) (sSeq (sIf (mB (mOp opLe (mVar 1) (mCall bLen (mCons (mVar 3) (mNil))))) (sRet (mCall bSum (mCons (mCut (mVar 3) (mNoPart) (mPart (mVar 1))) (mNil)))) (sNext)) (sSeq (sTg (.t [4, 5]) (mCall bDivmod (mCons (mOp opSub (mVar 1) (mFld .Story .start (mVar 0))) (mCons (mFr (mProp .Story m_Story_size (mVar 0))) (mNil))))) (sRet (mOp opAdd (mCall bSum (mCons (mCut (mVar 3) (mNoPart) (mPart (mOp opAdd (mFld .Story .start (mVar 0)) (mVar 5)))) (mNil))) (mOp opMul (mVar 4) (mCall bSum (mCons (mCut (mVar 3) (mPart (mFld .Story .start (mVar 0))) (mNoPart)) (mNil))))))))
noncomputable abbrev m_Story_count (n : Nat) (gam : FnM) : FnM := fnM 7 3 (b_Story_count n gam)
/-! count_lit -/
def N_count_lit : List PySem.Str := ["stairs", "ticks"]
noncomputable def l_count_lit_1 : FnM := fnE 1 1 (mCall bInt (mCons (mOp opGt (mFld .Scene .burning (mVar 0)) (mC (.int 0))) (mNil)))
noncomputable def b_count_lit : MSt := sSeq (sExpr (mFr (mCall m_check_tick (mCons (mVar 1) (mNil))))) (sRet (mMtLam .Story (fun n => m_Story_count n l_count_lit_1) (mFr (mCall (newR .Story m_Story___init__) (mCons (mVar 0) (mNil)))) (mVar 1)))
noncomputable abbrev m_count_lit : FnM := fnM 2 2 b_count_lit
end SL

set_option Elab.async false
set_option linter.all false
set_option maxRecDepth 100000
set_option maxHeartbeats 2000000
namespace SL
open PySem PySem.Spec PyProof.Rows L2
/-! ### comprehensions with two clauses -/
section
variable {J : It} {n : Nat} {G : Hp → Prop} {Y : Nat → Hp → V → Hp → Prop}
theorem it_gen (w : Walk J n G Y) {STEP : (Hp → Prop) → V → Hp → Prop} {Hs : Hp} {Qd : Hp → Prop} (Pv : Nat → Hp → Prop) (h0 : Pv 0 Hs) (hG : ∀ i H, i ≤ n → Pv i H → G H)
    (hs : ∀ i x H H', i < n → Pv i H → Y i H x H' → STEP (Pv (i + 1)) x H') (hd : ∀ H, Pv n H → Qd H) :
    ∃ W : Nat → Nat → Hp → Prop, (∃ m, W 0 m Hs) ∧ ∀ i m H, W i m H → (J.stop i H ∧ Qd H) ∨ (J.go i H ∧ ∃ Nx : Hp → Prop, (∀ H', Nx H' → ∃ m', m' < m ∧ W (i + 1) m' H') ∧ ∀ x H', J.yld i H x H' → STEP Nx x H') := by
  refine ⟨fun i m H => m = n - i ∧ i ≤ n ∧ Pv i H, ⟨n, by simp, Nat.zero_le _, h0⟩, ?_⟩
  rintro i m H ⟨rfl, hi, p⟩
  have q := hG i H hi p
  by_cases hlt : i < n
  · exact .inr ⟨w.goes i H hlt q, Pv (i + 1), fun H' p' => ⟨n - (i + 1), by omega, rfl, hlt, p'⟩, fun x H' y => hs i x H H' hlt p (w.yields i H x H' hlt q y)⟩
  · have e : i = n := by omega
    subst e
    exact .inl ⟨w.stops H q, hd H p⟩
end
def lcGo2 (T : Tg) (tt : M Bool) (mi1 : M (List W)) (T1 : Tg) (tt1 : M Bool) (te : M W) (vs1 : List Nat) (n : Nat) : List W → M Nat
  | [], _, S => .ok n S
  | x :: xs, r, S => match T.run x r with
    | none => .stuck
    | some r1 => match tt r1 S with
      | .ok true S1 => match mi1 r1 S1 with
        | .ok ys S2 => if T1.slots.all vs1.contains then match lcGo T1 tt1 te n ys (wipeR r1 vs1) S2 with
            | .ok _ S3 => lcGo2 T tt mi1 T1 tt1 te vs1 n xs r S3
            | _ => .stuck
          else .stuck
        | _ => .stuck
      | .ok false S1 => lcGo2 T tt mi1 T1 tt1 te vs1 n xs r S1
      | _ => .stuck
open Classical in
noncomputable def mLc2 (vs vs1 : List Nat) (T : Tg) (mi : M (List W)) (tt : M Bool) (mi1 : M (List W)) (T1 : Tg) (tt1 : M Bool) (te : M W) : M W := fun r S => match mi r S with
  | .ok xs S1 => if T.slots.all vs.contains then match lcGo2 T tt mi1 T1 tt1 te vs1 S1.length xs (wipeR r vs) (S1 ++ [.lst []]) with
      | .ok n S2 => match S2[n]? with
        | some (.lst acc) => if S2.length = n + 1 ∧ clos n acc = true ∧ Kept S1 S2 then .ok (.lst acc) (S2.take n) else .stuck
        | _ => .stuck
      | _ => .stuck
    else .stuck
  | .exc c ws S1 => .exc c ws S1
  | .stuck => .stuck
section
variable {K : PySem.W.Frag} {ca : Ca} {E : XK} {T T1 : Tg} {tt tt1 : M Bool} {te : M W} {mi mi1 : M (List W)} {vs vs1 : List Nat}
theorem lc2_turn {n : Nat} {x : W} {xs : List W} {io : List Addr} {r : Rho} {S : Sto} {H : Hp} {σ : L2.St} {v : V} {R : List Addr → Sto → Hp → Prop} {Dd : Addr} {N : Hp → Prop}
    (z : Rl0 K ca io S H) (re : RE K ca io H (wipeR r vs) (wipe σ vs)) (rv : RV K ca io H x v) (hs : T.slots.all vs.contains = true) (p : PostL K ca io H R (lcGo2 T tt mi1 T1 tt1 te vs1 n (x :: xs) (wipeR r vs) S)) (hD : io[n]? = some Dd)
    (hN : ∀ io' S' H', Ext io H io' H' → Rl0 K ca io' S' H' → PostL K ca io' H' R (lcGo2 T tt mi1 T1 tt1 te vs1 n xs (wipeR r vs) S') → N H') :
    T.g K v (wipe σ vs) H fun σ2 H2 => wipe σ2 vs = wipe σ vs ∧ tT K ca (fun _ _ _ => False) tt σ2 H2 fun b H3 =>
      if b = true then tI K ca (fun _ _ _ => False) mi1 σ2 H3 fun J1 H4 => ∃ W1 : Nat → Nat → Hp → Prop, (∃ m, W1 0 m H4) ∧ ∀ j k H, W1 j k H →
        (J1.stop j H ∧ N H) ∨ (J1.go j H ∧ ∃ Nx1 : Hp → Prop, (∀ H', Nx1 H' → ∃ k', k' < k ∧ W1 (j + 1) k' H') ∧ ∀ x H', J1.yld j H x H' → T1.g K x (wipe σ2 vs1) H' fun σ3 H5 => wipe σ3 vs1 = wipe σ2 vs1 ∧ tT K ca (fun _ _ _ => False) tt1 σ3 H5 fun b H6 =>
          if b = true then tE K ca (fun _ _ _ => False) te σ3 H6 fun y H7 => ∃ acc, H7 Dd = some (.lst acc) ∧ acc.length < sizeLine ∧ Nx1 (upd H7 Dd (.lst (acc ++ [y]))) else Nx1 H6)
      else N H3 := by
  unfold lcGo2 at p
  cases e : T.run x (wipeR r vs) with
  | none =>
    simp only [e] at p
    exact p.elim
  | some r1 =>
    simp only [e] at p
    refine T.ok e rv re fun σ2 re2 hw => ⟨?_, io, r1, S, ⟨z, re2⟩, ?_⟩
    · rw [hw vs fun i hi => by simpa using List.all_eq_true.mp hs i hi, wipe_wipe]
    · cases q : tt r1 S with
      | stuck =>
        simp only [q] at p
        exact p.elim
      | exc c ws S2 =>
        simp only [q] at p
        exact p.elim
      | ok k S1 =>
        intro io1 H1 e1 z1
        cases k with
        | false =>
          simp only [q] at p
          exact iteF (hN io1 S1 H1 e1 z1 (p.mono e1))
        | true =>
          simp only [q] at p
          refine iteT ⟨io1, r1, S1, ⟨z1, re2.mono e1⟩, ?_⟩
          cases q2 : mi1 r1 S1 with
          | stuck =>
            simp only [q2] at p
            exact p.elim
          | exc c ws S2 =>
            simp only [q2] at p
            exact p.elim
          | ok ys S2 =>
            simp only [q2] at p
            intro io2 H4 e2 z2 J1 ⟨G, Y, wk, hG, hY⟩
            split at p
            · rename_i hs1
              have ee := e1.trans e2
              have p2 : PostL K ca io2 H4 (fun io3 S3 H3 => PostL K ca io3 H3 R (lcGo2 T tt mi1 T1 tt1 te vs1 n xs (wipeR r vs) S3)) (lcGo T1 tt1 te n ys (wipeR r1 vs1) S2) := by
                cases g : lcGo T1 tt1 te n ys (wipeR r1 vs1) S2 with
                | ok m S3 =>
                  simp only [g] at p
                  exact fun io' H' e' z' => p.mono (ee.trans e')
                | exc c ws S3 =>
                  simp only [g] at p
                  exact p.elim
                | stuck =>
                  simp only [g] at p
                  exact p.elim
              refine it_gen wk (STEP := fun Nx1 x H' => T1.g K x (wipe σ2 vs1) H' fun σ3 H5 => wipe σ3 vs1 = wipe σ2 vs1 ∧ tT K ca (fun _ _ _ => False) tt1 σ3 H5 fun b H6 =>
                  if b = true then tE K ca (fun _ _ _ => False) te σ3 H6 fun y H7 => ∃ acc, H7 Dd = some (.lst acc) ∧ acc.length < sizeLine ∧ Nx1 (upd H7 Dd (.lst (acc ++ [y]))) else Nx1 H6)
                (fun i H' => ∃ io' S', Ext io2 H4 io' H' ∧ Rl0 K ca io' S' H' ∧ PostL K ca io' H' (fun io3 S3 H3 => PostL K ca io3 H3 R (lcGo2 T tt mi1 T1 tt1 te vs1 n xs (wipeR r vs) S3)) (lcGo T1 tt1 te n (ys.drop i) (wipeR r1 vs1) S'))
                ⟨_, _, Ext.refl _ _, z2, p2⟩ (fun i H' _ ⟨io', S', e, _, _⟩ => hG io' H' e) ?_ ?_
              · rintro i x H' H3 hi ⟨io', S', e, z', p'⟩ y
                obtain ⟨w, hw, e3, z3, rv⟩ := hY i io' S' H' x H3 e z' y hi
                have hd : ys.drop i = w :: ys.drop (i + 1) := by
                  rw [List.drop_eq_getElem_cons hi]
                  rw [List.getElem?_eq_getElem hi] at hw
                  rw [Option.some.inj hw]
                rw [hd] at p'
                have re3 := ((re2.mono ee).mono (e.trans e3)).wipe vs1
                exact lc_turn z3 re3 rv hs1 (p'.mono e3) ((ee.trans (e.trans e3)).get hD) fun io4 S4 H4 e4 z4 p4 => ⟨io4, S4, (e.trans e3).trans e4, z4, p4⟩
              · rintro H' ⟨io', S', e, z', p'⟩
                rw [List.drop_length] at p'
                exact hN io' S' H' (ee.trans e) z' (p' io' H' (Ext.refl _ _) z')
            · exact p.elim
theorem lc2_imp {io : List Addr} {r : Rho} {S : Sto} {σ : L2.St} {H : Hp} {Q : VK} {R : W → List Addr → Hp → Prop} {f : Sto → Sto → Res W} (l : Rl K ca io r S σ H)
    (p : Post K ca E io H R (match mi r S with
      | .ok xs S1 => if T.slots.all vs.contains then match lcGo2 T tt mi1 T1 tt1 te vs1 S1.length xs (wipeR r vs) (S1 ++ [.lst []]) with
          | .ok n S2 => f S1 S2
          | _ => .stuck
        else .stuck
      | .exc c ws S1 => .exc c ws S1
      | .stuck => .stuck))
    (hf : ∀ io1 S1 H1 Dd io' S2 H2, Rl0 K ca io1 S1 H1 → H1 Dd = none → Ext io H io1 H1 → Ext (io1 ++ [Dd]) (upd H1 Dd (.lst [])) io' H2 → Rl0 K ca io' S2 H2 → Post K ca E io1 H1 R (f S1 S2) → Q (.ref Dd) H2) :
    tLc2 (tI K ca E mi) (T.g K) (tT K ca (fun _ _ _ => False) tt) (tI K ca (fun _ _ _ => False) mi1) (T1.g K) (tT K ca (fun _ _ _ => False) tt1) (tE K ca (fun _ _ _ => False) te) vs vs1 σ H Q := by
  refine ⟨io, r, S, l, ?_⟩
  cases q : mi r S with
  | stuck =>
    simp only [q] at p
    exact p.elim
  | exc c ws S2 =>
    simp only [q] at p
    exact p
  | ok xs S1 =>
    simp only [q] at p
    intro io1 H1 e1 z1 J ⟨G, Y, wk, hG, hY⟩ Dd nD
    have p1 := p.mono e1
    have l1 := l.mono e1 z1
    split at p1
    · rename_i hs
      have e2 : Ext io1 H1 (io1 ++ [Dd]) (upd H1 Dd (.lst [])) := ext_cell nD
      have z2 : Rl0 K ca (io1 ++ [Dd]) (S1 ++ [.lst []]) (upd H1 Dd (.lst [])) := z1.cell nD ⟨[], upd_same, .nil⟩
      have hn : (io1 ++ [Dd])[S1.length]? = some Dd := by
        rw [List.getElem?_append_right (by rw [z1.len]; exact Nat.le_refl _), z1.len, Nat.sub_self]
        rfl
      have p2 : PostL K ca (io1 ++ [Dd]) (upd H1 Dd (.lst [])) (fun io' S2 H2 => Post K ca E io1 H1 R (f S1 S2)) (lcGo2 T tt mi1 T1 tt1 te vs1 S1.length xs (wipeR r vs) (S1 ++ [.lst []])) := by
        cases g : lcGo2 T tt mi1 T1 tt1 te vs1 S1.length xs (wipeR r vs) (S1 ++ [.lst []]) with
        | ok n S2 =>
          simp only [g] at p1
          exact fun _ _ _ _ => p1
        | exc c ws S2 =>
          simp only [g] at p1
          exact p1
        | stuck =>
          simp only [g] at p1
          exact p1
      refine it_gen wk (STEP := fun Nx x H' => T.g K x (wipe σ vs) H' fun σ2 H2 => wipe σ2 vs = wipe σ vs ∧ tT K ca (fun _ _ _ => False) tt σ2 H2 fun b H3 =>
          if b = true then tI K ca (fun _ _ _ => False) mi1 σ2 H3 fun J1 H4 => ∃ W1 : Nat → Nat → Hp → Prop, (∃ m, W1 0 m H4) ∧ ∀ j k H, W1 j k H →
            (J1.stop j H ∧ Nx H) ∨ (J1.go j H ∧ ∃ Nx1 : Hp → Prop, (∀ H', Nx1 H' → ∃ k', k' < k ∧ W1 (j + 1) k' H') ∧ ∀ x H', J1.yld j H x H' → T1.g K x (wipe σ2 vs1) H' fun σ3 H5 => wipe σ3 vs1 = wipe σ2 vs1 ∧ tT K ca (fun _ _ _ => False) tt1 σ3 H5 fun b H6 =>
              if b = true then tE K ca (fun _ _ _ => False) te σ3 H6 fun y H7 => ∃ acc, H7 Dd = some (.lst acc) ∧ acc.length < sizeLine ∧ Nx1 (upd H7 Dd (.lst (acc ++ [y]))) else Nx1 H6)
          else Nx H3)
        (fun i H' => ∃ io' S', Ext (io1 ++ [Dd]) (upd H1 Dd (.lst [])) io' H' ∧ Rl0 K ca io' S' H' ∧ PostL K ca io' H' (fun io' S2 H2 => Post K ca E io1 H1 R (f S1 S2)) (lcGo2 T tt mi1 T1 tt1 te vs1 S1.length (xs.drop i) (wipeR r vs) S'))
        ⟨_, _, Ext.refl _ _, z2, p2⟩ (fun i H' _ ⟨io', S', e, _, _⟩ => hG io' H' (e2.trans e)) ?_ ?_
      · rintro i x H' H3 hi ⟨io', S', e, z', p'⟩ y
        obtain ⟨w, hw, e3, z3, rv⟩ := hY i io' S' H' x H3 (e2.trans e) z' y hi
        have hd : xs.drop i = w :: xs.drop (i + 1) := by
          rw [List.drop_eq_getElem_cons hi]
          rw [List.getElem?_eq_getElem hi] at hw
          rw [Option.some.inj hw]
        rw [hd] at p'
        have re := ((l1.e.mono e2).mono (e.trans e3)).wipe vs
        exact lc2_turn z3 re rv hs (p'.mono e3) (e.trans e3 |>.get hn) fun io4 S4 H4 e4 z4 p4 => ⟨io4, S4, (e.trans e3).trans e4, z4, p4⟩
      · rintro H' ⟨io', S', e, z', p'⟩
        rw [List.drop_length] at p'
        exact hf io1 S1 H1 Dd io' S' H' z1 nD e1 e z' (p' io' H' (Ext.refl _ _) z')
    · exact p1.elim
theorem lcGo2_n : ∀ (xs : List W) (n : Nat) (r : Rho) (S : Sto) (k : Nat) (S2 : Sto), lcGo2 T tt mi1 T1 tt1 te vs1 n xs r S = .ok k S2 → k = n
  | [], n, r, S, k, S2, h => by
    cases h
    rfl
  | x :: xs, n, r, S, k, S2, h => by
    unfold lcGo2 at h
    split at h
    · cases h
    · split at h
      · split at h
        · split at h
          · split at h
            · exact lcGo2_n xs _ _ _ _ _ h
            · cases h
          · cases h
        · cases h
      · exact lcGo2_n xs _ _ _ _ _ h
      · cases h
theorem lcF2_imp {σ : L2.St} {H : Hp} {Q : VK} (h : tE K ca E (mLc2 vs vs1 T mi tt mi1 T1 tt1 te) σ H Q) :
    tLc2 (tI K ca E mi) (T.g K) (tT K ca (fun _ _ _ => False) tt) (tI K ca (fun _ _ _ => False) mi1) (T1.g K) (tT K ca (fun _ _ _ => False) tt1) (tE K ca (fun _ _ _ => False) te) vs vs1 σ H Q := by
  obtain ⟨io, r, S, l, p⟩ := h
  unfold mLc2 at p
  cases q : mi r S with
  | stuck =>
    simp only [q] at p
    exact p.elim
  | exc c ws S2 =>
    simp only [q] at p
    refine lc2_imp (E := E) (f := fun _ _ => .stuck) (R := fun w io' H' => ∀ v, RV K ca io' H' w v → Q v H') l (by simp only [q]; exact p) fun _ _ _ _ _ _ _ _ _ _ _ _ p' => p'.elim
  | ok xs S1 =>
    simp only [q] at p
    classical
    refine lc2_imp (f := fun S1 S2 => match S2[S1.length]? with
        | some (.lst acc) => if S2.length = S1.length + 1 ∧ clos S1.length acc = true ∧ Kept S1 S2 then .ok (.lst acc) (S2.take S1.length) else .stuck
        | _ => .stuck) (R := fun w io' H' => (∀ v, RV K ca io' H' w v → Q v H')) l ?_ ?_
    · simp only [q]
      by_cases hs : T.slots.all vs.contains = true
      · rw [if_pos hs] at p ⊢
        cases g : lcGo2 T tt mi1 T1 tt1 te vs1 S1.length xs (wipeR r vs) (S1 ++ [.lst []]) with
        | ok n S2 =>
          have := lcGo2_n _ _ _ _ _ _ g
          subst this
          simp only [g] at p ⊢
          exact p
        | exc c ws S2 =>
          simp only [g] at p
          exact p.elim
        | stuck =>
          simp only [g] at p
          exact p.elim
      · rw [if_neg hs] at p
        exact p.elim
    · intro io1 S1 H1 Dd io' S2 H2 z1 nD e1 e z' p'
      have hn : (io1 ++ [Dd])[S1.length]? = some Dd := by
        rw [List.getElem?_append_right (by rw [z1.len]; exact Nat.le_refl _), z1.len, Nat.sub_self]
        rfl
      split at p'
      · rename_i acc g
        split at p'
        · rename_i hk
          obtain ⟨k1, k2, k3⟩ := hk
          obtain ⟨t, rfl, ht⟩ := e.pre
          have ln := z'.len
          rw [k1] at ln
          simp only [List.length_append, List.length_singleton, z1.len] at ln
          have ht0 : t = [] := List.length_eq_zero_iff.mp (by omega)
          subst ht0
          rw [List.append_nil] at z' e
          obtain ⟨a, g1, us, g2, g3⟩ := z'.at g
          rw [hn] at g1
          cases g1
          rw [← z1.len] at k2
          refine p' io1 H2 ⟨⟨[], by simp, by simp⟩, fun a o na q d => ?_, fun a o q => ?_⟩ (z1.shrink z' k3) _ ⟨Dd, us, rfl, ⟨g2, z1.free nD⟩, g3.shrink k2⟩
          · have ne := ne_of_none q nD
            refine e.kp a o (fun m => ?_) (by rw [upd_ne ne]; exact q) d
            rcases List.mem_append.mp m with m | m
            · exact na m
            · exact ne (List.mem_singleton.mp m)
          · exact e.dom a o (by rw [upd_ne (ne_of_none q nD)]; exact q)
        · exact p'.elim
      · exact p'.elim
end
section
variable {X : Cx} {ca : Ca} {E : XK} {k : Nat} {elt tg iter tg1 iter1 : Expr} {ifs ifs1 : List Expr} {scope : Scope} {own : List (Str × Nat)} {pos : Pos} {T T1 : Tg} {mi mi1 : M (List W)} {tt tt1 : M Bool} {te : M W}
theorem me_lc2B (vs vs1 : List Nat) (b : Bd X E k) (hN : X.N.Nodup) (hi : MI X ca E tg iter mi) (ok : BlkOk X.N X.env.scope scope own) (hv : own.map (·.2) = vs) (hv1 : ∀ i ∈ vs1, i ∈ vs) (hg : BkOk X scope k fun Y => MG Y tg T) (ht : BkOk X scope k fun Y => PTs Y ifs (tT X.K ca (fun _ _ _ => False) tt))
    (hi1 : BkOk X scope k fun Y => MI Y ca (fun _ _ _ => False) tg1 iter1 mi1) (hg1 : BkOk X scope k fun Y => MG Y tg1 T1) (ht1 : BkOk X scope k fun Y => PTs Y ifs1 (tT X.K ca (fun _ _ _ => False) tt1))
    (he : BkOk X scope k fun Y => ME Y ca (fun _ _ _ => False) elt te) (hs : ∀ x, foldedSetIterable iter X.env x = pure x := by intro _; rfl) (hs1 : ∀ env x, foldedSetIterable iter1 env x = pure x := by intro _ _; rfl) :
    ME X ca E (.ListComp elt [⟨tg, iter, ifs, 0⟩, ⟨tg1, iter1, ifs1, 0⟩] scope pos) (mLc2 vs vs1 T mi tt mi1 T1 tt1 te) := by
  subst hv
  exact PE.weak (pe_lc2 b.calm hN hi ok hv1 (fun s H C cl fp => hg s H C cl fp b.blk) (fun s H C cl fp => ht s H C cl fp b.blk) (fun s H C cl fp => hi1 s H C cl fp b.blk) (fun s H C cl fp => hg1 s H C cl fp b.blk) (fun s H C cl fp => ht1 s H C cl fp b.blk) (fun s H C cl fp => he s H C cl fp b.blk) hs hs1) fun σ H Q h => lcF2_imp h
end
end SL

set_option Elab.async false
set_option linter.all false
set_option maxRecDepth 100000
set_option maxHeartbeats 0
namespace SL
open PySem PySem.Spec PyProof.Rows L2
/-! late -/
def N_l_late : List PySem.Str := ["_law_d", "_law_habit", "_law_late_here"]
noncomputable def b_l_late : MSt := sSeq (sSet 1 (mIx (mLst (mCons (mC (.str "always")) (mCons (mC (.str "dark")) (mCons (mC (.str "never")) (mNil))))) (mFr (mCall m_l_below (mCons (mVar 0) (mCons (mC (.int 3)) (mNil))))))) (sSeq (sSet 2 (mTup (mCons (mOp opAdd (mC (.int 10)) (mFr (mCall m_l_below (mCons (mVar 0) (mCons (mC (.int 38)) (mNil)))))) (mCons (mC (.int 2)) (mCons (mC (.int 1)) (mCons (mOp opAdd (mC (.int 1)) (mFr (mCall m_l_below (mCons (mVar 0) (mCons (mC (.int 3)) (mNil)))))) (mCons (mVar 1) (mNil)))))))) (sRet (mTup (mCons (mC (.int 9)) (mCons (mC (.int 48)) (mCons (mOp opAdd (mC (.int 1)) (mFr (mCall m_l_below (mCons (mVar 0) (mCons (mC (.int 9)) (mNil)))))) (mCons (mTup (mCons (mTup (mCons (mFr (mCall m_l_below (mCons (mVar 0) (mCons (mC (.int 3)) (mNil))))) (mCons (mC (.int 0)) (mCons (mC (.int 9)) (mCons (mC (.int 1)) (mCons (mC (.str "always")) (mNil))))))) (mCons (mVar 2) (mNil)))) (mNil))))))))
noncomputable abbrev m_l_late : FnM := fnM 3 1 b_l_late
/-! some_tick -/
def N_l_some_tick : List PySem.Str := ["_law_d"]
noncomputable def b_l_some_tick : MSt := sRet (mIx (mLst (mCons (mFr (mCall m_l_below (mCons (mVar 0) (mCons (mC (.int 120)) (mNil))))) (mCons (mOp opSub (mOp opPow (mC (.int 10)) (mC (.int 18))) (mFr (mCall m_l_below (mCons (mVar 0) (mCons (mOp opPow (mC (.int 10)) (mC (.int 6))) (mNil)))))) (mNil)))) (mFr (mCall m_l_below (mCons (mVar 0) (mCons (mC (.int 2)) (mNil))))))
noncomputable abbrev m_l_some_tick : FnM := fnM 1 1 b_l_some_tick
/-! sum -/
def N_l_sum : List PySem.Str := ["_law_cycle_here", "_law_values", "_law_ticks", "_law_start", "_law_length", "_law_rounds", "_law_rest", "_law_late_here"]
noncomputable def b_l_sum : MSt := sSeq (sPar [3, 4] (mCons (mIx (mVar 0) (mC (.int 1))) (mCons (mOp opSub (mCall bLen (mCons (mVar 1) (mNil))) (mIx (mVar 0) (mC (.int 1)))) (mNil)))) (sSeq (sIf (mB (mOp opLe (mVar 2) (mCall bLen (mCons (mVar 1) (mNil))))) (sRet (mCall bSum (mCons (mCut (mVar 1) (mNoPart) (mPart (mVar 2))) (mNil)))) (sNext)) (sSeq (sPar [5, 6] (mCons (mOp opFDiv (mOp opSub (mVar 2) (mVar 3)) (mVar 4)) (mCons (mOp opMod (mOp opSub (mVar 2) (mVar 3)) (mVar 4)) (mNil)))) (sSeq (sSet 7 (mCut (mVar 1) (mPart (mVar 3)) (mNoPart))) (sRet (mOp opAdd (mOp opAdd (mCall bSum (mCons (mCut (mVar 1) (mNoPart) (mPart (mVar 3))) (mNil))) (mOp opMul (mVar 5) (mCall bSum (mCons (mVar 7) (mNil))))) (mCall bSum (mCons (mCut (mVar 7) (mNoPart) (mPart (mVar 6))) (mNil))))))))
noncomputable abbrev m_l_sum : FnM := fnM 8 3 b_l_sum
/-! count_presses -/
def N_count_presses : List PySem.Str := ["stairs", "ticks"]
noncomputable def l_count_presses_1 : FnM := fnE 1 1 (mCall bLen (mCons (mFld .Scene .presses (mVar 0)) (mNil)))
noncomputable def b_count_presses : MSt := sSeq (sExpr (mFr (mCall m_check_tick (mCons (mVar 1) (mNil))))) (sRet (mMtLam .Story (fun n => m_Story_count n l_count_presses_1) (mFr (mCall (newR .Story m_Story___init__) (mCons (mVar 0) (mNil)))) (mVar 1)))
noncomputable abbrev m_count_presses : FnM := fnM 2 2 b_count_presses
/-! idle_trips -/
def N_idle_trips : List PySem.Str := ["stairs", "pressing", "scene", "number", "floor"]
noncomputable def j_idle_trips_1 : M (List W) := iL (mFld .Scene .presses (mVar 2))
noncomputable def e_idle_trips_1 : M W := mVar 3
noncomputable def e_idle_trips_2 : M W := mVar 3
noncomputable def i_idle_trips_1 : M Bool := mB (mOp opNotInQ (mVar 3) (mVar 1))
noncomputable def b_idle_trips : MSt := sSeq (sSet 1 (mLc2 [2, 3, 4] [3, 4] (.n 2) (iL (mFld .Story .scenes (mFr (mCall (newR .Story m_Story___init__) (mCons (mVar 0) (mNil)))))) (mYes) (j_idle_trips_1) (.t [3, 4]) (mYes) (e_idle_trips_1))) (sRet (mLcC [3] (.n 3) (iR1 (mCons (mCall bLen (mCons (mFld .Stairs .trips (mVar 0)) (mNil))) (mNil))) (i_idle_trips_1) (e_idle_trips_2)))
noncomputable abbrev m_idle_trips : FnM := fnM 5 1 b_idle_trips
end SL

set_option Elab.async false
set_option linter.all false
set_option maxRecDepth 100000
set_option maxHeartbeats 2000000
namespace SL
open PySem PySem.Spec PyProof.Rows L2 GenW

/-! ### a for-loop within a generator -/
section
variable {prog : Program} {w : World} {A : Around} {R : GenEnd} {Y : Protocol} {n : Nat} {s₀ : Shared} {fs : List Frame} {s : Shared} {env : Env}
/-- an exception leaves the loop's code -/
def outOf (env : Env) (x : Value) : Sem PySem.Fin := (do noteFrame x env; theTreesLotGoes x : Sem Unit).bind fun _ => .raise x
theorem seg_forLoop {target : Expr} {it : Value} {body : List Stmt}
    (h : wpAny (model prog w) (A.over (.forLoop target it body [] env) fs) (pyNext it) (fun r s1 => match r with
      | none => Seg (model prog w) A R Y n s₀ (.forLoop target it body [] env) (.pure (.again (.block [] env))) fs s1
      | some v => wpAny (model prog w) (A.over (.forLoop target it body [] env) fs) (letOwnedTupleGo target it v) (fun _ s2 =>
          wpAny (model prog w) (A.over (.forLoop target it body [] env) fs) (assign target env v) (fun _ s3 =>
            Seg (model prog w) A R Y n s₀ (.forLoop target it body [] env) ((execs body env).wrap (fun f => match f with
              | .next | .cont => .pure (.again (.forLoop target it body [] env))
              | .brk => .pure (.done .next)
              | .ret v => .pure (.done (.ret v))) (outOf env) id id) fs s3)
            (fun x s' => Seg (model prog w) A R Y n s₀ (.forLoop target it body [] env) (outOf env x) fs s') s2)
          (fun x s' => Seg (model prog w) A R Y n s₀ (.forLoop target it body [] env) (outOf env x) fs s') s1)
      (fun x s' => Seg (model prog w) A R Y n s₀ (.forLoop target it body [] env) (outOf env x) fs s') s) :
    Seg (model prog w) A R Y n s₀ (.forLoop target it body [] env) ((model prog w).den (.forLoop target it body [] env)) fs s := by
  show Seg _ A R Y n s₀ _ ((forTurn target it body [] env).onRaise (fun x => do noteFrame x env; theTreesLotGoes x)) fs s
  unfold forTurn
  rw [Sem.onRaise_eq_wrap]
  refine seg_bind_wrap (wpAny_standAt ?_)
  refine seg_bind_wrap (wpAny_onRaise (wpAny_mono h (fun r s1 h1 => ?_) fun _ _ h' => wpAny_standAt h'))
  cases r with
  | none => exact h1
  | some v =>
    refine seg_bind_wrap (wpAny_mono h1 (fun _ s2 h2 => ?_) fun x s' hx => hx)
    refine seg_bind_wrap (wpAny_mono h2 (fun _ s3 h3 => ?_) fun x s' hx => hx)
    rw [Sem.bind_eq_wrap', Sem.wrap_wrap]
    refine cast (congrArg (fun t => Seg (model prog w) A R Y n s₀ (.forLoop target it body [] env) t fs s3) ?_) h3
    exact Sem.wrap_congr (execs body env) id id (fun f => by cases f <;> rfl) (fun e => rfl)
theorem seg_For {c : Code} {K : Flow → Sem PySem.Fin} {J : Value → Sem PySem.Fin} {gd : Bool → Bool} {lv : List Value → List Value} {target iter : Expr} {body : List Stmt} {pos : Pos} (hs : ∀ x, foldedSetIterable iter env x = pure x)
    (h : wpAny (model prog w) (A.over c fs) (eval iter env) (fun x s1 => wpAny (model prog w) (A.over c fs) (pyIter x) (fun it s2 => ∀ p,
        Seg (model prog w) A R Y n s₀ (.forLoop target it body [] env) ((model prog w).den (.forLoop target it body [] env))
          (.ret (fun r => ((match r with | .ok f => (.pure f : Sem Flow) | .error e => .raise e).onRaise (cameBack env)).wrap K J gd lv) none (gd false) (lv []) c p [] :: fs) s2)
        (fun x s' => Seg (model prog w) A R Y n s₀ c (J x) fs s') s1) (fun x s' => Seg (model prog w) A R Y n s₀ c (J x) fs s') s) :
    Seg (model prog w) A R Y n s₀ c ((exec (.For target iter body [] pos) env).wrap K J gd lv) fs s := by
  rw [exec_For]
  refine seg_bind_wrap (wpAny_standAt ?_)
  refine seg_bind_wrap (wpAny_mono h (fun x s1 h1 => ?_) fun x s' hx => hx)
  refine seg_bind_wrap (wpAny_of_eq (hs x) ?_)
  refine seg_bind_wrap (wpAny_standAt ?_)
  refine seg_bind_wrap (wpAny_holding (wpAny_mono h1 (fun it s2 h2 => ?_) fun x s' hx => hx))
  exact seg_call h2
end
section
variable {X : Cx}
def tGFor (wi : TI) (g : TG) (tb : TGn) : TGn := fun D ys σ H => wi σ H fun J H1 => ∃ W : Nat → Nat → List V → L2.St → Hp → Prop, (∃ m, W 0 m ys σ H1) ∧ ∀ i m ys σ H, W i m ys σ H →
  (J.stop i H ∧ D.nx ys σ H) ∨ (J.go i H ∧ ∃ N : List V → L2.St → Hp → Prop, (∀ ys' σ' H', N ys' σ' H' → ∃ m', m' < m ∧ W (i + 1) m' ys' σ' H') ∧ ∀ x H', J.yld i H x H' → g x σ H' fun σ2 H2 => tb { D with nx := N, ct := N, bk := D.nx } ys σ2 H2)
theorem gs_for {tg iter : Expr} {body : List Stmt} {wi : TI} {g : TG} {tb : TGn} {pos : Pos} (hp : PassesOwn (model X.prog X.w) X.A X.env X.xe) (hc : X.calm = true) (hi : PI X tg iter wi) (hg : PG X tg g) (hb : GSs X body tb)
    (hs : ∀ x, foldedSetIterable iter X.env x = pure x := by intro _; rfl) : GS X (.For tg iter body [] pos) (tGFor wi g tb) := by
  refine ⟨fun A S ip R n ys s₀ c fs K J gd lv s σ H D gc hn k hI ht => ?_⟩
  obtain ⟨acc, cc, r, I⟩ := hI
  refine seg_For hs ?_
  rw [gc.over]
  refine wpAny_mono (hi.run _ s σ H _ I ht) (fun v s1 h1 => wpAny_mono h1 (fun itv s2 h2 => ?_) fun x s' hx => k.exc n s₀ x s' hx) fun x s' hx => k.exc n s₀ x s' hx
  obtain ⟨it, fp, tn, Jt, H2, e, I2, T, st2, f2, W, ⟨m0, w0⟩, turn⟩ := h2
  subst e
  intro p
  have stat : ∀ {H' : Hp} {acc' : Array Value} {c' : Nat}, (∀ b ∈ fp, H' b = none) → ∀ b ∈ fp, FpOk X ((S, lstObj acc' c') :: ip) H' b := fun {H' acc' c'} hn b hb => by
    obtain ⟨_, a1, a2, a3, a4, a5⟩ := f2 b hb
    refine ⟨hn b hb, a1, a2, a3, a4, fun p hp => ?_⟩
    rcases List.mem_append.mp hp with hp | hp
    · exact a5 p (List.mem_append_left _ hp)
    · rcases List.mem_cons.mp hp with rfl | hp
      · exact a5 (S, lstObj acc cc) (List.mem_append_right _ List.mem_cons_self)
      · exact a5 p (List.mem_append_right _ (List.mem_cons_of_mem _ hp))
  have nS : ∀ b ∈ fp, b ≠ S := fun b hb z => (f2 b hb).2.2.2.2.2 (S, lstObj acc cc) (List.mem_append_right _ List.mem_cons_self) z.symm
  have gl := fun (kk : Result → Sem PySem.Fin) => gc_loop (k := kk) (c' := .forLoop tg (.ref it) body [] X.env) (l := lv []) (kp := []) (p := p) gc rfl rfl
  have ee : ∀ (n : Nat) (s₀ : Shared) (x : Value) (s' : Shared), X.xe x s' → Seg (model X.prog X.w) A R (GY X S) n s₀ (.forLoop tg (.ref it) body [] X.env) (outOf X.env x)
      (.ret (fun r => ((match r with | .ok f => (.pure f : Sem Flow) | .error e => .raise e).onRaise (cameBack X.env)).wrap K J gd lv) none (gd false) (lv []) c p [] :: fs) s' := fun n s₀ x s' hx => by
    unfold outOf
    rw [Sem.bind_eq_wrap]
    refine seg_wrap ?_
    rw [(gl _).over]
    refine wpAny_bind (wpAny_mono (hp x s' hx) (fun _ s'' hcb => wpAny_theTreesLotGoes ?_) fun y s'' hcb => ?_)
    · exact seg_leaf (.error x) (seg_cameBack gc k hcb)
    · exact seg_leaf (.error y) (seg_cameBack gc k hcb)
  have loop : ∀ (m i n : Nat) (ys : List V) (s₀ s : Shared) (σ : L2.St) (H : Hp), n + ys.length = sizeLine → W i m ys σ H → GI X S ip ys σ H s → tn i s.heap → (∀ b ∈ fp, H b = none) →
      Seg (model X.prog X.w) A R (GY X S) n s₀ (.forLoop tg (.ref it) body [] X.env) ((model X.prog X.w).den (.forLoop tg (.ref it) body [] X.env))
        (.ret (fun r => ((match r with | .ok f => (.pure f : Sem Flow) | .error e => .raise e).onRaise (cameBack X.env)).wrap K J gd lv) none (gd false) (lv []) c p [] :: fs) s := by
    intro m
    induction m using Nat.strongRecOn with
    | ind m ih =>
      intro i n ys s₀ s3 σ3 H3 hn w3 hI st3 fr3
      refine seg_forLoop ?_
      rw [(gl _).over]
      obtain ⟨acc3, c3, r3, I3⟩ := hI
      rcases turn i m ys σ3 H3 w3 with ⟨stop, qn⟩ | ⟨go, N, hN, step⟩
      · refine wpAny_mono (T.done X rfl rfl rfl hc i _ s3 σ3 H3 X.xe I3 (stat fr3) st3 stop) (fun r s4 ⟨hr, I4⟩ => ?_) fun x s' hx => ee n s₀ x s' hx
        subst hr
        refine seg_again rfl ?_
        exact seg_leaf (.ok .next) (k.ok n ys s₀ s4 .next hn ⟨σ3, H3, ⟨acc3, c3, r3, I4⟩, qn⟩)
      · refine wpAny_mono (T.item X rfl rfl rfl hc i _ s3 σ3 H3 X.xe I3 (stat fr3) st3 go) (fun r s4 ⟨u, hr, h4⟩ => ?_) fun x s' hx => ee n s₀ x s' hx
        subst hr
        refine wpAny_mono h4 (fun _ s5 ⟨x, H5, I5, r5, y5, st5, fr5⟩ => ?_) fun x s' hx => ee n s₀ x s' hx
        have I5' := I5.pinned (stat fr5) (T.obj _ _ st5)
        refine wpAny_mono (hg.run _ s5 σ3 H5 x u _ I5' r5 (step x H5 y5)) (fun _ s6 ⟨σ6, H6, I6, q6⟩ => ?_) fun x s' hx => ee n s₀ x s' hx
        have gl' : GC X S (ip ++ pinsAt fp s5.heap) A (.forLoop tg (.ref it) body [] X.env) (.ret (fun r => ((match r with | .ok f => (.pure f : Sem Flow) | .error e => .raise e).onRaise (cameBack X.env)).wrap K J gd lv) none (gd false) (lv []) c p [] :: fs) id := by
          obtain ⟨z1, z2, z3, z4, z5, z6, z7⟩ := gl (fun r => ((match r with | .ok f => (.pure f : Sem Flow) | .error e => .raise e).onRaise (cameBack X.env)).wrap K J gd lv)
          refine ⟨z1, fun q hq => ?_, z3, z4, z5, z6, z7⟩
          rcases List.mem_append.mp hq with hq | hq
          · exact z2 q hq
          · exact nS _ (of_pinsAt hq).1
        have again : ∀ {n' : Nat} {ys' : List V} {s₀' s7 : Shared} {σ7 : L2.St} {H7 : Hp}, n' + ys'.length = sizeLine → GI X S (ip ++ pinsAt fp s5.heap) ys' σ7 H7 s7 → N ys' σ7 H7 →
            Seg (model X.prog X.w) A R (GY X S) n' s₀' (.forLoop tg (.ref it) body [] X.env) (.pure (.again (.forLoop tg (.ref it) body [] X.env)))
              (.ret (fun r => ((match r with | .ok f => (.pure f : Sem Flow) | .error e => .raise e).onRaise (cameBack X.env)).wrap K J gd lv) none (gd false) (lv []) c p [] :: fs) s7 := fun {n' ys' s₀' s7 σ7 H7} hn' ⟨acc7, c7, r7, I7⟩ n7 => by
          obtain ⟨m', hm, w7⟩ := hN ys' σ7 H7 n7
          have I7' : Inv X (((S, lstObj acc7 c7) :: ip) ++ pinsAt fp s5.heap) σ7 H7 s7 := I7
          refine seg_again rfl (ih m' hm (i + 1) n' ys' s₀' s7 σ7 H7 hn' w7 ⟨acc7, c7, r7, I7'.unpinned⟩ ?_ ?_)
          · exact T.keep _ _ _ st5 fun b hb o e => (I7'.pin (b, o) (List.mem_append_right _ (List.mem_append_right _ (mem_pinsAt hb e)))).1
          · intro b hb
            obtain ⟨o, e, d⟩ := T.obj _ _ st5 b hb
            exact (I7'.pin (b, o) (List.mem_append_right _ (List.mem_append_right _ (mem_pinsAt hb e)))).2.1
        have drop : ∀ {ys' : List V} {s7 : Shared} {σ7 : L2.St} {H7 : Hp}, GI X S (ip ++ pinsAt fp s5.heap) ys' σ7 H7 s7 → GI X S ip ys' σ7 H7 s7 := fun {ys' s7 σ7 H7} ⟨acc7, c7, r7, I7⟩ => by
          have I7' : Inv X (((S, lstObj acc7 c7) :: ip) ++ pinsAt fp s5.heap) σ7 H7 s7 := I7
          exact ⟨acc7, c7, r7, I7'.unpinned⟩
        refine hb.run A S (ip ++ pinsAt fp s5.heap) R n ys s₀ _ _ _ _ id id s6 σ6 H6 { D with nx := N, ct := N, bk := D.nx } gl' hn ⟨fun n' ys' s₀' s7 f hn' hs => ?_, fun n' s₀' x s' hx => ee n' s₀' x s' hx⟩ ⟨acc3, c3, r3, I6⟩ q6
        cases f with
        | next => obtain ⟨σ7, H7, I7, n7⟩ := hs; exact again hn' I7 n7
        | cont => obtain ⟨σ7, H7, I7, n7⟩ := hs; exact again hn' I7 n7
        | brk => obtain ⟨σ7, H7, I7, q7⟩ := hs; exact seg_leaf (.ok .next) (k.ok n' ys' s₀' s7 .next hn' ⟨σ7, H7, drop I7, q7⟩)
        | ret v => obtain ⟨x7, σ7, H7, I7, r7, q7⟩ := hs; exact seg_leaf (.ok (.ret v)) (k.ok n' ys' s₀' s7 (.ret v) hn' ⟨x7, σ7, H7, drop I7, r7, q7⟩)
  exact loop m0 0 n ys s₀ s2 σ H2 hn w0 ⟨acc, cc, r, I2⟩ st2 fun b hb => (f2 b hb).1
end
end SL

set_option Elab.async false
set_option linter.all false
set_option maxRecDepth 100000
set_option maxHeartbeats 2000000
namespace SL
open PySem PySem.Spec PyProof.Rows L2 GenW

/-! ### what a generator's body does: all that it hands out, then how it goes on -/
abbrev MGy := List W → M (List W × Fw)
def RG (K : PySem.W.Frag) (ca : Ca) (D : GEnds) : List W × Fw → List Addr → Hp → Prop := fun p io H => ∀ ys, RVs K ca io H p.1 ys → RS K ca (D.at ys) p.2 io H
def tGM (K : PySem.W.Frag) (ca : Ca) (E : XK) (m : MGy) : TGn := fun D ys σ H => ∃ io r S ws, Rl K ca io r S σ H ∧ RVs K ca io H ws ys ∧ Post K ca E io H (RG K ca D) (m ws r S)
abbrev MGS (X : Cx) (ca : Ca) (E : XK) (st : Stmt) (m : MGy) : Prop := GS X st (tGM X.K ca E m)
abbrev MGSs (X : Cx) (ca : Ca) (E : XK) (st : List Stmt) (m : MGy) : Prop := GSs X st (tGM X.K ca E m)
theorem GS.weak {X : Cx} {st : Stmt} {t u : TGn} (h : GS X st t) (i : ∀ D ys σ H, u D ys σ H → t D ys σ H) : GS X st u := ⟨fun A S ip R n ys s₀ c fs K J gd lv s σ H D gc hn k hI hw => h.run A S ip R n ys s₀ c fs K J gd lv s σ H D gc hn k hI (i D ys σ H hw)⟩
theorem GSs.weak {X : Cx} {st : List Stmt} {t u : TGn} (h : GSs X st t) (i : ∀ D ys σ H, u D ys σ H → t D ys σ H) : GSs X st u := ⟨fun A S ip R n ys s₀ c fs K J gd lv s σ H D gc hn k hI hw => h.run A S ip R n ys s₀ c fs K J gd lv s σ H D gc hn k hI (i D ys σ H hw)⟩
def gPl (m : MSt) : MGy := fun ws r S => match m r S with
  | .ok f S' => .ok (ws, f) S'
  | .exc c es S' => .exc c es S'
  | .stuck => .stuck
def gNil : MGy := fun ws r S => .ok (ws, .nx r) S
def gSeq (a b : MGy) : MGy := fun ws r S => match a ws r S with
  | .ok (ws', .nx r') S' => b ws' r' S'
  | x => x
def gYd (m : M W) : MGy := fun ws r S => if ws.length < 16000000 then match m r S with
    | .ok w S' => .ok (ws ++ [w], .nx r) S'
    | .exc c es S' => .exc c es S'
    | .stuck => .stuck
  else .stuck
def gForL (T : Tg) (b : MGy) : List W → MGy
  | [], ws, r, S => .ok (ws, .nx r) S
  | x :: xs, ws, r, S => match T.run x r with
    | none => .stuck
    | some r1 => match b ws r1 S with
      | .ok (ws2, .nx r2) S2 => gForL T b xs ws2 r2 S2
      | .ok (ws2, .ct r2) S2 => gForL T b xs ws2 r2 S2
      | .ok (ws2, .bk r2) S2 => .ok (ws2, .nx r2) S2
      | .ok (ws2, .rt w) S2 => .ok (ws2, .rt w) S2
      | .exc c es S2 => .exc c es S2
      | .stuck => .stuck
def gFor (T : Tg) (mi : M (List W)) (b : MGy) : MGy := fun ws => do
  let xs ← mi
  gForL T b xs ws
section
variable {X : Cx} {ca : Ca} {E : XK}
theorem gm_pl {st : Stmt} {m : MSt} (h : MS X ca E st m) : MGS X ca E st (gPl m) := GS.weak (gs_ps h) fun D ys σ H w => by
  obtain ⟨io, r, S, ws, l, rv, p⟩ := w
  refine ⟨io, r, S, l, ?_⟩
  unfold gPl at p
  cases q : m r S with
  | stuck =>
    simp only [q] at p
    exact p
  | exc c es S' =>
    simp only [q] at p
    exact p
  | ok f S' =>
    simp only [q] at p
    exact fun io' H' e z => p io' H' e z ys (rv.mono e)
theorem gm_nil : MGSs X ca E [] gNil := GSs.weak gss_nil fun D ys σ H w => by
  obtain ⟨io, r, S, ws, l, rv, p⟩ := w
  exact p.done l.z ys rv σ l.e
theorem gm_cons {st : Stmt} {rest : List Stmt} {a b : MGy} (h1 : MGS X ca E st a) (h2 : MGSs X ca E rest b) : MGSs X ca E (st :: rest) (gSeq a b) := GSs.weak (gss_cons h1 h2) fun D ys σ H w => by
  obtain ⟨io, r, S, ws, l, rv, p⟩ := w
  refine ⟨io, r, S, ws, l, rv, ?_⟩
  unfold gSeq at p
  cases q : a ws r S with
  | stuck =>
    simp only [q] at p
    exact p
  | exc c es S' =>
    simp only [q] at p
    exact p
  | ok y S' =>
    obtain ⟨ws', f⟩ := y
    cases f with
    | nx r' =>
      simp only [q] at p
      exact fun io' H' e z ys' rvs σ' re => ⟨io', r', S', ws', ⟨z, re⟩, rvs, p.mono e⟩
    | rt w =>
      simp only [q] at p
      exact p
    | bk r' =>
      simp only [q] at p
      exact p
    | ct r' =>
      simp only [q] at p
      exact p
theorem gm_one {st : Stmt} {a : MGy} (h : MGS X ca E st a) : MGSs X ca E [st] (gSeq a gNil) := gm_cons h gm_nil
theorem gm_yd {e : Expr} {m : M W} {yp pos : Pos} (he : ME X ca E e m) (hco : X.env.scope.isCoroutine = false := by rfl) (hi : interactive X.env = false := by rfl) : MGS X ca E (.Expr (.Yield (some e) yp) pos) (gYd m) := GS.weak (gs_yield he hco hi) fun D ys σ H w => by
  obtain ⟨io, r, S, ws, l, rv, p⟩ := w
  unfold gYd at p
  split at p
  · rename_i hl
    refine ⟨lim_lt (by rw [rv.len]; exact hl), io, r, S, l, ?_⟩
    cases q : m r S with
    | stuck =>
      simp only [q] at p
      exact p
    | exc c es S' =>
      simp only [q] at p
      exact p
    | ok w S' =>
      simp only [q] at p
      exact fun io' H' e z v rw_ => p io' H' e z _ ((rv.mono e).app (.cons rw_ .nil)) σ (l.e.mono e)
  · exact p.elim
theorem for_itG {J : It} {n : Nat} {G : Hp → Prop} {Y : Nat → Hp → V → Hp → Prop} (w : Walk J n G Y) {g : TG} {tb : TGn} {D : GEnds} {ys : List V} {σ : L2.St} {H : Hp} (Pv : Nat → List V → L2.St → Hp → Prop) (h0 : Pv 0 ys σ H) (hG : ∀ i ys σ H, i ≤ n → Pv i ys σ H → G H)
    (hs : ∀ i x ys σ H H', i < n → Pv i ys σ H → Y i H x H' → g x σ H' fun σ2 H2 => tb { D with nx := Pv (i + 1), ct := Pv (i + 1), bk := D.nx } ys σ2 H2) (hd : ∀ ys σ H, Pv n ys σ H → D.nx ys σ H) :
    ∃ W : Nat → Nat → List V → L2.St → Hp → Prop, (∃ m, W 0 m ys σ H) ∧ ∀ i m ys σ H, W i m ys σ H →
      (J.stop i H ∧ D.nx ys σ H) ∨ (J.go i H ∧ ∃ N : List V → L2.St → Hp → Prop, (∀ ys' σ' H', N ys' σ' H' → ∃ m', m' < m ∧ W (i + 1) m' ys' σ' H') ∧ ∀ x H', J.yld i H x H' → g x σ H' fun σ2 H2 => tb { D with nx := N, ct := N, bk := D.nx } ys σ2 H2) := by
  refine ⟨fun i m ys σ H => m = n - i ∧ i ≤ n ∧ Pv i ys σ H, ⟨n, by simp, Nat.zero_le _, h0⟩, ?_⟩
  rintro i m ys σ H ⟨rfl, hi, p⟩
  have q := hG i ys σ H hi p
  by_cases hlt : i < n
  · exact .inr ⟨w.goes i H hlt q, Pv (i + 1), fun ys' σ' H' p' => ⟨n - (i + 1), by omega, rfl, hlt, p'⟩, fun x H' y => hs i x ys σ H H' hlt p (w.yields i H x H' hlt q y)⟩
  · have e : i = n := by omega
    subst e
    exact .inl ⟨w.stops H q, hd ys σ H p⟩
theorem for_turnG {K : PySem.W.Frag} {T : Tg} {b : MGy} {x : W} {xs ws : List W} {io : List Addr} {r : Rho} {S : Sto} {H : Hp} {σ : L2.St} {D : GEnds} {v : V} {ys : List V} {N : List V → L2.St → Hp → Prop}
    (l : Rl K ca io r S σ H) (rvs : RVs K ca io H ws ys) (rv : RV K ca io H x v) (p : Post K ca E io H (RG K ca D) (gForL T b (x :: xs) ws r S))
    (hN : ∀ io' r' S' ws' ys' σ' H', Ext io H io' H' → Rl K ca io' r' S' σ' H' → RVs K ca io' H' ws' ys' → Post K ca E io' H' (RG K ca D) (gForL T b xs ws' r' S') → N ys' σ' H') :
    T.g K v σ H fun σ2 H2 => tGM K ca E b { D with nx := N, ct := N, bk := D.nx } ys σ2 H2 := by
  unfold gForL at p
  cases e : T.run x r with
  | none =>
    simp only [e] at p
    exact p.elim
  | some r1 =>
    simp only [e] at p
    refine T.ok e rv l.e fun σ2 re _ => ⟨io, r1, S, ws, ⟨l.z, re⟩, rvs, ?_⟩
    cases q : b ws r1 S with
    | stuck =>
      simp only [q] at p
      exact p
    | exc c es S2 =>
      simp only [q] at p
      exact p
    | ok y S2 =>
      obtain ⟨ws2, f⟩ := y
      cases f with
      | nx r2 =>
        simp only [q] at p
        exact fun io' H' e z ys' rv' σ' re' => hN io' r2 S2 ws2 ys' σ' H' e ⟨z, re'⟩ rv' (p.mono e)
      | ct r2 =>
        simp only [q] at p
        exact fun io' H' e z ys' rv' σ' re' => hN io' r2 S2 ws2 ys' σ' H' e ⟨z, re'⟩ rv' (p.mono e)
      | bk r2 =>
        simp only [q] at p
        exact p
      | rt w =>
        simp only [q] at p
        exact p
theorem gm_for {T : Tg} {tg iter : Expr} {body : List Stmt} {mi : M (List W)} {b : MGy} {pos : Pos} (hp : PassesOwn (model X.prog X.w) X.A X.env X.xe) (hc : X.calm = true) (hi : MI X ca E tg iter mi) (hg : MG X tg T) (hb : MGSs X ca E body b)
    (hs : ∀ x, foldedSetIterable iter X.env x = pure x := by intro _; rfl) : MGS X ca E (.For tg iter body [] pos) (gFor T mi b) := by
  refine GS.weak (gs_for hp hc hi hg hb hs) fun D ys σ H h => ?_
  obtain ⟨io, r, S, ws, l, rv, p⟩ := h
  show tI X.K ca E mi σ H _
  have p0 := p
  unfold gFor at p0
  refine ⟨io, r, S, l, ?_⟩
  rw [bind_def] at p0
  cases q : mi r S with
  | stuck =>
    simp only [q] at p0
    exact p0
  | exc c es S2 =>
    simp only [q] at p0
    exact p0
  | ok xs S1 =>
    simp only [q] at p0
    intro io1 H1 e1 z1 J ⟨G, Y, wk, hG, hY⟩
    have l1 := l.mono e1 z1
    have p1 := p0.mono e1
    refine for_itG wk (fun i ys' σ' H' => ∃ io' r' S' ws', Ext io1 H1 io' H' ∧ Rl X.K ca io' r' S' σ' H' ∧ RVs X.K ca io' H' ws' ys' ∧ Post X.K ca E io' H' (RG X.K ca D) (gForL T b (xs.drop i) ws' r' S')) ⟨io1, r, S1, ws, Ext.refl _ _, l1, rv.mono e1, p1⟩ (fun i ys' σ' H' _ ⟨io', r', S', ws', e, _, _, _⟩ => hG io' H' e) ?_ ?_
    · rintro i x ys' σ' H' H3 hi ⟨io', r', S', ws', e, l', rv', p'⟩ y
      obtain ⟨w, hw, e3, z3, rw_⟩ := hY i io' S' H' x H3 e l'.z y hi
      have hd : xs.drop i = w :: xs.drop (i + 1) := by
        rw [List.drop_eq_getElem_cons hi]
        rw [List.getElem?_eq_getElem hi] at hw
        rw [Option.some.inj hw]
      rw [hd] at p'
      exact for_turnG (l'.mono e3 z3) (rv'.mono e3) rw_ (p'.mono e3) fun io4 r4 S4 ws4 ys4 σ4 H4 e4 l4 rv4 p4 => ⟨io4, r4, S4, ws4, (e.trans e3).trans e4, l4, rv4, p4⟩
    · rintro ys' σ' H' ⟨io', r', S', ws', e, l', rv', p'⟩
      rw [List.drop_length] at p'
      exact p'.done l'.z ys' rv' σ' l'.e
end
/-! ### a generator def -/
abbrev GnM := List W → Sto → Res (List W)
def endG : Res (List W × Fw) → Res (List W)
  | .ok (ws, .nx _) S => .ok ws S
  | .ok (ws, .rt .non) S => .ok ws S
  | .ok _ _ => .stuck
  | .exc c es S => .exc c es S
  | .stuck => .stuck
def fnG (n k : Nat) (b : MGy) : GnM := fun ws S => if ws.length = k then endG (b [] (ws.map some ++ List.replicate (n - k) none) S) else .stuck
def spG (K : PySem.W.Frag) (ca : Ca) (g : GnM) : SpG := fun vs H cont E => ∃ io ws S, Rl0 K ca io S H ∧ RVs K ca io H ws vs ∧ Post K ca E io H (fun ys io' H' => ∀ us, RVs K ca io' H' ys us → cont us H') (g ws S)
def GnAt (P : Program) (w : World) (K : PySem.W.Frag) (mg : Str → Option Value) (base : Heap) (ca : Ca) (x : Str) (k : Nat) (g : GnM) : Prop := ∃ f fd ps, mg x = some (.ref f) ∧ PySem.W.keepIn K (.ref f) = true ∧ Binds K fd ps [] ∧ GFn P w K mg base k f fd ps (spG K ca g)
section
variable {P : Program} {w : World} {K : PySem.W.Frag} {mg : Str → Option Value} {base : Heap} {ca : Ca}
theorem Bd.gen {qual : Str} {scope : Scope} {f : Addr} {N : List Str} {cdv : Value} {A : Around} {outer : List Env} {s : Shared} {H : Hp} {E : XK} {pn : List (Addr × Obj)} {k : Nat} (hr : Room k (A.deeper (envOfC qual scope s.heap.objs.size f cdv))) :
    Bd (gcxOf P w K mg base N qual scope f cdv A outer s H E pn) E k := ⟨hr, passes_call takes_gcx fun _ _ _ _ h => h, rfl⟩
abbrev DerOkG (P : Program) (w : World) (K : PySem.W.Frag) (mg : Str → Option Value) (base : Heap) (ca : Ca) (N : List Str) (qual : Str) (scope : Scope) (k : Nat) (f : Addr) (body : List Stmt) (b : MGy) : Prop :=
  ∀ (cdv : Value) (A : Around) (outer : List Env) (s : Shared) (H : Hp) (E : XK) (pn : List (Addr × Obj)), Bd (gcxOf P w K mg base N qual scope f cdv A outer s H E pn) E k → MGSs (gcxOf P w K mg base N qual scope f cdv A outer s H E pn) ca E body b
theorem gfn_ok {x qual : Str} {params : Arguments} {body : List Stmt} {scope : Scope} {f : Addr} {fd : FuncData} {N ps : List Str} {k n j : Nat} {b : MGy} (F : FunD K x qual params body scope [] [] f fd) (Sc : GScope N ps scope) (hn : N.length = n) (hj : ps.length = j)
    (h : DerOkG P w K mg base ca N qual scope k f body b) : GFn P w K mg base (k + 1) f fd ps (spG K ca (fnG n j b)) := by
  subst hn hj
  obtain ⟨oc, od, dV, kV, doc, pm, an, cdv, ct, osl, rfl, lk, hcd, _, _⟩ := F.ex
  refine gfn_of lk hcd Sc (fun vs H Q E hs => ?_) fun A outer s H vs Q E pn hr hs => ⟨_, h cdv A outer s H E pn (Bd.gen hr), ?_⟩
  · obtain ⟨io, ws, S, z, rvs, p⟩ := hs
    unfold fnG at p
    split at p
    · rename_i hl
      rw [rvs.len, hl]
    · exact p.elim
  · obtain ⟨io, ws, S, z, rvs, p⟩ := hs
    unfold fnG at p
    split at p
    · rename_i hl
      refine ⟨io, ws.map some ++ List.replicate (N.length - ws.length) none, S, [], ⟨z, RE.start rvs⟩, .nil, ?_⟩
      rw [← hl] at p
      cases q : b [] (ws.map some ++ List.replicate (N.length - ws.length) none) S with
      | stuck =>
        rw [q] at p
        exact p
      | exc c es S' =>
        rw [q] at p
        exact p
      | ok y S' =>
        rw [q] at p
        obtain ⟨ys, fw⟩ := y
        cases fw with
        | nx r => exact fun io' H' e z' us rv σ _ => p io' H' e z' us rv
        | rt w =>
          cases w <;> first | exact p.elim | skip
          intro io' H' e z' us rv v rw_
          exact ⟨rw_, p io' H' e z' us rv⟩
        | bk r => exact p.elim
        | ct r => exact p.elim
    · exact p.elim
end
/-! ### list(g(a, ..)) -/
def mListG (g : GnM) (t : M (List W)) : M W := do
  let ws ← t
  fun _ S => match g ws S with
    | .ok ys S' => .ok (.lst ys) S'
    | _ => .stuck
theorem me_listG {X : Cx} {ca : Ca} {E : XK} {x nm : Str} {k j : Nat} {g : GnM} {p pos' pos lp : Pos} {e : Expr} {es : List Expr} {t : M (List W)} (F : GnAt X.prog X.w X.K X.mg X.base ca x k g) (b : Bd X E j) (hmg : X.mg nm = none) (ha : MA X ca E (e :: es) t) (hk : k + 3 ≤ j := by decide)
    (hv : bootBuiltins nm = some (.type "list") := by decide +kernel) (hgl : Gl X nm := by rfl) (hnm : nm ≠ "__name__" := by decide) (hdl : (nm == ("__debug__" : Str)) = false := by decide)
    (hg : Gl X x := by rfl) (hdb : (x == ("__debug__" : Str)) = false := by decide) (hst : starEach (e :: es) X.env = (false, eval e X.env) :: starEach es X.env := by rfl) (hpl : (backTo pos' (starEach es X.env)).any (·.1) = false := by rfl)
    (he : starEach [.Call (.Name x p) (e :: es) [] pos'] X.env = (false, eval (.Call (.Name x p) (e :: es) [] pos') X.env) :: starEach [] X.env := by rfl) :
    ME X ca E (.Call (.Name nm lp) [.Call (.Name x p) (e :: es) [] pos'] [] pos) (mFr (mListG g t)) := by
  obtain ⟨f, fd, ps, h1, h2, h3, h4⟩ := F
  have hr3 : Room (k + 3) X.A := b.hr.mono hk
  have pg : PGen X k (.Call (.Name x p) (e :: es) [] pos') (tCallG (spG X.K ca g) [] (fun _ _ _ => False) (tA X.K ca E t)) (fun _ _ _ => False) := pgen_call h4 (b.hr.mono (Nat.le_trans (Nat.le_add_right k 3) hk)) hg h1 h2 h3 .nil ha hdb hst hpl
  refine me_fr (PE.weak (pe_listG pg passF (fun _ _ _ z => z.elim) hr3 hgl hmg hv hnm hdl he) fun σ H Q h => ?_)
  obtain ⟨io, r, S, l, pp⟩ := h
  refine tA_imp (tA_bind l pp) fun vs H1 ⟨io1, S1, ws, e1, l1, rvs, p1⟩ => ?_
  refine ⟨io1, ws, S1, l1.z, by rw [List.append_nil]; exact rvs, ?_⟩
  cases q : g ws S1 with
  | stuck =>
    simp only [q] at p1
    exact p1.elim
  | exc c es S' =>
    simp only [q] at p1
    exact p1.elim
  | ok ys S' =>
    simp only [q] at p1
    exact fun io' H' e2 z2 us rv q hq => p1 io' _ (e2.trans (ext_new hq)) (z2.new hq) _ (rv_newL z2 hq rv)
section
variable {fs : List Fx} {ds : List Df} {P : Program} {w : World} {K : PySem.W.Frag} {mg : Str → Option Value} {base : Heap} {ca : Ca} {x qual : Str} {k n j : Nat} {params : Arguments} {body : List Stmt} {scope : Scope} {N ps : List Str} {b : MGy}
theorem Sy.gn (Z : Sy fs ds K mg) (i ig : Nat) (hd : ds[i]? = some ⟨.fn x, x, qual, params, body, scope⟩) (hg : fs[ig]? = some (.fa (.glo x))) (Sc : GScope N ps scope) (hn : N.length = n) (hj : ps.length = j)
    (hb : BindOk x qual params body scope ps) (h : ∀ f, DerOkG P w K mg base ca N qual scope k f body b) : GnAt P w K mg base ca x (k + 1) (fnG n j b) := by
  obtain ⟨fd, F⟩ := Z.d i hd
  exact ⟨_, fd, ps, Z.glo ig hg, F.kp, F.bindsN hb, gfn_ok F Sc hn hj (h _)⟩
end
end SL

set_option Elab.async false
set_option linter.all false
set_option maxRecDepth 100000
set_option maxHeartbeats 0
namespace SL
open PySem PySem.Spec PyProof.Rows L2
/-! days -/
def N_l_days : List PySem.Str := ["_law_parts_here", "_law_ticks", "_law_found", "_law_left", "_law_tick_here"]
noncomputable def f_l_days_1 : MSt := sSeq (sExpr (mBm "list" fAppend (mVar 2) (mCons (mFr (mCall m_l_tick (mCons (mVar 0) (mCons (mVar 3) (mCons (mVar 4) (mNil)))))) (mNil)))) (sSet 3 (mIx (mIx (mVar 2) (mNeg (mC (.int 1)))) (mC (.int 0))))
noncomputable def b_l_days : MSt := sSeq (sPar [2, 3] (mCons (mLstC (mNil)) (mCons (mC (.int 0)) (mNil)))) (sSeq (sFor (.n 4) (iR1 (mCons (mVar 1) (mNil))) (f_l_days_1)) (sRet (mVar 2)))
noncomputable abbrev m_l_days : FnM := fnM 5 2 b_l_days
/-! in_dark -/
def N_in_dark : List PySem.Str := ["stairs", "tick"]
noncomputable def b_in_dark : MSt := sSeq (sExpr (mFr (mCall m_check_tick (mCons (mVar 1) (mNil))))) (sRet (mCall bListC (mCons (mFld .Scene .dark (mFr (mMeth .Story m_Story_scene (mFr (mCall (newR .Story m_Story___init__) (mCons (mVar 0) (mNil)))) (mCons (mVar 1) (mNil))))) (mNil))))
noncomputable abbrev m_in_dark : FnM := fnM 2 2 b_in_dark
/-! presses_between -/
def N_presses_between : List PySem.Str := ["stairs", "first", "last", "story", "tick", "number", "floor"]
noncomputable def f_presses_between_1 : MGy := gSeq (gYd (mTup (mCons (mVar 4) (mCons (mVar 5) (mCons (mVar 6) (mNil)))))) gNil
noncomputable def f_presses_between_2 : MGy := gSeq (gFor (.t [5, 6]) (iL (mFld .Scene .presses (mFr (mMeth .Story m_Story_scene (mVar 3) (mCons (mVar 4) (mNil)))))) (f_presses_between_1)) gNil
noncomputable def b_presses_between : MGy := gSeq (gPl (sExpr (mFr (mCall m_check_tick (mCons (mVar 1) (mNil)))))) (gSeq (gPl (sIf (mNot (mB (mFr (mCall m_is_int_in (mCons (mVar 2) (mCons (mOp opSub (mVar 1) (mC (.int 1))) (mCons (mCall bMin (mCons (mC (.int 1000000000000000000)) (mCons (mOp opSub (mOp opAdd (mVar 1) (mC (.int 1000))) (mC (.int 1))) (mNil)))) (mNil)))))))) ((fun _ _ => .stuck)) (sNext))) (gSeq (gPl (sSet 3 (mFr (mCall (newR .Story m_Story___init__) (mCons (mVar 0) (mNil)))))) (gSeq (gFor (.n 4) (iR2 (mCons (mVar 1) (mCons (mOp opAdd (mVar 2) (mC (.int 1))) (mNil)))) (f_presses_between_2)) gNil)))
noncomputable abbrev m_presses_between : GnM := fnG 7 3 b_presses_between
/-! find_cycle -/
def N_find_cycle : List PySem.Str := ["stairs", "story", "cycle", "presses", "scene"]
noncomputable def e_find_cycle_1 : M W := mCall bLen (mCons (mFld .Scene .presses (mVar 4)) (mNil))
noncomputable def e_find_cycle_2 : M W := mVar 4
noncomputable def i_find_cycle_1 : M Bool := mB (mOp opGt (mFld .Scene .burning (mVar 4)) (mC (.int 0)))
noncomputable def b_find_cycle : MSt := sSeq (sSet 1 (mFr (mCall (newR .Story m_Story___init__) (mCons (mVar 0) (mNil))))) (sSeq (sSet 2 (mCut (mFld .Story .scenes (mVar 1)) (mPart (mFld .Story .start (mVar 1))) (mNoPart))) (sSeq (sSet 3 (mCall bSum (mCons (mLc [4] (.n 4) (iL (mVar 2)) (mYes) (e_find_cycle_1)) (mNil)))) (sRet (mTup (mCons (mFr (mProp .Story m_Story_size (mVar 1))) (mCons (mVar 3) (mCons (mCall bLen (mCons (mLc [4] (.n 4) (iL (mVar 2)) (i_find_cycle_1) (e_find_cycle_2)) (mNil))) (mNil))))))))
noncomputable abbrev m_find_cycle : FnM := fnM 5 1 b_find_cycle
end SL

set_option Elab.async false
set_option linter.all false
set_option maxRecDepth 100000
set_option maxHeartbeats 0
namespace SL
open PySem PySem.Spec PyProof.Rows L2
/-! law -/
def N_k03_law : List PySem.Str := ["_law_script", "_law_d", "_law_step", "_law_parts_here", "_law_stairs", "_law_cycle_here", "_law_ticks", "_law_presses", "_law_lit", "_law_pressing", "_law_one", "_law_found", "_law_press", "_law_k"]
noncomputable def e_k03_law_1 : M W := mCall bLen (mCons (mIx (mVar 10) (mC (.int 1))) (mNil))
noncomputable def e_k03_law_2 : M W := mCall bInt (mCons (mOp opGt (mIx (mVar 10) (mC (.int 0))) (mC (.int 0))) (mNil))
noncomputable def e_k03_law_3 : M W := mIx (mVar 12) (mC (.int 1))
noncomputable def f_k03_law_1 : MSt := sSet 9 (mOp opAdd (mVar 9) (mLc [12] (.n 12) (iL (mIx (mVar 10) (mC (.int 1)))) (mYes) (e_k03_law_3)))
noncomputable def e_k03_law_4 : M W := mVar 13
noncomputable def i_k03_law_1 : M Bool := mB (mOp opNotInQ (mVar 13) (mVar 9))
noncomputable def f_k03_law_2 : MSt := sSeq (sSet 3 (mIf (mB (mOp opEq (mFr (mCall m_l_below (mCons (mVar 1) (mCons (mC (.int 4)) (mNil))))) (mC (.int 0)))) (mFr (mCall m_l_late (mCons (mVar 1) (mNil)))) (mFr (mCall m_l_parts (mCons (mVar 1) (mCons (mC (.int 5)) (mNil))))))) (sSeq (sPar [4, 5] (mCons (mFr (mCall m_l_made (mCons (mVar 3) (mNil)))) (mCons (mFr (mCall m_l_cycle (mCons (mVar 3) (mNil)))) (mNil)))) (sSeq (sSet 6 (mFr (mCall m_l_some_tick (mCons (mVar 1) (mNil))))) (sSeq (sSet 7 (mFr (mCall m_l_sum (mCons (mVar 5) (mCons (mLc [10] (.n 10) (iL (mIx (mVar 5) (mC (.int 0)))) (mYes) (e_k03_law_1)) (mCons (mVar 6) (mNil))))))) (sSeq (sSet 8 (mFr (mCall m_l_sum (mCons (mVar 5) (mCons (mLc [10] (.n 10) (iL (mIx (mVar 5) (mC (.int 0)))) (mYes) (e_k03_law_2)) (mCons (mVar 6) (mNil))))))) (sSeq (sIf (mNot (mB (mFr (mCall mr_l_equal (mCons (mLst (mCons (mFr (mCall m_count_presses (mCons (mVar 4) (mCons (mVar 6) (mNil))))) (mCons (mFr (mCall m_count_lit (mCons (mVar 4) (mCons (mVar 6) (mNil))))) (mNil)))) (mCons (mLst (mCons (mVar 7) (mCons (mVar 8) (mNil)))) (mNil))))))) (sRet (mC (.bl false))) (sNext)) (sSeq (sSet 9 (mLst (mNil))) (sSeq (sFor (.n 10) (iL (mIx (mVar 5) (mC (.int 0)))) (f_k03_law_1)) (sSeq (sSet 11 (mCall m_idle_trips (mCons (mVar 4) (mNil)))) (sSeq (sIf (mNot (mB (mFr (mCall mr_l_equal (mCons (mVar 11) (mCons (mLc [13] (.n 13) (iR1 (mCons (mCall bLen (mCons (mIx (mVar 3) (mC (.int 3))) (mNil))) (mNil))) (i_k03_law_1) (e_k03_law_4)) (mNil))))))) (sRet (mC (.bl false))) (sNext)) (sExpr (mBm "list" fAppend (mVar 11) (mCons (mC (.int 0)) (mNil)))))))))))))
noncomputable def b_k03_law : MSt := sSeq (sSet 1 (mCall m_l_random (mCons (mVar 0) (mCons (mC (.int 3)) (mNil))))) (sSeq (sFor (.n 2) (iR1 (mCons (mC (.int 3)) (mNil))) (f_k03_law_2)) (sRet (mC (.bl true))))
noncomputable abbrev m_k03_law : FnM := fnM 14 1 b_k03_law
end SL

set_option Elab.async false
set_option linter.all false
set_option maxRecDepth 100000
set_option maxHeartbeats 2000000
/-! how runs are computed -/
namespace SL
open PySem PySem.Spec PyProof.Rows L2
/-- beside a term that is not to be looked into -/
inductive Dm {α : Type} (k : α) : Type where
  | mk
def Res.bd {α β : Type} (x : Res α) (k : α → Sto → Res β) (d : Dm k := .mk) : Res β := match x with
  | .ok a S => k a S
  | .exc c ws S => .exc c ws S
  | .stuck => .stuck
section
variable {α β : Type}
@[simp] theorem bd_ok (a : α) (S : Sto) (k : α → Sto → Res β) : (Res.ok a S).bd k = k a S := rfl
@[simp] theorem bd_exc (c : Cl) (ws : List W) (S : Sto) (k : α → Sto → Res β) : (Res.exc c ws S : Res α).bd k = .exc c ws S := rfl
@[simp] theorem bd_stuck (k : α → Sto → Res β) : (Res.stuck : Res α).bd k = .stuck := rfl
@[simp] theorem bind_ev (m : M α) (f : α → M β) (r : Rho) (S : Sto) : (m >>= f) r S = (m r S).bd fun a S1 => f a r S1 := by
  rw [bind_def]
  cases m r S <;> rfl
theorem bd_ext {x : Res α} {k k' : α → Sto → Res β} (h : ∀ a S, k a S = k' a S) : x.bd k = x.bd k' := by
  have e : k = k' := funext fun a => funext fun S => h a S
  rw [e]
@[simp] theorem pure_ev (a : α) (r : Rho) (S : Sto) : (pure a : M α) r S = .ok a S := rfl
end
/-- an option's two ways -/
def oc {α β : Type} (o : Option α) (k : α → β) (z : β) (d : Dm k := .mk) : β := match o with
  | some a => k a
  | none => z
section
variable {α β : Type}
@[simp] theorem oc_some (a : α) (k : α → β) (z : β) : oc (some a) k z = k a := rfl
@[simp] theorem oc_none (k : α → β) (z : β) : oc (none : Option α) k z = z := rfl
/-- two ways by a truth value -/
def bc (b : Bool) (x y : β) (d : Dm x := .mk) (e : Dm y := .mk) : β := match b with
  | true => x
  | false => y
@[simp] theorem bc_true (x y : β) : bc true x y = x := rfl
@[simp] theorem bc_false (x y : β) : bc false x y = y := rfl
theorem bc_pos {b : Bool} (h : b = true) (x y : β) : bc b x y = x := by rw [h]; rfl
theorem bc_neg {b : Bool} (h : b = false) (x y : β) : bc b x y = y := by rw [h]; rfl
end
section
variable {r : Rho} {S : Sto}
@[simp] theorem mVar_ev (i : Nat) : mVar i r S = oc (r[i]?) (fun o => oc o (fun w => .ok w S) .stuck) .stuck := by
  unfold mVar
  cases r[i]? with
  | none => rfl
  | some o => cases o <;> rfl
@[simp] theorem mC_ev (w : W) : mC w r S = .ok w S := rfl
@[simp] theorem mOp_ev (f : Op2) (a b : M W) : mOp f a b r S = (a r S).bd fun x S1 => (b r S1).bd fun y S2 => f x y S2 := by
  unfold mOp
  rw [bind_ev]
  exact bd_ext fun x S1 => by rw [bind_ev]
def asB (w : W) (k : Bool → Sto → Res α) (S : Sto) (d : Dm k := .mk) : Res α := match w with
  | .bl b => k b S
  | _ => .stuck
@[simp] theorem asB_bl (b : Bool) (k : Bool → Sto → Res α) : asB (.bl b) k S = k b S := rfl
@[simp] theorem mB_ev (m : M W) : mB m r S = (m r S).bd fun w S1 => asB w .ok S1 := by
  simp only [mB, bind_ev]
  cases m r S with
  | ok w S1 => cases w <;> rfl
  | exc c ws S1 => rfl
  | stuck => rfl
@[simp] theorem mNot_ev (m : M Bool) : mNot m r S = (m r S).bd fun b S1 => .ok (!b) S1 := by simp [mNot]
@[simp] theorem mIf_ev {α : Type} (t : M Bool) (a b : M α) : mIf t a b r S = (t r S).bd fun c S1 => bc c (a r S1) (b r S1) := by
  simp only [mIf, bind_ev]
  cases t r S with
  | ok c S1 => cases c <;> rfl
  | exc c ws S1 => rfl
  | stuck => rfl
@[simp] theorem mAnd_ev (a b : M Bool) : mAnd a b r S = (a r S).bd fun c S1 => bc c (b r S1) (.ok false S1) := by
  simp only [mAnd, bind_ev]
  cases a r S with
  | ok c S1 => cases c <;> rfl
  | exc c ws S1 => rfl
  | stuck => rfl
@[simp] theorem mOr_ev (a b : M Bool) : mOr a b r S = (a r S).bd fun c S1 => bc c (.ok true S1) (b r S1) := by
  simp only [mOr, bind_ev]
  cases a r S with
  | ok c S1 => cases c <;> rfl
  | exc c ws S1 => rfl
  | stuck => rfl
@[simp] theorem mAndV_ev (a b : M W) : mAndV a b r S = (a r S).bd fun w S1 => asB w (fun c S1 => bc c (b r S1) (.ok (.bl false) S1)) S1 := by
  simp only [mAndV, bind_ev]
  cases a r S with
  | ok w S1 =>
    cases w <;> first | rfl | skip
    rename_i c
    cases c <;> rfl
  | exc c ws S1 => rfl
  | stuck => rfl
@[simp] theorem mOrV_ev (a b : M W) : mOrV a b r S = (a r S).bd fun w S1 => asB w (fun c S1 => bc c (.ok (.bl true) S1) (b r S1)) S1 := by
  simp only [mOrV, bind_ev]
  cases a r S with
  | ok w S1 =>
    cases w <;> first | rfl | skip
    rename_i c
    cases c <;> rfl
  | exc c ws S1 => rfl
  | stuck => rfl
@[simp] theorem mNotV_ev (a : M W) : mNotV a r S = (a r S).bd fun w S1 => asB w (fun c S1 => .ok (.bl (!c)) S1) S1 := by
  simp only [mNotV, bind_ev]
  cases a r S with
  | ok w S1 => cases w <;> rfl
  | exc c ws S1 => rfl
  | stuck => rfl
@[simp] theorem mChain_ev (f g : Op2) (a b c : M W) : mChain f g a b c r S = (a r S).bd fun x S1 => (b r S1).bd fun y S2 => (f x y S2).bd fun z S3 => asB z (fun q S3 => bc q ((c r S3).bd fun u S4 => g y u S4) (.ok (.bl false) S3)) S3 := by
  unfold mChain
  rw [bind_ev]
  refine bd_ext fun x S1 => ?_
  rw [bind_ev]
  refine bd_ext fun y S2 => ?_
  rw [bind_ev]
  refine bd_ext fun z S3 => ?_
  cases z <;> first | rfl | skip
  rename_i q
  cases q
  · rfl
  · show (c >>= _) r S3 = _
    rw [bind_ev]
    rfl
@[simp] theorem mIx_ev (a b : M W) : mIx a b r S = (a r S).bd fun x S1 => (b r S1).bd fun y S2 => opIx x y S2 := mOp_ev _ _ _
@[simp] theorem mNil_ev : mNil r S = .ok [] S := rfl
@[simp] theorem mCons_ev (a : M W) (t : M (List W)) : mCons a t r S = (a r S).bd fun x S1 => (t r S1).bd fun xs S2 => .ok (x :: xs) S2 := by
  unfold mCons
  rw [bind_ev]
  exact bd_ext fun x S1 => by rw [bind_ev]; rfl
@[simp] theorem mStar_ev (a : M W) (t : M (List W)) : mStar a t r S = (a r S).bd fun x S1 => oc (getQ S1 x) (fun xs => (t r S1).bd fun ys S2 => .ok (xs ++ ys) S2) .stuck := by
  unfold mStar
  rw [bind_ev]
  refine bd_ext fun x S1 => ?_
  rw [bind_ev]
  cases getQ S1 x with
  | none => rfl
  | some xs =>
    show (t >>= _) r S1 = _
    rw [bind_ev]
    rfl
@[simp] theorem mTup_ev (t : M (List W)) : mTup t r S = (t r S).bd fun xs S1 => bc (decide (xs.length ≤ 16000000)) (.ok (.tup xs) S1) .stuck := by
  simp only [mTup, bind_ev]
  cases t r S with
  | ok xs S1 =>
    simp only [bd_ok]
    by_cases h : xs.length ≤ 16000000
    · rw [if_pos h, decide_eq_true h]
      rfl
    · rw [if_neg h, decide_eq_false h]
      rfl
  | exc c ws S1 => rfl
  | stuck => rfl
@[simp] theorem mLst_ev (t : M (List W)) : mLst t r S = (t r S).bd fun xs S1 => bc (decide (xs.length ≤ 16000000)) (.ok (.lst xs) S1) .stuck := by
  simp only [mLst, bind_ev]
  cases t r S with
  | ok xs S1 =>
    simp only [bd_ok]
    by_cases h : xs.length ≤ 16000000
    · rw [if_pos h, decide_eq_true h]
      rfl
    · rw [if_neg h, decide_eq_false h]
      rfl
  | exc c ws S1 => rfl
  | stuck => rfl
@[simp] theorem mLstC_ev (t : M (List W)) : mLstC t r S = (t r S).bd fun xs S1 => bc (decide (xs.length ≤ 16000000)) (.ok (.loc S1.length) (S1 ++ [.lst xs])) .stuck := by
  simp only [mLstC, bind_ev]
  cases t r S with
  | ok xs S1 =>
    simp only [bd_ok]
    by_cases h : xs.length ≤ 16000000
    · rw [if_pos h, decide_eq_true h]
      rfl
    · rw [if_neg h, decide_eq_false h]
      rfl
  | exc c ws S1 => rfl
  | stuck => rfl
def asO (w : W) (k : Option Int → Sto → Res α) (S : Sto) (d : Dm k := .mk) : Res α := match w with
  | .int i => k (some i) S
  | _ => .stuck
@[simp] theorem asO_int (i : Int) (k : Option Int → Sto → Res α) : asO (.int i) k S = k (some i) S := rfl
@[simp] theorem mPart_ev (m : M W) : mPart m r S = (m r S).bd fun w S1 => asO w .ok S1 := by
  simp only [mPart, bind_ev]
  cases m r S with
  | ok w S1 => cases w <;> rfl
  | exc c ws S1 => rfl
  | stuck => rfl
@[simp] theorem mNoPart_ev : mNoPart r S = .ok none S := rfl
@[simp] theorem mCut_ev (m : M W) (lo hi : M (Option Int)) : mCut m lo hi r S = (m r S).bd fun x S1 => (lo r S1).bd fun l S2 => (hi r S2).bd fun u S3 => opCut l u x S3 := by
  unfold mCut
  rw [bind_ev]
  refine bd_ext fun x S1 => ?_
  rw [bind_ev]
  exact bd_ext fun l S2 => by rw [bind_ev]
/-- the field f of w -/
def fld (c : Cl) (f : Fl) (w : W) (S : Sto) : Res W := oc (getO c S w) (fun xs => oc (fix c f) (fun i => oc (xs[i]?) (fun x => .ok x S) .stuck) .stuck) .stuck
@[simp] theorem mFld_ev (c : Cl) (f : Fl) (m : M W) : mFld c f m r S = (m r S).bd fun w S1 => fld c f w S1 := by
  simp only [mFld, bind_ev]
  cases m r S with
  | ok w S1 =>
    simp only [bd_ok, fld]
    cases getO c S1 w with
    | none => rfl
    | some xs =>
      cases fix c f with
      | none => rfl
      | some i =>
        simp only [oc_some]
        cases xs[i]? <;> rfl
  | exc c ws S1 => rfl
  | stuck => rfl
@[simp] theorem mCall_ev (g : FnM) (t : M (List W)) : mCall g t r S = (t r S).bd fun ws S1 => g ws S1 := by simp [mCall]
@[simp] theorem mMeth_ev (c : Cl) (g : FnM) (o : M W) (t : M (List W)) : mMeth c g o t r S = (o r S).bd fun w S1 => oc (getO c S1 w) (fun _ => (t r S1).bd fun ws S2 => g (w :: ws) S2) .stuck := by
  unfold mMeth
  rw [bind_ev]
  refine bd_ext fun w S1 => ?_
  rw [bind_ev]
  cases getO c S1 w with
  | none => rfl
  | some xs =>
    show (t >>= _) r S1 = _
    rw [bind_ev]
    rfl
@[simp] theorem mProp_ev (c : Cl) (g : FnM) (o : M W) : mProp c g o r S = (o r S).bd fun w S1 => oc (getO c S1 w) (fun _ => noX (g [w] S1)) .stuck := by
  simp only [mProp, bind_ev]
  cases o r S with
  | ok w S1 =>
    simp only [bd_ok]
    cases getO c S1 w <;> rfl
  | exc c ws S1 => rfl
  | stuck => rfl
@[simp] theorem mFr_ev (m : M W) : mFr m r S = frR S (m r S) := rfl
@[simp] theorem mBm_ev (T : String) (fm : FnM) (o : M W) (t : M (List W)) : mBm T fm o t r S = (o r S).bd fun w S1 => bc (recvOk T S1 w) ((t r S1).bd fun ws S2 => fm (w :: ws) S2) .stuck := by
  unfold mBm
  rw [bind_ev]
  refine bd_ext fun w S1 => ?_
  rw [bind_ev]
  cases recvOk T S1 w with
  | false => rfl
  | true =>
    show (t >>= _) r S1 = _
    rw [bind_ev]
    rfl
def asI (w : W) (k : Int → Sto → Res α) (S : Sto) (d : Dm k := .mk) : Res α := match w with
  | .int i => k i S
  | _ => .stuck
@[simp] theorem asI_int (i : Int) (k : Int → Sto → Res α) : asI (.int i) k S = k i S := rfl
@[simp] theorem mNeg_ev (m : M W) : mNeg m r S = (m r S).bd fun w S1 => asI w (fun i S1 => .ok (.int (-i)) S1) S1 := by
  simp only [mNeg, bind_ev]
  cases m r S with
  | ok w S1 => cases w <;> rfl
  | exc c ws S1 => rfl
  | stuck => rfl
@[simp] theorem mSortSet_ev (m : M W) : mSortSet m r S = (m r S).bd fun w S1 => oc (getIs S1 w) (fun ns => bc (decide (ns.length ≤ 1000 ∧ (sortS ns).length < 64)) (.ok (.lst ((sortS ns).map W.int)) S1) .stuck) .stuck := by
  simp only [mSortSet, bind_ev]
  cases m r S with
  | ok w S1 =>
    simp only [bd_ok]
    cases getIs S1 w with
    | none => rfl
    | some ns =>
      simp only [oc_some]
      by_cases h : ns.length ≤ 1000 ∧ (sortS ns).length < 64
      · rw [if_pos h, decide_eq_true h]
        rfl
      · rw [if_neg h, decide_eq_false h]
        rfl
  | exc c ws S1 => rfl
  | stuck => rfl
@[simp] theorem mDNewK_ev : mDNewK r S = .ok (.loc S.length) (S ++ [.dk [] []]) := rfl
@[simp] theorem mDNewT_ev : mDNewT r S = .ok (.loc S.length) (S ++ [.dt [] []]) := rfl
/-! ### statements -/
def Res.sq (x : Res Fw) (k : Rho → Sto → Res Fw) (d : Dm k := .mk) : Res Fw := match x with
  | .ok (.nx r) S => k r S
  | x => x
@[simp] theorem sq_nx (r : Rho) (k : Rho → Sto → Res Fw) : (Res.ok (.nx r) S).sq k = k r S := rfl
@[simp] theorem sq_rt (w : W) (k : Rho → Sto → Res Fw) : (Res.ok (.rt w) S).sq k = .ok (.rt w) S := rfl
@[simp] theorem sq_bk (r : Rho) (k : Rho → Sto → Res Fw) : (Res.ok (.bk r) S).sq k = .ok (.bk r) S := rfl
@[simp] theorem sq_ct (r : Rho) (k : Rho → Sto → Res Fw) : (Res.ok (.ct r) S).sq k = .ok (.ct r) S := rfl
@[simp] theorem sq_exc (c : Cl) (ws : List W) (k : Rho → Sto → Res Fw) : (Res.exc c ws S : Res Fw).sq k = .exc c ws S := rfl
@[simp] theorem sq_stuck (k : Rho → Sto → Res Fw) : (Res.stuck : Res Fw).sq k = .stuck := rfl
@[simp] theorem sSeq_ev (a b : MSt) : sSeq a b r S = (a r S).sq fun r' S' => b r' S' := by
  unfold sSeq
  cases a r S with
  | ok f S1 => cases f <;> rfl
  | exc c ws S1 => rfl
  | stuck => rfl
@[simp] theorem sNext_ev : sNext r S = .ok (.nx r) S := rfl
@[simp] theorem sSet_ev (i : Nat) (m : M W) : sSet i m r S = (m r S).bd fun w S1 => .ok (.nx (r.set i (some w))) S1 := by simp [sSet]
@[simp] theorem sExpr_ev (m : M W) : sExpr m r S = (m r S).bd fun _ S1 => .ok (.nx r) S1 := by simp [sExpr]
@[simp] theorem sRet_ev (m : M W) : sRet m r S = (m r S).bd fun w S1 => .ok (.rt w) S1 := by simp [sRet]
@[simp] theorem sRetN_ev : sRetN r S = .ok (.rt .non) S := rfl
@[simp] theorem sIf_ev (t : M Bool) (a b : MSt) : sIf t a b r S = (t r S).bd fun c S1 => bc c (a r S1) (b r S1) := mIf_ev _ _ _
@[simp] theorem sBreak_ev : sBreak r S = .ok (.bk r) S := rfl
@[simp] theorem sCont_ev : sCont r S = .ok (.ct r) S := rfl
@[simp] theorem sPar_ev (is : List Nat) (t : M (List W)) : sPar is t r S = (t r S).bd fun ws S1 => oc (setAll is ws r) (fun r1 => .ok (.nx r1) S1) .stuck := by
  simp only [sPar, bind_ev]
  cases t r S with
  | ok ws S1 =>
    simp only [bd_ok]
    cases setAll is ws r <;> rfl
  | exc c ws S1 => rfl
  | stuck => rfl
@[simp] theorem sTg_ev (T : Tg) (m : M W) : sTg T m r S = (m r S).bd fun w S1 => oc (T.run w r) (fun r1 => .ok (.nx r1) S1) .stuck := by
  simp only [sTg, bind_ev]
  cases m r S with
  | ok w S1 =>
    simp only [bd_ok]
    cases T.run w r <;> rfl
  | exc c ws S1 => rfl
  | stuck => rfl
@[simp] theorem run_n (i : Nat) (w : W) : (Tg.n i).run w r = some (r.set i (some w)) := rfl
@[simp] theorem run_t (is : List Nat) (ws : List W) : (Tg.t is).run (.tup ws) r = setAll is ws r := rfl
@[simp] theorem setAll_nil : setAll [] [] r = some r := rfl
@[simp] theorem setAll_cons (i : Nat) (is : List Nat) (w : W) (ws : List W) : setAll (i :: is) (w :: ws) r = setAll is ws (r.set i (some w)) := rfl
@[simp] theorem sAug_ev (i : Nat) (m : M W) : sAug i m r S = oc (r[i]?) (fun o => oc o (fun v => asI v (fun a S => (m r S).bd fun w S1 => asI w (fun b S1 => .ok (.nx (r.set i (some (.int (a + b))))) S1) S1) S) .stuck) .stuck := by
  unfold sAug
  cases r[i]? with
  | none => rfl
  | some o =>
    cases o with
    | none => rfl
    | some v =>
      cases v <;> first | rfl | skip
      simp only [oc_some, asI_int]
      cases m r S with
      | ok w S1 => cases w <;> rfl
      | exc c ws S1 => rfl
      | stuck => rfl
/-- a store's new state -/
def Res.st (x : Res Unit) (r : Rho) : Res Fw := match x with
  | .ok _ S => .ok (.nx r) S
  | _ => .stuck
@[simp] theorem st_ok (r : Rho) : (Res.ok () S : Res Unit).st r = .ok (.nx r) S := rfl
@[simp] theorem st_stuck (r : Rho) : (Res.stuck : Res Unit).st r = .stuck := rfl
@[simp] theorem sIxSet_ev (mo mi m : M W) : sIxSet mo mi m r S = (m r S).bd fun x S1 => (mo r S1).bd fun a S2 => (mi r S2).bd fun b S3 => (opSetL a b x S3).st r := by
  simp only [sIxSet, bind_ev]
  rfl
@[simp] theorem sFldSet_ev (c : Cl) (f : Fl) (mo m : M W) : sFldSet c f mo m r S = (m r S).bd fun x S1 => (mo r S1).bd fun a S2 => (setO c f a x S2).st r := by
  simp only [sFldSet, bind_ev]
  rfl
@[simp] theorem sDPutM_ev (md mi m : M W) : sDPutM md mi m r S = (m r S).bd fun x S1 => (md r S1).bd fun a S2 => (mi r S2).bd fun b S3 => (opDPut a b x S3).st r := by
  simp only [sDPutM, bind_ev]
  rfl
@[simp] theorem sFor_ev (T : Tg) (mi : M (List W)) (b : MSt) : sFor T mi b r S = (mi r S).bd fun xs S1 => sForL T b xs r S1 := by simp [sFor]
@[simp] theorem iL_ev (m : M W) : iL m r S = (m r S).bd fun w S1 => itL w S1 := by simp [iL]
@[simp] theorem iT_ev (m : M W) : iT m r S = (m r S).bd fun w S1 => itT w S1 := by simp [iT]
@[simp] theorem iE_ev (m : M W) : iE m r S = (m r S).bd fun w S1 => itE w S1 := by simp [iE]
@[simp] theorem iET_ev (m : M W) : iET m r S = (m r S).bd fun w S1 => itET w S1 := by simp [iET]
@[simp] theorem iR1_ev (m : M (List W)) : iR1 m r S = (m r S).bd fun ws S1 => itR1 ws S1 := by simp [iR1]
@[simp] theorem iR2_ev (m : M (List W)) : iR2 m r S = (m r S).bd fun ws S1 => itR2 ws S1 := by simp [iR2]
@[simp] theorem iR3_ev (m : M (List W)) : iR3 m r S = (m r S).bd fun ws S1 => itR3 ws S1 := by simp [iR3]
@[simp] theorem itL_lst (xs : List W) : itL (.lst xs) S = .ok xs S := rfl
@[simp] theorem itL_scr (ns : List Int) : itL (.scr ns) S = .ok (ns.map W.int) S := rfl
@[simp] theorem itT_tup (xs : List W) : itT (.tup xs) S = .ok xs S := rfl
@[simp] theorem itE_lst (xs : List W) : itE (.lst xs) S = .ok (enumW xs) S := rfl
@[simp] theorem itET_tup (xs : List W) : itET (.tup xs) S = .ok (enumW xs) S := rfl
end
end SL

set_option Elab.async false
set_option linter.all false
set_option maxRecDepth 100000
set_option maxHeartbeats 2000000
/-! values: what the operators, the built-in functions, the stores do with them -/
namespace SL
open PySem PySem.Spec PyProof.Rows L2
section
variable {S T : Sto} {i j : Int} {α : Type}
@[simp] theorem fix_Trip_start : fix .Trip .start = some 0 := rfl
@[simp] theorem fix_Trip_source : fix .Trip .source = some 1 := rfl
@[simp] theorem fix_Trip_target : fix .Trip .target = some 2 := rfl
@[simp] theorem fix_Trip_pace : fix .Trip .pace = some 3 := rfl
@[simp] theorem fix_Trip_habit : fix .Trip .habit = some 4 := rfl
@[simp] theorem fix_Stairs_top : fix .Stairs .top = some 0 := rfl
@[simp] theorem fix_Stairs_length : fix .Stairs .length = some 1 := rfl
@[simp] theorem fix_Stairs_time : fix .Stairs .time = some 2 := rfl
@[simp] theorem fix_Stairs_trips : fix .Stairs .trips = some 3 := rfl
@[simp] theorem fix_Scene_burning : fix .Scene .burning = some 0 := rfl
@[simp] theorem fix_Scene_presses : fix .Scene .presses = some 1 := rfl
@[simp] theorem fix_Scene_dark : fix .Scene .dark = some 2 := rfl
@[simp] theorem fix_Story_scenes : fix .Story .scenes = some 0 := rfl
@[simp] theorem fix_Story_start : fix .Story .start = some 1 := rfl
@[simp] theorem fix_Reader_code : fix .Reader .code = some 0 := rfl
@[simp] theorem fix_Reader_place : fix .Reader .place = some 1 := rfl
@[simp] theorem fix_Electrician_stories : fix .Electrician .stories = some 0 := rfl
@[simp] theorem fix_Electrician_facts : fix .Electrician .facts = some 1 := rfl
@[simp] theorem fix_Panel_now : fix .Panel .now = some 0 := rfl
@[simp] theorem fix_Panel_past : fix .Panel .past = some 1 := rfl
@[simp] theorem fix_Panel_undone : fix .Panel .undone = some 2 := rfl
@[simp] theorem fix_Panel_saved : fix .Panel .saved = some 3 := rfl
@[simp] theorem fix_Trial_panel : fix .Trial .panel = some 0 := rfl
@[simp] theorem fix_Trial_now : fix .Trial .now = some 1 := rfl
@[simp] theorem fix_Trial_past : fix .Trial .past = some 2 := rfl
@[simp] theorem fix_Trial_undone : fix .Trial .undone = some 3 := rfl
@[simp] theorem fix_Trial_isKept : fix .Trial .isKept = some 4 := rfl

theorem ite_bc (p : Prop) [Decidable p] (x y : α) : (if p then x else y) = bc (decide p) x y := by
  by_cases h : p
  · rw [if_pos h, decide_eq_true h]
    rfl
  · rw [if_neg h, decide_eq_false h]
    rfl
/-! ### places of a list -/
@[simp] theorem atI_nat {xs : List α} (k : Nat) : atI xs (k : Int) = xs[k]? := by
  unfold atI ixN
  rw [if_pos (Int.natCast_nonneg k)]
  by_cases h : k < xs.length
  · rw [if_pos (Int.ofNat_lt.mpr h)]
    rfl
  · rw [if_neg (fun z => h (Int.ofNat_lt.mp z))]
    rw [List.getElem?_eq_none (by omega)]
    rfl
@[simp] theorem atI_lit {xs : List α} (n : Nat) : atI xs (OfNat.ofNat n : Int) = xs[n]? := atI_nat n
@[simp] theorem atI_zero {xs : List α} : atI xs (0 : Int) = xs[0]? := atI_nat 0
@[simp] theorem atI_one {xs : List α} : atI xs (1 : Int) = xs[1]? := atI_nat 1
theorem atI_last {xs : List α} {x : α} : atI (xs ++ [x]) (-1) = some x := by
  unfold atI ixN
  have e0 : (xs ++ [x]).length = xs.length + 1 := by simp
  rw [e0, if_neg (by omega), if_pos (by omega)]
  have e : ((xs.length + 1 : Nat) + (-1) : Int).toNat = xs.length := by omega
  have e2 : ((-1) + (xs.length + 1 : Nat) : Int).toNat = xs.length := by omega
  first | rw [e] | rw [e2]
  show (xs ++ [x])[xs.length]? = some x
  simp
theorem ixN_nat {n k : Nat} (h : k < n) : ixN n (k : Int) = some k := by
  unfold ixN
  rw [if_pos (Int.natCast_nonneg k), if_pos (Int.ofNat_lt.mpr h)]
  rfl
/-! ### the store -/
@[simp] theorem at_app0 {c : Ce} : (S ++ c :: T)[S.length]? = some c := by
  rw [List.getElem?_append_right (Nat.le_refl _), Nat.sub_self]
  rfl
@[simp] theorem at_app (k : Nat) : (S ++ T)[S.length + k]? = T[k]? := by
  rw [List.getElem?_append_right (Nat.le_add_right _ _), Nat.add_sub_cancel_left]
@[simp] theorem set_app0 {c d : Ce} : (S ++ c :: T).set S.length d = S ++ d :: T := by
  rw [List.set_append_right _ _ (Nat.le_refl _), Nat.sub_self]
  rfl
@[simp] theorem set_app (k : Nat) {d : Ce} : (S ++ T).set (S.length + k) d = S ++ T.set k d := by
  rw [List.set_append_right _ _ (Nat.le_add_right _ _), Nat.add_sub_cancel_left]
/-! ### operators -/
@[simp] theorem opAdd_int : opAdd (.int i) (.int j) S = .ok (.int (i + j)) S := rfl
@[simp] theorem opSub_int : opSub (.int i) (.int j) S = .ok (.int (i - j)) S := rfl
def mulOk (i j : Int) : Bool := decide ((-(2 ^ 64) < i ∧ i < 2 ^ 64) ∨ (-(2 ^ 64) < j ∧ j < 2 ^ 64))
@[simp] theorem opMul_int : opMul (.int i) (.int j) S = bc (mulOk i j) (.ok (.int (i * j)) S) .stuck := ite_bc _ _ _
theorem mulOk_r (h : -(2 ^ 64) < j) (h2 : j < 2 ^ 64) : mulOk i j = true := decide_eq_true (.inr ⟨h, h2⟩)
theorem mulOk_l (h : -(2 ^ 64) < i) (h2 : i < 2 ^ 64) : mulOk i j = true := decide_eq_true (.inl ⟨h, h2⟩)
@[simp] theorem opFDiv_int : opFDiv (.int i) (.int j) S = bc (decide (0 < j ∧ j < 1073741824)) (.ok (.int (i / j)) S) .stuck := ite_bc _ _ _
@[simp] theorem opMod_int : opMod (.int i) (.int j) S = bc (decide (0 < j)) (.ok (.int (i % j)) S) .stuck := ite_bc _ _ _
@[simp] theorem opPow_int : opPow (.int i) (.int j) S = bc (decide (0 ≤ j ∧ j ≤ 1000000 ∧ i.natAbs < 2 ^ 64)) (.ok (.int (i ^ j.toNat)) S) .stuck := ite_bc _ _ _
@[simp] theorem opLt_int : opLt (.int i) (.int j) S = .ok (.bl (decide (i < j))) S := rfl
@[simp] theorem opLe_int : opLe (.int i) (.int j) S = .ok (.bl (decide (i ≤ j))) S := rfl
@[simp] theorem opGt_int : opGt (.int i) (.int j) S = .ok (.bl (decide (j < i))) S := rfl
@[simp] theorem opGe_int : opGe (.int i) (.int j) S = .ok (.bl (decide (j ≤ i))) S := rfl
theorem opEq_ok {a b : W} {d e : PyData} (ha : dat (seeL S a) = some d) (hb : dat (seeL S b) = some e) (h : SeqAt.shaped d = true) (h2 : SeqAt.shaped e = true) : opEq a b S = .ok (.bl (PyData.eqv d e)) S := by
  unfold opEq
  rw [ha, hb]
  dsimp only
  rw [if_pos (by rw [h, h2]; rfl)]
theorem opNe_ok {a b : W} {d e : PyData} (ha : dat (seeL S a) = some d) (hb : dat (seeL S b) = some e) (h : SeqAt.shaped d = true) (h2 : SeqAt.shaped e = true) : opNe a b S = .ok (.bl (!PyData.eqv d e)) S := by
  unfold opNe
  rw [ha, hb]
  dsimp only
  rw [if_pos (by rw [h, h2]; rfl)]
theorem shaped_int : SeqAt.shaped (.int i) = true := rfl
theorem shaped_bl {x : Bool} : SeqAt.shaped (.bool x) = true := rfl
theorem shaped_str {x : Str} (h : PyData.canLay0 (.str x) = true) : SeqAt.shaped (.str x) = true := by
  unfold SeqAt.shaped
  rw [h]
  rfl
@[simp] theorem opEq_int : opEq (.int i) (.int j) S = .ok (.bl (decide (i = j))) S := (opEq_ok rfl rfl shaped_int shaped_int).trans rfl
@[simp] theorem opNe_int : opNe (.int i) (.int j) S = .ok (.bl (!decide (i = j))) S := (opNe_ok rfl rfl shaped_int shaped_int).trans rfl
theorem opEq_str {x y : Str} (h : PyData.canLay0 (.str x) = true) (h2 : PyData.canLay0 (.str y) = true) : opEq (.str x) (.str y) S = .ok (.bl (decide (x = y))) S := by
  rw [opEq_ok (d := .str x) (e := .str y) rfl rfl (shaped_str h) (shaped_str h2)]
  show Res.ok (W.bl (x == y)) S = _
  rw [Bool.beq_eq_decide_eq]
@[simp] theorem opEq_bl {x y : Bool} : opEq (.bl x) (.bl y) S = .ok (.bl (x == y)) S := (opEq_ok rfl rfl shaped_bl shaped_bl).trans rfl
@[simp] theorem opNe_bl {x y : Bool} : opNe (.bl x) (.bl y) S = .ok (.bl (!(x == y))) S := (opNe_ok rfl rfl shaped_bl shaped_bl).trans rfl
@[simp] theorem opIsN_ev {w : W} : opIsN w .non S = .ok (.bl (isNon w)) S := rfl
@[simp] theorem opNotN_ev {w : W} : opNotN w .non S = .ok (.bl (!isNon w)) S := rfl
@[simp] theorem isNon_non : isNon .non = true := rfl
@[simp] theorem isNon_int : isNon (.int i) = false := rfl
@[simp] theorem isNon_tup {xs : List W} : isNon (.tup xs) = false := rfl
@[simp] theorem isNon_str {x : Str} : isNon (.str x) = false := rfl
@[simp] theorem isNon_bl {x : Bool} : isNon (.bl x) = false := rfl
@[simp] theorem isNon_lst {xs : List W} : isNon (.lst xs) = false := rfl
@[simp] theorem isNon_loc {n : Nat} : isNon (.loc n) = false := rfl
/-- w != [] -/
theorem opNe_nil {w : W} {xs : List W} {ds : List PyData} (h : getL S w = some xs) (hd : dats xs = some ds) (hs : SeqAt.shaped (.list ds) = true) : opNe w (.lst []) S = .ok (.bl (!xs.isEmpty)) S := by
  have e : dat (seeL S w) = some (.list ds) := by
    cases w with
    | lst ys =>
      cases (show some ys = some xs from h)
      simp [seeL, dat, hd]
    | loc n =>
      have h' : (match S[n]? with
        | some (.lst xs) => some xs
        | _ => none) = some xs := h
      unfold seeL
      dsimp only
      cases q : S[n]? with
      | none => simp [q] at h'
      | some c =>
        rw [q] at h'
        cases c with
        | lst ys =>
          cases h'
          simp [dat, hd]
        | _ => cases h'
    | _ => cases h
  unfold opNe
  rw [e]
  have e2 : dat (seeL S (.lst [])) = some (.list []) := by simp [seeL, dat, dats]
  rw [e2]
  dsimp only
  rw [if_pos (by rw [hs]; decide +kernel)]
  cases xs with
  | nil =>
    cases hd
    rfl
  | cons x xs =>
    unfold dats at hd
    cases q1 : dat x with
    | none => simp [q1] at hd
    | some d =>
      cases q2 : dats xs with
      | none => simp [q1, q2] at hd
      | some ds2 =>
        simp [q1, q2] at hd
        subst hd
        rfl
@[simp] theorem opIx_tup {xs : List W} : opIx (.tup xs) (.int i) S = oc (atI xs i) (fun w => .ok w S) .stuck := by
  show (match atI xs i with | some w => Res.ok w S | none => .stuck) = _
  cases atI xs i <;> rfl
@[simp] theorem opIx_lst {xs : List W} : opIx (.lst xs) (.int i) S = oc (atI xs i) (fun w => .ok w S) .stuck := by
  show (match atI xs i with | some w => Res.ok w S | none => .stuck) = _
  cases atI xs i <;> rfl
@[simp] theorem getL_lst {xs : List W} : getL S (.lst xs) = some xs := rfl
@[simp] theorem getQ_lst {xs : List W} : getQ S (.lst xs) = some xs := rfl
@[simp] theorem getQ_tup {xs : List W} : getQ S (.tup xs) = some xs := rfl
@[simp] theorem getQ_ktup {xs : List W} : getQ S (.ktup xs) = some xs := rfl
theorem getL_at {n : Nat} {xs : List W} (h : S[n]? = some (.lst xs)) : getL S (.loc n) = some xs := by
  show (match S[n]? with | some (.lst xs) => some xs | _ => none) = _
  rw [h]
theorem getQ_at {n : Nat} {xs : List W} (h : S[n]? = some (.lst xs)) : getQ S (.loc n) = some xs := getL_at h
theorem cellL_at {n : Nat} {xs : List W} (h : S[n]? = some (.lst xs)) : cellL S (.loc n) = some (n, xs) := by
  show (match S[n]? with | some (.lst xs) => some (n, xs) | _ => none) = _
  rw [h]
theorem recv_at {n : Nat} {xs : List W} (h : S[n]? = some (.lst xs)) : recvOk "list" S (.loc n) = true := by
  unfold recvOk
  dsimp only
  rw [h]
  rfl
@[simp] theorem recv_lst {xs : List W} : recvOk "list" S (.lst xs) = true := by
  unfold recvOk
  rfl
theorem opIx_at {n : Nat} {xs : List W} (h : S[n]? = some (.lst xs)) : opIx (.loc n) (.int i) S = oc (atI xs i) (fun w => .ok w S) .stuck := by
  show (match getQ S (.loc n) with | some xs => (match atI xs i with | some w => Res.ok w S | none => .stuck) | none => .stuck) = _
  rw [getQ_at h]
  dsimp only
  cases atI xs i <;> rfl
theorem opSetL_at {n k : Nat} {xs : List W} {x : W} (h : S[n]? = some (.lst xs)) (hk : k < xs.length) : opSetL (.loc n) (.int (k : Int)) x S = .ok () (S.set n (.lst (xs.set k x))) := by
  show (match cellL S (.loc n) with | some (n, xs) => (match ixN xs.length (k : Int) with | some j => Res.ok () (S.set n (.lst (xs.set j x))) | none => .stuck) | none => .stuck) = _
  rw [cellL_at h]
  dsimp only
  rw [ixN_nat hk]
@[simp] theorem getO_obj {c : Cl} {xs : List W} : getO c S (.obj c xs) = some xs := if_pos rfl
theorem getO_at {n : Nat} {c : Cl} {xs : List W} (h : S[n]? = some (.ins c xs)) : getO c S (.loc n) = some xs := by
  show (match S[n]? with | some (.ins d xs) => if d = c then some xs else none | _ => none) = _
  rw [h]
  exact if_pos rfl
theorem fld_obj {c : Cl} {f : Fl} {xs : List W} {k : Nat} {x : W} (h : fix c f = some k) (hx : xs[k]? = some x) : fld c f (.obj c xs) S = .ok x S := by
  unfold fld
  rw [getO_obj, oc_some, h, oc_some, hx]
  rfl
theorem fld_at {n : Nat} {c : Cl} {f : Fl} {xs : List W} {k : Nat} {x : W} (h : S[n]? = some (.ins c xs)) (hf : fix c f = some k) (hx : xs[k]? = some x) : fld c f (.loc n) S = .ok x S := by
  unfold fld
  rw [getO_at h, oc_some, hf, oc_some, hx]
  rfl
theorem setO_at {n : Nat} {c : Cl} {f : Fl} {xs : List W} {k : Nat} {x : W} (h : S[n]? = some (.ins c xs)) (hf : fix c f = some k) (hk : k ≤ xs.length) : setO c f (.loc n) x S = .ok () (S.set n (.ins c (if k < xs.length then xs.set k x else xs ++ [x]))) := by
  show (match S[n]?, fix c f with | some (.ins d xs), some i => if d = c ∧ i ≤ xs.length then Res.ok () (S.set n (.ins c (if i < xs.length then xs.set i x else xs ++ [x]))) else .stuck | _, _ => .stuck) = _
  rw [h, hf]
  exact if_pos ⟨rfl, hk⟩
/-! ### built-in functions -/
@[simp] theorem bLen_lst {xs : List W} : bLen [.lst xs] S = .ok (.int xs.length) S := rfl
@[simp] theorem bLen_tup {xs : List W} : bLen [.tup xs] S = .ok (.int xs.length) S := rfl
theorem bLen_at {n : Nat} {xs : List W} (h : S[n]? = some (.lst xs)) : bLen [.loc n] S = .ok (.int xs.length) S := by
  show (match getQ S (.loc n) with | some xs => Res.ok (W.int xs.length) S | none => .stuck) = _
  rw [getQ_at h]
@[simp] theorem bAbs_int : bAbs [.int i] S = .ok (.int (if i < 0 then -i else i)) S := rfl
@[simp] theorem bMax_int : bMax [.int i, .int j] S = .ok (.int (if j > i then j else i)) S := rfl
@[simp] theorem bMin_int : bMin [.int i, .int j] S = .ok (.int (if j < i then j else i)) S := rfl
@[simp] theorem bDivmod_int : bDivmod [.int i, .int j] S = bc (decide (0 < j ∧ j < 1073741824)) (.ok (.tup [.int (i / j), .int (i % j)]) S) .stuck := ite_bc _ _ _
@[simp] theorem bList_lst {xs : List W} : bList [.lst xs] S = .ok (.lst xs) S := rfl
@[simp] theorem bList_tup {xs : List W} : bList [.tup xs] S = .ok (.lst xs) S := rfl
@[simp] theorem bTuple_lst {xs : List W} : bTuple [.lst xs] S = .ok (.tup xs) S := rfl
@[simp] theorem bTuple_tup {xs : List W} : bTuple [.tup xs] S = .ok (.tup xs) S := rfl
@[simp] theorem bListC_lst {xs : List W} : bListC [.lst xs] S = .ok (.loc S.length) (S ++ [.lst xs]) := rfl
/-- isinstance's names -/
theorem bIsi_ev {w : W} {n t : String} (h : tyName S w = some t) (hn : n = "int" ∨ n = "str" ∨ n = "bool" ∨ n = "tuple" ∨ n = "list") : bIsi [w, .ty n] S = .ok (.bl (isiT t n)) S := by
  show (match tyName S w with | some t => if n = "int" ∨ n = "str" ∨ n = "bool" ∨ n = "tuple" ∨ n = "list" then Res.ok (W.bl (isiT t n)) S else .stuck | none => .stuck) = _
  rw [h]
  exact if_pos hn
theorem fAppend_at {n : Nat} {xs : List W} {x : W} (h : S[n]? = some (.lst xs)) (hl : xs.length < 16000000) : fAppend [.loc n, x] S = .ok .non (S.set n (.lst (xs ++ [x]))) := by
  show (match cellL S (.loc n) with | some (n, xs) => if xs.length < 16000000 then Res.ok W.non (S.set n (.lst (xs ++ [x]))) else .stuck | none => .stuck) = _
  rw [cellL_at h]
  exact if_pos hl
end
/-! ### values without changing objects -/
def nol : Nat → W → Bool
  | 0, _ => false
  | k + 1, w => match w with
    | .loc _ => false
    | .tup xs | .lst xs | .obj _ xs | .dct _ xs | .ktup xs => xs.all (nol k)
    | _ => true
theorem frzL_all {f : W → Option W} : ∀ {xs : List W}, (∀ x ∈ xs, f x = some x) → frzL f xs = some xs
  | [], _ => rfl
  | x :: xs, h => by
    unfold frzL
    rw [h x List.mem_cons_self, frzL_all fun y hy => h y (List.mem_cons_of_mem _ hy)]
theorem frz_nol {S : Sto} {n : Nat} : ∀ (k : Nat) (w : W), nol k w = true → frz k S n w = some w
  | 0, _, h => by cases h
  | k + 1, w, h => by
    have ih := frz_nol (S := S) (n := n) k
    cases w <;> unfold nol at h <;> unfold frz <;> dsimp only at h ⊢ <;> first | (cases h; done) | rfl | skip
    all_goals rw [frzL_all fun x hx => ih x (List.all_eq_true.mp h x hx)]; rfl
theorem clo_nol {n : Nat} : ∀ (k : Nat) (w : W), nol k w = true → clo n w = true
  | 0, _, h => by cases h
  | k + 1, w, h => by
    have ih := clo_nol (n := n) k
    have hs : ∀ xs : List W, xs.all (nol k) = true → clos n xs = true := fun xs => by
      induction xs with
      | nil => exact fun _ => rfl
      | cons x xs ihx =>
        intro h
        rw [List.all_cons, Bool.and_eq_true] at h
        unfold clos
        rw [ih x h.1, ihx h.2]
        rfl
    cases w <;> unfold nol at h <;> unfold clo <;> dsimp only at h ⊢ <;> first | (cases h; done) | rfl | exact hs _ h
theorem clos_nol {n : Nat} {k : Nat} : ∀ {xs : List W}, xs.all (nol k) = true → clos n xs = true
  | [], _ => rfl
  | x :: xs, h => by
    rw [List.all_cons, Bool.and_eq_true] at h
    unfold clos
    rw [clo_nol k x h.1, clos_nol h.2]
    rfl
theorem nol_succ : ∀ (k : Nat) (w : W), nol k w = true → nol (k + 1) w = true
  | 0, _, h => by cases h
  | k + 1, w, h => by
    have ih := nol_succ k
    cases w <;> unfold nol at h ⊢ <;> dsimp only at h ⊢ <;> first | (cases h; done) | rfl | exact List.all_eq_true.mpr fun x hx => ih x (List.all_eq_true.mp h x hx)
theorem nol_le {k j : Nat} {w : W} (h : nol k w = true) (hl : k ≤ j) : nol j w = true := by
  induction hl with
  | refl => exact h
  | step _ ih => exact nol_succ _ _ ih
theorem frz_locL {S : Sto} {n m k : Nat} {xs ys : List W} (h : S[m]? = some (.lst xs)) (hm : n ≤ m) (hx : frzL (frz k S n) xs = some ys) : frz (k + 1) S n (.loc m) = some (.lst ys) := by
  unfold frz
  dsimp only
  rw [if_neg (by omega), h]
  dsimp only
  rw [hx]
  rfl
theorem frz_locI {S : Sto} {n m k : Nat} {c : Cl} {xs ys : List W} (h : S[m]? = some (.ins c xs)) (hm : n ≤ m) (hx : frzL (frz k S n) xs = some ys) : frz (k + 1) S n (.loc m) = some (.obj c ys) := by
  unfold frz
  dsimp only
  rw [if_neg (by omega), h]
  dsimp only
  rw [hx]
  rfl
theorem frz_low {S : Sto} {n m k : Nat} (hm : m < n) : frz (k + 1) S n (.loc m) = some (.loc m) := by
  unfold frz
  dsimp only
  rw [if_pos hm]
theorem frz_obj {S : Sto} {n k : Nat} {c : Cl} {xs ys : List W} (hx : frzL (frz k S n) xs = some ys) : frz (k + 1) S n (.obj c xs) = some (.obj c ys) := by
  unfold frz
  dsimp only
  rw [hx]
  rfl
theorem frz_tup {S : Sto} {n k : Nat} {xs ys : List W} (hx : frzL (frz k S n) xs = some ys) : frz (k + 1) S n (.tup xs) = some (.tup ys) := by
  unfold frz
  dsimp only
  rw [hx]
  rfl
theorem frzL_cons {f : W → Option W} {x y : W} {xs ys : List W} (h : f x = some y) (t : frzL f xs = some ys) : frzL f (x :: xs) = some (y :: ys) := by
  unfold frzL
  rw [h, t]
theorem frzL_nil {f : W → Option W} : frzL f [] = some [] := rfl
theorem kept_app (S T : Sto) : Kept S (S ++ T) := ⟨by simp, fun n c h q => .inl (by rw [List.getElem?_append_left h] at q; exact q)⟩
theorem kept_refl (S : Sto) : Kept S S := ⟨Nat.le_refl _, fun n c h q => .inl q⟩
theorem kept_head {c d : Ce} {T U : Sto} (h : cloC (T.length + 1) d = true) : Kept (c :: T) (d :: (T ++ U)) := by
  refine ⟨by simp, fun n e hn q => ?_⟩
  cases n with
  | zero =>
    cases q
    exact .inr h
  | succ n =>
    refine .inl ?_
    have q2 : (T ++ U)[n]? = some e := q
    rw [List.getElem?_append_left (by simpa using hn)] at q2
    exact q2
theorem frR_ok {S S' : Sto} {w u : W} (hk : Kept S S') (h : frz 16 S' S.length w = some u) : frR S (.ok w S') = .ok u (S'.take S.length) := by
  dsimp only [frR]
  rw [if_pos hk, h]
theorem frR_app {S T : Sto} {w u : W} (h : frz 16 (S ++ T) S.length w = some u) : frR S (.ok w (S ++ T)) = .ok u S := by
  rw [frR_ok (kept_app S T) h, List.take_left]
theorem frR_same {S : Sto} {w u : W} (h : frz 16 S S.length w = some u) : frR S (.ok w S) = .ok u S := by
  rw [frR_ok (kept_refl S) h, List.take_length]
theorem frR_nol {S T : Sto} {w : W} (h : nol 16 w = true) : frR S (.ok w (S ++ T)) = .ok w S := frR_app (frz_nol 16 w h)
theorem frR_nols {S : Sto} {w : W} (h : nol 16 w = true) : frR S (.ok w S) = .ok w S := frR_same (frz_nol 16 w h)
theorem frR_head {c d : Ce} {T U : Sto} {w : W} (h : cloC (T.length + 1) d = true) (hw : nol 16 w = true) : frR (c :: T) (.ok w (d :: (T ++ U))) = .ok w (d :: T) := by
  rw [frR_ok (kept_head h) (frz_nol 16 w hw)]
  simp
@[simp] theorem frR_int {S : Sto} {i : Int} : frR S (.ok (.int i) S) = .ok (.int i) S := frR_nols rfl
@[simp] theorem frR_bl {S : Sto} {i : Bool} : frR S (.ok (.bl i) S) = .ok (.bl i) S := frR_nols rfl
@[simp] theorem frR_str {S : Sto} {i : Str} : frR S (.ok (.str i) S) = .ok (.str i) S := frR_nols rfl
@[simp] theorem frR_non {S : Sto} : frR S (.ok .non S) = .ok .non S := frR_nols rfl
@[simp] theorem noX_ok {S : Sto} {w : W} : noX (.ok w S) = .ok w S := rfl
@[simp] theorem endOf_rt {S : Sto} {w : W} : endOf (.ok (.rt w) S) = .ok w S := rfl
@[simp] theorem endOf_nx {S : Sto} {r : Rho} : endOf (.ok (.nx r) S) = .ok .non S := rfl
theorem fnM_ev {n k : Nat} {b : MSt} {ws : List W} {S : Sto} (h : ws.length = k) : fnM n k b ws S = endOf (b (ws.map some ++ List.replicate (n - k) none) S) := if_pos h
end SL
namespace SL
open PySem PySem.Spec PyProof.Rows L2
/-! ### loops, lists -/
theorem sForL_nx {T : Tg} {b : MSt} {x : W} {xs : List W} {r r1 r2 : Rho} {S S2 : Sto} (h : T.run x r = some r1) (hb : b r1 S = .ok (.nx r2) S2) : sForL T b (x :: xs) r S = sForL T b xs r2 S2 := by
  rw [sForL, h]
  dsimp only
  rw [hb]
theorem sForL_rt {T : Tg} {b : MSt} {x w : W} {xs : List W} {r r1 : Rho} {S S2 : Sto} (h : T.run x r = some r1) (hb : b r1 S = .ok (.rt w) S2) : sForL T b (x :: xs) r S = .ok (.rt w) S2 := by
  rw [sForL, h]
  dsimp only
  rw [hb]
@[simp] theorem sForL_nil {T : Tg} {b : MSt} {r : Rho} {S : Sto} : sForL T b [] r S = .ok (.nx r) S := rfl
def enumA (k : Nat) : List W → List W
  | [] => []
  | x :: xs => .tup [.int (k : Nat), x] :: enumA (k + 1) xs
theorem enumW_eq (ws : List W) : enumW ws = enumA 0 ws := by
  have h : ∀ (ws : List W) (k : Nat), (List.range' k ws.length).zipWith (fun (i : Nat) w => W.tup [.int (i : Int), w]) ws = enumA k ws := by
    intro ws
    induction ws with
    | nil => intro k; rfl
    | cons x xs ih =>
      intro k
      rw [List.length_cons, List.range'_succ, List.zipWith_cons_cons, ih (k + 1)]
      rfl
  unfold enumW
  rw [List.range_eq_range']
  exact h ws 0
theorem dats_ints : ∀ ns : List Int, dats (ns.map W.int) = some (ns.map PyData.int)
  | [] => rfl
  | n :: ns => by
    simp [dats, dat, dats_ints ns]
theorem shaped_ints (ns : List Int) : SeqAt.shaped (.list (ns.map PyData.int)) = true := by
  have h1 : ∀ ns : List Int, PyData.canLayAll0 (ns.map PyData.int) = true := fun ns => by
    induction ns with
    | nil => rfl
    | cons n ns ih =>
      show (true && PyData.canLayAll0 (ns.map PyData.int)) = true
      rw [ih]
      rfl
  have h2 : ∀ ns : List Int, PyData.depthAll (ns.map PyData.int) = 0 := fun ns => by
    induction ns with
    | nil => rfl
    | cons n ns ih =>
      show max 0 (PyData.depthAll (ns.map PyData.int)) = 0
      rw [ih]
      rfl
  show (PyData.canLayAll0 (ns.map PyData.int) && decide (PyData.depthAll (ns.map PyData.int) + 1 ≤ 64)) = true
  rw [h1, h2]
  rfl
theorem opNe_ints {S : Sto} {w : W} {ns : List Int} (h : getL S w = some (ns.map W.int)) : opNe w (.lst []) S = .ok (.bl (!ns.isEmpty)) S := by
  rw [opNe_nil h (dats_ints ns) (shaped_ints ns)]
  cases ns <;> rfl
end SL
namespace SL
open PySem PySem.Spec PyProof.Rows L2
/-! ### comprehensions whose elements change nothing -/
section
variable {α : Type} (i j : α → W) (g : α → Bool)
theorem lcGo_map {T : Tg} {tt : M Bool} {te : M W} {r : Rho} {S : Sto} : ∀ (as : List α) (acc : List W), (∀ a ∈ as, ∃ r1, T.run (i a) r = some r1 ∧ (∀ U, tt r1 U = .ok (g a) U) ∧ (g a = true → ∀ U, te r1 U = .ok (j a) U)) → acc.length + as.length ≤ 16000000 →
    lcGo T tt te S.length (as.map i) r (S ++ [.lst acc]) = .ok S.length (S ++ [.lst (acc ++ (as.filter g).map j)])
  | [], acc, _, _ => by simp [lcGo]
  | x :: xs, acc, h, hl => by
    simp only [List.length_cons] at hl
    obtain ⟨r1, h1, h2, h3⟩ := h x List.mem_cons_self
    have ih := fun acc => lcGo_map (S := S) xs acc fun y hy => h y (List.mem_cons_of_mem _ hy)
    rw [List.map_cons]
    unfold lcGo lcTurn
    rw [h1]
    dsimp only
    rw [h2]
    cases hg : g x with
    | false =>
      dsimp only
      rw [ih acc (by omega), List.filter_cons_of_neg (by simp [hg])]
    | true =>
      dsimp only
      rw [h3 hg]
      dsimp only
      rw [at_app0]
      dsimp only
      rw [if_pos (by omega), set_app0, ih (acc ++ [j x]) (by simp; omega), List.filter_cons_of_pos hg]
      simp
theorem mLc_if {vs : List Nat} {T : Tg} {mi : M (List W)} {tt : M Bool} {te : M W} {r : Rho} {S S1 : Sto} (as : List α) (hm : mi r S = .ok (as.map i) S1) (hv : T.slots.all vs.contains = true)
    (h : ∀ a ∈ as, ∃ r1, T.run (i a) (wipeR r vs) = some r1 ∧ (∀ U, tt r1 U = .ok (g a) U) ∧ (g a = true → ∀ U, te r1 U = .ok (j a) U)) (hn : ∀ a ∈ as, g a = true → nol 14 (j a) = true) (hl : as.length ≤ 16000000) :
    mLc vs T mi tt te r S = .ok (.lst ((as.filter g).map j)) S1 := by
  have e := lcGo_map i j g (S := S1) as [] h (by simpa using hl)
  have hc : clos S1.length ((as.filter g).map j) = true := clos_nol (k := 14) (List.all_eq_true.mpr fun y hy => by
    obtain ⟨x, hx, rfl⟩ := List.mem_map.mp hy
    obtain ⟨h1, h2⟩ := List.mem_filter.mp hx
    exact hn x h1 h2)
  unfold mLc
  rw [hm]
  dsimp only
  rw [if_pos hv, e]
  dsimp only
  rw [at_app0]
  dsimp only [List.nil_append]
  rw [if_pos ⟨by simp, hc, kept_app _ _⟩, List.take_left]
theorem mLc_map {vs : List Nat} {T : Tg} {mi : M (List W)} {te : M W} {r : Rho} {S S1 : Sto} (as : List α) (hm : mi r S = .ok (as.map i) S1) (hv : T.slots.all vs.contains = true)
    (h : ∀ a ∈ as, ∃ r1, T.run (i a) (wipeR r vs) = some r1 ∧ (∀ U, te r1 U = .ok (j a) U)) (hn : ∀ a ∈ as, nol 14 (j a) = true) (hl : as.length ≤ 16000000) : mLc vs T mi mYes te r S = .ok (.lst (as.map j)) S1 := by
  rw [mLc_if i j (fun _ => true) as hm hv (fun x hx => by
    obtain ⟨r1, h1, h2⟩ := h x hx
    exact ⟨r1, h1, fun _ => rfl, fun _ => h2⟩) (fun x hx _ => hn x hx) hl]
  rw [List.filter_eq_self.mpr (by simp)]
end
/-! ### dicts with keys of two whole numbers -/
abbrev Sn := List ((Int × Int) × Int)
def snK (s : Sn) : List (List Key) := s.map fun q => [Sum.inl q.1.1, Sum.inl q.1.2]
def snV (s : Sn) : List W := s.map fun q => W.int q.2
def snGet (s : Sn) (k : Int × Int) : Option Int := (s.find? fun q => decide (q.1 = k)).map (·.2)
theorem sn_val (k : Int × Int) : ∀ s : Sn, dVal (snK s) (snV s) [Sum.inl k.1, Sum.inl k.2] = (snGet s k).map W.int
  | [] => rfl
  | q :: s => by
    have ih := sn_val k s
    have e : decide (([Sum.inl q.1.1, Sum.inl q.1.2] : List Key) = [Sum.inl k.1, Sum.inl k.2]) = decide (q.1 = k) := decide_eq_decide.mpr ⟨fun h => by
      simp at h
      exact Prod.ext h.1 h.2, fun h => by rw [h]⟩
    unfold dVal snGet at ih ⊢
    simp only [snK, snV, List.map_cons, List.zip_cons_cons, List.find?_cons, e]
    cases decide (q.1 = k) with
    | true => rfl
    | false => exact ih
theorem sn_new {s : Sn} {k : Int × Int} (h : snGet s k = none) : dPutK (snK s) [Sum.inl k.1, Sum.inl k.2] = snK (s ++ [(k, i)]) ∧ ∀ w, dPutV (snK s) (snV s) [Sum.inl k.1, Sum.inl k.2] w = snV s ++ [w] := by
  have nm : ([Sum.inl k.1, Sum.inl k.2] : List Key) ∉ snK s := fun m => by
    obtain ⟨q, hq, e⟩ := List.mem_map.mp m
    simp at e
    unfold snGet at h
    rw [Option.map_eq_none_iff, List.find?_eq_none] at h
    exact h q hq (decide_eq_true (Prod.ext e.1 e.2))
  unfold dPutK dPutV
  rw [if_neg nm]
  exact ⟨by simp [snK], fun w => by rw [if_neg nm]⟩
section
variable {S : Sto} {n : Nat} {s : Sn} {a b i : Int}
theorem look_sn (h : S[n]? = some (.dt (snK s) (snV s))) : dLook S (.loc n) (.tup [.int a, .int b]) = some ((snGet s (a, b)).map W.int) := by
  unfold dLook
  dsimp only
  rw [h]
  dsimp only
  rw [show keysW [.int a, .int b] = some [Sum.inl a, Sum.inl b] from rfl]
  exact congrArg some (sn_val (a, b) s)
theorem din_sn (h : S[n]? = some (.dt (snK s) (snV s))) : opDIn (.tup [.int a, .int b]) (.loc n) S = .ok (.bl (snGet s (a, b)).isSome) S := by
  unfold opDIn
  rw [look_sn h]
  dsimp only
  rw [Option.isSome_map]
theorem dget_sn (h : S[n]? = some (.dt (snK s) (snV s))) (hg : snGet s (a, b) = some i) : opDGet (.loc n) (.tup [.int a, .int b]) S = .ok (.int i) S := by
  unfold opDGet
  rw [look_sn h, hg]
  rfl
theorem dput_sn (h : S[n]? = some (.dt (snK s) (snV s))) (hg : snGet s (a, b) = none) (hl : s.length < 16000000) : opDPut (.loc n) (.tup [.int a, .int b]) (.int i) S = .ok () (S.set n (.dt (snK (s ++ [((a, b), i)])) (snV (s ++ [((a, b), i)])))) := by
  unfold opDPut
  dsimp only
  rw [h]
  dsimp only
  rw [show keysW [.int a, .int b] = some [Sum.inl a, Sum.inl b] from rfl]
  dsimp only
  rw [if_pos (by simpa [snK] using hl), (sn_new (i := i) hg).1, (sn_new (i := i) hg).2]
  simp [snV]
end
end SL
namespace SL
open PySem PySem.Spec PyProof.Rows L2
/-! ### changing objects, looked up in the store -/
def cl : Option Ce → Option (List W)
  | some (.lst xs) => some xs
  | _ => none
def ci (c : Cl) : Option Ce → Option (List W)
  | some (.ins d xs) => if d = c then some xs else none
  | _ => none
section
variable {S : Sto} {n : Nat} {x : W} {i : Int}
@[simp] theorem cl_lst {xs : List W} : cl (some (.lst xs)) = some xs := rfl
@[simp] theorem ci_ins {c : Cl} {xs : List W} : ci c (some (.ins c xs)) = some xs := if_pos rfl
@[simp] theorem getL_loc : getL S (.loc n) = cl S[n]? := by
  show (match S[n]? with | some (.lst xs) => some xs | _ => none) = _
  cases S[n]? with
  | none => rfl
  | some c => cases c <;> rfl
@[simp] theorem getQ_loc : getQ S (.loc n) = cl S[n]? := getL_loc
@[simp] theorem recv_loc : recvOk "list" S (.loc n) = (match S[n]? with
    | some (.lst _) => true
    | some (.dk _ _) => decide ("list" = "dict")
    | some (.dt _ _) => decide ("list" = "dict")
    | _ => false) := by
  unfold recvOk
  dsimp only
  cases S[n]? with
  | none => rfl
  | some c => cases c <;> rfl
@[simp] theorem fAppend_loc : fAppend [.loc n, x] S = oc (cl S[n]?) (fun xs => bc (decide (xs.length < 16000000)) (.ok .non (S.set n (.lst (xs ++ [x])))) .stuck) .stuck := by
  unfold fAppend cellL
  dsimp only
  cases S[n]? with
  | none => rfl
  | some c =>
    cases c <;> first | rfl | skip
    exact ite_bc _ _ _
@[simp] theorem opIx_loc : opIx (.loc n) (.int i) S = oc (cl S[n]?) (fun xs => oc (atI xs i) (fun w => .ok w S) .stuck) .stuck := by
  show (match getQ S (.loc n) with | some xs => (match atI xs i with | some w => Res.ok w S | none => .stuck) | none => .stuck) = _
  rw [getQ_loc]
  cases cl S[n]? with
  | none => rfl
  | some xs =>
    rw [oc_some]
    dsimp only
    cases atI xs i <;> rfl
@[simp] theorem getO_loc {c : Cl} : getO c S (.loc n) = ci c S[n]? := by
  show (match S[n]? with | some (.ins d xs) => if d = c then some xs else none | _ => none) = _
  cases S[n]? with
  | none => rfl
  | some e => cases e <;> rfl
@[simp] theorem setO_loc {c : Cl} {f : Fl} : setO c f (.loc n) x S = oc (ci c S[n]?) (fun xs => oc (fix c f) (fun k => bc (decide (k ≤ xs.length)) (.ok () (S.set n (.ins c (if k < xs.length then xs.set k x else xs ++ [x])))) .stuck) .stuck) .stuck := by
  unfold setO
  dsimp only
  cases S[n]? with
  | none => rfl
  | some e =>
    cases e <;> first | rfl | skip
    rename_i d xs
    by_cases h : d = c
    · subst h
      rw [ci_ins, oc_some]
      cases fix d f with
      | none => rfl
      | some k =>
        dsimp only [oc_some]
        rw [ite_bc, show decide (d = d ∧ k ≤ xs.length) = decide (k ≤ xs.length) from decide_eq_decide.mpr ⟨fun z => z.2, fun z => ⟨rfl, z⟩⟩]
    · rw [show ci c (some (.ins d xs)) = none from if_neg h]
      cases fix c f with
      | none => rfl
      | some k =>
        dsimp only
        rw [if_neg (fun z => h z.1)]
        first | done | rfl
@[simp] theorem bLen_loc : bLen [.loc n] S = oc (cl S[n]?) (fun xs => .ok (.int xs.length) S) .stuck := by
  show (match getQ S (.loc n) with | some xs => Res.ok (W.int xs.length) S | none => .stuck) = _
  rw [getQ_loc]
  cases cl S[n]? <;> rfl
theorem fld_ev {c : Cl} {f : Fl} {w : W} : fld c f w S = oc (getO c S w) (fun xs => oc (fix c f) (fun k => oc (xs[k]?) (fun x => .ok x S) .stuck) .stuck) .stuck := rfl
@[simp] theorem opSetL_loc (k : Nat) : opSetL (.loc n) (.int (k : Int)) x S = oc (cl S[n]?) (fun xs => bc (decide (k < xs.length)) (.ok () (S.set n (.lst (xs.set k x)))) .stuck) .stuck := by
  unfold opSetL cellL
  dsimp only
  cases S[n]? with
  | none => rfl
  | some c =>
    cases c <;> first | rfl | skip
    rename_i xs
    dsimp only [cl_lst, oc_some]
    by_cases h : k < xs.length
    · rw [ixN_nat h, decide_eq_true h]
      rfl
    · have : ixN xs.length (k : Int) = none := by
        unfold ixN
        rw [if_pos (Int.natCast_nonneg k), if_neg (fun z => h (Int.ofNat_lt.mp z))]
      rw [this, decide_eq_false h]
      rfl
@[simp] theorem opSetL_zero : opSetL (.loc n) (.int 0) x S = oc (cl S[n]?) (fun xs => bc (decide (0 < xs.length)) (.ok () (S.set n (.lst (xs.set 0 x)))) .stuck) .stuck := opSetL_loc 0
@[simp] theorem opSetL_one : opSetL (.loc n) (.int 1) x S = oc (cl S[n]?) (fun xs => bc (decide (1 < xs.length)) (.ok () (S.set n (.lst (xs.set 1 x)))) .stuck) .stuck := opSetL_loc 1
end
end SL
namespace SL
open PySem PySem.Spec PyProof.Rows L2
section
variable {S : Sto} {i : Int}
@[simp] theorem getIs_ints {ns : List Int} : getIs S (.lst (ns.map W.int)) = some ns := by
  unfold getIs
  rw [getL_lst]
  exact intsOf_map ns
theorem bMax_ints {ns : List Int} {m : Int} (h : maxL ns = some m) : bMax [.lst (ns.map W.int)] S = .ok (.int m) S := by
  show (match getIs S (.lst (ns.map W.int)) with | some ns => (match maxL ns with | some m => Res.ok (W.int m) S | none => .stuck) | none => .stuck) = _
  rw [getIs_ints]
  dsimp only
  rw [h]
theorem opAdd_lst {xs ys : List W} (h : xs.length + ys.length ≤ 16000000) : opAdd (.lst xs) (.lst ys) S = .ok (.lst (xs ++ ys)) S := if_pos h
theorem opAddC_lst {xs ys : List W} (h : xs.length + ys.length ≤ 16000000) : opAddC (.lst xs) (.lst ys) S = .ok (.loc S.length) (S ++ [.lst (xs ++ ys)]) := if_pos h
end
end SL

set_option Elab.async false
set_option linter.all false
set_option maxRecDepth 100000
set_option maxHeartbeats 2000000
/-! what the program's defs do -/
namespace SL
open PySem PySem.Spec PyProof.Rows L2
structure Tr where
  start : Int
  source : Int
  target : Int
  pace : Int
  habit : Str
structure Pt where
  top : Int
  length : Int
  time : Int
  trips : List Tr
def wT (t : Tr) : W := .obj .Trip [.int t.start, .int t.source, .int t.target, .int t.pace, .str t.habit]
def wS (p : Pt) : W := .obj .Stairs [.int p.top, .int p.length, .int p.time, .lst (p.trips.map wT)]
def habitOk (h : Str) : Prop := h = "dark" ∨ h = "always" ∨ h = "never"
structure Tr.Ok (top length : Int) (t : Tr) : Prop where
  s0 : 0 ≤ t.start
  s1 : t.start < length
  a0 : 0 ≤ t.source
  a1 : t.source ≤ top
  b0 : 0 ≤ t.target
  b1 : t.target ≤ top
  ne : t.source ≠ t.target
  p0 : 1 ≤ t.pace
  p1 : t.pace ≤ 5
  hb : habitOk t.habit
structure Pt.Ok (p : Pt) : Prop where
  t0 : 1 ≤ p.top
  t1 : p.top ≤ 9
  l0 : 1 ≤ p.length
  l1 : p.length ≤ 48
  m0 : 1 ≤ p.time
  m1 : p.time ≤ 60
  n : p.trips.length ≤ 8
  ok : ∀ t ∈ p.trips, t.Ok p.top p.length
def Tr.dur (t : Tr) : Int := (if t.target - t.source < 0 then -(t.target - t.source) else t.target - t.source) * t.pace
theorem lit_dark : PyData.canLay0 (.str "dark") = true := by decide +kernel
theorem lit_always : PyData.canLay0 (.str "always") = true := by decide +kernel
theorem lit_never : PyData.canLay0 (.str "never") = true := by decide +kernel
theorem habit_lay {h : Str} (q : habitOk h) : PyData.canLay0 (.str h) = true := by
  rcases q with rfl | rfl | rfl
  · exact lit_dark
  · exact lit_always
  · exact lit_never
section
variable {p : Pt} {t : Tr} {top length : Int} {S : Sto}
@[simp] theorem fld_wT_start : fld .Trip .start (wT t) S = .ok (.int t.start) S := rfl
@[simp] theorem fld_wT_source : fld .Trip .source (wT t) S = .ok (.int t.source) S := rfl
@[simp] theorem fld_wT_target : fld .Trip .target (wT t) S = .ok (.int t.target) S := rfl
@[simp] theorem fld_wT_pace : fld .Trip .pace (wT t) S = .ok (.int t.pace) S := rfl
@[simp] theorem fld_wT_habit : fld .Trip .habit (wT t) S = .ok (.str t.habit) S := rfl
@[simp] theorem fld_wS_top : fld .Stairs .top (wS p) S = .ok (.int p.top) S := rfl
@[simp] theorem fld_wS_length : fld .Stairs .length (wS p) S = .ok (.int p.length) S := rfl
@[simp] theorem fld_wS_time : fld .Stairs .time (wS p) S = .ok (.int p.time) S := rfl
@[simp] theorem fld_wS_trips : fld .Stairs .trips (wS p) S = .ok (.lst (p.trips.map wT)) S := rfl
@[simp] theorem getO_wT : getO .Trip S (wT t) = some [.int t.start, .int t.source, .int t.target, .int t.pace, .str t.habit] := rfl
@[simp] theorem getO_wS : getO .Stairs S (wS p) = some [.int p.top, .int p.length, .int p.time, .lst (p.trips.map wT)] := rfl
theorem nol_wT : nol 2 (wT t) = true := rfl
theorem nol_wS : nol 4 (wS p) = true := by
  show ([W.int p.top, .int p.length, .int p.time, .lst (p.trips.map wT)].all (nol 3)) = true
  simp only [List.all_cons, List.all_nil, Bool.and_true]
  show (true && (true && (true && (p.trips.map wT).all (nol 2)))) = true
  simp [nol_wT]
theorem run_duration (ok : t.Ok top length) : m_Trip_duration [wT t] S = .ok (.int t.dur) S := by
  refine (fnM_ev rfl).trans ?_
  simp [b_Trip_duration, mulOk_r (j := t.pace) (by have := ok.p0; omega) (by have := ok.p1; omega)]
  rfl
/-! ### floor_at -/
def wO : Option Int → W
  | none => .non
  | some i => .int i
def Tr.fl (t : Tr) (age : Int) : Option Int := if age % t.pace > 0 then none else some (if t.target > t.source then t.source + age / t.pace else t.source - age / t.pace)
theorem run_floor (ok : t.Ok top length) (age : Int) : m_Trip_floor_at [wT t, .int age] S = .ok (wO (t.fl age)) (S ++ []) := by
  refine (fnM_ev rfl).trans ?_
  have h : decide (0 < t.pace ∧ t.pace < 1073741824) = true := decide_eq_true ⟨by have := ok.p0; omega, by have := ok.p1; omega⟩
  by_cases h1 : age % t.pace > 0
  · simp [b_Trip_floor_at, h, h1, Tr.fl, wO]
  · by_cases h2 : t.target > t.source
    · simp [b_Trip_floor_at, h, h1, h2, Tr.fl, wO]
    · simp [b_Trip_floor_at, h, h1, h2, Tr.fl, wO]
/-! ### ages -/
def agesN : Nat → Int → Int → Int → List Int
  | 0, _, _, _ => []
  | n + 1, a, lim, L => if a < lim then a :: agesN n (a + L) lim L else []
theorem agesN_len : ∀ (n : Nat) (a lim L : Int), (agesN n a lim L).length ≤ n
  | 0, _, _, _ => Nat.le_refl _
  | n + 1, a, lim, L => by
    unfold agesN
    split
    · exact Nat.succ_le_succ (agesN_len n _ _ _)
    · exact Nat.zero_le _
def Tr.lim (t : Tr) (tick : Int) : Int := if t.dur ≤ tick + 1 then t.dur else tick + 1
/-- the ages of a trip at a tick -/
def ages (p : Pt) (t : Tr) (tick : Int) : List Int := agesN 50 ((tick - t.start) % p.length) (t.lim tick) p.length
theorem dur_le (ok : t.Ok top length) (h : top ≤ 9) : t.dur ≤ 45 := by
  have h1 := ok.a0
  have h2 := ok.a1
  have h3 := ok.b0
  have h4 := ok.b1
  have h5 := ok.p0
  have h6 := ok.p1
  unfold Tr.dur
  have hd : (if t.target - t.source < 0 then -(t.target - t.source) else t.target - t.source) ≤ 9 := by split <;> omega
  have hd0 : 0 ≤ (if t.target - t.source < 0 then -(t.target - t.source) else t.target - t.source) := by split <;> omega
  calc _ ≤ 9 * t.pace := Int.mul_le_mul_of_nonneg_right hd (by omega)
    _ ≤ 45 := by omega
theorem ages_loop (ok : t.Ok top length) (pl : 1 ≤ p.length) (num tick : Int) : ∀ (n : Nat) (a : Int) (acc : List Int), t.lim tick - a ≤ n → acc.length + n < 1000 →
    ∃ a', sWhileN t_Stairs_ages_1 f_Stairs_ages_1 (n + 1) [some (wS p), some (.int num), some (.int tick), some (wT t), some (.int a), some (.loc S.length)] (S ++ [.lst (acc.map W.int)]) =
      .ok (.nx [some (wS p), some (.int num), some (.int tick), some (wT t), some (.int a'), some (.loc S.length)]) (S ++ [.lst ((acc ++ agesN n a (t.lim tick) p.length).map W.int)])
  | n, a, acc, h, hl => by
    have ht : ∀ S', t_Stairs_ages_1 [some (wS p), some (.int num), some (.int tick), some (wT t), some (.int a), some (.loc S.length)] S' = .ok (decide (a < t.lim tick)) S' := by
      intro S'
      have e : (decide (a < t.dur) && decide (a ≤ tick)) = decide (a < t.lim tick) := by
        rw [← Bool.decide_and]
        refine decide_eq_decide.mpr ?_
        unfold Tr.lim
        split <;> omega
      rw [← e]
      by_cases h1 : a < t.dur
      · simp [t_Stairs_ages_1, run_duration ok, h1]
      · simp [t_Stairs_ages_1, run_duration ok, h1]
    unfold sWhileN
    rw [ht]
    by_cases h1 : a < t.lim tick
    · rw [decide_eq_true h1]
      dsimp only
      cases n with
      | zero => omega
      | succ n =>
        have hb : f_Stairs_ages_1 [some (wS p), some (.int num), some (.int tick), some (wT t), some (.int a), some (.loc S.length)] (S ++ [.lst (acc.map W.int)]) =
            .ok (.nx [some (wS p), some (.int num), some (.int tick), some (wT t), some (.int (a + p.length)), some (.loc S.length)]) (S ++ [.lst ((acc ++ [a]).map W.int)]) := by
          simp [f_Stairs_ages_1, recv_at (S := S ++ [.lst (acc.map W.int)]) (n := S.length) (xs := acc.map W.int) at_app0, fAppend_at (S := S ++ [.lst (acc.map W.int)]) (n := S.length) (xs := acc.map W.int) at_app0 (by rw [List.length_map]; omega)]
        rw [hb]
        dsimp only
        obtain ⟨a', e⟩ := ages_loop ok pl num tick n (a + p.length) (acc ++ [a]) (by omega) (by simp; omega)
        refine ⟨a', ?_⟩
        rw [e, show agesN (n + 1) a (t.lim tick) p.length = a :: agesN n (a + p.length) (t.lim tick) p.length from if_pos h1]
        simp
    · rw [decide_eq_false h1]
      refine ⟨a, ?_⟩
      have e : agesN n a (t.lim tick) p.length = [] := by
        cases n with
        | zero => rfl
        | succ n => exact if_neg h1
      rw [e]
      simp
theorem nol_ints {ns : List Int} : nol 2 (.lst (ns.map W.int)) = true := by
  show (ns.map W.int).all (nol 1) = true
  rw [List.all_map]
  exact List.all_eq_true.mpr fun x _ => rfl
theorem frz_ints {S : Sto} {n : Nat} {ns : List Int} (k : Nat) : frzL (frz (k + 1) S n) (ns.map W.int) = some (ns.map W.int) := frzL_all fun x hx => by
  obtain ⟨i, _, rfl⟩ := List.mem_map.mp hx
  rfl
theorem run_ages (ok : t.Ok top length) (h9 : top ≤ 9) (pl : 1 ≤ p.length) (k : Nat) (hk : p.trips[k]? = some t) (tick : Int) :
    frR S (m_Stairs_ages [wS p, .int (k : Nat), .int tick] S) = .ok (.lst ((ages p t tick).map W.int)) S := by
  have h0 : 0 ≤ (tick - t.start) % p.length := Int.emod_nonneg _ (by omega)
  have hd := dur_le ok h9
  obtain ⟨a', e⟩ := ages_loop (S := S) (p := p) ok pl (k : Nat) tick 50 ((tick - t.start) % p.length) [] (by unfold Tr.lim; split <;> omega) (by simp)
  have hm : m_Stairs_ages [wS p, .int (k : Nat), .int tick] S = .ok (.loc S.length) (S ++ [.lst ((ages p t tick).map W.int)]) := by
    refine (fnM_ev rfl).trans ?_
    have e2 := sWhile_is e (by simp)
    simp only [List.map_nil, List.nil_append] at e2
    simp [b_Stairs_ages, hk, show decide (0 < p.length) = true from decide_eq_true (by omega), e2]
    rfl
  rw [hm]
  exact frR_app (frz_locL at_app0 (Nat.le_refl _) (frz_ints 14))
theorem run_floorF (ok : t.Ok top length) (age : Int) : frR S (m_Trip_floor_at [wT t, .int age] S) = .ok (wO (t.fl age)) S := by
  rw [run_floor ok]
  refine frR_nol ?_
  cases t.fl age <;> rfl
/-! ### next_scene -/
abbrev Prs := List (Int × Int)
def wPr (q : Int × Int) : W := .tup [.int q.1, .int q.2]
/-- does the walker press here -/
def Tr.press (t : Tr) (now : Int) : Bool := decide (t.habit = "always") || (decide (t.habit = "dark") && decide (now = 0))
def inner (time : Int) (t : Tr) (k : Int) : Int → Prs → List Int → Int × Prs
  | now, ps, [] => (now, ps)
  | now, ps, a :: as => match t.fl a with
    | none => inner time t k now ps as
    | some f => bif t.press now then inner time t k time (ps ++ [(k, f)]) as else inner time t k now ps as
theorem inner_len (time : Int) (t : Tr) (k : Int) : ∀ (as : List Int) (now : Int) (ps : Prs), (inner time t k now ps as).2.length ≤ ps.length + as.length
  | [], _, _ => Nat.le_refl _
  | a :: as, now, ps => by
    unfold inner
    cases t.fl a with
    | none =>
      have := inner_len time t k as now ps
      simp only [List.length_cons]
      omega
    | some f =>
      cases t.press now with
      | true =>
        have := inner_len time t k as time (ps ++ [(k, f)])
        simp only [cond_true, List.length_cons, List.length_append, List.length_nil] at this ⊢
        omega
      | false =>
        have := inner_len time t k as now ps
        simp only [cond_false, List.length_cons] at this ⊢
        omega
theorem inner_loop (ok : t.Ok top length) (l tk k : Int) (xs : W) (wk : List W) : ∀ (as : List Int) (now : Int) (ps : Prs) (x9 x10 : Option W), ps.length + as.length < 1000000 → ∃ y9 y10,
    sForL (.n 9) f_next_scene_1 (as.map W.int) [some (wS p), some (.int l), some (.int tk), some (.int now), some (.loc S.length), some (.loc (S.length + 1)), some (.int k), some (wT t), some xs, x9, x10] (S ++ [.lst (ps.map wPr), .lst wk]) =
      .ok (.nx [some (wS p), some (.int l), some (.int tk), some (.int (inner p.time t k now ps as).1), some (.loc S.length), some (.loc (S.length + 1)), some (.int k), some (wT t), some xs, y9, y10]) (S ++ [.lst ((inner p.time t k now ps as).2.map wPr), .lst wk])
  | [], now, ps, x9, x10, _ => ⟨x9, x10, rfl⟩
  | a :: as, now, ps, x9, x10, h => by
    simp only [List.length_cons] at h
    have hb : f_next_scene_1 [some (wS p), some (.int l), some (.int tk), some (.int now), some (.loc S.length), some (.loc (S.length + 1)), some (.int k), some (wT t), some xs, some (.int a), x10] (S ++ [.lst (ps.map wPr), .lst wk]) =
        .ok (.nx [some (wS p), some (.int l), some (.int tk), some (.int (inner p.time t k now ps [a]).1), some (.loc S.length), some (.loc (S.length + 1)), some (.int k), some (wT t), some xs, some (.int a), some (wO (t.fl a))]) (S ++ [.lst ((inner p.time t k now ps [a]).2.map wPr), .lst wk]) := by
      have e1 : ∀ S', frR S' (m_Trip_floor_at [wT t, .int a] S') = .ok (wO (t.fl a)) S' := fun S' => run_floorF ok a
      have e2 : ∀ (S' : Sto), opEq (.str t.habit) (.str "always") S' = .ok (.bl (decide (t.habit = "always"))) S' := fun S' => opEq_str (habit_lay ok.hb) lit_always
      have e3 : ∀ (S' : Sto), opEq (.str t.habit) (.str "dark") S' = .ok (.bl (decide (t.habit = "dark"))) S' := fun S' => opEq_str (habit_lay ok.hb) lit_dark
      have e4 := recv_at (S := S ++ [.lst (ps.map wPr), .lst wk]) (n := S.length) (xs := ps.map wPr) at_app0
      have e5 := fun x => fAppend_at (S := S ++ [.lst (ps.map wPr), .lst wk]) (n := S.length) (xs := ps.map wPr) (x := x) at_app0 (by rw [List.length_map]; omega)
      cases hf : t.fl a with
      | none => simp [f_next_scene_1, e1, hf, wO, inner]
      | some f =>
        cases h1 : decide (t.habit = "always") with
        | true => simp [f_next_scene_1, e1, e2, e3, e4, e5, hf, wO, inner, Tr.press, h1, wPr]
        | false =>
          cases h2 : decide (t.habit = "dark") with
          | false => simp [f_next_scene_1, e1, e2, e3, e4, e5, hf, wO, inner, Tr.press, h1, h2, wPr]
          | true =>
            cases h3 : decide (now = 0) with
            | true => simp [f_next_scene_1, e1, e2, e3, e4, e5, hf, wO, inner, Tr.press, h1, h2, h3, wPr]
            | false => simp [f_next_scene_1, e1, e2, e3, e4, e5, hf, wO, inner, Tr.press, h1, h2, h3, wPr]
    have e0 : inner p.time t k now ps (a :: as) = inner p.time t k (inner p.time t k now ps [a]).1 (inner p.time t k now ps [a]).2 as := by
      simp only [inner]
      cases t.fl a with
      | none => rfl
      | some f => cases t.press now <;> rfl
    have hl := inner_len p.time t k [a] now ps
    simp only [List.length_cons, List.length_nil] at hl
    obtain ⟨y9, y10, e⟩ := inner_loop ok l tk k xs wk as (inner p.time t k now ps [a]).1 (inner p.time t k now ps [a]).2 (some (.int a)) (some (wO (t.fl a))) (by omega)
    refine ⟨y9, y10, ?_⟩
    rw [List.map_cons, sForL_nx (r1 := _) rfl hb, e, e0]
def outer (p : Pt) (tick : Int) : Nat → List Tr → Int → Prs → List Int → Int × Prs × List Int
  | _, [], now, ps, wk => (now, ps, wk)
  | k, t :: ts, now, ps, wk => outer p tick (k + 1) ts (inner p.time t k now ps (ages p t tick)).1 (inner p.time t k now ps (ages p t tick)).2 (if (ages p t tick).isEmpty then wk else wk ++ [(k : Int)])
theorem outer_loop (ok : p.Ok) (l tk : Int) : ∀ (ts : List Tr) (k : Nat) (now : Int) (ps : Prs) (wk : List Int) (x6 x7 x8 x9 x10 : Option W), p.trips.drop k = ts → ps.length + 50 * ts.length < 1000000 → wk.length + ts.length < 1000000 → ∃ y6 y7 y8 y9 y10,
    sForL (.t [6, 7]) f_next_scene_2 (enumA k (ts.map wT)) [some (wS p), some (.int l), some (.int tk), some (.int now), some (.loc S.length), some (.loc (S.length + 1)), x6, x7, x8, x9, x10] (S ++ [.lst (ps.map wPr), .lst (wk.map W.int)]) =
      .ok (.nx [some (wS p), some (.int l), some (.int tk), some (.int (outer p tk k ts now ps wk).1), some (.loc S.length), some (.loc (S.length + 1)), y6, y7, y8, y9, y10]) (S ++ [.lst ((outer p tk k ts now ps wk).2.1.map wPr), .lst ((outer p tk k ts now ps wk).2.2.map W.int)])
  | [], k, now, ps, wk, x6, x7, x8, x9, x10, _, _, _ => ⟨x6, x7, x8, x9, x10, rfl⟩
  | t :: ts, k, now, ps, wk, x6, x7, x8, x9, x10, hd, hl, hl2 => by
    simp only [List.length_cons] at hl hl2
    have ht : p.trips[k]? = some t := by
      have := congrArg (fun l => l[0]?) hd
      simpa using this
    have hd2 : p.trips.drop (k + 1) = ts := by
      have := congrArg List.tail hd
      simpa using this
    have tok : t.Ok p.top p.length := ok.ok t (List.mem_of_getElem? ht)
    have al : (ages p t tk).length ≤ 50 := agesN_len _ _ _ _
    have e1 : ∀ S', frR S' (m_Stairs_ages [wS p, .int (k : Nat), .int tk] S') = .ok (.lst ((ages p t tk).map W.int)) S' := fun S' => run_ages tok ok.t1 ok.l0 k ht tk
    have e2 : ∀ S', opNe (.lst ((ages p t tk).map W.int)) (.lst []) S' = .ok (.bl (!(ages p t tk).isEmpty)) S' := fun S' => opNe_ints rfl
    have hb : ∃ y9 y10, f_next_scene_2 [some (wS p), some (.int l), some (.int tk), some (.int now), some (.loc S.length), some (.loc (S.length + 1)), some (.int (k : Nat)), some (wT t), x8, x9, x10] (S ++ [.lst (ps.map wPr), .lst (wk.map W.int)]) =
        .ok (.nx [some (wS p), some (.int l), some (.int tk), some (.int (inner p.time t k now ps (ages p t tk)).1), some (.loc S.length), some (.loc (S.length + 1)), some (.int (k : Nat)), some (wT t), some (.lst ((ages p t tk).map W.int)), y9, y10])
          (S ++ [.lst ((inner p.time t k now ps (ages p t tk)).2.map wPr), .lst ((if (ages p t tk).isEmpty then wk else wk ++ [(k : Int)]).map W.int)]) := by
      have e4 := recv_at (S := S ++ [.lst (ps.map wPr), .lst (wk.map W.int)]) (n := S.length + 1) (xs := wk.map W.int) (by simp)
      have e5 := fun x => fAppend_at (S := S ++ [.lst (ps.map wPr), .lst (wk.map W.int)]) (n := S.length + 1) (xs := wk.map W.int) (x := x) (by simp) (by rw [List.length_map]; omega)
      obtain ⟨y9, y10, e⟩ := inner_loop (p := p) (S := S) tok l tk k (.lst ((ages p t tk).map W.int)) ((if (ages p t tk).isEmpty then wk else wk ++ [(k : Int)]).map W.int) (ages p t tk) now ps x9 x10 (by omega)
      refine ⟨y9, y10, ?_⟩
      cases he : (ages p t tk).isEmpty with
      | true =>
        rw [he] at e
        simp only [if_true] at e
        simp [f_next_scene_2, e1, e2, he, e]
      | false =>
        rw [he] at e
        simp only [Bool.false_eq_true, if_false] at e
        simp only [List.map_append, List.map_cons, List.map_nil] at e
        simp [f_next_scene_2, e1, e2, e4, e5, he, e]
    obtain ⟨z9, z10, hb⟩ := hb
    have il := inner_len p.time t k (ages p t tk) now ps
    have wl : (if (ages p t tk).isEmpty then wk else wk ++ [(k : Int)]).length ≤ wk.length + 1 := by
      split <;> simp
    obtain ⟨y6, y7, y8, y9, y10, e⟩ := outer_loop ok l tk ts (k + 1) (inner p.time t k now ps (ages p t tk)).1 (inner p.time t k now ps (ages p t tk)).2 (if (ages p t tk).isEmpty then wk else wk ++ [(k : Int)]) (some (.int (k : Nat))) (some (wT t)) (some (.lst ((ages p t tk).map W.int))) z9 z10 hd2 (by omega) (by omega)
    refine ⟨y6, y7, y8, y9, y10, ?_⟩
    rw [List.map_cons]
    show sForL _ _ (.tup [.int (k : Nat), wT t] :: enumA (k + 1) (ts.map wT)) _ _ = _
    rw [sForL_nx (r1 := _) rfl hb, e]
    rfl
structure Sc where
  light : Int
  presses : Prs
  dark : List Int
def wSc (s : Sc) : W := .obj .Scene [.int s.light, .lst (s.presses.map wPr), .lst (s.dark.map W.int)]
def dim (light : Int) : Int := if 1 < light then light - 1 else 0
def scene (p : Pt) (light tick : Int) : Sc := ⟨(outer p tick 0 p.trips (dim light) [] []).1, (outer p tick 0 p.trips (dim light) [] []).2.1, if (outer p tick 0 p.trips (dim light) [] []).1 = 0 then (outer p tick 0 p.trips (dim light) [] []).2.2 else []⟩
theorem run_Scene (a b c : W) : m_Scene___init__ [.loc S.length, a, b, c] (S ++ [.ins .Scene []]) = .ok .non (S ++ [.ins .Scene [a, b, c]]) := by
  refine (fnM_ev rfl).trans ?_
  simp [b_Scene___init__, setO_at (S := S ++ [.ins .Scene []]) (n := S.length) at_app0 fix_Scene_burning (Nat.zero_le _), setO_at (S := S ++ [.ins .Scene [a]]) (n := S.length) at_app0 fix_Scene_presses (Nat.le_refl _), setO_at (S := S ++ [.ins .Scene [a, b]]) (n := S.length) at_app0 fix_Scene_dark (Nat.le_refl _)]
theorem new_Scene (a b c : W) : newR .Scene m_Scene___init__ [a, b, c] S = .ok (.loc S.length) (S ++ [.ins .Scene [a, b, c]]) := by
  unfold newR
  rw [run_Scene]
theorem frz_wPr {S : Sto} {n k : Nat} {ps : Prs} : frzL (frz (k + 2) S n) (ps.map wPr) = some (ps.map wPr) := frzL_all fun x hx => by
  obtain ⟨i, _, rfl⟩ := List.mem_map.mp hx
  exact frz_nol _ _ rfl
theorem run_scene (ok : p.Ok) (light tick : Int) : frR S (m_next_scene [wS p, .int light, .int tick] S) = .ok (wSc (scene p light tick)) S := by
  obtain ⟨y6, y7, y8, y9, y10, e⟩ := outer_loop (S := S) ok light tick p.trips 0 (dim light) [] [] none none none none none rfl (by have := ok.n; simp; omega) (by have := ok.n; simp; omega)
  have e' := e
  simp only [List.map_nil] at e'
  have key : m_next_scene [wS p, .int light, .int tick] S = .ok (.obj .Scene [.int (scene p light tick).light, .loc S.length, if (scene p light tick).light = 0 then .loc (S.length + 1) else .lst []])
      (S ++ [.lst ((scene p light tick).presses.map wPr), .lst ((outer p tick 0 p.trips (dim light) [] []).2.2.map W.int)]) := by
    refine (fnM_ev rfl).trans ?_
    have ed : (if 1 < light then light - 1 else 0) = dim light := rfl
    have e2 := enumW_eq (p.trips.map wT)
    have e3 := fun a b c => new_Scene (S := S ++ [.lst ((scene p light tick).presses.map wPr), .lst ((outer p tick 0 p.trips (dim light) [] []).2.2.map W.int)]) a b c
    have e4 : ∀ x : W, x = .loc (S.length + 1) ∨ x = .lst [] → frR (S ++ [.lst ((scene p light tick).presses.map wPr), .lst ((outer p tick 0 p.trips (dim light) [] []).2.2.map W.int)])
        (.ok (.loc (S ++ [.lst ((scene p light tick).presses.map wPr), .lst ((outer p tick 0 p.trips (dim light) [] []).2.2.map W.int)] : Sto).length) (S ++ [.lst ((scene p light tick).presses.map wPr), .lst ((outer p tick 0 p.trips (dim light) [] []).2.2.map W.int)] ++ [.ins .Scene [.int (scene p light tick).light, .loc S.length, x]])) =
        .ok (.obj .Scene [.int (scene p light tick).light, .loc S.length, x]) (S ++ [.lst ((scene p light tick).presses.map wPr), .lst ((outer p tick 0 p.trips (dim light) [] []).2.2.map W.int)]) := fun x hx => by
      refine frR_app (frz_locI at_app0 (Nat.le_refl _) (frzL_cons rfl (frzL_cons (frz_low (by simp)) (frzL_cons ?_ frzL_nil))))
      rcases hx with rfl | rfl
      · exact frz_low (by simp)
      · rfl
    by_cases h0 : (scene p light tick).light = 0
    · have e5 := e4 (.loc (S.length + 1)) (.inl rfl)
      rw [← e3] at e5
      rw [if_pos h0]
      have h1 : (outer p tick 0 p.trips (dim light) [] []).1 = 0 := h0
      simp [b_next_scene, e2, ed, e', h1]
      have : (scene p light tick).light = 0 := h0
      rw [this] at e5 ⊢
      exact congrArg endOf (congrArg (fun x => Res.bd x fun w S1 => Res.ok (Fw.rt w) S1) e5)
    · have e5 := e4 (.lst []) (.inr rfl)
      rw [← e3] at e5
      rw [if_neg h0]
      have h1 : ¬ (outer p tick 0 p.trips (dim light) [] []).1 = 0 := h0
      simp [b_next_scene, e2, ed, e', h1]
      exact congrArg endOf (congrArg (fun x => Res.bd x fun w S1 => Res.ok (Fw.rt w) S1) e5)
  rw [key]
  refine frR_app (frz_obj (frzL_cons rfl (frzL_cons (frz_locL (by simp) (Nat.le_refl _) frz_wPr) (frzL_cons ?_ frzL_nil))))
  by_cases h0 : (scene p light tick).light = 0
  · rw [if_pos h0]
    have e6 : (scene p light tick).dark = (outer p tick 0 p.trips (dim light) [] []).2.2 := if_pos h0
    rw [e6]
    exact frz_locL (by simp) (by omega) (frz_ints _)
  · rw [if_neg h0]
    have e6 : (scene p light tick).dark = [] := if_neg h0
    rw [e6]
    rfl
/-! ### the story -/
def longest (p : Pt) : Int := (p.trips.map Tr.dur).foldl max 0
def cycN (p : Pt) : Nat → List Sc → Int → Sn → Option (List Sc × Int)
  | 0, _, _, _ => none
  | n + 1, found, light, seen =>
    if longest p ≤ found.length then match snGet seen ((found.length : Int) % p.length, light) with
      | some s => some (found, s)
      | none => cycN p n (found ++ [scene p light found.length]) (scene p light found.length).light (seen ++ [(((found.length : Int) % p.length, light), (found.length : Int))])
    else cycN p n (found ++ [scene p light found.length]) (scene p light found.length).light seen
@[simp] theorem fld_wSc_light {s : Sc} : fld .Scene .burning (wSc s) S = .ok (.int s.light) S := rfl
@[simp] theorem fld_wSc_presses {s : Sc} : fld .Scene .presses (wSc s) S = .ok (.lst (s.presses.map wPr)) S := rfl
@[simp] theorem fld_wSc_dark {s : Sc} : fld .Scene .dark (wSc s) S = .ok (.lst (s.dark.map W.int)) S := rfl
@[simp] theorem getO_wSc {s : Sc} : getO .Scene S (wSc s) = some [.int s.light, .lst (s.presses.map wPr), .lst (s.dark.map W.int)] := rfl
theorem story_loop (ok : p.Ok) : ∀ (n : Nat) (found : List Sc) (light : Int) (seen : Sn) (fs : List Sc) (s : Int) (x5 x6 x7 : Option W), cycN p n found light seen = some (fs, s) → found.length + n < 1000000 → seen.length + n < 1000000 → ∃ r' D,
    sWhileN t_Story___init___1 f_Story___init___1 (n + 1) [some (.loc S.length), some (wS p), some (.int (longest p)), some (.int light), some (.loc (S.length + 2)), x5, x6, x7] (S ++ [.ins .Story [.loc (S.length + 1), .non], .lst (found.map wSc), .dt (snK seen) (snV seen)]) =
      .ok (.nx r') (S ++ [.ins .Story [.loc (S.length + 1), .int s], .lst (fs.map wSc), D])
  | 0, _, _, _, _, _, _, _, _, h, _, _ => by cases h
  | n + 1, found, light, seen, fs, s, x5, x6, x7, h, hl, hl2 => by
    have hL : decide (0 < p.length) = true := decide_eq_true (by have := ok.l0; omega)
    have e1 : ∀ S', frR S' (m_next_scene [wS p, .int light, .int (found.length : Int)] S') = .ok (wSc (scene p light found.length)) S' := fun S' => run_scene ok light _
    have hfl : found.length < 16000000 := by omega
    have ht : t_Story___init___1 [some (.loc S.length), some (wS p), some (.int (longest p)), some (.int light), some (.loc (S.length + 2)), x5, x6, x7] (S ++ [.ins .Story [.loc (S.length + 1), .non], .lst (found.map wSc), .dt (snK seen) (snV seen)]) =
        .ok true (S ++ [.ins .Story [.loc (S.length + 1), .non], .lst (found.map wSc), .dt (snK seen) (snV seen)]) := by
      simp [t_Story___init___1, fld_ev]
    have d1 := fun a b => din_sn (S := S ++ [.ins .Story [.loc (S.length + 1), .non], .lst (found.map wSc), .dt (snK seen) (snV seen)]) (n := S.length + 2) (s := seen) (a := a) (b := b) (by simp)
    have d2 := fun a b i => dget_sn (S := S ++ [.ins .Story [.loc (S.length + 1), .non], .lst (found.map wSc), .dt (snK seen) (snV seen)]) (n := S.length + 2) (s := seen) (a := a) (b := b) (i := i) (by simp)
    have d3 := fun a b i h => dput_sn (S := S ++ [.ins .Story [.loc (S.length + 1), .non], .lst (found.map wSc), .dt (snK seen) (snV seen)]) (n := S.length + 2) (s := seen) (a := a) (b := b) (i := i) (by simp) h (by omega)
    have la : atI (found.map wSc ++ [wSc (scene p light found.length)]) (-1) = some (wSc (scene p light found.length)) := atI_last
    rw [sWhileN, ht]
    dsimp only
    by_cases h1 : longest p ≤ found.length
    · cases hg : snGet seen ((found.length : Int) % p.length, light) with
      | some s2 =>
        have hc : cycN p (n + 1) found light seen = some (found, s2) := by
          unfold cycN
          rw [if_pos h1, hg]
        rw [hc] at h
        cases h
        have hb : f_Story___init___1 [some (.loc S.length), some (wS p), some (.int (longest p)), some (.int light), some (.loc (S.length + 2)), x5, x6, x7] (S ++ [.ins .Story [.loc (S.length + 1), .non], .lst (found.map wSc), .dt (snK seen) (snV seen)]) =
            .ok (.nx [some (.loc S.length), some (wS p), some (.int (longest p)), some (.int light), some (.loc (S.length + 2)), some (.int found.length), some (.tup [.int ((found.length : Int) % p.length), .int light]), x7]) (S ++ [.ins .Story [.loc (S.length + 1), .int s], .lst (found.map wSc), .dt (snK seen) (snV seen)]) := by
          simp [f_Story___init___1, fld_ev, hL, h1, d1, hg, d2 _ _ _ hg]
        rw [hb]
        dsimp only
        refine ⟨[some (.loc S.length), some (wS p), some (.int (longest p)), some (.int light), some (.loc (S.length + 2)), some (.int found.length), some (.tup [.int ((found.length : Int) % p.length), .int light]), x7], .dt (snK seen) (snV seen), ?_⟩
        rw [sWhileN]
        simp [t_Story___init___1, fld_ev]
      | none =>
        have hc : cycN p (n + 1) found light seen = cycN p n (found ++ [scene p light found.length]) (scene p light found.length).light (seen ++ [(((found.length : Int) % p.length, light), (found.length : Int))]) := by
          conv => lhs; unfold cycN
          rw [if_pos h1, hg]
        rw [hc] at h
        have hb : f_Story___init___1 [some (.loc S.length), some (wS p), some (.int (longest p)), some (.int light), some (.loc (S.length + 2)), x5, x6, x7] (S ++ [.ins .Story [.loc (S.length + 1), .non], .lst (found.map wSc), .dt (snK seen) (snV seen)]) =
            .ok (.nx [some (.loc S.length), some (wS p), some (.int (longest p)), some (.int (scene p light found.length).light), some (.loc (S.length + 2)), some (.int found.length), some (.tup [.int ((found.length : Int) % p.length), .int light]), x7])
              (S ++ [.ins .Story [.loc (S.length + 1), .non], .lst ((found ++ [scene p light found.length]).map wSc), .dt (snK (seen ++ [(((found.length : Int) % p.length, light), (found.length : Int))])) (snV (seen ++ [(((found.length : Int) % p.length, light), (found.length : Int))]))]) := by
          simp [f_Story___init___1, fld_ev, hL, h1, d1, hg, d3 _ _ _ hg, e1, hfl, la]
        rw [hb]
        dsimp only
        exact story_loop ok n _ _ _ fs s _ _ _ h (by simp; omega) (by simp; omega)
    · have hc : cycN p (n + 1) found light seen = cycN p n (found ++ [scene p light found.length]) (scene p light found.length).light seen := by
        conv => lhs; unfold cycN
        rw [if_neg h1]
      rw [hc] at h
      have hb : f_Story___init___1 [some (.loc S.length), some (wS p), some (.int (longest p)), some (.int light), some (.loc (S.length + 2)), x5, x6, x7] (S ++ [.ins .Story [.loc (S.length + 1), .non], .lst (found.map wSc), .dt (snK seen) (snV seen)]) =
          .ok (.nx [some (.loc S.length), some (wS p), some (.int (longest p)), some (.int (scene p light found.length).light), some (.loc (S.length + 2)), some (.int found.length), some (.tup [.int ((found.length : Int) % p.length), .int light]), x7])
            (S ++ [.ins .Story [.loc (S.length + 1), .non], .lst ((found ++ [scene p light found.length]).map wSc), .dt (snK seen) (snV seen)]) := by
        simp [f_Story___init___1, fld_ev, hL, h1, e1, hfl, la]
      rw [hb]
      dsimp only
      exact story_loop ok n _ _ _ fs s _ _ _ h (by simp; omega) (by omega)
end
end SL

set_option Elab.async false
set_option linter.all false
set_option maxRecDepth 100000
set_option maxHeartbeats 2000000
namespace SL
open PySem PySem.Spec PyProof.Rows L2
section
variable {p : Pt} {t : Tr} {top length : Int} {S : Sto}
theorem foldl_max_nonneg (xs : List Int) : 0 ≤ xs.foldl max 0 := (foldl_max_ge xs 0).1
theorem maxL_zero (xs : List Int) : maxL (0 :: xs) = some (xs.foldl max 0) := rfl
theorem run_Story (ok : p.Ok) {n : Nat} {fs : List Sc} {s : Int} (h : cycN p n [] 0 [] = some (fs, s)) (hn : n < 900000) : frR S (newR .Story m_Story___init__ [wS p] S) = .ok (.obj .Story [.lst (fs.map wSc), .int s]) S := by
  have h8 := ok.n
  obtain ⟨r', D, e⟩ := story_loop (S := S) ok n [] 0 [] fs s none none none h (by simp; omega) (by simp; omega)
  have e2 := sWhile_is e (by simp)
  have e3 : ∀ (U : Sto) (r : Rho), mLc [7] (.n 7) (iL (mFld .Stairs .trips (mVar 1))) mYes e_Story___init___1 (some (.loc S.length) :: some (wS p) :: none :: none :: none :: none :: none :: none :: []) U = .ok (.lst ((p.trips.map Tr.dur).map W.int)) U := fun U r => by
    rw [List.map_map]
    refine mLc_map wT (fun t => .int t.dur) p.trips (by simp) (by decide) (fun t ht => ⟨_, rfl, fun U => ?_⟩) (fun _ _ => rfl) (by omega)
    simp [e_Story___init___1, wipeR, run_duration (ok.ok t ht)]
  have e4 : ∀ U, bMax [.lst (.int 0 :: (p.trips.map Tr.dur).map W.int)] U = .ok (.int (longest p)) U := fun U => bMax_ints (ns := 0 :: p.trips.map Tr.dur) rfl
  have e5 : ∀ U, opAdd (.lst [.int 0]) (.lst ((p.trips.map Tr.dur).map W.int)) U = .ok (.lst (.int 0 :: (p.trips.map Tr.dur).map W.int)) U := fun U => opAdd_lst (by simp; omega)
  have key : m_Story___init__ [.loc S.length, wS p] (S ++ [.ins .Story []]) = .ok .non (S ++ [.ins .Story [.loc (S.length + 1), .int s], .lst (fs.map wSc), D]) := by
    refine (fnM_ev rfl).trans ?_
    have e2' : sWhile t_Story___init___1 f_Story___init___1 [some (.loc S.length), some (wS p), some (.int (longest p)), some (.int 0), some (.loc (S.length + 2)), none, none, none] (S ++ [.ins .Story [.loc (S.length + 1), .non], .lst [], .dt [] []]) = .ok (.nx r') (S ++ [.ins .Story [.loc (S.length + 1), .int s], .lst (fs.map wSc), D]) := e2
    simp [b_Story___init__, e3 _ [], e4, e5, e2', -List.map_map]
  have h2 : newR .Story m_Story___init__ [wS p] S = .ok (.loc S.length) (S ++ [.ins .Story [.loc (S.length + 1), .int s], .lst (fs.map wSc), D]) := by
    unfold newR
    rw [key]
  rw [h2]
  refine frR_app (frz_locI (c := .Story) (xs := [.loc (S.length + 1), .int s]) (by simp) (Nat.le_refl _) (frzL_cons (frz_locL (xs := fs.map wSc) (ys := fs.map wSc) (by simp) (by omega) (frzL_all fun x hx => ?_)) (frzL_cons rfl frzL_nil)))
  obtain ⟨sc, _, rfl⟩ := List.mem_map.mp hx
  refine frz_nol _ _ (nol_le (k := 6) ?_ (by omega))
  show ([W.int sc.light, .lst (sc.presses.map wPr), .lst (sc.dark.map W.int)].all (nol 5)) = true
  have a1 : (sc.presses.map wPr).all (nol 4) = true := by rw [List.all_map]; exact List.all_eq_true.mpr fun _ _ => rfl
  have a2 : (sc.dark.map W.int).all (nol 4) = true := by rw [List.all_map]; exact List.all_eq_true.mpr fun _ _ => rfl
  show (true && ((sc.presses.map wPr).all (nol 4) && ((sc.dark.map W.int).all (nol 4) && true))) = true
  rw [a1, a2]
  rfl
end
end SL

set_option Elab.async false
set_option linter.all false
set_option maxRecDepth 100000
set_option maxHeartbeats 2000000
/-! the story ends: a situation comes again -/
namespace SL
open PySem PySem.Spec PyProof.Rows L2
theorem nodup_lt : ∀ (N : Nat) (l : List Nat), l.Nodup → (∀ x ∈ l, x < N) → l.length ≤ N
  | 0, [], _, _ => Nat.le_refl _
  | 0, x :: l, _, h => absurd (h x List.mem_cons_self) (Nat.not_lt_zero _)
  | N + 1, l, hn, h => by
    by_cases m : N ∈ l
    · have ih := nodup_lt N (l.erase N) (hn.erase N) fun x hx => by
        have h1 := (hn.mem_erase_iff).mp hx
        have := h x h1.2
        have := h1.1
        omega
      rw [List.length_erase_of_mem m] at ih
      omega
    · have ih := nodup_lt N l hn fun x hx => by
        have := h x hx
        have : x ≠ N := fun e => m (e ▸ hx)
        omega
      omega
section
variable {p : Pt} {t : Tr} {top length : Int} {S : Sto}
theorem inner_now (time : Int) (t : Tr) (k : Int) : ∀ (as : List Int) (now : Int) (ps : Prs), (inner time t k now ps as).1 = now ∨ (inner time t k now ps as).1 = time
  | [], _, _ => .inl rfl
  | a :: as, now, ps => by
    unfold inner
    cases t.fl a with
    | none => exact inner_now time t k as now ps
    | some f =>
      cases t.press now with
      | true =>
        have := inner_now time t k as time (ps ++ [(k, f)])
        simp only [cond_true]
        rcases this with h | h <;> exact .inr h
      | false => exact inner_now time t k as now ps
theorem outer_now (p : Pt) (tick : Int) : ∀ (ts : List Tr) (k : Nat) (now : Int) (ps : Prs) (wk : List Int), (outer p tick k ts now ps wk).1 = now ∨ (outer p tick k ts now ps wk).1 = p.time
  | [], _, _, _, _ => .inl rfl
  | t :: ts, k, now, ps, wk => by
    unfold outer
    rcases outer_now p tick ts (k + 1) _ _ _ with h | h
    · rw [h]
      exact inner_now p.time t k _ now ps
    · exact .inr h
theorem dim_range {l : Int} (h : l ≤ 60) : 0 ≤ dim l ∧ dim l ≤ 60 := by
  unfold dim
  split <;> omega
theorem scene_light (ok : p.Ok) {light : Int} (h : light ≤ 60) (tick : Int) : 0 ≤ (scene p light tick).light ∧ (scene p light tick).light ≤ 60 := by
  have h1 := ok.m0
  have h2 := ok.m1
  have h3 := dim_range h
  rcases outer_now p tick p.trips 0 (dim light) [] [] with e | e
  · have : (scene p light tick).light = dim light := e
    omega
  · have : (scene p light tick).light = p.time := e
    omega
def snOk (p : Pt) (s : Sn) : Prop := (s.map (·.1)).Nodup ∧ ∀ q ∈ s, 0 ≤ q.1.1 ∧ q.1.1 < p.length ∧ 0 ≤ q.1.2 ∧ q.1.2 ≤ 60
theorem snOk_len (ok : p.Ok) {s : Sn} (h : snOk p s) : s.length ≤ 2928 := by
  have hl := ok.l1
  have e : (s.map fun q => (q.1.1 * 61 + q.1.2).toNat).Nodup := by
    have h1 := h.1
    have h2 := h.2
    clear h
    induction s with
    | nil => exact .nil
    | cons q s ih =>
      rw [List.map_cons, List.nodup_cons] at h1 ⊢
      refine ⟨fun m => h1.1 ?_, ih h1.2 fun r hr => h2 r (List.mem_cons_of_mem _ hr)⟩
      obtain ⟨r, hr, e⟩ := List.mem_map.mp m
      have a := h2 q List.mem_cons_self
      have b := h2 r (List.mem_cons_of_mem _ hr)
      have e1 : r.1.1 = q.1.1 := by omega
      have e2 : r.1.2 = q.1.2 := by omega
      exact List.mem_map.mpr ⟨r, hr, Prod.ext e1 e2⟩
  have := nodup_lt 2928 _ e fun x hx => by
    obtain ⟨q, hq, rfl⟩ := List.mem_map.mp hx
    have a := h.2 q hq
    omega
  simpa using this
theorem snGet_none {s : Sn} {k : Int × Int} (h : snGet s k = none) : k ∉ s.map (·.1) := fun m => by
  obtain ⟨q, hq, e⟩ := List.mem_map.mp m
  unfold snGet at h
  rw [Option.map_eq_none_iff, List.find?_eq_none] at h
  exact h q hq (decide_eq_true e)
theorem cycN_ends (ok : p.Ok) : ∀ (n : Nat) (found : List Sc) (light : Int) (seen : Sn), 0 ≤ light → light ≤ 60 → snOk p seen → (longest p - found.length).toNat + (2928 - seen.length) < n → ∃ r, cycN p n found light seen = some r
  | 0, _, _, _, _, _, _, h => by omega
  | n + 1, found, light, seen, h0, h1, hs, h => by
    have hsc := scene_light ok h1 found.length
    have hl := ok.l0
    by_cases hL : longest p ≤ found.length
    · cases hg : snGet seen ((found.length : Int) % p.length, light) with
      | some s2 => exact ⟨(found, s2), by unfold cycN; rw [if_pos hL, hg]⟩
      | none =>
        have hs2 : snOk p (seen ++ [(((found.length : Int) % p.length, light), (found.length : Int))]) := by
          refine ⟨?_, fun q hq => ?_⟩
          · rw [List.map_append, List.nodup_append]
            refine ⟨hs.1, by simp, fun a ha b hb => ?_⟩
            rw [List.map_cons, List.map_nil, List.mem_singleton] at hb
            subst hb
            intro e
            rw [show a = ((found.length : Int) % p.length, light) from e] at ha
            exact snGet_none hg ha
          · rcases List.mem_append.mp hq with hq | hq
            · exact hs.2 q hq
            · rw [List.mem_singleton] at hq
              subst hq
              exact ⟨Int.emod_nonneg _ (by omega), Int.emod_lt_of_pos _ (by omega), h0, h1⟩
        have hlen := snOk_len ok hs2
        rw [List.length_append, List.length_singleton] at hlen
        obtain ⟨r, e⟩ := cycN_ends ok n (found ++ [scene p light found.length]) (scene p light found.length).light _ hsc.1 hsc.2 hs2 (by simp only [List.length_append, List.length_singleton]; omega)
        exact ⟨r, by unfold cycN; rw [if_pos hL, hg]; exact e⟩
    · obtain ⟨r, e⟩ := cycN_ends ok n (found ++ [scene p light found.length]) (scene p light found.length).light seen hsc.1 hsc.2 hs (by simp only [List.length_append, List.length_singleton]; omega)
      exact ⟨r, by unfold cycN; rw [if_neg hL]; exact e⟩
theorem foldl_max_le {m : Int} : ∀ (xs : List Int) (a : Int), a ≤ m → (∀ x ∈ xs, x ≤ m) → xs.foldl max a ≤ m
  | [], _, h, _ => h
  | x :: xs, a, h, hx => foldl_max_le xs (max a x) (Int.max_le.mpr ⟨h, hx x List.mem_cons_self⟩) fun y hy => hx y (List.mem_cons_of_mem _ hy)
theorem longest_le (ok : p.Ok) : longest p ≤ 45 := foldl_max_le _ _ (by omega) fun x hx => by
  obtain ⟨t, ht, rfl⟩ := List.mem_map.mp hx
  exact dur_le (ok.ok t ht) ok.t1
/-- a staircase's story: its scenes, where the cycle starts -/
def story (p : Pt) : List Sc × Int := (cycN p 3000 [] 0 []).getD ([], 0)
theorem story_is (ok : p.Ok) : cycN p 3000 [] 0 [] = some (story p) := by
  have := longest_le ok
  obtain ⟨r, e⟩ := cycN_ends ok 3000 [] 0 [] (by omega) (by omega) ⟨.nil, by simp⟩ (by simp; omega)
  unfold story
  rw [e]
  rfl
theorem run_Story2 (ok : p.Ok) : frR S (newR .Story m_Story___init__ [wS p] S) = .ok (.obj .Story [.lst ((story p).1.map wSc), .int (story p).2]) S := run_Story ok (story_is ok) (by omega)
theorem cycN_len : ∀ (n : Nat) (found : List Sc) (light : Int) (seen : Sn) (r : List Sc × Int), cycN p n found light seen = some r → found.length ≤ r.1.length ∧ r.1.length ≤ found.length + n
  | 0, _, _, _, _, h => by cases h
  | n + 1, found, light, seen, r, h => by
    unfold cycN at h
    split at h
    · split at h
      · cases h
        exact ⟨Nat.le_refl _, by dsimp only; omega⟩
      · have := cycN_len n _ _ _ r h
        simp at this
        omega
    · have := cycN_len n _ _ _ r h
      simp at this
      omega
theorem story_len (ok : p.Ok) : (story p).1.length ≤ 3000 := by
  have := (cycN_len 3000 [] 0 [] _ (story_is ok)).2
  simpa using this
theorem story_pos (ok : p.Ok) : 0 < (story p).1.length := by
  have h := story_is ok
  unfold cycN at h
  split at h
  · rw [show snGet [] _ = none from rfl] at h
    have := (cycN_len _ _ _ _ _ h).1
    simp at this
    omega
  · have := (cycN_len _ _ _ _ _ h).1
    simp at this
    omega
end
end SL

set_option Elab.async false
set_option linter.all false
set_option maxRecDepth 100000
set_option maxHeartbeats 2000000
/-! what the law draws -/
namespace SL
open PySem PySem.Spec PyProof.Rows L2
theorem fPop_at {S : Sto} {n k : Nat} {xs : List W} {y : W} (h : S[n]? = some (.lst xs)) (hk : xs[k]? = some y) (hs : k < 1000000) : fPop [.loc n, .int (k : Nat)] S = .ok y (S.set n (.lst (xs.eraseIdx k))) := by
  have hl : k < xs.length := by
    rcases Nat.lt_or_ge k xs.length with z | z
    · exact z
    · rw [List.getElem?_eq_none z] at hk
      cases hk
  show (match cellL S (.loc n) with | some (n, xs) => if -(2 ^ 63) ≤ ((k : Nat) : Int) ∧ ((k : Nat) : Int) < 2 ^ 63 then _ else Res.stuck | none => .stuck) = _
  rw [cellL_at h]
  dsimp only
  rw [if_pos (by omega)]
  have e : seqIndex? ((k : Nat) : Int) xs.length = some k := by
    simp [seqIndex?, hl, show ¬ ((k : Int) < 0) by omega]
  rw [e]
  dsimp only
  rw [hk]
@[simp] theorem atI_2 {α : Type} {xs : List α} : atI xs (2 : Int) = xs[2]? := atI_nat 2
@[simp] theorem atI_3 {α : Type} {xs : List α} : atI xs (3 : Int) = xs[3]? := atI_nat 3
@[simp] theorem atI_4 {α : Type} {xs : List α} : atI xs (4 : Int) = xs[4]? := atI_nat 4
@[simp] theorem atI_5 {α : Type} {xs : List α} : atI xs (5 : Int) = xs[5]? := atI_nat 5
@[simp] theorem atI_6 {α : Type} {xs : List α} : atI xs (6 : Int) = xs[6]? := atI_nat 6
@[simp] theorem atI_7 {α : Type} {xs : List α} : atI xs (7 : Int) = xs[7]? := atI_nat 7
@[simp] theorem atI_8 {α : Type} {xs : List α} : atI xs (8 : Int) = xs[8]? := atI_nat 8
@[simp] theorem atI_9 {α : Type} {xs : List α} : atI xs (9 : Int) = xs[9]? := atI_nat 9
@[simp] theorem atI_10 {α : Type} {xs : List α} : atI xs (10 : Int) = xs[10]? := atI_nat 10
@[simp] theorem atI_11 {α : Type} {xs : List α} : atI xs (11 : Int) = xs[11]? := atI_nat 11
@[simp] theorem atI_12 {α : Type} {xs : List α} : atI xs (12 : Int) = xs[12]? := atI_nat 12
/-- the law's draws: a seed, a rest, big numbers -/
structure Dr (D : List Int) : Prop where
  ex : ∃ s a rest, D = s :: a :: rest ∧ 0 ≤ s ∧ 0 ≤ a ∧ ∀ x ∈ rest, 0 ≤ x
def dst (D : List Int) (T : Sto) : Sto := .lst (D.map W.int) :: T
theorem kept_dst (D D' : List Int) (T : Sto) : Kept (dst D T) (dst D' T) := by
  have := kept_head (c := .lst (D.map W.int)) (d := .lst (D'.map W.int)) (T := T) (U := []) (clos_nol (k := 1) (by rw [List.all_map]; exact List.all_eq_true.mpr fun _ _ => rfl))
  rw [List.append_nil] at this
  exact this
theorem fr_dst {D D' : List Int} {T : Sto} {w : W} (hw : nol 16 w = true) : frR (dst D T) (.ok w (dst D' T)) = .ok w (dst D' T) := by
  rw [frR_ok (kept_dst D D' T) (frz_nol 16 w hw)]
  have : (dst D T).length = (dst D' T).length := rfl
  rw [this, List.take_length]
theorem run_below {D : List Int} (g : Dr D) {lim : Int} (h0 : 0 < lim) (h1 : lim < 1073741824) : ∃ v D', Dr D' ∧ 0 ≤ v ∧ v < lim ∧ ∀ T, m_l_below [.loc 0, .int lim] (dst D T) = .ok (.int v) (dst D' T) := by
  obtain ⟨s, a, rest, rfl, hs, ha, hr⟩ := g.ex
  have e1 : decide (0 < lim) = true := decide_eq_true h0
  have e2 : decide (0 < lim ∧ lim < 1073741824) = true := decide_eq_true ⟨h0, h1⟩
  have e3 : ∀ i : Int, mulOk i 48271 = true := fun i => mulOk_r (by decide) (by decide)
  have run : ∀ a rest, 0 ≤ a → (∀ x ∈ rest, 0 ≤ x) → (a = 0 → rest = []) → ∃ v D', Dr D' ∧ 0 ≤ v ∧ v < lim ∧ ∀ T, m_l_below [.loc 0, .int lim] (dst (s :: a :: rest) T) = .ok (.int v) (dst D' T) := by
    intro a rest ha hr hz
    by_cases h : 0 < a
    · refine ⟨a % lim, s :: a / lim :: rest, ⟨⟨s, _, rest, rfl, hs, Int.ediv_nonneg ha (by omega), hr⟩⟩, Int.emod_nonneg _ (by omega), Int.emod_lt_of_pos _ h0, fun T => (fnM_ev rfl).trans ?_⟩
      have hne : ¬ a = 0 := by omega
      simp [b_l_below, dst, h, hne, e1, e2]
    · have ea : a = 0 := by omega
      subst ea
      rw [hz rfl]
      refine ⟨(s * 48271 + 11) % 2147483647 / 64 % lim, [(s * 48271 + 11) % 2147483647, 0], ⟨⟨_, 0, [], rfl, Int.emod_nonneg _ (by decide), Int.le_refl _, by simp⟩⟩, Int.emod_nonneg _ (by omega), Int.emod_lt_of_pos _ h0, fun T => (fnM_ev rfl).trans ?_⟩
      simp [b_l_below, dst, e1, e2, e3]
  by_cases hz : a = 0 ∧ rest ≠ []
  · obtain ⟨rfl, hne⟩ := hz
    obtain ⟨b, rest, rfl⟩ := List.exists_cons_of_ne_nil hne
    have hb : 0 ≤ b := hr b List.mem_cons_self
    have hr' : ∀ x ∈ rest, 0 ≤ x := fun x hx => hr x (List.mem_cons_of_mem _ hx)
    have hp : ∀ T : Sto, fPop [.loc 0, .int 2] (.lst (.int s :: .int 0 :: .int b :: rest.map W.int) :: T) = .ok (.int b) (.lst (.int s :: .int 0 :: rest.map W.int) :: T) := fun T => fPop_at (S := .lst (.int s :: .int 0 :: .int b :: rest.map W.int) :: T) (n := 0) (k := 2) (xs := .int s :: .int 0 :: .int b :: rest.map W.int) (y := .int b) rfl rfl (by decide)
    have hl : (2 : Int) < (rest.length : Int) + 1 + 1 + 1 := by omega
    by_cases h : 0 < b
    · refine ⟨b % lim, s :: b / lim :: rest, ⟨⟨s, _, rest, rfl, hs, Int.ediv_nonneg hb (by omega), hr'⟩⟩, Int.emod_nonneg _ (by omega), Int.emod_lt_of_pos _ h0, fun T => (fnM_ev rfl).trans ?_⟩
      simp [b_l_below, dst, hp, h, e1, e2, hl]
    · have eb : b = 0 := by omega
      subst eb
      refine ⟨(s * 48271 + 11) % 2147483647 / 64 % lim, (s * 48271 + 11) % 2147483647 :: 0 :: rest, ⟨⟨_, 0, rest, rfl, Int.emod_nonneg _ (by decide), Int.le_refl _, hr'⟩⟩, Int.emod_nonneg _ (by omega), Int.emod_lt_of_pos _ h0, fun T => (fnM_ev rfl).trans ?_⟩
      simp [b_l_below, dst, hp, e1, e2, e3, hl]
  · exact run a rest ha hr fun e => Classical.byContradiction fun z => hz ⟨e, z⟩
theorem draw {D : List Int} (g : Dr D) {lim : Int} (h0 : 0 < lim) (h1 : lim < 1073741824) : ∃ v D', Dr D' ∧ 0 ≤ v ∧ v < lim ∧ ∀ D0 T, frR (dst D0 T) (m_l_below [.loc 0, .int lim] (dst D T)) = .ok (.int v) (dst D' T) := by
  obtain ⟨v, D', g', v0, v1, e⟩ := run_below g h0 h1
  refine ⟨v, D', g', v0, v1, fun D0 T => ?_⟩
  rw [e]
  exact fr_dst rfl
theorem mod_2 {x m : Int} (h0 : 0 ≤ x) (h : x < 2 * m) : x % m = if x < m then x else x - m := by
  split
  · exact Int.emod_eq_of_lt h0 (by assumption)
  · have e : x % m = (x - m) % m := by
      conv => lhs; rw [show x = (x - m) + m by omega]
      simp
    rw [e]
    exact Int.emod_eq_of_lt (by omega) (by omega)
def wTt (t : Tr) : W := .tup [.int t.start, .int t.source, .int t.target, .int t.pace, .str t.habit]
theorem run_trip {D : List Int} (g : Dr D) {top length : Int} (t0 : 1 ≤ top) (t1 : top ≤ 9) (l0 : 1 ≤ length) (l1 : length ≤ 48) : ∃ t D', Dr D' ∧ t.Ok top length ∧ ∀ D0 T, frR (dst D0 T) (m_l_trip [.loc 0, .int top, .int length] (dst D T)) = .ok (wTt t) (dst D' T) := by
  obtain ⟨v1, D1, g1, a1, b1, e1⟩ := draw g (lim := top + 1) (by omega) (by omega)
  obtain ⟨v2, D2, g2, a2, b2, e2⟩ := draw g1 (lim := top) (by omega) (by omega)
  obtain ⟨v3, D3, g3, a3, b3, e3⟩ := draw g2 (lim := 4) (by omega) (by omega)
  obtain ⟨v4, D4, g4, a4, b4, e4⟩ := draw g3 (lim := length) (by omega) (by omega)
  obtain ⟨v5, D5, g5, a5, b5, e5⟩ := draw g4 (lim := 2) (by omega) (by omega)
  have hx : ∃ x : Int, 0 < x ∧ x ≤ 5 ∧ atI [W.int 2, .int 5] v5 = some (.int x) := by
    rcases (show v5 = 0 ∨ v5 = 1 by omega) with rfl | rfl
    · exact ⟨2, by omega, by omega, rfl⟩
    · exact ⟨5, by omega, by omega, rfl⟩
  obtain ⟨x, x0, x5, ex⟩ := hx
  obtain ⟨v6, D6, g6, a6, b6, e6⟩ := draw g5 (lim := x) (by omega) (by omega)
  have hh : ∃ h : Str, habitOk h ∧ atI [W.str "dark", .str "dark", .str "always", .str "never"] v3 = some (.str h) := by
    rcases (show v3 = 0 ∨ v3 = 1 ∨ v3 = 2 ∨ v3 = 3 by omega) with rfl | rfl | rfl | rfl
    · exact ⟨"dark", .inl rfl, rfl⟩
    · exact ⟨"dark", .inl rfl, rfl⟩
    · exact ⟨"always", .inr (.inl rfl), rfl⟩
    · exact ⟨"never", .inr (.inr rfl), rfl⟩
  obtain ⟨h, ho, eh⟩ := hh
  have em := mod_2 (x := v1 + 1 + v2) (m := top + 1) (by omega) (by omega)
  have dt : decide (0 < top + 1) = true := decide_eq_true (by omega)
  refine ⟨⟨v4, v1, (v1 + 1 + v2) % (top + 1), 1 + v6, h⟩, D6, g6, ⟨a4, b4, a1, by dsimp only; omega, ?_, ?_, ?_, by dsimp only; omega, by dsimp only; omega, ho⟩, fun D0 T => ?_⟩
  · dsimp only
    rw [em]
    split <;> omega
  · dsimp only
    rw [em]
    split <;> omega
  · dsimp only
    rw [em]
    split <;> omega
  · have key : m_l_trip [.loc 0, .int top, .int length] (dst D T) = .ok (wTt ⟨v4, v1, (v1 + 1 + v2) % (top + 1), 1 + v6, h⟩) (dst D6 T) := by
      refine (fnM_ev rfl).trans ?_
      simp [b_l_trip, e1, e2, e3, e4, e5, e6, ex, eh, dt, wTt]
    rw [key]
    exact fr_dst rfl
end SL

set_option Elab.async false
set_option linter.all false
set_option maxRecDepth 100000
set_option maxHeartbeats 2000000
namespace SL
open PySem PySem.Spec PyProof.Rows L2
def wP (p : Pt) : W := .tup [.int p.top, .int p.length, .int p.time, .tup (p.trips.map wTt)]
theorem nol_wTt {t : Tr} : nol 2 (wTt t) = true := rfl
theorem nol_wP {p : Pt} : nol 4 (wP p) = true := by
  show (true && (true && (true && ((p.trips.map wTt).all (nol 2) && true)))) = true
  simp [nol_wTt]
theorem lc_trips {top length time : Int} (t0 : 1 ≤ top) (t1 : top ≤ 9) (l0 : 1 ≤ length) (l1 : length ≤ 48) : ∀ (xs : List W) (D : List Int) (acc : List Tr), Dr D → acc.length + xs.length < 1000 → ∃ ts D', Dr D' ∧ ts.length = xs.length ∧ (∀ t ∈ ts, t.Ok top length) ∧
    ∀ T (m : W), lcGo (.n 5) mYes e_l_parts_1 (T.length + 1) xs [some (.loc 0), some m, some (.int top), some (.int length), some (.int time), none] (dst D (T ++ [.lst (acc.map wTt)])) = .ok (T.length + 1) (dst D' (T ++ [.lst ((acc ++ ts).map wTt)]))
  | [], D, acc, g, _ => ⟨[], D, g, rfl, by simp, fun T m => by simp [lcGo]⟩
  | x :: xs, D, acc, g, hl => by
    simp only [List.length_cons] at hl
    obtain ⟨t, D1, g1, tok, e⟩ := run_trip g t0 t1 l0 l1
    obtain ⟨ts, D2, g2, hn, hok, ih⟩ := lc_trips t0 t1 l0 l1 xs D1 (acc ++ [t]) g1 (by simp; omega)
    refine ⟨t :: ts, D2, g2, by simp [hn], fun u hu => ?_, fun T m => ?_⟩
    · rcases List.mem_cons.mp hu with rfl | hu
      · exact tok
      · exact hok u hu
    · have he : e_l_parts_1 [some (.loc 0), some m, some (.int top), some (.int length), some (.int time), some x] (dst D (T ++ [.lst (acc.map wTt)])) = .ok (wTt t) (dst D1 (T ++ [.lst (acc.map wTt)])) := by
        simp [e_l_parts_1, e]
      have hg : (dst D1 (T ++ [.lst (acc.map wTt)]))[T.length + 1]? = some (.lst (acc.map wTt)) := by
        unfold dst
        simp
      have hs : (dst D1 (T ++ [.lst (acc.map wTt)])).set (T.length + 1) (.lst (acc.map wTt ++ [wTt t])) = dst D1 (T ++ [.lst ((acc ++ [t]).map wTt)]) := by
        unfold dst
        simp
      unfold lcGo lcTurn
      rw [run_n]
      dsimp only [List.set_cons_succ, List.set_cons_zero]
      rw [show mYes [some (.loc 0), some m, some (.int top), some (.int length), some (.int time), some x] (dst D (T ++ [.lst (acc.map wTt)])) = .ok true _ from rfl]
      dsimp only
      rw [he]
      dsimp only
      rw [hg]
      dsimp only
      rw [if_pos (by rw [List.length_map]; omega), hs, ih T m]
      simp
theorem run_parts {D : List Int} (g : Dr D) {most : Int} (m0 : 0 ≤ most) (m1 : most ≤ 8) : ∃ p D', Dr D' ∧ p.Ok ∧ (p.trips.length : Int) ≤ most ∧ ∀ D0 T, frR (dst D0 T) (m_l_parts [.loc 0, .int most] (dst D T)) = .ok (wP p) (dst D' T) := by
  obtain ⟨v1, D1, g1, a1, b1, e1⟩ := draw g (lim := 2) (by omega) (by omega)
  have hx1 : ∃ x : Int, 0 < x ∧ x ≤ 9 ∧ atI [W.int 3, .int 9] v1 = some (.int x) := by
    rcases (show v1 = 0 ∨ v1 = 1 by omega) with rfl | rfl
    · exact ⟨3, by omega, by omega, rfl⟩
    · exact ⟨9, by omega, by omega, rfl⟩
  obtain ⟨x1, xa, xb, ex1⟩ := hx1
  obtain ⟨v2, D2, g2, a2, b2, e2⟩ := draw g1 (lim := x1) (by omega) (by omega)
  obtain ⟨v3, D3, g3, a3, b3, e3⟩ := draw g2 (lim := 2) (by omega) (by omega)
  have hx2 : ∃ x : Int, 0 < x ∧ x ≤ 48 ∧ atI [W.int 12, .int 48] v3 = some (.int x) := by
    rcases (show v3 = 0 ∨ v3 = 1 by omega) with rfl | rfl
    · exact ⟨12, by omega, by omega, rfl⟩
    · exact ⟨48, by omega, by omega, rfl⟩
  obtain ⟨x2, ya, yb, ex2⟩ := hx2
  obtain ⟨v4, D4, g4, a4, b4, e4⟩ := draw g3 (lim := x2) (by omega) (by omega)
  obtain ⟨v5, D5, g5, a5, b5, e5⟩ := draw g4 (lim := 3) (by omega) (by omega)
  have hx3 : ∃ x : Int, 0 < x ∧ x ≤ 60 ∧ atI [W.int 6, .int 15, .int 60] v5 = some (.int x) := by
    rcases (show v5 = 0 ∨ v5 = 1 ∨ v5 = 2 by omega) with rfl | rfl | rfl
    · exact ⟨6, by omega, by omega, rfl⟩
    · exact ⟨15, by omega, by omega, rfl⟩
    · exact ⟨60, by omega, by omega, rfl⟩
  obtain ⟨x3, za, zb, ex3⟩ := hx3
  obtain ⟨v6, D6, g6, a6, b6, e6⟩ := draw g5 (lim := x3) (by omega) (by omega)
  obtain ⟨v7, D7, g7, a7, b7, e7⟩ := draw g6 (lim := most + 1) (by omega) (by omega)
  obtain ⟨ts, D8, g8, hn, hok, e8⟩ := lc_trips (time := 1 + v6) (top := 1 + v2) (length := 1 + v4) (by omega) (by omega) (by omega) (by omega) (rngW 0 1 v7.toNat) D7 [] g7 (by rw [rngW_len]; simp; omega)
  rw [rngW_len] at hn
  refine ⟨⟨1 + v2, 1 + v4, 1 + v6, ts⟩, D8, g8, ⟨by dsimp only; omega, by dsimp only; omega, by dsimp only; omega, by dsimp only; omega, by dsimp only; omega, by dsimp only; omega, by dsimp only; omega, hok⟩, by dsimp only; omega, fun D0 T => ?_⟩
  have hL : mLc [5] (.n 5) (iR1 (mCons (mFr (mCall m_l_below (mCons (mVar 0) (mCons (mOp opAdd (mVar 1) (mC (.int 1))) (mNil))))) (mNil))) mYes e_l_parts_1 [some (.loc 0), some (.int most), some (.int (1 + v2)), some (.int (1 + v4)), some (.int (1 + v6)), none] (dst D6 T) = .ok (.lst (ts.map wTt)) (dst D8 T) := by
    have hi : iR1 (mCons (mFr (mCall m_l_below (mCons (mVar 0) (mCons (mOp opAdd (mVar 1) (mC (.int 1))) (mNil))))) (mNil)) [some (.loc 0), some (.int most), some (.int (1 + v2)), some (.int (1 + v4)), some (.int (1 + v6)), none] (dst D6 T) = .ok (rngW 0 1 v7.toNat) (dst D7 T) := by
      have : itR1 [.int v7] (dst D7 T) = .ok (rngW 0 1 v7.toNat) (dst D7 T) := if_pos (by omega)
      simp [e7, this]
    have hlen : (dst D7 T).length = T.length + 1 := rfl
    have happ : ∀ (D : List Int) (c : Ce), dst D T ++ [c] = dst D (T ++ [c]) := fun D c => rfl
    unfold mLc
    rw [hi]
    dsimp only
    rw [if_pos (by decide), hlen, happ]
    have e9 := e8 T (.int most)
    rw [show wipeR [some (.loc 0), some (.int most), some (.int (1 + v2)), some (.int (1 + v4)), some (.int (1 + v6)), none] [5] = [some (.loc 0), some (.int most), some (.int (1 + v2)), some (.int (1 + v4)), some (.int (1 + v6)), none] from rfl]
    rw [show ([] : List Tr).map wTt = [] from rfl] at e9
    rw [e9]
    dsimp only
    have hg : (dst D8 (T ++ [.lst (([] ++ ts : List Tr).map wTt)]))[T.length + 1]? = some (.lst (ts.map wTt)) := by
      unfold dst
      simp
    rw [hg]
    dsimp only
    rw [if_pos ⟨by simp [dst], clos_nol (k := 2) (by rw [List.all_map]; exact List.all_eq_true.mpr fun _ _ => rfl), kept_head (U := [_]) (clos_nol (k := 1) (by rw [List.all_map]; exact List.all_eq_true.mpr fun _ _ => rfl))⟩]
    congr 1
    unfold dst
    simp
  have key : m_l_parts [.loc 0, .int most] (dst D T) = .ok (wP ⟨1 + v2, 1 + v4, 1 + v6, ts⟩) (dst D8 T) := by
    refine (fnM_ev rfl).trans ?_
    simp [b_l_parts, e1, e2, e3, e4, e5, e6, ex1, ex2, ex3, hL, wP]
  rw [key]
  exact fr_dst (nol_le nol_wP (by omega))
end SL

set_option Elab.async false
set_option linter.all false
set_option maxRecDepth 100000
set_option maxHeartbeats 2000000
/-! isinstance of plain values -/
namespace SL
open PySem PySem.Spec PyProof.Rows L2
@[simp] theorem isi_non_int {S : Sto} : bIsi [.non, .ty "int"] S = .ok (.bl false) S := (bIsi_ev (t := "NoneType") rfl (by decide)).trans rfl
@[simp] theorem isi_non_str {S : Sto} : bIsi [.non, .ty "str"] S = .ok (.bl false) S := (bIsi_ev (t := "NoneType") rfl (by decide)).trans rfl
@[simp] theorem isi_non_bool {S : Sto} : bIsi [.non, .ty "bool"] S = .ok (.bl false) S := (bIsi_ev (t := "NoneType") rfl (by decide)).trans rfl
@[simp] theorem isi_non_tuple {S : Sto} : bIsi [.non, .ty "tuple"] S = .ok (.bl false) S := (bIsi_ev (t := "NoneType") rfl (by decide)).trans rfl
@[simp] theorem isi_non_list {S : Sto} : bIsi [.non, .ty "list"] S = .ok (.bl false) S := (bIsi_ev (t := "NoneType") rfl (by decide)).trans rfl
@[simp] theorem isi_bl_int {S : Sto} {x : Bool} : bIsi [.bl x, .ty "int"] S = .ok (.bl true) S := (bIsi_ev (t := "bool") rfl (by decide)).trans rfl
@[simp] theorem isi_bl_str {S : Sto} {x : Bool} : bIsi [.bl x, .ty "str"] S = .ok (.bl false) S := (bIsi_ev (t := "bool") rfl (by decide)).trans rfl
@[simp] theorem isi_bl_bool {S : Sto} {x : Bool} : bIsi [.bl x, .ty "bool"] S = .ok (.bl true) S := (bIsi_ev (t := "bool") rfl (by decide)).trans rfl
@[simp] theorem isi_bl_tuple {S : Sto} {x : Bool} : bIsi [.bl x, .ty "tuple"] S = .ok (.bl false) S := (bIsi_ev (t := "bool") rfl (by decide)).trans rfl
@[simp] theorem isi_bl_list {S : Sto} {x : Bool} : bIsi [.bl x, .ty "list"] S = .ok (.bl false) S := (bIsi_ev (t := "bool") rfl (by decide)).trans rfl
@[simp] theorem isi_int_int {S : Sto} {i : Int} : bIsi [.int i, .ty "int"] S = .ok (.bl true) S := (bIsi_ev (t := "int") rfl (by decide)).trans rfl
@[simp] theorem isi_int_str {S : Sto} {i : Int} : bIsi [.int i, .ty "str"] S = .ok (.bl false) S := (bIsi_ev (t := "int") rfl (by decide)).trans rfl
@[simp] theorem isi_int_bool {S : Sto} {i : Int} : bIsi [.int i, .ty "bool"] S = .ok (.bl false) S := (bIsi_ev (t := "int") rfl (by decide)).trans rfl
@[simp] theorem isi_int_tuple {S : Sto} {i : Int} : bIsi [.int i, .ty "tuple"] S = .ok (.bl false) S := (bIsi_ev (t := "int") rfl (by decide)).trans rfl
@[simp] theorem isi_int_list {S : Sto} {i : Int} : bIsi [.int i, .ty "list"] S = .ok (.bl false) S := (bIsi_ev (t := "int") rfl (by decide)).trans rfl
@[simp] theorem isi_str_int {S : Sto} {x : Str} : bIsi [.str x, .ty "int"] S = .ok (.bl false) S := (bIsi_ev (t := "str") rfl (by decide)).trans rfl
@[simp] theorem isi_str_str {S : Sto} {x : Str} : bIsi [.str x, .ty "str"] S = .ok (.bl true) S := (bIsi_ev (t := "str") rfl (by decide)).trans rfl
@[simp] theorem isi_str_bool {S : Sto} {x : Str} : bIsi [.str x, .ty "bool"] S = .ok (.bl false) S := (bIsi_ev (t := "str") rfl (by decide)).trans rfl
@[simp] theorem isi_str_tuple {S : Sto} {x : Str} : bIsi [.str x, .ty "tuple"] S = .ok (.bl false) S := (bIsi_ev (t := "str") rfl (by decide)).trans rfl
@[simp] theorem isi_str_list {S : Sto} {x : Str} : bIsi [.str x, .ty "list"] S = .ok (.bl false) S := (bIsi_ev (t := "str") rfl (by decide)).trans rfl
@[simp] theorem isi_tup_int {S : Sto} {xs : List W} : bIsi [.tup xs, .ty "int"] S = .ok (.bl false) S := (bIsi_ev (t := "tuple") rfl (by decide)).trans rfl
@[simp] theorem isi_tup_str {S : Sto} {xs : List W} : bIsi [.tup xs, .ty "str"] S = .ok (.bl false) S := (bIsi_ev (t := "tuple") rfl (by decide)).trans rfl
@[simp] theorem isi_tup_bool {S : Sto} {xs : List W} : bIsi [.tup xs, .ty "bool"] S = .ok (.bl false) S := (bIsi_ev (t := "tuple") rfl (by decide)).trans rfl
@[simp] theorem isi_tup_tuple {S : Sto} {xs : List W} : bIsi [.tup xs, .ty "tuple"] S = .ok (.bl true) S := (bIsi_ev (t := "tuple") rfl (by decide)).trans rfl
@[simp] theorem isi_tup_list {S : Sto} {xs : List W} : bIsi [.tup xs, .ty "list"] S = .ok (.bl false) S := (bIsi_ev (t := "tuple") rfl (by decide)).trans rfl
@[simp] theorem isi_lst_int {S : Sto} {xs : List W} : bIsi [.lst xs, .ty "int"] S = .ok (.bl false) S := (bIsi_ev (t := "list") rfl (by decide)).trans rfl
@[simp] theorem isi_lst_str {S : Sto} {xs : List W} : bIsi [.lst xs, .ty "str"] S = .ok (.bl false) S := (bIsi_ev (t := "list") rfl (by decide)).trans rfl
@[simp] theorem isi_lst_bool {S : Sto} {xs : List W} : bIsi [.lst xs, .ty "bool"] S = .ok (.bl false) S := (bIsi_ev (t := "list") rfl (by decide)).trans rfl
@[simp] theorem isi_lst_tuple {S : Sto} {xs : List W} : bIsi [.lst xs, .ty "tuple"] S = .ok (.bl false) S := (bIsi_ev (t := "list") rfl (by decide)).trans rfl
@[simp] theorem isi_lst_list {S : Sto} {xs : List W} : bIsi [.lst xs, .ty "list"] S = .ok (.bl true) S := (bIsi_ev (t := "list") rfl (by decide)).trans rfl
@[simp] theorem isi_loc_int {S : Sto} {n : Nat} : bIsi [.loc n, .ty "int"] S = oc (cl S[n]?) (fun _ => .ok (.bl false) S) .stuck := by
  cases h : S[n]? with
  | none =>
    unfold bIsi tyName
    simp [h, cl]
  | some c =>
    cases c with
    | lst xs => exact (bIsi_ev (t := "list") (by unfold tyName; simp [h]) (by decide)).trans rfl
    | _ =>
      unfold bIsi tyName
      simp [h, cl]
@[simp] theorem isi_loc_str {S : Sto} {n : Nat} : bIsi [.loc n, .ty "str"] S = oc (cl S[n]?) (fun _ => .ok (.bl false) S) .stuck := by
  cases h : S[n]? with
  | none =>
    unfold bIsi tyName
    simp [h, cl]
  | some c =>
    cases c with
    | lst xs => exact (bIsi_ev (t := "list") (by unfold tyName; simp [h]) (by decide)).trans rfl
    | _ =>
      unfold bIsi tyName
      simp [h, cl]
@[simp] theorem isi_loc_bool {S : Sto} {n : Nat} : bIsi [.loc n, .ty "bool"] S = oc (cl S[n]?) (fun _ => .ok (.bl false) S) .stuck := by
  cases h : S[n]? with
  | none =>
    unfold bIsi tyName
    simp [h, cl]
  | some c =>
    cases c with
    | lst xs => exact (bIsi_ev (t := "list") (by unfold tyName; simp [h]) (by decide)).trans rfl
    | _ =>
      unfold bIsi tyName
      simp [h, cl]
@[simp] theorem isi_loc_tuple {S : Sto} {n : Nat} : bIsi [.loc n, .ty "tuple"] S = oc (cl S[n]?) (fun _ => .ok (.bl false) S) .stuck := by
  cases h : S[n]? with
  | none =>
    unfold bIsi tyName
    simp [h, cl]
  | some c =>
    cases c with
    | lst xs => exact (bIsi_ev (t := "list") (by unfold tyName; simp [h]) (by decide)).trans rfl
    | _ =>
      unfold bIsi tyName
      simp [h, cl]
@[simp] theorem isi_loc_list {S : Sto} {n : Nat} : bIsi [.loc n, .ty "list"] S = oc (cl S[n]?) (fun _ => .ok (.bl true) S) .stuck := by
  cases h : S[n]? with
  | none =>
    unfold bIsi tyName
    simp [h, cl]
  | some c =>
    cases c with
    | lst xs => exact (bIsi_ev (t := "list") (by unfold tyName; simp [h]) (by decide)).trans rfl
    | _ =>
      unfold bIsi tyName
      simp [h, cl]
end SL

set_option Elab.async false
set_option linter.all false
set_option maxRecDepth 100000
set_option maxHeartbeats 2000000
namespace SL
open PySem PySem.Spec PyProof.Rows L2
section
variable {p : Pt} {t : Tr} {top length : Int} {S : Sto}
theorem run_in {v lo hi : Int} (h0 : lo ≤ v) (h1 : v ≤ hi) : m_is_int_in [.int v, .int lo, .int hi] S = .ok (.bl true) S := by
  refine (fnM_ev rfl).trans ?_
  simp [b_is_int_in, h0, h1]
theorem habit_in {h : Str} (q : habitOk h) : inW (.str h) (List.map W.str ["dark", "always", "never"]) = true := by
  rcases q with rfl | rfl | rfl <;> decide +kernel
theorem run_is_trip (ok : t.Ok top length) (h1 : 1 ≤ length) : m_is_trip [wTt t, .int top, .int length] S = .ok (.bl true) S := by
  refine (fnM_ev rfl).trans ?_
  have e : ∀ U, opInQ (.str t.habit) (.ktup [.str "dark", .str "always", .str "never"]) U = .ok (.bl true) U := fun U => by
    unfold opInQ
    rw [getQ_ktup]
    dsimp only
    rw [if_pos (by rfl), show inW (.str t.habit) [.str "dark", .str "always", .str "never"] = true from habit_in ok.hb]
  have hs1 := ok.s1
  simp [b_is_trip, wTt, run_in ok.s0 (show t.start ≤ length - 1 by omega), run_in ok.p0 ok.p1, run_in ok.a0 ok.a1, run_in ok.b0 ok.b1, ok.ne, e]
theorem new_Trip (a b c d e : W) : newR .Trip m_Trip___init__ [a, b, c, d, e] S = .ok (.loc S.length) (S ++ [.ins .Trip [a, b, c, d, e]]) := by
  unfold newR
  have key : m_Trip___init__ [.loc S.length, a, b, c, d, e] (S ++ [.ins .Trip []]) = .ok .non (S ++ [.ins .Trip [a, b, c, d, e]]) := by
    refine (fnM_ev rfl).trans ?_
    simp [b_Trip___init__]
  rw [key]
theorem new_TripF : frR S (newR .Trip m_Trip___init__ [.int t.start, .int t.source, .int t.target, .int t.pace, .str t.habit] S) = .ok (wT t) S := by
  rw [new_Trip]
  exact frR_app (frz_locI at_app0 (Nat.le_refl _) rfl)
theorem stairs_loop : ∀ (ts : List Tr) (k : Nat) (x5 x6 : Option W) (a b c d e : Option W), b = some (.int top) → c = some (.int length) → 1 ≤ length → (∀ t ∈ ts, t.Ok top length) → k + ts.length ≤ 8 → ∃ y5 y6,
    sForL (.t [5, 6]) f_Stairs___init___1 (enumA k (ts.map wTt)) [a, b, c, d, e, x5, x6] S = .ok (.nx [a, b, c, d, e, y5, y6]) S
  | [], k, x5, x6, a, b, c, d, e, _, _, _, _, _ => ⟨x5, x6, rfl⟩
  | t :: ts, k, x5, x6, a, b, c, d, e, hb, hc, h1, hok, hk => by
    simp only [List.length_cons] at hk
    obtain ⟨y5, y6, ih⟩ := stairs_loop ts (k + 1) (some (.int k)) (some (wTt t)) a b c d e hb hc h1 (fun u hu => hok u (List.mem_cons_of_mem _ hu)) (by omega)
    refine ⟨y5, y6, ?_⟩
    have tok := hok t List.mem_cons_self
    have hbody : f_Stairs___init___1 [a, b, c, d, e, some (.int k), some (wTt t)] S = .ok (.nx [a, b, c, d, e, some (.int k), some (wTt t)]) S := by
      subst hb hc
      have h8 : ¬ (k : Int) = 8 := by omega
      simp [f_Stairs___init___1, run_is_trip tok h1, h8]
    rw [List.map_cons]
    show sForL _ _ (.tup [.int (k : Nat), wTt t] :: enumA (k + 1) (ts.map wTt)) _ _ = _
    rw [sForL_nx (r1 := _) rfl hbody, ih]
theorem run_Stairs (ok : p.Ok) {ts : List Tr} (h : p.trips = ts) : newR .Stairs m_Stairs___init__ (.int p.top :: .int p.length :: .int p.time :: ts.map wTt) S = .ok (.loc S.length) (S ++ [.ins .Stairs [.int p.top, .int p.length, .int p.time, .lst (ts.map wT)]]) := by
  subst h
  obtain ⟨y5, y6, e⟩ := stairs_loop (S := S ++ [.ins .Stairs []]) (top := p.top) (length := p.length) p.trips 0 none none (some (.loc S.length)) (some (.int p.top)) (some (.int p.length)) (some (.int p.time)) (some (.tup (p.trips.map wTt))) rfl rfl ok.l0 ok.ok (by have := ok.n; omega)
  have hn := ok.n
  have e2 := enumW_eq (p.trips.map wTt)
  have e3 : ∀ (U : Sto), mLc [6] (.n 6) (iT (mVar 4)) mYes e_Stairs___init___1 [some (.loc S.length), some (.int p.top), some (.int p.length), some (.int p.time), some (.tup (p.trips.map wTt)), y5, y6] U = .ok (.lst (p.trips.map wT)) U := fun U => by
    refine mLc_map wTt wT p.trips (by simp) (by decide) (fun t ht => ⟨_, rfl, fun U => ?_⟩) (fun _ _ => rfl) (by omega)
    simp [e_Stairs___init___1, wipeR, wTt, new_TripF]
  have key : m_Stairs___init__ (.loc S.length :: .int p.top :: .int p.length :: .int p.time :: p.trips.map wTt) (S ++ [.ins .Stairs []]) = .ok .non (S ++ [.ins .Stairs [.int p.top, .int p.length, .int p.time, .lst (p.trips.map wT)]]) := by
    refine (if_pos ⟨by simp, by simp; omega⟩ : fnMS _ _ _ _ _ = _).trans ?_
    simp [b_Stairs___init__, run_in ok.t0 ok.t1, run_in ok.l0 ok.l1, run_in ok.m0 ok.m1, e2, e, e3]
  unfold newR
  rw [key]
theorem run_StairsF (ok : p.Ok) : frR S (newR .Stairs m_Stairs___init__ (.int p.top :: .int p.length :: .int p.time :: p.trips.map wTt) S) = .ok (wS p) S := by
  rw [run_Stairs ok rfl]
  refine frR_app (frz_locI at_app0 (Nat.le_refl _) (frzL_cons rfl (frzL_cons rfl (frzL_cons rfl (frzL_cons ?_ frzL_nil)))))
  refine frz_nol _ _ (nol_le (k := 3) ?_ (by omega))
  show (p.trips.map wT).all (nol 2) = true
  rw [List.all_map]
  exact List.all_eq_true.mpr fun _ _ => rfl
end
end SL

set_option Elab.async false
set_option linter.all false
set_option maxRecDepth 100000
set_option maxHeartbeats 2000000
/-! the law's own walking through the ticks -/
namespace SL
open PySem PySem.Spec PyProof.Rows L2
section
variable {p : Pt} {t : Tr} {top length : Int} {S : Sto}
/-! ### ages, found by trying all -/
theorem agesN_pw : ∀ (n : Nat) (a lim L : Int), 0 < L → (agesN n a lim L).Pairwise (· < ·) ∧ ∀ x ∈ agesN n a lim L, a ≤ x ∧ x < lim ∧ ∃ k : Nat, x = a + k * L
  | 0, _, _, _, _ => ⟨.nil, by simp [agesN]⟩
  | n + 1, a, lim, L, h => by
    unfold agesN
    split
    · rename_i hl
      obtain ⟨h1, h2⟩ := agesN_pw n (a + L) lim L h
      refine ⟨List.pairwise_cons.mpr ⟨fun y hy => ?_, h1⟩, fun x hx => ?_⟩
      · have := (h2 y hy).1
        omega
      · rcases List.mem_cons.mp hx with rfl | hx
        · exact ⟨Int.le_refl _, hl, 0, by simp⟩
        · obtain ⟨h3, h4, k, h5⟩ := h2 x hx
          exact ⟨by omega, h4, k + 1, by rw [h5]; push_cast; rw [Int.add_mul]; omega⟩
    · exact ⟨.nil, by simp⟩
theorem agesN_mem : ∀ (n k : Nat) (a lim L : Int), 0 < L → k < n → a + k * L < lim → a + k * L ∈ agesN n a lim L
  | 0, k, _, _, _, _, h, _ => by omega
  | n + 1, k, a, lim, L, hL, h, hl => by
    unfold agesN
    have hkL : 0 ≤ (k : Int) * L := Int.mul_nonneg (by omega) (by omega)
    rw [if_pos (by omega)]
    cases k with
    | zero => simp
    | succ k =>
      refine List.mem_cons_of_mem _ ?_
      have e : a + ((k + 1 : Nat) : Int) * L = (a + L) + (k : Int) * L := by push_cast; rw [Int.add_mul]; omega
      rw [e] at hl ⊢
      exact agesN_mem n k (a + L) lim L hL (by omega) hl
/-- is the trip's walker so old at this tick -/
def hit (p : Pt) (t : Tr) (tick : Int) (i : Nat) : Bool := decide ((tick - (i : Int) - t.start) % p.length = 0)
theorem ages_eq (ok : t.Ok top length) (h9 : top ≤ 9) (pl : 1 ≤ p.length) (tick : Int) : ages p t tick = ((List.range (t.lim tick).toNat).filter (hit p t tick)).map fun (i : Nat) => (i : Int) := by
  have hL : (0 : Int) < p.length := by omega
  have hd := dur_le ok h9
  have h0 : 0 ≤ (tick - t.start) % p.length := Int.emod_nonneg _ (by omega)
  have h1 : (tick - t.start) % p.length < p.length := Int.emod_lt_of_pos _ hL
  have hq := Int.emod_add_mul_ediv (tick - t.start) p.length
  refine pw_unique (agesN_pw _ _ _ _ hL).1 ?_ fun x => ?_
  · rw [List.pairwise_map]
    refine List.Pairwise.filter _ ?_
    exact List.pairwise_lt_range.imp fun h => by omega
  · constructor
    · intro hx
      obtain ⟨h2, h3, k, h4⟩ := (agesN_pw _ _ _ _ hL).2 x hx
      refine List.mem_map.mpr ⟨x.toNat, List.mem_filter.mpr ⟨List.mem_range.mpr (by omega), ?_⟩, by omega⟩
      unfold hit
      refine decide_eq_true ?_
      rw [show ((x.toNat : Nat) : Int) = x by omega, h4]
      have : tick - ((tick - t.start) % p.length + (k : Int) * p.length) - t.start = p.length * ((tick - t.start) / p.length - k) := by
        rw [Int.mul_sub, Int.mul_comm p.length (k : Int)]
        omega
      rw [this]
      exact Int.mul_emod_right _ _
    · intro hx
      obtain ⟨i, hi, rfl⟩ := List.mem_map.mp hx
      obtain ⟨h2, h3⟩ := List.mem_filter.mp hi
      have h2 := List.mem_range.mp h2
      have h3 : (tick - (i : Int) - t.start) % p.length = 0 := of_decide_eq_true h3
      have hq2 := Int.emod_add_mul_ediv (tick - (i : Int) - t.start) p.length
      rw [h3] at hq2
      have e : (i : Int) = (tick - t.start) % p.length + ((tick - t.start) / p.length - (tick - (i : Int) - t.start) / p.length) * p.length := by
        rw [Int.sub_mul, Int.mul_comm _ p.length, Int.mul_comm _ p.length]
        omega
      generalize hm : (tick - t.start) / p.length - (tick - (i : Int) - t.start) / p.length = m at e
      have hm0 : 0 ≤ m := by
        rcases Int.lt_or_le m 0 with z | z
        · have : m * p.length ≤ -1 * p.length := Int.mul_le_mul_of_nonneg_right (by omega) (by omega)
          omega
        · exact z
      have hmle : m ≤ m * p.length := by
        have := Int.mul_le_mul_of_nonneg_left (a := 1) (b := p.length) (c := m) pl hm0
        omega
      have hlim : t.lim tick ≤ 45 := by
        unfold Tr.lim
        split <;> omega
      rw [e, show m = ((m.toNat : Nat) : Int) by omega]
      exact agesN_mem 50 m.toNat _ _ _ hL (by omega) (by rw [show ((m.toNat : Nat) : Int) = m by omega, ← e]; omega)
end
end SL

set_option Elab.async false
set_option linter.all false
set_option maxRecDepth 100000
set_option maxHeartbeats 2000000
namespace SL
open PySem PySem.Spec PyProof.Rows L2
theorem itR1_ev {S : Sto} {i : Int} (h : -(2 ^ 62) ≤ i) (h2 : i < 2 ^ 62) : itR1 [.int i] S = .ok (rngW 0 1 i.toNat) S := if_pos ⟨h, h2⟩
theorem itR1_len {S : Sto} {n : Nat} (h : n < 1000000) : itR1 [.int (n : Int)] S = .ok (rngW 0 1 n) S := by
  have h1 : -(2 ^ 62) ≤ (n : Int) := by omega
  have h2 : (n : Int) < 2 ^ 62 := by omega
  generalize hi : (n : Int) = i at h1 h2
  rw [itR1_ev h1 h2, ← hi, Int.toNat_natCast]
theorem rng_eq (n : Nat) : rngW 0 1 n = (List.range n).map fun (i : Nat) => W.int (i : Int) := by
  unfold rngW
  refine List.map_congr_left fun i _ => ?_
  simp
section
variable {p : Pt} {t : Tr} {top length : Int} {S : Sto}
theorem dur_nonneg (ok : t.Ok top length) : 0 ≤ t.dur := by
  unfold Tr.dur
  refine Int.mul_nonneg ?_ (by have := ok.p0; omega)
  split <;> omega
theorem run_l_duration (ok : t.Ok top length) : m_l_duration [wTt t] S = .ok (.int t.dur) S := by
  refine (fnM_ev rfl).trans ?_
  simp [b_l_duration, wTt, mulOk_r (j := t.pace) (by have := ok.p0; omega) (by have := ok.p1; omega)]
  rfl
theorem walk_inner (hL : 1 ≤ p.length) (tick k : Int) : ∀ (n j : Nat) (acc : Prs) (x5 : Option W), acc.length + n < 1000000 → ∃ y5,
    sForL (.n 5) f_l_walks_1 ((List.range' j n).map fun (i : Nat) => W.int (i : Int)) [some (wP p), some (.int tick), some (.loc S.length), some (.int k), some (wTt t), x5] (S ++ [.lst (acc.map wPr)]) =
      .ok (.nx [some (wP p), some (.int tick), some (.loc S.length), some (.int k), some (wTt t), y5]) (S ++ [.lst ((acc ++ ((List.range' j n).filter (hit p t tick)).map fun (i : Nat) => (k, (i : Int))).map wPr)])
  | 0, j, acc, x5, _ => ⟨x5, by simp⟩
  | n + 1, j, acc, x5, h => by
    have hl : decide (0 < p.length) = true := decide_eq_true (by omega)
    have ha : acc.length < 16000000 := by omega
    rw [List.range'_succ, List.map_cons]
    cases hh : hit p t tick j with
    | true =>
      obtain ⟨y5, ih⟩ := walk_inner hL tick k n (j + 1) (acc ++ [(k, (j : Int))]) (some (.int j)) (by simp; omega)
      refine ⟨y5, ?_⟩
      have hz : (tick - (j : Int) - t.start) % p.length = 0 := of_decide_eq_true hh
      have hb : f_l_walks_1 [some (wP p), some (.int tick), some (.loc S.length), some (.int k), some (wTt t), some (.int (j : Int))] (S ++ [.lst (acc.map wPr)]) =
          .ok (.nx [some (wP p), some (.int tick), some (.loc S.length), some (.int k), some (wTt t), some (.int (j : Int))]) (S ++ [.lst ((acc ++ [(k, (j : Int))]).map wPr)]) := by
        simp [f_l_walks_1, wTt, wP, hl, hz, ha, wPr]
      rw [sForL_nx (r1 := _) rfl hb, ih, List.filter_cons_of_pos hh]
      simp
    | false =>
      obtain ⟨y5, ih⟩ := walk_inner hL tick k n (j + 1) acc (some (.int j)) (by omega)
      refine ⟨y5, ?_⟩
      have hz : ¬ (tick - (j : Int) - t.start) % p.length = 0 := of_decide_eq_false hh
      have hb : f_l_walks_1 [some (wP p), some (.int tick), some (.loc S.length), some (.int k), some (wTt t), some (.int (j : Int))] (S ++ [.lst (acc.map wPr)]) =
          .ok (.nx [some (wP p), some (.int tick), some (.loc S.length), some (.int k), some (wTt t), some (.int (j : Int))]) (S ++ [.lst (acc.map wPr)]) := by
        simp [f_l_walks_1, wTt, wP, hl, hz]
      rw [sForL_nx (r1 := _) rfl hb, ih, List.filter_cons_of_neg (by simp [hh])]
/-- who walks, how old -/
def walks (p : Pt) (tick : Int) : Nat → List Tr → Prs
  | _, [] => []
  | k, t :: ts => (ages p t tick).map (fun a => ((k : Int), a)) ++ walks p tick (k + 1) ts
theorem walks_len (p : Pt) (tick : Int) : ∀ (ts : List Tr) (k : Nat), (walks p tick k ts).length ≤ 50 * ts.length
  | [], _ => Nat.le_refl _
  | t :: ts, k => by
    have := walks_len p tick ts (k + 1)
    have h2 : (ages p t tick).length ≤ 50 := agesN_len _ _ _ _
    simp only [walks, List.length_append, List.length_map, List.length_cons]
    omega
theorem walk_outer (ok : p.Ok) {tick : Int} (h0 : 0 ≤ tick) : ∀ (ts : List Tr) (k : Nat) (acc : Prs) (x3 x4 x5 : Option W), p.trips.drop k = ts → acc.length + 50 * ts.length < 100000 → ∃ y3 y4 y5,
    sForL (.n 3) f_l_walks_2 ((List.range' k ts.length).map fun (i : Nat) => W.int (i : Int)) [some (wP p), some (.int tick), some (.loc S.length), x3, x4, x5] (S ++ [.lst (acc.map wPr)]) =
      .ok (.nx [some (wP p), some (.int tick), some (.loc S.length), y3, y4, y5]) (S ++ [.lst ((acc ++ walks p tick k ts).map wPr)])
  | [], k, acc, x3, x4, x5, _, _ => ⟨x3, x4, x5, by simp [walks]⟩
  | t :: ts, k, acc, x3, x4, x5, hd, hl => by
    simp only [List.length_cons] at hl
    have ht : p.trips[k]? = some t := by
      have := congrArg (fun l => l[0]?) hd
      simpa using this
    have hd2 : p.trips.drop (k + 1) = ts := by
      have := congrArg List.tail hd
      simpa using this
    have tok : t.Ok p.top p.length := ok.ok t (List.mem_of_getElem? ht)
    have al : (ages p t tick).length ≤ 50 := agesN_len _ _ _ _
    have d0 := dur_nonneg tok
    have d1 := dur_le tok ok.t1
    have el : (if t.dur < tick + 1 then t.dur else tick + 1) = t.lim tick := by
      unfold Tr.lim
      split <;> split <;> omega
    have hr : ∀ U, itR1 [.int (t.lim tick)] U = .ok (rngW 0 1 (t.lim tick).toNat) U := fun U => itR1_ev (by unfold Tr.lim; split <;> omega) (by unfold Tr.lim; split <;> omega)
    obtain ⟨z5, e1⟩ := walk_inner (S := S) (t := t) ok.l0 tick k (t.lim tick).toNat 0 acc x5 (by unfold Tr.lim; split <;> omega)
    have e2 : rngW 0 1 (t.lim tick).toNat = (List.range' 0 (t.lim tick).toNat).map fun (i : Nat) => W.int (i : Int) := by rw [rng_eq, List.range_eq_range']
    have e3 : ((List.range' 0 (t.lim tick).toNat).filter (hit p t tick)).map (fun (i : Nat) => ((k : Int), (i : Int))) = (ages p t tick).map fun a => ((k : Int), a) := by
      rw [ages_eq tok ok.t1 ok.l0, List.map_map, List.range_eq_range']
      rfl
    rw [e3] at e1
    have hb : f_l_walks_2 [some (wP p), some (.int tick), some (.loc S.length), some (.int (k : Int)), x4, x5] (S ++ [.lst (acc.map wPr)]) =
        .ok (.nx [some (wP p), some (.int tick), some (.loc S.length), some (.int (k : Int)), some (wTt t), z5]) (S ++ [.lst ((acc ++ (ages p t tick).map fun a => ((k : Int), a)).map wPr)]) := by
      have hi : mIx (mIx (mVar 0) (mC (.int 3))) (mVar 3) [some (wP p), some (.int tick), some (.loc S.length), some (.int (k : Int)), x4, x5] (S ++ [.lst (acc.map wPr)]) = .ok (wTt t) (S ++ [.lst (acc.map wPr)]) := by
        simp [wP, ht]
      rw [f_l_walks_2, sSeq_ev, sSet_ev, hi]
      simp only [bd_ok, sq_nx]
      simp [run_l_duration tok, el, hr, e2]
      simpa using e1
    obtain ⟨y3, y4, y5, ih⟩ := walk_outer ok h0 ts (k + 1) (acc ++ (ages p t tick).map fun a => ((k : Int), a)) (some (.int (k : Int))) (some (wTt t)) z5 hd2 (by simp; omega)
    refine ⟨y3, y4, y5, ?_⟩
    rw [List.length_cons, List.range'_succ, List.map_cons, sForL_nx (r1 := _) rfl hb, ih]
    simp [walks]
end
end SL

set_option Elab.async false
set_option linter.all false
set_option maxRecDepth 100000
set_option maxHeartbeats 2000000
namespace SL
open PySem PySem.Spec PyProof.Rows L2
section
variable {p : Pt} {t : Tr} {top length : Int} {S : Sto}
theorem run_walks (ok : p.Ok) {tick : Int} (h0 : 0 ≤ tick) : m_l_walks [wP p, .int tick] S = .ok (.loc S.length) (S ++ [.lst ((walks p tick 0 p.trips).map wPr)]) := by
  obtain ⟨y3, y4, y5, e⟩ := walk_outer (S := S) ok h0 p.trips 0 [] none none none rfl (by have := ok.n; simp; omega)
  have hn := ok.n
  have e2 : rngW 0 1 p.trips.length = (List.range' 0 p.trips.length).map fun (i : Nat) => W.int (i : Int) := by rw [rng_eq, List.range_eq_range']
  have hi : ∀ U r, iR1 (mCons (mCall bLen (mCons (mIx (mVar 0) (mC (.int 3))) (mNil))) (mNil)) (some (wP p) :: r) U = .ok ((List.range' 0 p.trips.length).map fun (i : Nat) => W.int (i : Int)) U := fun U r => by
    have hb : mCall bLen (mCons (mIx (mVar 0) (mC (.int 3))) mNil) (some (wP p) :: r) U = .ok (.int (p.trips.length : Int)) U := by simp [wP]
    rw [iR1_ev, mCons_ev, hb, bd_ok, mNil_ev, bd_ok, bd_ok, itR1_len (by omega), e2]
  refine (fnM_ev rfl).trans ?_
  simp only [List.map_nil, List.nil_append] at e
  show endOf (b_l_walks [some (wP p), some (.int tick), none, none, none, none] S) = _
  have h : sSet 2 (mLstC mNil) [some (wP p), some (.int tick), none, none, none, none] S = .ok (.nx [some (wP p), some (.int tick), some (.loc S.length), none, none, none]) (S ++ [.lst []]) := by simp
  rw [b_l_walks, sSeq_ev, h, sq_nx, sSeq_ev, sFor_ev, hi, bd_ok, e, sq_nx]
  simp
end
end SL

set_option Elab.async false
set_option linter.all false
set_option maxRecDepth 100000
set_option maxHeartbeats 2000000
namespace SL
open PySem PySem.Spec PyProof.Rows L2
section
variable {p : Pt} {t : Tr} {top length : Int} {S : Sto}
theorem inner_cons (time : Int) (t : Tr) (k now : Int) (ps : Prs) (a : Int) (as : List Int) : inner time t k now ps (a :: as) = inner time t k (inner time t k now ps [a]).1 (inner time t k now ps [a]).2 as := by
  simp only [inner]
  cases t.fl a with
  | none => rfl
  | some f => cases t.press now <;> rfl
/-- the law's loop over those who walk -/
def tickF (p : Pt) : Int → Prs → Prs → Int × Prs
  | now, ps, [] => (now, ps)
  | now, ps, q :: r => match p.trips[q.1.toNat]? with
    | none => (now, ps)
    | some t => tickF p (inner p.time t q.1 now ps [q.2]).1 (inner p.time t q.1 now ps [q.2]).2 r
theorem tickF_ages {k : Nat} (h : p.trips[k]? = some t) (r : Prs) : ∀ (as : List Int) (now : Int) (ps : Prs), tickF p now ps (as.map (fun a => ((k : Int), a)) ++ r) = tickF p (inner p.time t k now ps as).1 (inner p.time t k now ps as).2 r
  | [], _, _ => rfl
  | a :: as, now, ps => by
    rw [inner_cons]
    show (match p.trips[((k : Int)).toNat]? with | none => _ | some t => _) = _
    rw [Int.toNat_natCast, h]
    exact tickF_ages h r as _ _
def wkl (p : Pt) (tick : Int) : Nat → List Tr → List Int
  | _, [] => []
  | k, t :: ts => (if (ages p t tick).isEmpty then [] else [(k : Int)]) ++ wkl p tick (k + 1) ts
theorem outer_is (tick : Int) : ∀ (ts : List Tr) (k : Nat) (now : Int) (ps : Prs) (wk : List Int), p.trips.drop k = ts → outer p tick k ts now ps wk = ((tickF p now ps (walks p tick k ts)).1, (tickF p now ps (walks p tick k ts)).2, wk ++ wkl p tick k ts)
  | [], k, now, ps, wk, _ => by simp [outer, walks, tickF, wkl]
  | t :: ts, k, now, ps, wk, hd => by
    have ht : p.trips[k]? = some t := by
      have := congrArg (fun l => l[0]?) hd
      simpa using this
    have hd2 : p.trips.drop (k + 1) = ts := by
      have := congrArg List.tail hd
      simpa using this
    show outer p tick (k + 1) ts _ _ _ = _
    rw [outer_is tick ts (k + 1) _ _ _ hd2]
    show _ = ((tickF p now ps ((ages p t tick).map (fun a => ((k : Int), a)) ++ walks p tick (k + 1) ts)).1, (tickF p now ps ((ages p t tick).map (fun a => ((k : Int), a)) ++ walks p tick (k + 1) ts)).2, wk ++ ((if (ages p t tick).isEmpty then [] else [(k : Int)]) ++ wkl p tick (k + 1) ts))
    rw [tickF_ages ht]
    cases (ages p t tick).isEmpty <;> simp
theorem wkl_mem (tick : Int) : ∀ (ts : List Tr) (k : Nat) (x : Int), (x ∈ wkl p tick k ts ↔ x ∈ (walks p tick k ts).map (·.1)) ∧ (x ∈ wkl p tick k ts → (k : Int) ≤ x)
  | [], _, _ => by simp [wkl, walks]
  | t :: ts, k, x => by
    obtain ⟨h1, h2⟩ := wkl_mem tick ts (k + 1) x
    constructor
    · simp only [wkl, walks, List.mem_append, List.map_append, h1]
      refine or_congr ?_ Iff.rfl
      cases hA : ages p t tick with
      | nil => simp
      | cons a as =>
        simp
        exact fun _ _ h => h.symm
    · intro h
      rcases List.mem_append.mp h with h | h
      · split at h
        · cases h
        · rw [List.mem_singleton.mp h]
          exact Int.le_refl _
      · have := h2 h
        omega
theorem wkl_pw (tick : Int) : ∀ (ts : List Tr) (k : Nat), (wkl p tick k ts).Pairwise (· < ·) ∧ (wkl p tick k ts).length ≤ ts.length
  | [], _ => ⟨.nil, Nat.le_refl _⟩
  | t :: ts, k => by
    obtain ⟨h1, h2⟩ := wkl_pw tick ts (k + 1)
    unfold wkl
    split
    · exact ⟨h1, by simp; omega⟩
    · refine ⟨List.pairwise_cons.mpr ⟨fun y hy => ?_, h1⟩, by simp; omega⟩
      have := (wkl_mem (p := p) tick ts (k + 1) y).2 hy
      omega
theorem sort_walks (tick : Int) (ts : List Tr) (k : Nat) : sortS ((walks p tick k ts).map (·.1)) = wkl p tick k ts := pw_unique (sortS_pw _) (wkl_pw tick ts k).1 fun x => by rw [mem_sortS, (wkl_mem tick ts k x).1]
theorem walks_at (tick : Int) : ∀ (ts : List Tr) (k : Nat), p.trips.drop k = ts → ∀ q ∈ walks p tick k ts, ∃ (j : Nat) (t : Tr), q.1 = (j : Int) ∧ p.trips[j]? = some t
  | [], _, _, q, hq => by cases hq
  | t :: ts, k, hd, q, hq => by
    have ht : p.trips[k]? = some t := by
      have := congrArg (fun l => l[0]?) hd
      simpa using this
    have hd2 : p.trips.drop (k + 1) = ts := by
      have := congrArg List.tail hd
      simpa using this
    rcases List.mem_append.mp hq with hq | hq
    · obtain ⟨a, _, rfl⟩ := List.mem_map.mp hq
      exact ⟨k, t, rfl, ht⟩
    · exact walks_at tick ts (k + 1) hd2 q hq
def wPr3 (tick : Int) (q : Int × Int) : W := .tup [.int tick, .int q.1, .int q.2]
theorem tick_loop (ok : p.Ok) (l tick : Int) (ww : W) (x15 : Option W) : ∀ (ws : Prs) (now : Int) (ps : Prs) (x6 x7 x8 x9 x10 x11 x12 x13 x14 : Option W), (∀ q ∈ ws, ∃ (j : Nat) (t : Tr), q.1 = (j : Int) ∧ p.trips[j]? = some t) → ps.length + ws.length < 100000 → ∃ y6 y7 y8 y9 y10 y11 y12 y13 y14,
    sForL (.t [6, 7]) f_l_tick_1 (ws.map wPr) [some (wP p), some (.int l), some (.int tick), some (.int now), some (.loc S.length), some ww, x6, x7, x8, x9, x10, x11, x12, x13, x14, x15] (S ++ [.lst (ps.map (wPr3 tick))]) =
      .ok (.nx [some (wP p), some (.int l), some (.int tick), some (.int (tickF p now ps ws).1), some (.loc S.length), some ww, y6, y7, y8, y9, y10, y11, y12, y13, y14, x15]) (S ++ [.lst ((tickF p now ps ws).2.map (wPr3 tick))])
  | [], now, ps, x6, x7, x8, x9, x10, x11, x12, x13, x14, _, _ => ⟨x6, x7, x8, x9, x10, x11, x12, x13, x14, rfl⟩
  | q :: ws, now, ps, x6, x7, x8, x9, x10, x11, x12, x13, x14, hq, hl => by
    simp only [List.length_cons] at hl
    obtain ⟨j, t, e1, ht⟩ := hq q List.mem_cons_self
    obtain ⟨k, a⟩ := q
    dsimp only at e1
    subst e1
    have tok : t.Ok p.top p.length := ok.ok t (List.mem_of_getElem? ht)
    have p0 := tok.p0
    have p1 := tok.p1
    have hps : ps.length < 16000000 := by omega
    have q1 : ∀ S' : Sto, opEq (.str "always") (.str "always") S' = .ok (.bl true) S' := fun S' => opEq_str lit_always lit_always
    have q2 : ∀ S' : Sto, opEq (.str "dark") (.str "always") S' = .ok (.bl false) S' := fun S' => (opEq_str lit_dark lit_always).trans rfl
    have q3 : ∀ S' : Sto, opEq (.str "never") (.str "always") S' = .ok (.bl false) S' := fun S' => (opEq_str lit_never lit_always).trans rfl
    have q4 : ∀ S' : Sto, opEq (.str "dark") (.str "dark") S' = .ok (.bl true) S' := fun S' => opEq_str lit_dark lit_dark
    have q5 : ∀ S' : Sto, opEq (.str "never") (.str "dark") S' = .ok (.bl false) S' := fun S' => (opEq_str lit_never lit_dark).trans rfl
    have n2 : ¬ (("dark" : Str) = "always") := by decide +kernel
    have n3 : ¬ (("never" : Str) = "always") := by decide +kernel
    have n5 : ¬ (("never" : Str) = "dark") := by decide +kernel
    have d1 : decide (0 < t.pace) = true := decide_eq_true (by omega)
    have d2 : decide (0 < t.pace ∧ t.pace < 1073741824) = true := decide_eq_true (by omega)
    have hix : mIx (mIx (mVar 0) (mC (.int 3))) (mVar 6) [some (wP p), some (.int l), some (.int tick), some (.int now), some (.loc S.length), some ww, some (.int (j : Int)), some (.int a), x8, x9, x10, x11, x12, x13, x14, x15] (S ++ [.lst (ps.map (wPr3 tick))]) = .ok (wTt t) (S ++ [.lst (ps.map (wPr3 tick))]) := by
      simp [wP, ht]
    have hb : ∃ z14, f_l_tick_1 [some (wP p), some (.int l), some (.int tick), some (.int now), some (.loc S.length), some ww, some (.int (j : Int)), some (.int a), x8, x9, x10, x11, x12, x13, x14, x15] (S ++ [.lst (ps.map (wPr3 tick))]) =
        .ok (.nx [some (wP p), some (.int l), some (.int tick), some (.int (inner p.time t j now ps [a]).1), some (.loc S.length), some ww, some (.int (j : Int)), some (.int a), some (.int t.start), some (.int t.source), some (.int t.target), some (.int t.pace), some (.str t.habit), some (.bl (decide (a % t.pace = 0))), z14, x15]) (S ++ [.lst ((inner p.time t j now ps [a]).2.map (wPr3 tick))]) := by
      rw [f_l_tick_1, sSeq_ev, sTg_ev, hix]
      simp only [bd_ok]
      by_cases hz : a % t.pace = 0
      · have hf : ¬ a % t.pace > 0 := by omega
        rcases tok.hb with h1 | h1 | h1
        · by_cases h3 : now = 0
          · refine ⟨some (.int (if t.target > t.source then t.source + a / t.pace else t.source - a / t.pace)), ?_⟩
            by_cases hg : t.target > t.source
            · simp [wTt, wP, d1, d2, hz, h1, h3, hg, q2, q4, inner, Tr.fl, Tr.press, hps, wPr3]
            · simp [wTt, wP, d1, d2, hz, h1, h3, hg, q2, q4, inner, Tr.fl, Tr.press, hps, wPr3]
          · refine ⟨x14, ?_⟩
            simp [wTt, wP, d1, d2, hz, h1, h3, q2, q4, inner, Tr.fl, Tr.press, n2]
        · refine ⟨some (.int (if t.target > t.source then t.source + a / t.pace else t.source - a / t.pace)), ?_⟩
          by_cases hg : t.target > t.source
          · simp [wTt, wP, d1, d2, hz, h1, hg, q1, inner, Tr.fl, Tr.press, hps, wPr3]
          · simp [wTt, wP, d1, d2, hz, h1, hg, q1, inner, Tr.fl, Tr.press, hps, wPr3]
        · refine ⟨x14, ?_⟩
          simp [wTt, wP, d1, d2, hz, h1, q3, q5, inner, Tr.fl, Tr.press, n3, n5]
      · have hf : a % t.pace > 0 := by
          have := Int.emod_nonneg a (show t.pace ≠ 0 by omega)
          omega
        refine ⟨x14, ?_⟩
        simp [wTt, d1, hz, inner, Tr.fl, hf]
    obtain ⟨z14, hb⟩ := hb
    have il := inner_len p.time t j [a] now ps
    simp only [List.length_cons, List.length_nil] at il
    obtain ⟨y6, y7, y8, y9, y10, y11, y12, y13, y14, e⟩ := tick_loop ok l tick ww x15 ws (inner p.time t j now ps [a]).1 (inner p.time t j now ps [a]).2 (some (.int (j : Int))) (some (.int a)) (some (.int t.start)) (some (.int t.source)) (some (.int t.target)) (some (.int t.pace)) (some (.str t.habit)) (some (.bl (decide (a % t.pace = 0)))) z14 (fun q hq2 => hq q (List.mem_cons_of_mem _ hq2)) (by omega)
    refine ⟨y6, y7, y8, y9, y10, y11, y12, y13, y14, ?_⟩
    have ef : tickF p now ps (((j : Int), a) :: ws) = tickF p (inner p.time t j now ps [a]).1 (inner p.time t j now ps [a]).2 ws := by
      show (match p.trips[((j : Int)).toNat]? with | none => _ | some t => _) = _
      rw [Int.toNat_natCast, ht]
    rw [List.map_cons, sForL_nx (r1 := _) rfl hb, e, ef]
end
end SL

set_option Elab.async false
set_option linter.all false
set_option maxRecDepth 100000
set_option maxHeartbeats 2000000
namespace SL
open PySem PySem.Spec PyProof.Rows L2
section
variable {p : Pt} {t : Tr} {top length : Int} {S : Sto}
def wTk (tick : Int) (s : Sc) : W := .tup [.int s.light, .lst (s.presses.map (wPr3 tick)), .lst (s.dark.map W.int)]
theorem scene_is (light tick : Int) : scene p light tick = ⟨(tickF p (dim light) [] (walks p tick 0 p.trips)).1, (tickF p (dim light) [] (walks p tick 0 p.trips)).2, if (tickF p (dim light) [] (walks p tick 0 p.trips)).1 = 0 then wkl p tick 0 p.trips else []⟩ := by
  unfold scene
  rw [outer_is tick p.trips 0 (dim light) [] [] rfl]
  simp
theorem frz_wPr3 {S : Sto} {n k : Nat} {tick : Int} {ps : Prs} : frzL (frz (k + 2) S n) (ps.map (wPr3 tick)) = some (ps.map (wPr3 tick)) := frzL_all fun x hx => by
  obtain ⟨i, _, rfl⟩ := List.mem_map.mp hx
  exact frz_nol _ _ rfl
theorem nol_prs {ps : Prs} : nol 3 (.lst (ps.map wPr)) = true := by
  show (ps.map wPr).all (nol 2) = true
  rw [List.all_map]
  exact List.all_eq_true.mpr fun _ _ => rfl
theorem run_l_tick (ok : p.Ok) (light : Int) {tick : Int} (h0 : 0 ≤ tick) : frR S (m_l_tick [wP p, .int light, .int tick] S) = .ok (wTk tick (scene p light tick)) S := by
  have hn := ok.n
  have wl := walks_len p tick p.trips 0
  obtain ⟨y6, y7, y8, y9, y10, y11, y12, y13, y14, e⟩ := tick_loop (S := S) ok light tick (.lst ((walks p tick 0 p.trips).map wPr)) none (walks p tick 0 p.trips) (dim light) [] none none none none none none none none none (walks_at tick p.trips 0 rfl) (by simp; omega)
  have hw : ∀ U : Sto, frR U (m_l_walks [wP p, .int tick] U) = .ok (.lst ((walks p tick 0 p.trips).map wPr)) U := fun U => by
    rw [run_walks ok h0]
    exact frR_app (frz_locL at_app0 (Nat.le_refl _) frz_wPr)
  have hs : ∀ (x0 x1 x2 x3 x4 : Option W) (U : Sto), mSortSet (mLc [15] (.n 15) (iL (mVar 5)) mYes e_l_tick_1) [x0, x1, x2, x3, x4, some (.lst ((walks p tick 0 p.trips).map wPr)), y6, y7, y8, y9, y10, y11, y12, y13, y14, none] U = .ok (.lst ((wkl p tick 0 p.trips).map W.int)) U := fun x0 x1 x2 x3 x4 U => by
    have hl : mLc [15] (.n 15) (iL (mVar 5)) mYes e_l_tick_1 [x0, x1, x2, x3, x4, some (.lst ((walks p tick 0 p.trips).map wPr)), y6, y7, y8, y9, y10, y11, y12, y13, y14, none] U = .ok (.lst (((walks p tick 0 p.trips).map (·.1)).map W.int)) U := by
      rw [List.map_map]
      refine mLc_map wPr (fun q => .int q.1) (walks p tick 0 p.trips) (by simp) (by decide) (fun q hq => ⟨_, rfl, fun U => ?_⟩) (fun _ _ => rfl) (by omega)
      simp [e_l_tick_1, wPr, wipeR]
    rw [mSortSet_ev, hl, bd_ok, getIs_ints, oc_some, sort_walks, decide_eq_true, bc_true]
    exact ⟨by rw [List.length_map]; omega, by have := (wkl_pw (p := p) tick p.trips 0).2; omega⟩
  have ed : (if 1 < light then light - 1 else 0) = dim light := rfl
  have e' := e
  simp only [List.map_nil] at e'
  have key : m_l_tick [wP p, .int light, .int tick] S = .ok (.tup [.int (scene p light tick).light, .loc S.length, .lst ((scene p light tick).dark.map W.int)]) (S ++ [.lst ((scene p light tick).presses.map (wPr3 tick))]) := by
    rw [scene_is]
    dsimp only
    refine (fnM_ev rfl).trans ?_
    by_cases hz : (tickF p (dim light) [] (walks p tick 0 p.trips)).1 = 0
    · rw [if_pos hz]
      simp -implicitDefEqProofs [b_l_tick, ed, hw, e', hz, hs, -mSortSet_ev]
    · rw [if_neg hz]
      simp -implicitDefEqProofs [b_l_tick, ed, hw, e', hz, hs, -mSortSet_ev]
  rw [key]
  refine frR_app (frz_tup (frzL_cons rfl (frzL_cons (frz_locL at_app0 (Nat.le_refl _) frz_wPr3) (frzL_cons (frz_nol _ _ (nol_le nol_ints (by omega))) frzL_nil))))
end
end SL

set_option Elab.async false
set_option linter.all false
set_option maxRecDepth 100000
set_option maxHeartbeats 2000000
namespace SL
open PySem PySem.Spec PyProof.Rows L2
section
variable {p : Pt} {t : Tr} {top length : Int} {S : Sto}
def wFs : Nat → List Sc → List W
  | _, [] => []
  | k, s :: r => wTk k s :: wFs (k + 1) r
theorem wFs_app : ∀ (a : List Sc) (k : Nat) (x : Sc), wFs k (a ++ [x]) = wFs k a ++ [wTk ((k + a.length : Nat) : Int) x]
  | [], k, x => by simp [wFs]
  | s :: a, k, x => by
    show wTk k s :: wFs (k + 1) (a ++ [x]) = wTk k s :: (wFs (k + 1) a ++ _)
    rw [wFs_app a (k + 1) x, List.length_cons, show k + 1 + a.length = k + (a.length + 1) by omega]
theorem wFs_len : ∀ (a : List Sc) (k : Nat), (wFs k a).length = a.length
  | [], _ => rfl
  | s :: a, k => by simp [wFs, wFs_len a]
theorem wFs_at : ∀ (a : List Sc) (k i : Nat) (s : Sc), a[i]? = some s → (wFs k a)[i]? = some (wTk ((k + i : Nat) : Int) s)
  | [], _, _, _, h => by simp at h
  | s :: a, k, 0, x, h => by
    simp at h
    subst h
    rfl
  | s :: a, k, i + 1, x, h => by
    have := wFs_at a (k + 1) i x (by simpa using h)
    rw [show k + (i + 1) = k + 1 + i by omega]
    exact this
theorem cycle_loop (ok : p.Ok) (x6 : Option W) : ∀ (n : Nat) (found : List Sc) (light : Int) (seen : Sn) (fs : List Sc) (s : Int) (x5 : Option W), cycN p n found light seen = some (fs, s) → found.length + n < 1000000 → seen.length + n < 1000000 → ∃ D,
    sWhileN t_l_cycle_1 f_l_cycle_1 n [some (wP p), some (.int (longest p)), some (.loc S.length), some (.int light), some (.loc (S.length + 1)), x5, x6] (S ++ [.lst (wFs 0 found), .dt (snK seen) (snV seen)]) =
      .ok (.rt (.tup [.loc S.length, .int s])) (S ++ [.lst (wFs 0 fs), D])
  | 0, _, _, _, _, _, _, h, _, _ => by cases h
  | n + 1, found, light, seen, fs, s, x5, h, hl, hl2 => by
    have hL : decide (0 < p.length) = true := decide_eq_true (by have := ok.l0; omega)
    have e1 : ∀ S', frR S' (m_l_tick [wP p, .int light, .int (found.length : Int)] S') = .ok (wTk found.length (scene p light found.length)) S' := fun S' => run_l_tick ok light (by omega)
    have hfl : found.length < 16000000 := by omega
    have wl : (wFs 0 found).length = found.length := wFs_len _ _
    have d1 := fun a b => din_sn (S := S ++ [.lst (wFs 0 found), .dt (snK seen) (snV seen)]) (n := S.length + 1) (s := seen) (a := a) (b := b) (by simp)
    have d2 := fun a b i => dget_sn (S := S ++ [.lst (wFs 0 found), .dt (snK seen) (snV seen)]) (n := S.length + 1) (s := seen) (a := a) (b := b) (i := i) (by simp)
    have d3 := fun a b i h => dput_sn (S := S ++ [.lst (wFs 0 found), .dt (snK seen) (snV seen)]) (n := S.length + 1) (s := seen) (a := a) (b := b) (i := i) (by simp) h (by omega)
    have wa : wFs 0 (found ++ [scene p light found.length]) = wFs 0 found ++ [wTk (found.length : Int) (scene p light found.length)] := by
      rw [wFs_app]
      simp
    have la : atI (wFs 0 found ++ [wTk (found.length : Int) (scene p light found.length)]) (-1) = some (wTk (found.length : Int) (scene p light found.length)) := atI_last
    have lb : ∀ U, opIx (wTk (found.length : Int) (scene p light found.length)) (.int 0) U = .ok (.int (scene p light found.length).light) U := fun U => by simp [wTk]
    have pl : ∀ U, opIx (wP p) (.int 1) U = .ok (.int p.length) U := fun U => by simp [wP]
    have ht : ∀ r U, t_l_cycle_1 r U = .ok true U := fun r U => by simp [t_l_cycle_1]
    rw [sWhileN, ht]
    dsimp only
    by_cases h1 : longest p ≤ found.length
    · cases hg : snGet seen ((found.length : Int) % p.length, light) with
      | some s2 =>
        have hc : cycN p (n + 1) found light seen = some (found, s2) := by
          unfold cycN
          rw [if_pos h1, hg]
        rw [hc] at h
        cases h
        have hb : f_l_cycle_1 [some (wP p), some (.int (longest p)), some (.loc S.length), some (.int light), some (.loc (S.length + 1)), x5, x6] (S ++ [.lst (wFs 0 found), .dt (snK seen) (snV seen)]) =
            .ok (.rt (.tup [.loc S.length, .int s])) (S ++ [.lst (wFs 0 found), .dt (snK seen) (snV seen)]) := by
          simp -implicitDefEqProofs [f_l_cycle_1, wl, hL, h1, d1, hg, d2 _ _ _ hg, pl]
        rw [hb]
        exact ⟨_, rfl⟩
      | none =>
        have hc : cycN p (n + 1) found light seen = cycN p n (found ++ [scene p light found.length]) (scene p light found.length).light (seen ++ [(((found.length : Int) % p.length, light), (found.length : Int))]) := by
          conv => lhs; unfold cycN
          rw [if_pos h1, hg]
        rw [hc] at h
        have hb : f_l_cycle_1 [some (wP p), some (.int (longest p)), some (.loc S.length), some (.int light), some (.loc (S.length + 1)), x5, x6] (S ++ [.lst (wFs 0 found), .dt (snK seen) (snV seen)]) =
            .ok (.nx [some (wP p), some (.int (longest p)), some (.loc S.length), some (.int (scene p light found.length).light), some (.loc (S.length + 1)), some (.int found.length), x6])
              (S ++ [.lst (wFs 0 (found ++ [scene p light found.length])), .dt (snK (seen ++ [(((found.length : Int) % p.length, light), (found.length : Int))])) (snV (seen ++ [(((found.length : Int) % p.length, light), (found.length : Int))]))]) := by
          rw [wa]
          simp -implicitDefEqProofs [f_l_cycle_1, wl, hL, h1, d1, hg, d3 _ _ _ hg, e1, hfl, la, lb, pl]
        rw [hb]
        dsimp only
        exact cycle_loop ok x6 n _ _ _ fs s _ h (by simp; omega) (by simp; omega)
    · have hc : cycN p (n + 1) found light seen = cycN p n (found ++ [scene p light found.length]) (scene p light found.length).light seen := by
        conv => lhs; unfold cycN
        rw [if_neg h1]
      rw [hc] at h
      have hb : f_l_cycle_1 [some (wP p), some (.int (longest p)), some (.loc S.length), some (.int light), some (.loc (S.length + 1)), x5, x6] (S ++ [.lst (wFs 0 found), .dt (snK seen) (snV seen)]) =
          .ok (.nx [some (wP p), some (.int (longest p)), some (.loc S.length), some (.int (scene p light found.length).light), some (.loc (S.length + 1)), some (.int found.length), x6])
            (S ++ [.lst (wFs 0 (found ++ [scene p light found.length])), .dt (snK seen) (snV seen)]) := by
        rw [wa]
        simp -implicitDefEqProofs [f_l_cycle_1, wl, hL, h1, e1, hfl, la, lb, pl]
      rw [hb]
      dsimp only
      exact cycle_loop ok x6 n _ _ _ fs s _ h (by simp; omega) (by omega)
end
end SL

set_option Elab.async false
set_option linter.all false
set_option maxRecDepth 100000
set_option maxHeartbeats 2000000
namespace SL
open PySem PySem.Spec PyProof.Rows L2
section
variable {p : Pt} {t : Tr} {top length : Int} {S : Sto}
theorem nol_wTk {tick : Int} {s : Sc} : nol 5 (wTk tick s) = true := by
  have a1 : (s.presses.map (wPr3 tick)).all (nol 3) = true := by rw [List.all_map]; exact List.all_eq_true.mpr fun _ _ => rfl
  have a2 : (s.dark.map W.int).all (nol 3) = true := by rw [List.all_map]; exact List.all_eq_true.mpr fun _ _ => rfl
  show (true && ((s.presses.map (wPr3 tick)).all (nol 3) && ((s.dark.map W.int).all (nol 3) && true))) = true
  rw [a1, a2]
  rfl
theorem nol_wFs : ∀ (fs : List Sc) (k : Nat), (wFs k fs).all (nol 5) = true
  | [], _ => rfl
  | s :: fs, k => by
    show (nol 5 (wTk k s) && (wFs (k + 1) fs).all (nol 5)) = true
    rw [nol_wTk, nol_wFs fs (k + 1)]
    rfl
theorem run_l_cycle (ok : p.Ok) : frR S (m_l_cycle [wP p] S) = .ok (.tup [.lst (wFs 0 (story p).1), .int (story p).2]) S := by
  have hn := ok.n
  obtain ⟨D, e⟩ := cycle_loop (S := S) ok none 3000 [] 0 [] (story p).1 (story p).2 none (story_is ok) (by simp) (by simp)
  have e2 : sWhile t_l_cycle_1 f_l_cycle_1 [some (wP p), some (.int (longest p)), some (.loc S.length), some (.int 0), some (.loc (S.length + 1)), none, none] (S ++ [.lst [], .dt [] []]) = .ok (.rt (.tup [.loc S.length, .int (story p).2])) (S ++ [.lst (wFs 0 (story p).1), D]) := sWhile_is e (by simp)
  have e3 : ∀ (U : Sto), mLc [6] (.n 6) (iT (mIx (mVar 0) (mC (.int 3)))) mYes e_l_cycle_1 [some (wP p), none, none, none, none, none, none] U = .ok (.lst ((p.trips.map Tr.dur).map W.int)) U := fun U => by
    rw [List.map_map]
    refine mLc_map wTt (fun t => .int t.dur) p.trips (by simp [wP]) (by decide) (fun t ht => ⟨_, rfl, fun U => ?_⟩) (fun _ _ => rfl) (by omega)
    simp [e_l_cycle_1, wipeR, run_l_duration (ok.ok t ht)]
  have e4 : ∀ U, bMax [.lst (.int 0 :: (p.trips.map Tr.dur).map W.int)] U = .ok (.int (longest p)) U := fun U => bMax_ints (ns := 0 :: p.trips.map Tr.dur) rfl
  have e5 : ∀ U, opAdd (.lst [.int 0]) (.lst ((p.trips.map Tr.dur).map W.int)) U = .ok (.lst (.int 0 :: (p.trips.map Tr.dur).map W.int)) U := fun U => opAdd_lst (by simp; omega)
  have key : m_l_cycle [wP p] S = .ok (.tup [.loc S.length, .int (story p).2]) (S ++ [.lst (wFs 0 (story p).1), D]) := by
    refine (fnM_ev rfl).trans ?_
    simp -implicitDefEqProofs [b_l_cycle, e3, e4, e5, e2, -List.map_map]
  rw [key]
  refine frR_app (frz_tup (frzL_cons (frz_locL (xs := wFs 0 (story p).1) (ys := wFs 0 (story p).1) (by simp) (Nat.le_refl _) (frzL_all fun x hx => ?_)) (frzL_cons rfl frzL_nil)))
  exact frz_nol _ _ (nol_le (List.all_eq_true.mp (nol_wFs _ _) x hx) (by omega))
theorem nol_wSt : nol 4 (wS p) = true := nol_wS
theorem run_l_made (ok : p.Ok) : frR S (m_l_made [wP p] S) = .ok (wS p) S := by
  have ok0 : (⟨p.top, p.length, p.time, []⟩ : Pt).Ok := ⟨ok.t0, ok.t1, ok.l0, ok.l1, ok.m0, ok.m1, by simp, by simp⟩
  have e1 : ∀ U, frR U (newR .Stairs m_Stairs___init__ [.int p.top, .int p.length, .int p.time] U) = .ok (wS ⟨p.top, p.length, p.time, []⟩) U := fun U => run_StairsF ok0
  have e2 : ∀ U, frR U (newR .Stairs m_Stairs___init__ (.int p.top :: .int p.length :: .int p.time :: p.trips.map wTt) U) = .ok (wS p) U := fun U => run_StairsF ok
  have e3 : ∀ U, m_Stairs_with_trips [wS ⟨p.top, p.length, p.time, []⟩, .lst (p.trips.map wTt)] U = .ok (wS p) U := fun U => by
    refine (fnM_ev rfl).trans ?_
    simp -implicitDefEqProofs [b_Stairs_with_trips, e2]
  have e4 : ∀ U, frR U (.ok (wS p) U) = .ok (wS p) U := fun U => frR_nols (nol_le nol_wS (by omega))
  have key : m_l_made [wP p] S = .ok (wS p) S := by
    refine (fnM_ev rfl).trans ?_
    simp -implicitDefEqProofs [b_l_made, wP, e1, e3, e4]
  rw [key, e4]
end
end SL

set_option Elab.async false
set_option linter.all false
set_option maxRecDepth 100000
set_option maxHeartbeats 2000000
namespace SL
open PySem PySem.Spec PyProof.Rows L2
section
variable {α : Type} (i j : α → W)
theorem lcGo_at {T : Tg} {te : M W} {r : Rho} {S : Sto} : ∀ (as : List α) (acc : List W), (∀ a ∈ as, ∃ r1, T.run (i a) r = some r1 ∧ (∀ acc, te r1 (S ++ [.lst acc]) = .ok (j a) (S ++ [.lst acc]))) → acc.length + as.length ≤ 16000000 →
    lcGo T mYes te S.length (as.map i) r (S ++ [.lst acc]) = .ok S.length (S ++ [.lst (acc ++ as.map j)])
  | [], acc, _, _ => by simp [lcGo]
  | x :: xs, acc, h, hl => by
    simp only [List.length_cons] at hl
    obtain ⟨r1, h1, h3⟩ := h x List.mem_cons_self
    have ih := fun acc => lcGo_at (S := S) xs acc fun y hy => h y (List.mem_cons_of_mem _ hy)
    rw [List.map_cons]
    unfold lcGo lcTurn
    rw [h1]
    dsimp only
    rw [show mYes r1 (S ++ [.lst acc]) = .ok true (S ++ [.lst acc]) from rfl]
    dsimp only
    rw [h3]
    dsimp only
    rw [at_app0]
    dsimp only
    rw [if_pos (by omega), set_app0, ih (acc ++ [j x]) (by simp; omega)]
    simp
theorem mLc_at {vs : List Nat} {T : Tg} {mi : M (List W)} {te : M W} {r : Rho} {S S1 : Sto} (as : List α) (hm : mi r S = .ok (as.map i) S1) (hv : T.slots.all vs.contains = true)
    (h : ∀ a ∈ as, ∃ r1, T.run (i a) (wipeR r vs) = some r1 ∧ (∀ acc, te r1 (S1 ++ [.lst acc]) = .ok (j a) (S1 ++ [.lst acc]))) (hn : ∀ a ∈ as, nol 14 (j a) = true) (hl : as.length ≤ 16000000) : mLc vs T mi mYes te r S = .ok (.lst (as.map j)) S1 := by
  have e := lcGo_at i j (S := S1) as [] h (by simpa using hl)
  have hc : clos S1.length (as.map j) = true := clos_nol (k := 14) (List.all_eq_true.mpr fun y hy => by
    obtain ⟨x, hx, rfl⟩ := List.mem_map.mp hy
    exact hn x hx)
  unfold mLc
  rw [hm]
  dsimp only
  rw [if_pos hv, e]
  dsimp only
  rw [at_app0]
  dsimp only [List.nil_append]
  rw [if_pos ⟨by simp, hc, kept_app _ _⟩, List.take_left]
end
/-- what the law's equal takes for equal -/
def sm : Nat → Sto → W → W → Prop
  | 0, _, _, _ => False
  | k + 1, S, a, e => match e with
    | .non => a = .non
    | .bl b => a = .bl b
    | .int i => a = .int i
    | .str s => a = .str s ∧ PyData.canLay0 (.str s) = true
    | .tup es => ∃ as, a = .tup as ∧ as.length = es.length ∧ es.length < 1000000 ∧ ∀ (i : Nat) (x y : W), as[i]? = some x → es[i]? = some y → sm k S x y
    | .lst es => ∃ as, (a = .lst as ∨ ∃ n, a = .loc n ∧ S[n]? = some (.lst as)) ∧ as.length = es.length ∧ es.length < 1000000 ∧ ∀ (i : Nat) (x y : W), as[i]? = some x → es[i]? = some y → sm k S x y
    | .loc m => ∃ as es, (a = .lst as ∨ ∃ n, a = .loc n ∧ S[n]? = some (.lst as)) ∧ S[m]? = some (.lst es) ∧ as.length = es.length ∧ es.length < 1000000 ∧ ∀ (i : Nat) (x y : W), as[i]? = some x → es[i]? = some y → sm k S x y
    | _ => False
theorem sm_app {T : Sto} : ∀ (k : Nat) {S : Sto} {a e : W}, sm k S a e → sm k (S ++ T) a e
  | 0, _, _, _, h => h.elim
  | k + 1, S, a, e, h => by
    cases e <;> unfold sm at h ⊢ <;> dsimp only at h ⊢ <;> first | exact h | skip
    · obtain ⟨as, es, h1, h0, h2, h3, h4⟩ := h
      refine ⟨as, es, ?_, ?_, h2, h3, fun i x y hx hy => sm_app k (h4 i x y hx hy)⟩
      · rcases h1 with h1 | ⟨n, h1, h5⟩
        · exact .inl h1
        · refine .inr ⟨n, h1, ?_⟩
          rw [List.getElem?_append_left (List.getElem?_eq_some_iff.mp h5).1]
          exact h5
      · rw [List.getElem?_append_left (List.getElem?_eq_some_iff.mp h0).1]
        exact h0
    · obtain ⟨as, h1, h2, h3, h4⟩ := h
      exact ⟨as, h1, h2, h3, fun i x y hx hy => sm_app k (h4 i x y hx hy)⟩
    · obtain ⟨as, h1, h2, h3, h4⟩ := h
      refine ⟨as, ?_, h2, h3, fun i x y hx hy => sm_app k (h4 i x y hx hy)⟩
      rcases h1 with h1 | ⟨n, h1, h5⟩
      · exact .inl h1
      · refine .inr ⟨n, h1, ?_⟩
        rw [List.getElem?_append_left (List.getElem?_eq_some_iff.mp h5).1]
        exact h5
theorem bAll_true {S : Sto} (n : Nat) : bAll [.lst ((List.range n).map fun _ => W.bl true)] S = .ok (.bl true) S := by
  have h1 : ∀ l : List Nat, blsOf (l.map fun _ => W.bl true) = some (l.map fun _ => true) := fun l => by
    induction l with
    | nil => rfl
    | cons x l ih => simp [blsOf, ih]
  show (match getL S (.lst ((List.range n).map fun _ => W.bl true)) with | some xs => (match blsOf xs with | some bs => Res.ok (W.bl (bs.all id)) S | none => .stuck) | none => .stuck) = _
  rw [getL_lst]
  dsimp only
  rw [h1]
  dsimp only
  simp
theorem equal_ok : ∀ (k : Nat) (S : Sto) (a e : W), sm k S a e → m_l_equal k [a, e] S = .ok (.bl true) S
  | 0, _, _, _, h => h.elim
  | k + 1, S, a, e, h => by
    have ih := equal_ok k
    have tail : ∀ (as es : List W) (a e : W), as.length = es.length → es.length < 1000000 → (∀ (i : Nat) (x y : W), as[i]? = some x → es[i]? = some y → sm k S x y) →
        (∀ U, bLen [e] (S ++ U) = .ok (.int es.length) (S ++ U)) → (∀ (i : Nat) U, opIx a (.int (i : Int)) (S ++ U) = oc (as[i]?) (fun w => .ok w (S ++ U)) .stuck) → (∀ (i : Nat) U, opIx e (.int (i : Int)) (S ++ U) = oc (es[i]?) (fun w => .ok w (S ++ U)) .stuck) →
        mLc [2] (.n 2) (iR1 (mCons (mCall bLen (mCons (mVar 1) mNil)) mNil)) mYes (e_l_equal_1 (m_l_equal k)) [some a, some e, none] S = .ok (.lst ((List.range es.length).map fun _ => W.bl true)) S := by
      intro as es a e hl hs hp hbl hia hie
      have hb0 : bLen [e] S = .ok (.int es.length) S := by simpa using hbl []
      refine mLc_at (fun (i : Nat) => W.int (i : Int)) (fun _ => W.bl true) (List.range es.length) ?_ (by decide) (fun i hi => ⟨_, rfl, fun acc => ?_⟩) (fun _ _ => rfl) (by simp; omega)
      · have hb : mCall bLen (mCons (mVar 1) mNil) [some a, some e, none] S = .ok (.int es.length) S := by simp [hb0]
        rw [iR1_ev, mCons_ev, hb, bd_ok, mNil_ev, bd_ok, bd_ok, itR1_len hs, rng_eq]
      · have hi := List.mem_range.mp hi
        have h1 : as[i]? = some (as[i]'(by omega)) := List.getElem?_eq_getElem _
        have h2 : es[i]? = some (es[i]'hi) := List.getElem?_eq_getElem _
        have e1 := ih (S ++ [.lst acc]) _ _ (sm_app k (T := [.lst acc]) (hp i _ _ h1 h2))
        simp -implicitDefEqProofs [e_l_equal_1, wipeR, hia, hie, h1, h2, e1]
    have rw_ : ∀ x y : W, m_l_equal (k + 1) [x, y] S = endOf (b_l_equal (m_l_equal k) [some x, some y, none] S) := fun x y => by
      show fnM 3 2 (b_l_equal (m_l_equal k)) [x, y] S = _
      exact fnM_ev rfl
    rw [rw_]
    cases e <;> unfold sm at h <;> dsimp only at h <;> first | exact h.elim | skip
    · subst h
      simp -implicitDefEqProofs [b_l_equal]
    · subst h
      simp -implicitDefEqProofs [b_l_equal]
    · subst h
      simp -implicitDefEqProofs [b_l_equal]
    · obtain ⟨rfl, hs⟩ := h
      simp -implicitDefEqProofs [b_l_equal, opEq_str hs hs]
    · rename_i m
      obtain ⟨as, es, h1, hm, hl, hs, hp⟩ := h
      have hM : ∀ U : Sto, (S ++ U)[m]? = some (.lst es) := fun U => by
        rw [List.getElem?_append_left (List.getElem?_eq_some_iff.mp hm).1]
        exact hm
      rcases h1 with rfl | ⟨n, rfl, hn⟩
      · have t := tail as es (.lst as) (.loc m) hl hs hp (fun U => by simp [hM]) (fun i U => by simp) (fun i U => by simp [hM])
        simp -implicitDefEqProofs [b_l_equal, t, hl, hm, bAll_true]
      · have hU : ∀ U : Sto, (S ++ U)[n]? = some (.lst as) := fun U => by
          rw [List.getElem?_append_left (List.getElem?_eq_some_iff.mp hn).1]
          exact hn
        have t := tail as es (.loc n) (.loc m) hl hs hp (fun U => by simp [hM]) (fun i U => by simp [hU]) (fun i U => by simp [hM])
        simp -implicitDefEqProofs [b_l_equal, t, hl, hn, hm, bAll_true]
    · rename_i es
      obtain ⟨as, rfl, hl, hs, hp⟩ := h
      have t := tail as es (.tup as) (.tup es) hl hs hp (fun U => by simp) (fun i U => by simp) (fun i U => by simp)
      simp -implicitDefEqProofs [b_l_equal, t, hl, bAll_true]
    · rename_i es
      obtain ⟨as, h1, hl, hs, hp⟩ := h
      rcases h1 with rfl | ⟨n, rfl, hn⟩
      · have t := tail as es (.lst as) (.lst es) hl hs hp (fun U => by simp) (fun i U => by simp) (fun i U => by simp)
        simp -implicitDefEqProofs [b_l_equal, t, hl, bAll_true]
      · have hU : ∀ U : Sto, (S ++ U)[n]? = some (.lst as) := fun U => by
          rw [List.getElem?_append_left (List.getElem?_eq_some_iff.mp hn).1]
          exact hn
        have t := tail as es (.loc n) (.lst es) hl hs hp (fun U => by simp) (fun i U => by simp [hU]) (fun i U => by simp)
        simp -implicitDefEqProofs [b_l_equal, t, hl, hn, bAll_true]
end SL

set_option Elab.async false
set_option linter.all false
set_option maxRecDepth 100000
set_option maxHeartbeats 2000000
/-! bright times (k06, k07, k31 ..) -/
namespace SL
open PySem PySem.Spec PyProof.Rows L2
def withTime (p : Pt) (x : Int) : Pt := ⟨p.top, p.length, x, p.trips⟩
theorem withTime_ok {p : Pt} (ok : p.Ok) {x : Int} (h0 : 1 ≤ x) (h1 : x ≤ 60) : (withTime p x).Ok := ⟨ok.t0, ok.t1, ok.l0, ok.l1, h0, h1, ok.n, ok.ok⟩
def bright (p : Pt) : Bool := (story p).1.all fun s => s.dark.isEmpty
section
variable {p : Pt} {S : Sto}
theorem opEq_nil {w : W} {xs : List W} {ds : List PyData} (h : getL S w = some xs) (hd : dats xs = some ds) (hs : SeqAt.shaped (.list ds) = true) : opEq w (.lst []) S = .ok (.bl xs.isEmpty) S := by
  have e := opNe_nil h hd hs
  unfold opNe at e
  unfold opEq
  split at e
  · rename_i d d2 h1 h2
    split at e
    · rename_i h3
      rw [if_pos h3]
      have e2 : (!PyData.eqv d d2) = !xs.isEmpty := by
        injection e with e3
        injection e3
      rw [show PyData.eqv d d2 = xs.isEmpty by cases hx : PyData.eqv d d2 <;> cases hy : xs.isEmpty <;> simp_all]
    · cases e
  · cases e
theorem opEq_ints {w : W} {ns : List Int} (h : getL S w = some (ns.map W.int)) : opEq w (.lst []) S = .ok (.bl ns.isEmpty) S := by
  rw [opEq_nil h (dats_ints ns) (shaped_ints ns)]
  cases ns <;> rfl
theorem bAll_map {α : Type} (as : List α) (g : α → Bool) : bAll [.lst (as.map fun a => W.bl (g a))] S = .ok (.bl (as.all g)) S := by
  have h1 : ∀ l : List α, blsOf (l.map fun a => W.bl (g a)) = some (l.map g) := fun l => by
    induction l with
    | nil => rfl
    | cons x l ih => simp [blsOf, ih]
  show (match getL S (.lst (as.map fun a => W.bl (g a))) with | some xs => (match blsOf xs with | some bs => Res.ok (W.bl (bs.all id)) S | none => .stuck) | none => .stuck) = _
  rw [getL_lst]
  dsimp only
  rw [h1]
  dsimp only
  rw [List.all_map]
  rfl
theorem run_is_bright (ok : p.Ok) : m_is_bright [wS p] S = .ok (.bl (bright p)) S := by
  have hlen := story_len ok
  have e1 : ∀ U, frR U (newR .Story m_Story___init__ [wS p] U) = .ok (.obj .Story [.lst ((story p).1.map wSc), .int (story p).2]) U := fun U => run_Story2 ok
  have e3 : ∀ U xs y, fld .Story .scenes (.obj .Story [.lst xs, y]) U = .ok (.lst xs) U := fun U xs y => rfl
  have e4 : ∀ U, mLc [1] (.n 1) (iL (mFld .Story .scenes (mFr (mCall (newR .Story m_Story___init__) (mCons (mVar 0) mNil))))) mYes e_is_bright_1 [some (wS p), none] U = .ok (.lst ((story p).1.map fun s => W.bl s.dark.isEmpty)) U := fun U => by
    refine mLc_map wSc (fun s => .bl s.dark.isEmpty) (story p).1 (by simp -implicitDefEqProofs [e1, e3]) (by decide) (fun s hs => ⟨_, rfl, fun U => ?_⟩) (fun _ _ => rfl) (by omega)
    have e5 : opEq (.lst (s.dark.map W.int)) (.lst []) U = .ok (.bl s.dark.isEmpty) U := opEq_ints rfl
    simp -implicitDefEqProofs [e_is_bright_1, wipeR, e5]
  refine (fnM_ev rfl).trans ?_
  simp -implicitDefEqProofs [b_is_bright, e4, bAll_map, bright]
theorem run_parts_of {t : Tr} : m_Trip_parts [wT t] S = .ok (wTt t) S := by
  refine (fnM_ev rfl).trans ?_
  simp -implicitDefEqProofs [b_Trip_parts, wTt]
theorem run_all_trips (ok : p.Ok) : m_Stairs_all_trips [wS p] S = .ok (.tup (p.trips.map wTt)) S := by
  have hn := ok.n
  have e4 : ∀ U, mLc [1] (.n 1) (iL (mFld .Stairs .trips (mVar 0))) mYes e_Stairs_all_trips_1 [some (wS p), none] U = .ok (.lst (p.trips.map wTt)) U := fun U => by
    refine mLc_map wT wTt p.trips (by simp) (by decide) (fun t ht => ⟨_, rfl, fun U => ?_⟩) (fun _ _ => nol_le nol_wTt (by omega)) (by omega)
    have e5 : frR U (.ok (wTt t) U) = .ok (wTt t) U := frR_nols (nol_le nol_wTt (by omega))
    simp -implicitDefEqProofs [e_Stairs_all_trips_1, wipeR, run_parts_of, e5]
  refine (fnM_ev rfl).trans ?_
  simp -implicitDefEqProofs [b_Stairs_all_trips, e4]
theorem run_with_time (ok : p.Ok) {x : Int} (h0 : 1 ≤ x) (h1 : x ≤ 60) : frR S (m_Stairs_with_time [wS p, .int x] S) = .ok (wS (withTime p x)) S := by
  have e2 : ∀ U, frR U (newR .Stairs m_Stairs___init__ (.int p.top :: .int p.length :: .int x :: p.trips.map wTt) U) = .ok (wS (withTime p x)) U := fun U => run_StairsF (withTime_ok ok h0 h1)
  have e3 : ∀ U, frR U (.ok (.tup (p.trips.map wTt)) U) = .ok (.tup (p.trips.map wTt)) U := fun U => frR_nols (by
    show (p.trips.map wTt).all (nol 15) = true
    rw [List.all_map]
    exact List.all_eq_true.mpr fun t _ => nol_le nol_wTt (by omega))
  have key : m_Stairs_with_time [wS p, .int x] S = .ok (wS (withTime p x)) S := by
    refine (fnM_ev rfl).trans ?_
    simp -implicitDefEqProofs [b_Stairs_with_time, run_all_trips ok, e3, e2]
  rw [key]
  exact frR_nols (nol_le nol_wS (by omega))
end
end SL

set_option Elab.async false
set_option linter.all false
set_option maxRecDepth 100000
set_option maxHeartbeats 2000000
namespace SL
open PySem PySem.Spec PyProof.Rows L2
theorem mLcC_if {α : Type} (i j : α → W) (g : α → Bool) {vs : List Nat} {T : Tg} {mi : M (List W)} {tt : M Bool} {te : M W} {r : Rho} {S S1 : Sto} (as : List α) (hm : mi r S = .ok (as.map i) S1) (hv : T.slots.all vs.contains = true)
    (h : ∀ a ∈ as, ∃ r1, T.run (i a) (wipeR r vs) = some r1 ∧ (∀ U, tt r1 U = .ok (g a) U) ∧ (g a = true → ∀ U, te r1 U = .ok (j a) U)) (hl : as.length ≤ 16000000) :
    mLcC vs T mi tt te r S = .ok (.loc S1.length) (S1 ++ [.lst ((as.filter g).map j)]) := by
  have e := lcGo_map i j g (S := S1) as [] h (by simpa using hl)
  unfold mLcC
  rw [bind_ev]
  have e2 : lcAll vs T mi tt te r S = .ok S1.length (S1 ++ [.lst ((as.filter g).map j)]) := by
    unfold lcAll
    rw [hm]
    dsimp only
    rw [if_pos hv, e]
    rfl
  rw [e2]
  rfl
/-- lo, .., hi - 1 -/
def seqI (lo : Int) (n : Nat) : List Int := (List.range n).map fun (i : Nat) => lo + (i : Int)
theorem rngW_seqI (lo : Int) (n : Nat) : rngW lo 1 n = (seqI lo n).map W.int := by
  unfold rngW seqI
  rw [List.map_map]
  refine List.map_congr_left fun i _ => ?_
  simp
theorem itR2_ev {S : Sto} {i j : Int} (h : -(2 ^ 62) ≤ i) (h2 : i < 2 ^ 62) (h3 : -(2 ^ 62) ≤ j) (h4 : j < 2 ^ 62) : itR2 [.int i, .int j] S = .ok (rngW i 1 (j - i).toNat) S := if_pos ⟨h, h2, h3, h4⟩
def times : List Int := seqI 1 60
theorem itR2_times {S : Sto} : itR2 [.int 1, .int 61] S = .ok (times.map W.int) S := by
  have h : ∀ i j : Int, i = 1 → j = 61 → itR2 [.int i, .int j] S = .ok (times.map W.int) S := fun i j hi hj => by
    rw [itR2_ev (by omega) (by omega) (by omega) (by omega), hi, hj, rngW_seqI]
    rfl
  exact h 1 61 rfl rfl
theorem times_range {x : Int} (h : x ∈ times) : 1 ≤ x ∧ x ≤ 60 := by
  unfold times seqI at h
  obtain ⟨i, hi, rfl⟩ := List.mem_map.mp h
  have := List.mem_range.mp hi
  omega
section
variable {p : Pt} {S : Sto}
def brightTimes (p : Pt) : List Int := times.filter fun x => bright (withTime p x)
theorem run_bright_times (ok : p.Ok) : m_bright_times [wS p] S = .ok (.loc S.length) (S ++ [.lst ((brightTimes p).map W.int)]) := by
  have e4 : ∀ U, mLcC [1] (.n 1) (iR2 (mCons (mC (.int 1)) (mCons (mOp opAdd (mC (.int 60)) (mC (.int 1))) mNil))) i_bright_times_1 e_bright_times_1 [some (wS p), none] U = .ok (.loc U.length) (U ++ [.lst ((brightTimes p).map W.int)]) := fun U => by
    have hi : iR2 (mCons (mC (.int 1)) (mCons (mOp opAdd (mC (.int 60)) (mC (.int 1))) mNil)) [some (wS p), none] U = .ok (times.map W.int) U := by
      rw [iR2_ev, mCons_ev, mC_ev, bd_ok, mCons_ev, mOp_ev, mC_ev, bd_ok, mC_ev, bd_ok, opAdd_int, bd_ok, mNil_ev, bd_ok, bd_ok, bd_ok]
      exact itR2_times
    refine mLcC_if W.int W.int (fun x => bright (withTime p x)) times hi (by decide) (fun x hx => ⟨_, rfl, fun U => ?_, fun _ U => ?_⟩) (by decide)
    · obtain ⟨h0, h1⟩ := times_range hx
      have e5 : ∀ V, frR V (m_Stairs_with_time [wS p, .int x] V) = .ok (wS (withTime p x)) V := fun V => run_with_time ok h0 h1
      simp -implicitDefEqProofs [i_bright_times_1, wipeR, e5, run_is_bright (withTime_ok ok h0 h1)]
    · simp [e_bright_times_1, wipeR]
  refine (fnM_ev rfl).trans ?_
  simp -implicitDefEqProofs [b_bright_times, e4]
def leastT : List Int → Pt → Option Int
  | [], _ => none
  | x :: xs, p => if bright (withTime p x) then some x else leastT xs p
theorem least_loop (ok : p.Ok) : ∀ (xs : List Int) (x1 : Option W), (∀ x ∈ xs, 1 ≤ x ∧ x ≤ 60) → match leastT xs p with
    | none => ∃ y1, sForL (.n 1) f_least_time_1 (xs.map W.int) [some (wS p), x1] S = .ok (.nx [some (wS p), y1]) S
    | some x => sForL (.n 1) f_least_time_1 (xs.map W.int) [some (wS p), x1] S = .ok (.rt (.int x)) S
  | [], x1, _ => ⟨x1, rfl⟩
  | x :: xs, x1, h => by
    obtain ⟨h0, h1⟩ := h x List.mem_cons_self
    have e5 : ∀ V, frR V (m_Stairs_with_time [wS p, .int x] V) = .ok (wS (withTime p x)) V := fun V => run_with_time ok h0 h1
    unfold leastT
    cases hb : bright (withTime p x) with
    | true =>
      rw [if_pos rfl]
      have hb : f_least_time_1 [some (wS p), some (.int x)] S = .ok (.rt (.int x)) S := by
        simp -implicitDefEqProofs [f_least_time_1, e5, run_is_bright (withTime_ok ok h0 h1), hb]
      exact sForL_rt (r1 := _) rfl hb
    | false =>
      rw [if_neg (by simp)]
      have hb : f_least_time_1 [some (wS p), some (.int x)] S = .ok (.nx [some (wS p), some (.int x)]) S := by
        simp -implicitDefEqProofs [f_least_time_1, e5, run_is_bright (withTime_ok ok h0 h1), hb]
      have ih := least_loop ok xs (some (.int x)) fun y hy => h y (List.mem_cons_of_mem _ hy)
      rw [List.map_cons, sForL_nx (r1 := _) rfl hb]
      exact ih
theorem leastT_head (p : Pt) : ∀ xs : List Int, leastT xs p = (xs.filter fun x => bright (withTime p x)).head?
  | [] => rfl
  | x :: xs => by
    unfold leastT
    cases hb : bright (withTime p x) with
    | true => simp [hb]
    | false => simp [hb, leastT_head p xs]
theorem run_least (ok : p.Ok) : m_least_time [wS p] S = .ok (wO (brightTimes p).head?) S := by
  have h := least_loop (S := S) ok times none fun x hx => times_range hx
  have hi : iR2 (mCons (mC (.int 1)) (mCons (mOp opAdd (mC (.int 60)) (mC (.int 1))) mNil)) [some (wS p), none] S = .ok (times.map W.int) S := by
    rw [iR2_ev, mCons_ev, mC_ev, bd_ok, mCons_ev, mOp_ev, mC_ev, bd_ok, mC_ev, bd_ok, opAdd_int, bd_ok, mNil_ev, bd_ok, bd_ok, bd_ok]
    exact itR2_times
  have hl := leastT_head p times
  refine (fnM_ev rfl).trans ?_
  show endOf (b_least_time [some (wS p), none] S) = .ok (wO (times.filter fun x => bright (withTime p x)).head?) S
  rw [← hl, b_least_time, sSeq_ev, sFor_ev, hi, bd_ok]
  cases hL : leastT times p with
  | none =>
    rw [hL] at h
    obtain ⟨y1, e⟩ := h
    rw [e]
    rfl
  | some x =>
    rw [hL] at h
    dsimp only at h
    rw [h]
    rfl
end
end SL

set_option Elab.async false
set_option linter.all false
set_option maxRecDepth 100000
set_option maxHeartbeats 2000000
namespace SL
open PySem PySem.Spec PyProof.Rows L2
theorem snGet_mem {s : Sn} {k : Int × Int} {i : Int} (h : snGet s k = some i) : ∃ q ∈ s, q.2 = i := by
  unfold snGet at h
  obtain ⟨q, h1, h2⟩ := Option.map_eq_some_iff.mp h
  exact ⟨q, List.mem_of_find?_eq_some h1, h2⟩
theorem cycN_start {p : Pt} : ∀ (n : Nat) (found : List Sc) (light : Int) (seen : Sn) (r : List Sc × Int), (∀ q ∈ seen, 0 ≤ q.2 ∧ q.2 < found.length) → cycN p n found light seen = some r → 0 ≤ r.2 ∧ r.2 < r.1.length
  | 0, _, _, _, _, _, h => by cases h
  | n + 1, found, light, seen, r, hs, h => by
    unfold cycN at h
    split at h
    · split at h
      · rename_i s hg
        cases h
        obtain ⟨q, hq, rfl⟩ := snGet_mem hg
        exact hs q hq
      · refine cycN_start n _ _ _ r (fun q hq => ?_) h
        rw [List.length_append, List.length_singleton]
        rcases List.mem_append.mp hq with hq | hq
        · have := hs q hq
          omega
        · rw [List.mem_singleton.mp hq]
          dsimp only
          omega
    · refine cycN_start n _ _ _ r (fun q hq => ?_) h
      rw [List.length_append, List.length_singleton]
      have := hs q hq
      omega
theorem story_start {p : Pt} (ok : p.Ok) : 0 ≤ (story p).2 ∧ (story p).2 < (story p).1.length := cycN_start 3000 [] 0 [] _ (by simp) (story_is ok)
theorem cut_from {α : Type} (xs : List α) {k : Int} (h0 : 0 ≤ k) (h1 : k ≤ xs.length) : cutX xs (some k) none = xs.drop k.toNat := by
  unfold cutX
  have e1 : HT.sIx xs.length 0 (some k) = k.toNat := by
    show (if k < 0 then (k + (xs.length : Int)).toNat else min k.toNat xs.length) = _
    rw [if_neg (by omega)]
    omega
  have e2 : HT.sIx xs.length xs.length none = xs.length := rfl
  rw [e1, e2, List.take_of_length_le (by rw [List.length_drop]; omega)]
section
variable {p : Pt} {S : Sto}
/-- the cycle's part of a story -/
def late (p : Pt) : List Sc := (story p).1.drop (story p).2.toNat
def lit (p : Pt) : Nat := ((late p).filter fun s => decide (0 < s.light)).length
abbrev Best := Option (Nat × Nat × Int)
def wBest : Best → W
  | none => .non
  | some (a, b, x) => .tup [.int a, .int b, .int x]
def better (p : Pt) (x : Int) (o : Best) : Best := match o with
  | none => some (lit (withTime p x), (late (withTime p x)).length, x)
  | some (a, b, y) => if lit (withTime p x) * b < a * (late (withTime p x)).length then some (lit (withTime p x), (late (withTime p x)).length, x) else some (a, b, y)
theorem late_len (ok : p.Ok) : ((late p).length : Int) = (story p).1.length - (story p).2 := by
  have := story_start ok
  unfold late
  rw [List.length_drop]
  omega
theorem size_run (ok : p.Ok) : m_Story_size [.obj .Story [.lst ((story p).1.map wSc), .int (story p).2]] S = .ok (.int ((late p).length : Int)) S := by
  refine (fnM_ev rfl).trans ?_
  rw [late_len ok]
  simp -implicitDefEqProofs [b_Story_size, fld_ev]
end
end SL

set_option Elab.async false
set_option linter.all false
set_option maxRecDepth 100000
set_option maxHeartbeats 2000000
/-! scenes at any tick; comparing two staircases -/
namespace SL
open PySem PySem.Spec PyProof.Rows L2
def plc (n : Nat) (s : Int) (tick : Int) : Int := if tick < n then tick else s + (tick - s) % (n - s)
theorem plc_range {n : Nat} {s tick : Int} (h0 : 0 ≤ s) (h1 : s < n) (ht : 0 ≤ tick) : 0 ≤ plc n s tick ∧ plc n s tick < n := by
  unfold plc
  have a := Int.emod_nonneg (tick - s) (b := (n : Int) - s) (by omega)
  have b := Int.emod_lt_of_pos (tick - s) (b := (n : Int) - s) (by omega)
  split <;> omega
/-- the scene of a tick -/
def scn (p : Pt) (tick : Int) : Sc := ((story p).1[(plc (story p).1.length (story p).2 tick).toNat]?).getD ⟨0, [], []⟩
def burn (p : Pt) (tick : Int) : Bool := decide (0 < (scn p tick).light)
def wSy (p : Pt) : W := .obj .Story [.lst ((story p).1.map wSc), .int (story p).2]
theorem nol_wSc {s : Sc} : nol 6 (wSc s) = true := by
  show ([W.int s.light, .lst (s.presses.map wPr), .lst (s.dark.map W.int)].all (nol 5)) = true
  have a1 : (s.presses.map wPr).all (nol 4) = true := by rw [List.all_map]; exact List.all_eq_true.mpr fun _ _ => rfl
  have a2 : (s.dark.map W.int).all (nol 4) = true := by rw [List.all_map]; exact List.all_eq_true.mpr fun _ _ => rfl
  show (true && ((s.presses.map wPr).all (nol 4) && ((s.dark.map W.int).all (nol 4) && true))) = true
  rw [a1, a2]
  rfl
section
variable {p q : Pt} {S : Sto}
@[simp] theorem fld_wSy_scenes : fld .Story .scenes (wSy p) S = .ok (.lst ((story p).1.map wSc)) S := rfl
@[simp] theorem fld_wSy_start : fld .Story .start (wSy p) S = .ok (.int (story p).2) S := rfl
@[simp] theorem getO_wSy : getO .Story S (wSy p) = some [.lst ((story p).1.map wSc), .int (story p).2] := rfl
theorem new_wSy (ok : p.Ok) : frR S (newR .Story m_Story___init__ [wS p] S) = .ok (wSy p) S := run_Story2 ok
theorem size_wSy (ok : p.Ok) : frR S (noX (m_Story_size [wSy p] S)) = .ok (.int ((late p).length : Int)) S := by
  unfold wSy
  rw [size_run ok, noX_ok, frR_int]
theorem plc_at (ok : p.Ok) {tick : Int} (ht : 0 ≤ tick) : (story p).1[(plc (story p).1.length (story p).2 tick).toNat]? = some (scn p tick) := by
  have hs := story_start ok
  have hp := plc_range hs.1 hs.2 ht
  have hl : (plc (story p).1.length (story p).2 tick).toNat < (story p).1.length := by omega
  unfold scn
  rw [List.getElem?_eq_getElem hl]
  rfl
theorem run_sceneAt (ok : p.Ok) {tick : Int} (ht : 0 ≤ tick) : frR S (m_Story_scene [wSy p, .int tick] S) = .ok (wSc (scn p tick)) S := by
  have hs := story_start ok
  have hp := plc_range hs.1 hs.2 ht
  have ha := plc_at ok ht
  have hsz := late_len ok
  have e1 : ∀ U, frR U (noX (m_Story_size [wSy p] U)) = .ok (.int ((late p).length : Int)) U := fun U => size_wSy ok
  have ep : plc (story p).1.length (story p).2 tick = (((plc (story p).1.length (story p).2 tick).toNat : Nat) : Int) := by omega
  have e2 : ∀ U, opIx (.lst ((story p).1.map wSc)) (.int (plc (story p).1.length (story p).2 tick)) U = .ok (wSc (scn p tick)) U := fun U => by
    rw [opIx_lst, ep, atI_nat, List.getElem?_map, ha]
    rfl
  have key : m_Story_scene [wSy p, .int tick] S = .ok (wSc (scn p tick)) S := by
    refine (fnM_ev rfl).trans ?_
    have h0 : decide (0 < (late p).length) = true := decide_eq_true (by omega)
    by_cases h : tick < (story p).1.length
    · have : plc (story p).1.length (story p).2 tick = tick := if_pos h
      rw [this] at e2
      simp -implicitDefEqProofs [b_Story_scene, h, e2, -opIx_lst]
    · have : plc (story p).1.length (story p).2 tick = (story p).2 + (tick - (story p).2) % ((late p).length : Int) := by rw [hsz]; exact if_neg h
      rw [this] at e2
      simp -implicitDefEqProofs [b_Story_scene, h, e1, h0, e2, -opIx_lst]
  rw [key]
  exact frR_nols (nol_le nol_wSc (by omega))
/-! ### the least common multiple -/
def mulF : Nat → Int → Int → Int → Option Int
  | 0, _, _, _ => none
  | n + 1, a, b, m => if m % b = 0 then some m else mulF n a b (m + a)
theorem mulF_ex {a b : Int} (ha : 0 < a) (hb : 0 < b) : ∀ (n : Nat) (k : Int), 1 ≤ k → k ≤ b → b - k < n → ∃ r, mulF n a b (k * a) = some r ∧ 0 < r ∧ r ≤ b * a
  | 0, k, _, _, h => by omega
  | n + 1, k, h1, h2, h3 => by
    unfold mulF
    by_cases h : k * a % b = 0
    · rw [if_pos h]
      exact ⟨_, rfl, Int.mul_pos (by omega) ha, Int.mul_le_mul_of_nonneg_right h2 (by omega)⟩
    · rw [if_neg h]
      have hk : k ≠ b := fun e => h (by rw [e]; exact Int.mul_emod_right _ _)
      obtain ⟨r, e, h4⟩ := mulF_ex ha hb n (k + 1) (by omega) (by omega) (by omega)
      rw [Int.add_mul, Int.one_mul] at e
      exact ⟨r, e, h4⟩
/-- the least common multiple, as it is found -/
def lcmF (a b : Int) : Int := (mulF (b.toNat + 1) a b a).getD 0
theorem lcmF_is {a b : Int} (ha : 0 < a) (hb : 0 < b) : mulF (b.toNat + 1) a b a = some (lcmF a b) ∧ 0 < lcmF a b ∧ lcmF a b ≤ b * a := by
  obtain ⟨r, e, h⟩ := mulF_ex ha hb (b.toNat + 1) 1 (by omega) (by omega) (by omega)
  rw [Int.one_mul] at e
  unfold lcmF
  rw [e]
  exact ⟨rfl, h⟩
theorem div_mod_iff {m b : Int} (hb : 0 < b) : m / b * b = m ↔ m % b = 0 := by
  have := Int.emod_add_mul_ediv m b
  rw [Int.mul_comm] at this
  constructor <;> intro h <;> omega
theorem common_loop {a b : Int} (hb : 0 < b) (hb2 : b < 100000) : ∀ (n : Nat) (m r : Int), mulF n a b m = some r →
    sWhileN t_common_multiple_1 f_common_multiple_1 n [some (.int a), some (.int b), some (.int m)] S = .ok (.nx [some (.int a), some (.int b), some (.int r)]) S
  | 0, _, _, h => by cases h
  | n + 1, m, r, h => by
    have h1 : decide (0 < b ∧ b < 1073741824) = true := decide_eq_true ⟨hb, by omega⟩
    have h2 : ∀ i : Int, mulOk i b = true := fun i => mulOk_r (by omega) (by omega)
    have ht : t_common_multiple_1 [some (.int a), some (.int b), some (.int m)] S = .ok (!decide (m % b = 0)) S := by
      have e : decide (m / b * b = m) = decide (m % b = 0) := decide_eq_decide.mpr (div_mod_iff hb)
      simp -implicitDefEqProofs [t_common_multiple_1, h1, h2, e]
    unfold mulF at h
    unfold sWhileN
    rw [ht]
    by_cases hm : m % b = 0
    · rw [if_pos hm] at h
      cases h
      rw [decide_eq_true hm]
      rfl
    · rw [if_neg hm] at h
      rw [decide_eq_false hm]
      have hb : f_common_multiple_1 [some (.int a), some (.int b), some (.int m)] S = .ok (.nx [some (.int a), some (.int b), some (.int (m + a))]) S := by
        simp -implicitDefEqProofs [f_common_multiple_1]
      show (match f_common_multiple_1 [some (.int a), some (.int b), some (.int m)] S with | .ok (.nx r2) S2 => sWhileN t_common_multiple_1 f_common_multiple_1 n r2 S2 | .ok (.ct r2) S2 => sWhileN t_common_multiple_1 f_common_multiple_1 n r2 S2 | .ok (.bk r2) S2 => .ok (.nx r2) S2 | .ok (.rt w) S2 => .ok (.rt w) S2 | .exc c ws S2 => .exc c ws S2 | .stuck => .stuck) = _
      rw [hb]
      exact common_loop (by assumption) hb2 n (m + a) r h
theorem run_common {a b : Int} (ha : 0 < a) (hb : 0 < b) (hb2 : b < 100000) : frR S (m_common_multiple [.int a, .int b] S) = .ok (.int (lcmF a b)) S := by
  have e := sWhile_is (common_loop (S := S) hb hb2 _ _ _ (lcmF_is ha hb).1) (by simp)
  have key : m_common_multiple [.int a, .int b] S = .ok (.int (lcmF a b)) S := by
    refine (fnM_ev rfl).trans ?_
    simp -implicitDefEqProofs [b_common_multiple, e]
  rw [key, frR_int]
/-! ### the first difference -/
def fdN (p q : Pt) : List Nat → Option (Nat × Bool)
  | [] => none
  | t :: ts => if burn p t != burn q t then some (t, burn p t) else fdN p q ts
def fdW : Option (Nat × Bool) → W
  | none => .non
  | some (t, b) => .tup [.int (t : Nat), .bl b]
def span (p q : Pt) : Int := (if (story q).2 > (story p).2 then (story q).2 else (story p).2) + lcmF (late p).length (late q).length
def firstDiff (p q : Pt) : Option (Nat × Bool) := fdN p q (List.range (span p q).toNat)
theorem diff_loop (okp : p.Ok) (okq : q.Ok) (x0 x1 : Option W) : ∀ (ts : List Nat) (x4 x5 : Option W), match fdN p q ts with
    | none => ∃ y4 y5, sForL (.n 4) f_first_difference_1 (ts.map fun (t : Nat) => W.int (t : Int)) [x0, x1, some (wSy p), some (wSy q), x4, x5] S = .ok (.nx [x0, x1, some (wSy p), some (wSy q), y4, y5]) S
    | some r => sForL (.n 4) f_first_difference_1 (ts.map fun (t : Nat) => W.int (t : Int)) [x0, x1, some (wSy p), some (wSy q), x4, x5] S = .ok (.rt (fdW (some r))) S
  | [], x4, x5 => ⟨x4, x5, rfl⟩
  | t :: ts, x4, x5 => by
    have e1 : ∀ U, frR U (m_Story_scene [wSy p, .int (t : Int)] U) = .ok (wSc (scn p t)) U := fun U => run_sceneAt okp (by omega)
    have e2 : ∀ U, frR U (m_Story_scene [wSy q, .int (t : Int)] U) = .ok (wSc (scn q t)) U := fun U => run_sceneAt okq (by omega)
    have b1 : decide (0 < (scn p t).light) = burn p t := rfl
    have b2 : decide (0 < (scn q t).light) = burn q t := rfl
    unfold fdN
    cases hb : (burn p t != burn q t) with
    | true =>
      rw [if_pos rfl]
      have hbb : f_first_difference_1 [x0, x1, some (wSy p), some (wSy q), some (.int (t : Int)), x5] S = .ok (.rt (fdW (some (t, burn p t)))) S := by
        have hb' : (burn p t == burn q t) = false := by simpa using hb
        simp -implicitDefEqProofs [f_first_difference_1, e1, e2, b1, b2, hb', fdW]
      exact sForL_rt (r1 := _) rfl hbb
    | false =>
      rw [if_neg (by simp)]
      have hbb : f_first_difference_1 [x0, x1, some (wSy p), some (wSy q), some (.int (t : Int)), x5] S = .ok (.nx [x0, x1, some (wSy p), some (wSy q), some (.int (t : Int)), some (.bl (burn p t))]) S := by
        have hb' : (burn p t == burn q t) = true := by simpa using hb
        simp -implicitDefEqProofs [f_first_difference_1, e1, e2, b1, b2, hb']
      have ih := diff_loop okp okq x0 x1 ts (some (.int (t : Int))) (some (.bl (burn p t)))
      rw [List.map_cons, sForL_nx (r1 := _) rfl hbb]
      exact ih
theorem late_pos (ok : p.Ok) : 0 < (late p).length := by
  have := late_len ok
  have := story_start ok
  omega
theorem span_range (okp : p.Ok) (okq : q.Ok) : 0 ≤ span p q ∧ span p q < 20000000 := by
  have h1 := story_start okp
  have h2 := story_start okq
  have l1 := story_len okp
  have l2 := story_len okq
  have p1 := late_pos okp
  have p2 := late_pos okq
  have k1 := late_len okp
  have k2 := late_len okq
  obtain ⟨_, a, b⟩ := lcmF_is (a := (late p).length) (b := (late q).length) (by omega) (by omega)
  have : ((late q).length : Int) * ((late p).length : Int) ≤ 3000 * 3000 := Int.mul_le_mul (by omega) (by omega) (by omega) (by omega)
  unfold span
  split <;> omega
theorem run_first_difference (okp : p.Ok) (okq : q.Ok) : frR S (m_first_difference [wS p, wS q] S) = .ok (fdW (firstDiff p q)) S := by
  have n1 : ∀ U, frR U (newR .Story m_Story___init__ [wS p] U) = .ok (wSy p) U := fun U => new_wSy okp
  have n2 : ∀ U, frR U (newR .Story m_Story___init__ [wS q] U) = .ok (wSy q) U := fun U => new_wSy okq
  have z1 : ∀ U, frR U (noX (m_Story_size [wSy p] U)) = .ok (.int ((late p).length : Int)) U := fun U => size_wSy okp
  have z2 : ∀ U, frR U (noX (m_Story_size [wSy q] U)) = .ok (.int ((late q).length : Int)) U := fun U => size_wSy okq
  have p1 := late_pos okp
  have p2 := late_pos okq
  have k2 := late_len okq
  have l2 := story_len okq
  have s2 := story_start okq
  have c1 : ∀ U, frR U (m_common_multiple [.int ((late p).length : Int), .int ((late q).length : Int)] U) = .ok (.int (lcmF (late p).length (late q).length)) U := fun U => run_common (by omega) (by omega) (by omega)
  have sr := span_range okp okq
  have hsp : (if (story q).2 > (story p).2 then (story q).2 else (story p).2) + lcmF (late p).length (late q).length = span p q := rfl
  have r1 : ∀ U, itR1 [.int (span p q)] U = .ok ((List.range (span p q).toNat).map fun (t : Nat) => W.int (t : Int)) U := fun U => by
    have : itR1 [.int (span p q)] U = .ok (rngW 0 1 (span p q).toNat) U := if_pos (by omega)
    rw [this]
    unfold rngW
    congr 1
    refine List.map_congr_left fun i _ => ?_
    simp
  have h := diff_loop (S := S) okp okq (some (wS p)) (some (wS q)) (List.range (span p q).toNat) none none
  have key : m_first_difference [wS p, wS q] S = .ok (fdW (firstDiff p q)) S := by
    refine (fnM_ev rfl).trans ?_
    unfold firstDiff
    cases hf : fdN p q (List.range (span p q).toNat) with
    | none =>
      rw [hf] at h
      obtain ⟨y4, y5, e⟩ := h
      simp -implicitDefEqProofs [b_first_difference, n1, n2, z1, z2, c1, hsp, r1, e, fdW]
    | some r =>
      rw [hf] at h
      dsimp only at h
      simp -implicitDefEqProofs [b_first_difference, n1, n2, z1, z2, c1, hsp, r1, h]
  rw [key]
  refine frR_nols ?_
  cases firstDiff p q with
  | none => rfl
  | some r => rfl
end
end SL

set_option Elab.async false
set_option linter.all false
set_option maxRecDepth 100000
set_option maxHeartbeats 2000000
namespace SL
open PySem PySem.Spec PyProof.Rows L2
def isBl : W → Option Bool
  | .bl b => some b
  | _ => none
def plainE (e : W) : Prop := (∃ b, e = .bl b) ∨ ((∀ U, bIsi [e, .ty "bool"] U = .ok (.bl false) U) ∧ isBl e = none)
def feN (p : Pt) : Nat → List W → Option Nat
  | _, [] => none
  | k, e :: es => if isBl e = some (burn p k) then feN p (k + 1) es else some k
def wN : Option Nat → W
  | none => .non
  | some k => .int (k : Nat)
section
variable {p q : Pt} {S : Sto}
theorem err_loop (ok : p.Ok) (x0 x1 : Option W) : ∀ (es : List W) (k : Nat) (x3 x4 : Option W), (∀ e ∈ es, plainE e) → match feN p k es with
    | none => ∃ y3 y4, sForL (.t [3, 4]) f_first_error_1 (enumA k es) [x0, x1, some (wSy p), x3, x4] S = .ok (.nx [x0, x1, some (wSy p), y3, y4]) S
    | some r => sForL (.t [3, 4]) f_first_error_1 (enumA k es) [x0, x1, some (wSy p), x3, x4] S = .ok (.rt (.int (r : Nat))) S
  | [], k, x3, x4, _ => ⟨x3, x4, rfl⟩
  | e :: es, k, x3, x4, hp => by
    have e1 : ∀ U, frR U (m_Story_scene [wSy p, .int (k : Int)] U) = .ok (wSc (scn p k)) U := fun U => run_sceneAt ok (by omega)
    have b1 : decide (0 < (scn p k).light) = burn p k := rfl
    have ih := err_loop ok x0 x1 es (k + 1) (some (.int (k : Int))) (some e) fun y hy => hp y (List.mem_cons_of_mem _ hy)
    unfold feN
    have tail : isBl e = some (burn p k) → f_first_error_1 [x0, x1, some (wSy p), some (.int (k : Int)), some e] S = .ok (.nx [x0, x1, some (wSy p), some (.int (k : Int)), some e]) S := fun h => by
      rcases hp e List.mem_cons_self with ⟨b, rfl⟩ | ⟨_, h2⟩
      · cases h
        simp -implicitDefEqProofs [f_first_error_1, e1, b1]
      · rw [h2] at h
        cases h
    have stop : isBl e ≠ some (burn p k) → f_first_error_1 [x0, x1, some (wSy p), some (.int (k : Int)), some e] S = .ok (.rt (.int (k : Int))) S := fun h => by
      rcases hp e List.mem_cons_self with ⟨b, rfl⟩ | ⟨h1, h2⟩
      · have hb : (b == burn p k) = false := by
          rw [beq_eq_false_iff_ne]
          exact fun z => h (by rw [z]; rfl)
        simp -implicitDefEqProofs [f_first_error_1, e1, b1, hb]
      · simp -implicitDefEqProofs [f_first_error_1, h1]
    by_cases h : isBl e = some (burn p k)
    · rw [if_pos h]
      have hs : sForL (.t [3, 4]) f_first_error_1 (enumA k (e :: es)) [x0, x1, some (wSy p), x3, x4] S = sForL (.t [3, 4]) f_first_error_1 (enumA (k + 1) es) [x0, x1, some (wSy p), some (.int (k : Int)), some e] S := sForL_nx (r1 := _) rfl (tail h)
      rw [hs]
      exact ih
    · rw [if_neg h]
      exact sForL_rt (r1 := _) rfl (stop h)
theorem run_first_error (ok : p.Ok) {es : List W} (hp : ∀ e ∈ es, plainE e) : frR S (m_first_error [wS p, .lst es] S) = .ok (wN (feN p 0 es)) S := by
  have n1 : ∀ U, frR U (newR .Story m_Story___init__ [wS p] U) = .ok (wSy p) U := fun U => new_wSy ok
  have h := err_loop (S := S) ok (some (wS p)) (some (.lst es)) es 0 none none hp
  have e2 := enumW_eq es
  have key : m_first_error [wS p, .lst es] S = .ok (wN (feN p 0 es)) S := by
    refine (fnM_ev rfl).trans ?_
    cases hf : feN p 0 es with
    | none =>
      rw [hf] at h
      obtain ⟨y3, y4, e⟩ := h
      simp -implicitDefEqProofs [b_first_error, n1, e2, e, wN]
    | some r =>
      rw [hf] at h
      dsimp only at h
      simp -implicitDefEqProofs [b_first_error, n1, e2, h, wN]
  rw [key]
  refine frR_nols ?_
  cases feN p 0 es <;> rfl
theorem run_first_error0 {w : W} (h : ∀ U, bIsi [w, .ty "list"] U = .ok (.bl false) U) : frR S (m_first_error [wS p, w] S) = .ok (.int 0) S := by
  have key : m_first_error [wS p, w] S = .ok (.int 0) S := by
    refine (fnM_ev rfl).trans ?_
    simp -implicitDefEqProofs [b_first_error, h]
  rw [key, frR_int]
theorem feN_right (p : Pt) : ∀ (n k : Nat), feN p k ((List.range' k n).map fun (t : Nat) => W.bl (burn p t)) = none
  | 0, _ => rfl
  | n + 1, k => by
    rw [List.range'_succ, List.map_cons]
    unfold feN
    rw [if_pos (show isBl (W.bl (burn p (k : Int))) = some (burn p (k : Int)) from rfl)]
    exact feN_right p n (k + 1)
theorem feN_wrong (p : Pt) (bad : W) (rest : List W) : ∀ (n k : Nat), isBl bad ≠ some (burn p (k + n : Nat)) → feN p k ((List.range' k n).map (fun (t : Nat) => W.bl (burn p t)) ++ bad :: rest) = some (k + n)
  | 0, k, h => by
    show feN p k (bad :: rest) = _
    unfold feN
    rw [if_neg (by simpa using h)]
    rfl
  | n + 1, k, h => by
    rw [List.range'_succ, List.map_cons, List.cons_append]
    unfold feN
    rw [if_pos (show isBl (W.bl (burn p (k : Int))) = some (burn p (k : Int)) from rfl), feN_wrong p bad rest n (k + 1) (by rw [show k + 1 + n = k + (n + 1) by omega]; exact h), show k + 1 + n = k + (n + 1) by omega]
end
end SL

set_option Elab.async false
set_option linter.all false
set_option maxRecDepth 100000
set_option maxHeartbeats 0
namespace SL
open PySem PySem.Spec PyProof.Rows L2
/-! law -/
def N_k11_law : List PySem.Str := ["_law_script", "_law_d", "_law_step", "_law_first", "_law_second", "_law_kind", "_law_doubled", "_law_trip_here", "_law_stairs", "_law_cycles", "_law_sizes", "_law_span", "_law_expected", "_law_tick_here", "_law_burns", "_law_late", "_law_cycle_here"]
noncomputable def f_k11_law_1 : MSt := sSet 6 (mOp opAdd (mVar 6) (mLst (mCons (mVar 7) (mCons (mOp opAdd (mTup (mCons (mOp opAdd (mIx (mVar 7) (mC (.int 0))) (mIx (mVar 3) (mC (.int 1)))) (mNil))) (mCut (mVar 7) (mPart (mC (.int 1))) (mNoPart))) (mNil)))))
noncomputable def c_k11_law_1 : MSt := sSeq (sSet 3 (mOp opAdd (mCut (mVar 3) (mNoPart) (mPart (mC (.int 3)))) (mTup (mCons (mCut (mIx (mVar 3) (mC (.int 3))) (mNoPart) (mPart (mC (.int 4)))) (mNil))))) (sSet 4 (mTup (mCons (mIx (mVar 3) (mC (.int 0))) (mCons (mOp opMul (mC (.int 2)) (mIx (mVar 3) (mC (.int 1)))) (mCons (mIx (mVar 3) (mC (.int 2))) (mCons (mCall bTuple (mCons (mVar 6) (mNil))) (mNil)))))))
noncomputable def e_k11_law_1 : M W := mOp opSub (mCall bLen (mCons (mIx (mVar 16) (mC (.int 0))) (mNil))) (mIx (mVar 16) (mC (.int 1)))
noncomputable def t_k11_law_1 : M Bool := mB (mOp opGt (mOp opMod (mVar 11) (mIx (mVar 10) (mC (.int 1)))) (mC (.int 0)))
noncomputable def f_k11_law_2 : MSt := sSet 11 (mOp opAdd (mVar 11) (mIx (mVar 10) (mC (.int 0))))
noncomputable def e_k11_law_2 : M W := mOp opGt (mIx (mIx (mIx (mVar 16) (mC (.int 0))) (mFr (mCall m_l_place (mCons (mVar 16) (mCons (mVar 13) (mNil)))))) (mC (.int 0))) (mC (.int 0))
noncomputable def f_k11_law_3 : MSt := sSeq (sSet 14 (mLc [16] (.n 16) (iL (mVar 9)) (mYes) (e_k11_law_2))) (sIf (mAnd (mB (mOp opNe (mIx (mVar 14) (mC (.int 0))) (mIx (mVar 14) (mC (.int 1))))) (mB (mOp opIsN (mVar 12) (mC .non)))) (sSet 12 (mTup (mCons (mVar 13) (mCons (mIx (mVar 14) (mC (.int 0))) (mNil))))) (sNext))
noncomputable def c_k11_law_2 : MSt := sSeq (sIf (mNot (mB (mFr (mCall mr_l_equal (mCons (mFr (mCall m_first_difference (mCons (mIx (mVar 8) (mC (.int 0))) (mCons (mIx (mVar 8) (mC (.int 1))) (mNil))))) (mCons (mVar 12) (mNil))))))) (sRet (mC (.bl false))) (sNext)) (sIf (mNot (mB (mFr (mCall m_l_checks (mCons (mVar 1) (mCons (mIx (mVar 8) (mC (.int 0))) (mCons (mIx (mVar 9) (mC (.int 0))) (mNil)))))))) (sRet (mC (.bl false))) (sNext))
noncomputable def c_k11_law_3 : MSt := sSeq (sFor (.n 13) (iR1 (mCons (mOp opAdd (mCall bMax (mCons (mIx (mIx (mVar 9) (mC (.int 0))) (mC (.int 1))) (mCons (mIx (mIx (mVar 9) (mC (.int 1))) (mC (.int 1))) (mNil)))) (mVar 11)) (mNil))) (f_k11_law_3)) (c_k11_law_2)
noncomputable def c_k11_law_4 : MSt := sSeq (sPar [8, 9] (mCons (mLst (mCons (mFr (mCall m_l_made (mCons (mVar 3) (mNil)))) (mCons (mFr (mCall m_l_made (mCons (mVar 4) (mNil)))) (mNil)))) (mCons (mLst (mCons (mFr (mCall m_l_cycle (mCons (mVar 3) (mNil)))) (mCons (mFr (mCall m_l_cycle (mCons (mVar 4) (mNil)))) (mNil)))) (mNil)))) (sSeq (sSet 10 (mLc [16] (.n 16) (iL (mVar 9)) (mYes) (e_k11_law_1))) (sSeq (sPar [11, 12] (mCons (mIx (mVar 10) (mC (.int 0))) (mCons (mC .non) (mNil)))) (sSeq (sWhile (t_k11_law_1) (f_k11_law_2)) (c_k11_law_3))))
noncomputable def c_k11_law_5 : MSt := sSeq (sIf (mAnd (mB (mOp opEq (mVar 5) (mC (.int 2)))) (mB (mOp opNe (mIx (mVar 3) (mC (.int 3))) (mTup (mNil))))) (sSet 4 (mOp opAdd (mCut (mVar 3) (mNoPart) (mPart (mC (.int 3)))) (mTup (mCons (mOp opAdd (mCut (mIx (mVar 3) (mC (.int 3))) (mNoPart) (mPart (mNeg (mC (.int 1))))) (mTup (mCons (mOp opAdd (mCut (mIx (mIx (mVar 3) (mC (.int 3))) (mNeg (mC (.int 1)))) (mNoPart) (mPart (mC (.int 4)))) (mTup (mCons (mC (.str "always")) (mNil)))) (mNil)))) (mNil))))) (sNext)) (c_k11_law_4)
noncomputable def c_k11_law_6 : MSt := sSeq (sIf (mAnd (mB (mOp opEq (mVar 5) (mC (.int 1)))) (mB (mOp opLe (mIx (mVar 3) (mC (.int 1))) (mC (.int 24))))) (sSeq (sSet 6 (mLst (mNil))) (sSeq (sFor (.n 7) (iT (mCut (mIx (mVar 3) (mC (.int 3))) (mNoPart) (mPart (mC (.int 4))))) (f_k11_law_1)) (c_k11_law_1))) (sNext)) (c_k11_law_5)
noncomputable def f_k11_law_4 : MSt := sSeq (sSet 3 (mFr (mCall m_l_parts (mCons (mVar 1) (mCons (mC (.int 4)) (mNil)))))) (sSeq (sPar [4, 5] (mCons (mFr (mCall m_l_parts (mCons (mVar 1) (mCons (mC (.int 4)) (mNil))))) (mCons (mFr (mCall m_l_below (mCons (mVar 1) (mCons (mC (.int 4)) (mNil))))) (mNil)))) (sSeq (sIf (mB (mOp opEq (mVar 5) (mC (.int 0)))) (sSet 4 (mOp opAdd (mCut (mVar 3) (mNoPart) (mPart (mC (.int 2)))) (mTup (mCons (mOp opAdd (mC (.int 1)) (mFr (mCall m_l_below (mCons (mVar 1) (mCons (mC (.int 30)) (mNil)))))) (mCons (mIx (mVar 3) (mC (.int 3))) (mNil)))))) (sNext)) (c_k11_law_6)))
noncomputable def c_k11_law_7 : MSt := sSeq (sSet 15 (mLst (mCons (mFr (mCall (newR .Stairs m_Stairs___init__) (mCons (mC (.int 1)) (mCons (mC (.int 4)) (mCons (mC (.int 3)) (mCons (mTup (mCons (mC (.int 0)) (mCons (mC (.int 0)) (mCons (mC (.int 1)) (mCons (mC (.int 1)) (mCons (mC (.str "always")) (mNil))))))) (mNil))))))) (mCons (mFr (mCall (newR .Stairs m_Stairs___init__) (mCons (mC (.int 1)) (mCons (mC (.int 6)) (mCons (mC (.int 3)) (mCons (mTup (mCons (mC (.int 0)) (mCons (mC (.int 0)) (mCons (mC (.int 1)) (mCons (mC (.int 1)) (mCons (mC (.str "always")) (mNil))))))) (mCons (mTup (mCons (mC (.int 4)) (mCons (mC (.int 0)) (mCons (mC (.int 1)) (mCons (mC (.int 1)) (mCons (mC (.str "always")) (mNil))))))) (mNil)))))))) (mNil))))) (sRet (mOp opEq (mFr (mCall m_first_difference (mCons (mIx (mVar 15) (mC (.int 0))) (mCons (mIx (mVar 15) (mC (.int 1))) (mNil))))) (mTup (mCons (mC (.int 7)) (mCons (mC (.bl false)) (mNil))))))
noncomputable def b_k11_law : MSt := sSeq (sSet 1 (mCall m_l_random (mCons (mVar 0) (mCons (mC (.int 11)) (mNil))))) (sSeq (sFor (.n 2) (iR1 (mCons (mC (.int 3)) (mNil))) (f_k11_law_4)) (c_k11_law_7))
noncomputable abbrev m_k11_law : FnM := fnM 17 1 b_k11_law
end SL

set_option Elab.async false
set_option linter.all false
set_option maxRecDepth 100000
set_option maxHeartbeats 2000000
namespace SL
open PySem PySem.Spec PyProof.Rows L2
theorem rand_loop {S : Sto} {x0 x1 : Option W} : ∀ (ns : List Int) (seed : Int) (x3 : Option W), 0 ≤ seed → ∃ s' y3, 0 ≤ s' ∧ sForL (.n 3) f_l_random_1 (ns.map W.int) [x0, x1, some (.int seed), x3] S = .ok (.nx [x0, x1, some (.int s'), y3]) S
  | [], seed, x3, h => ⟨seed, x3, h, rfl⟩
  | n :: ns, seed, x3, h => by
    have e3 : mulOk seed 31 = true := mulOk_r (by decide) (by decide)
    have hm : 0 ≤ (seed * 31 + (if n < 0 then -n else n)) % 2147483647 := Int.emod_nonneg _ (by decide)
    obtain ⟨s', y3, h', e⟩ := rand_loop (S := S) (x0 := x0) (x1 := x1) ns _ (some (.int n)) hm
    refine ⟨s', y3, h', ?_⟩
    have hb : f_l_random_1 [x0, x1, some (.int seed), some (.int n)] S = .ok (.nx [x0, x1, some (.int ((seed * 31 + (if n < 0 then -n else n)) % 2147483647)), some (.int n)]) S := by
      simp -implicitDefEqProofs [f_l_random_1, e3]
    rw [List.map_cons, sForL_nx (r1 := _) rfl hb, e]
theorem run_random (ns : List Int) (hn : ns.length ≤ 63) (salt : Int) (h0 : 0 ≤ salt) : ∃ D, Dr D ∧ m_l_random [.scr ns, .int salt] [] = .ok (.loc 0) (dst D []) := by
  obtain ⟨s', y3, h', e⟩ := rand_loop (S := []) (x0 := some (.scr ns)) (x1 := some (.int salt)) ns salt none h0
  refine ⟨s' :: 0 :: ns.filter (fun x => decide ((10 : Int) ^ (18 : Int).toNat ≤ x)), ⟨s', 0, _, rfl, h', Int.le_refl _, fun x hx => ?_⟩, ?_⟩
  · have := of_decide_eq_true (List.mem_filter.mp hx).2
    have h10 : (0 : Int) ≤ (10 : Int) ^ (18 : Int).toNat := by decide
    omega
  · have hl : mLc [3] (.n 3) (iL (mVar 0)) i_l_random_1 e_l_random_1 [some (.scr ns), some (.int salt), some (.int s'), y3] [] = .ok (.lst ((ns.filter (fun x => decide ((10 : Int) ^ (18 : Int).toNat ≤ x))).map W.int)) [] := by
      refine mLc_if W.int W.int (fun x => decide ((10 : Int) ^ (18 : Int).toNat ≤ x)) ns (by simp) (by decide) (fun x hx => ⟨_, rfl, fun U => ?_, fun _ U => ?_⟩) (fun _ _ _ => rfl) (by omega)
      · simp -implicitDefEqProofs [i_l_random_1, wipeR, -Int.reduceToNat, -Int.reducePow]
      · simp [e_l_random_1, wipeR]
    have hfl : (ns.filter (fun x => decide ((10 : Int) ^ (18 : Int).toNat ≤ x))).length ≤ 63 := Nat.le_trans (List.length_filter_le _ _) hn
    have ha := opAddC_lst (S := []) (xs := [.int s', .int 0]) (ys := (ns.filter (fun x => decide ((10 : Int) ^ (18 : Int).toNat ≤ x))).map W.int) (by rw [List.length_map]; simp only [List.length_cons, List.length_nil]; omega)
    refine (fnM_ev rfl).trans ?_
    simp -implicitDefEqProofs [b_l_random, e, hl, ha, dst, -Int.reduceToNat, -Int.reducePow]
theorem sm_ints (k : Nat) (S : Sto) (d : List Int) (a : W) (h : d.length < 1000000) (ha : a = .lst (d.map W.int) ∨ ∃ n, a = .loc n ∧ S[n]? = some (.lst (d.map W.int))) : sm (k + 2) S a (.lst (d.map W.int)) := by
  refine ⟨d.map W.int, ha, rfl, by simpa using h, fun i x y hx hy => ?_⟩
  rw [hx] at hy
  cases hy
  obtain ⟨z, _, rfl⟩ := List.mem_map.mp (List.mem_of_getElem? hx)
  rfl
end SL

set_option Elab.async false
set_option linter.all false
set_option maxRecDepth 100000
set_option maxHeartbeats 0
namespace SL
open PySem PySem.Spec PyProof.Rows L2
/-! law -/
def N_k06_law : List PySem.Str := ["_law_script", "_law_d", "_law_parts_here", "_law_length", "_law_trips", "_law_stairs", "_law_times", "_law_best", "_law_time", "_law_changed", "_law_cycle_here", "_law_late", "_law_lit", "_law_found", "_law_trip_here", "_law_one"]
noncomputable def e_k06_law_1 : M W := mOp opAdd (mTup (mCons (mOp opMod (mIx (mVar 14) (mC (.int 0))) (mVar 3)) (mNil))) (mCut (mVar 14) (mPart (mC (.int 1))) (mNoPart))
noncomputable def e_k06_law_2 : M W := mVar 15
noncomputable def i_k06_law_1 : M Bool := mB (mOp opGt (mIx (mVar 15) (mC (.int 0))) (mC (.int 0)))
noncomputable def f_k06_law_1 : MSt := sSeq (sSet 9 (mTup (mCons (mIx (mVar 2) (mC (.int 0))) (mCons (mIx (mVar 2) (mC (.int 1))) (mCons (mVar 8) (mCons (mIx (mVar 2) (mC (.int 3))) (mNil))))))) (sIf (mB (mFr (mCall m_l_is_bright (mCons (mVar 9) (mNil))))) (sSeq (sExpr (mBm "list" fAppend (mVar 6) (mCons (mVar 8) (mNil)))) (sSeq (sSet 10 (mFr (mCall m_l_cycle (mCons (mVar 9) (mNil))))) (sSeq (sSet 11 (mCut (mIx (mVar 10) (mC (.int 0))) (mPart (mIx (mVar 10) (mC (.int 1)))) (mNoPart))) (sSeq (sSet 12 (mCall bLen (mCons (mLc [15] (.n 15) (iL (mVar 11)) (i_k06_law_1) (e_k06_law_2)) (mNil)))) (sIf (mOr (mB (mOp opIsN (mVar 7) (mC .non))) (mB (mOp opLt (mOp opMul (mVar 12) (mIx (mVar 7) (mC (.int 1)))) (mOp opMul (mIx (mVar 7) (mC (.int 0))) (mCall bLen (mCons (mVar 11) (mNil))))))) (sSet 7 (mTup (mCons (mVar 12) (mCons (mCall bLen (mCons (mVar 11) (mNil))) (mCons (mVar 8) (mNil)))))) (sNext)))))) (sNext))
noncomputable def b_k06_law : MSt := sSeq (sSet 1 (mCall m_l_random (mCons (mVar 0) (mCons (mC (.int 6)) (mNil))))) (sSeq (sSet 2 (mFr (mCall m_l_parts (mCons (mVar 1) (mCons (mC (.int 3)) (mNil)))))) (sSeq (sSet 3 (mOp opAdd (mC (.int 1)) (mOp opMod (mIx (mVar 2) (mC (.int 1))) (mC (.int 20))))) (sSeq (sSet 4 (mCall bTuple (mCons (mLc [14] (.n 14) (iT (mIx (mVar 2) (mC (.int 3)))) (mYes) (e_k06_law_1)) (mNil)))) (sSeq (sSet 2 (mTup (mCons (mIx (mVar 2) (mC (.int 0))) (mCons (mVar 3) (mCons (mIx (mVar 2) (mC (.int 2))) (mCons (mVar 4) (mNil))))))) (sSeq (sPar [5, 6, 7] (mCons (mFr (mCall m_l_made (mCons (mVar 2) (mNil)))) (mCons (mLstC (mNil)) (mCons (mC .non) (mNil))))) (sSeq (sFor (.n 8) (iR2 (mCons (mC (.int 1)) (mCons (mC (.int 61)) (mNil)))) (f_k06_law_1)) (sSeq (sSet 13 (mCall m_bright_times (mCons (mVar 5) (mNil)))) (sSeq (sIf (mNot (mB (mFr (mCall mr_l_equal (mCons (mLst (mCons (mVar 13) (mCons (mFr (mCall m_least_time (mCons (mVar 5) (mNil)))) (mNil)))) (mCons (mLst (mCons (mVar 6) (mCons (mIf (mB (mOp opNe (mVar 6) (mLst (mNil)))) (mIx (mVar 6) (mC (.int 0))) (mC .non)) (mNil)))) (mNil))))))) (sRet (mC (.bl false))) (sNext)) (sSeq (sExpr (mBm "list" fAppend (mVar 13) (mCons (mC (.int 0)) (mNil)))) (sRet (mFr (mCall mr_l_equal (mCons (mFr (mCall m_cheapest_time (mCons (mVar 5) (mNil)))) (mCons (mVar 7) (mNil)))))))))))))))
noncomputable abbrev m_k06_law : FnM := fnM 16 1 b_k06_law
end SL

set_option Elab.async false
set_option linter.all false
set_option maxRecDepth 100000
set_option maxHeartbeats 2000000
namespace SL
open PySem PySem.Spec PyProof.Rows L2
section
variable {p : Pt} {S : Sto}
theorem opCut_lst {xs : List W} {lo hi : Option Int} : opCut lo hi (.lst xs) S = .ok (.lst (cutX xs lo hi)) S := rfl
theorem lit_le : lit p ≤ (late p).length := List.length_filter_le _ _
theorem late_le (ok : p.Ok) : (late p).length ≤ 3000 := by
  have := story_len ok
  unfold late
  rw [List.length_drop]
  omega
theorem cheap_step (ok : p.Ok) {x : Int} (h0 : 1 ≤ x) (h1 : x ≤ 60) (o : Best) (ho : ∀ a b y, o = some (a, b, y) → a ≤ 3000 ∧ b ≤ 3000) (x3 x4 x5 : Option W) : ∃ y3 y4 y5, f_cheapest_time_1 [some (wS p), some (wBest o), some (.int x), x3, x4, x5] S = .ok (.nx [some (wS p), some (wBest (better p x o)), some (.int x), y3, y4, y5]) S := by
  have okx := withTime_ok ok h0 h1
  have hs := story_start okx
  have hl := story_len okx
  have hll := late_le okx
  have hli := lit_le (p := withTime p x)
  have e5 : ∀ V, frR V (m_Stairs_with_time [wS p, .int x] V) = .ok (wS (withTime p x)) V := fun V => run_with_time ok h0 h1
  have e1 : ∀ U, frR U (newR .Story m_Story___init__ [wS (withTime p x)] U) = .ok (.obj .Story [.lst ((story (withTime p x)).1.map wSc), .int (story (withTime p x)).2]) U := fun U => run_Story2 okx
  have e2 : ∀ U, frR U (noX (m_Story_size [.obj .Story [.lst ((story (withTime p x)).1.map wSc), .int (story (withTime p x)).2]] U)) = .ok (.int ((late (withTime p x)).length : Int)) U := fun U => by
    rw [size_run okx, noX_ok, frR_int]
  have e3 : ∀ U, mLc [5] (.n 5) (iL (mCut (mFld .Story .scenes (mVar 3)) (mPart (mFld .Story .start (mVar 3))) mNoPart)) i_cheapest_time_1 e_cheapest_time_1 [some (wS p), some (wBest o), some (.int x), some (.obj .Story [.lst ((story (withTime p x)).1.map wSc), .int (story (withTime p x)).2]), x4, x5] U =
      .ok (.lst (((late (withTime p x)).filter fun s => decide (0 < s.light)).map wSc)) U := fun U => by
    refine mLc_if wSc wSc (fun s => decide (0 < s.light)) (late (withTime p x)) ?_ (by decide) (fun s hs => ⟨_, rfl, fun U => ?_, fun _ U => ?_⟩) (fun s _ _ => ?_) (by omega)
    · have hc : cutX ((story (withTime p x)).1.map wSc) (some (story (withTime p x)).2) none = (late (withTime p x)).map wSc := by
        rw [cut_from _ hs.1 (by rw [List.length_map]; omega), late, List.map_drop]
      simp -implicitDefEqProofs [fld_ev, opCut_lst, hc]
    · simp -implicitDefEqProofs [i_cheapest_time_1, wipeR]
    · simp -implicitDefEqProofs [e_cheapest_time_1, wipeR]
    · show (true && ((s.presses.map wPr).all (nol 12) && ((s.dark.map W.int).all (nol 12) && true))) = true
      rw [show (s.presses.map wPr).all (nol 12) = true by rw [List.all_map]; exact List.all_eq_true.mpr fun _ _ => rfl, show (s.dark.map W.int).all (nol 12) = true by rw [List.all_map]; exact List.all_eq_true.mpr fun _ _ => rfl]
      rfl
  have hlit : ((late (withTime p x)).filter fun s => decide (0 < s.light)).length = lit (withTime p x) := rfl
  cases o with
  | none =>
    refine ⟨some (.obj .Story [.lst ((story (withTime p x)).1.map wSc), .int (story (withTime p x)).2]), some (.int (lit (withTime p x) : Nat)), x5, ?_⟩
    simp -implicitDefEqProofs [wBest] at e3
    simp -implicitDefEqProofs [f_cheapest_time_1, e5, e1, e3, wBest, e2, better, hlit]
  | some q =>
    obtain ⟨a, b, y⟩ := q
    obtain ⟨ha, hb⟩ := ho a b y rfl
    have m1 : mulOk ((lit (withTime p x) : Nat) : Int) (b : Nat) = true := mulOk_r (by omega) (by omega)
    have m2 : mulOk ((a : Nat) : Int) (((late (withTime p x)).length : Nat) : Int) = true := mulOk_l (by omega) (by omega)
    refine ⟨some (.obj .Story [.lst ((story (withTime p x)).1.map wSc), .int (story (withTime p x)).2]), some (.int (lit (withTime p x) : Nat)), x5, ?_⟩
    simp -implicitDefEqProofs [wBest] at e3
    by_cases hc : lit (withTime p x) * b < a * (late (withTime p x)).length
    · have hc2 : ((lit (withTime p x) : Nat) : Int) * (b : Int) < (a : Int) * ((late (withTime p x)).length : Int) := by
        have : ((lit (withTime p x) * b : Nat) : Int) < ((a * (late (withTime p x)).length : Nat) : Int) := Int.ofNat_lt.mpr hc
        push_cast at this
        exact this
      simp -implicitDefEqProofs [f_cheapest_time_1, e5, e1, e3, wBest, e2, better, m1, m2, hc, hc2, hlit]
    · have hc2 : ¬ ((lit (withTime p x) : Nat) : Int) * (b : Int) < (a : Int) * ((late (withTime p x)).length : Int) := fun z => hc (by
        have : ((lit (withTime p x) * b : Nat) : Int) < ((a * (late (withTime p x)).length : Nat) : Int) := by push_cast; exact z
        exact Int.ofNat_lt.mp this)
      simp -implicitDefEqProofs [f_cheapest_time_1, e5, e1, e3, wBest, e2, better, m1, m2, hc, hc2, hlit]
end
end SL

set_option Elab.async false
set_option linter.all false
set_option maxRecDepth 100000
set_option maxHeartbeats 2000000
namespace SL
open PySem PySem.Spec PyProof.Rows L2
section
variable {p : Pt} {S : Sto}
def bestOk (o : Best) : Prop := ∀ a b y, o = some (a, b, y) → a ≤ 3000 ∧ b ≤ 3000
theorem better_ok (ok : p.Ok) {x : Int} (h0 : 1 ≤ x) (h1 : x ≤ 60) {o : Best} (ho : bestOk o) : bestOk (better p x o) := by
  have okx := withTime_ok ok h0 h1
  have hll := late_le okx
  have hli := lit_le (p := withTime p x)
  intro a b y h
  unfold better at h
  split at h
  · cases h
    omega
  · split at h
    · cases h
      omega
    · exact ho a b y h
def cheapL (p : Pt) (xs : List Int) (o : Best) : Best := xs.foldl (fun o x => better p x o) o
theorem cheap_loop (ok : p.Ok) : ∀ (xs : List Int) (o : Best) (x2 x3 x4 x5 : Option W), bestOk o → (∀ x ∈ xs, 1 ≤ x ∧ x ≤ 60) → ∃ y2 y3 y4 y5, sForL (.n 2) f_cheapest_time_1 (xs.map W.int) [some (wS p), some (wBest o), x2, x3, x4, x5] S = .ok (.nx [some (wS p), some (wBest (cheapL p xs o)), y2, y3, y4, y5]) S
  | [], o, x2, x3, x4, x5, _, _ => ⟨x2, x3, x4, x5, rfl⟩
  | x :: xs, o, x2, x3, x4, x5, ho, hx => by
    obtain ⟨h0, h1⟩ := hx x List.mem_cons_self
    obtain ⟨y3, y4, y5, e⟩ := cheap_step (S := S) ok h0 h1 o ho x3 x4 x5
    obtain ⟨z2, z3, z4, z5, e2⟩ := cheap_loop ok xs (better p x o) (some (.int x)) y3 y4 y5 (better_ok ok h0 h1 ho) fun y hy => hx y (List.mem_cons_of_mem _ hy)
    exact ⟨z2, z3, z4, z5, by rw [List.map_cons, sForL_nx (r1 := _) rfl e, e2]; rfl⟩
theorem run_cheapest (ok : p.Ok) : m_cheapest_time [wS p] S = .ok (wBest (cheapL p (brightTimes p) none)) S := by
  have e1 : ∀ U, frR U (m_bright_times [wS p] U) = .ok (.lst ((brightTimes p).map W.int)) U := fun U => by
    rw [run_bright_times ok]
    exact frR_app (frz_locL at_app0 (Nat.le_refl _) (frz_ints 14))
  obtain ⟨y2, y3, y4, y5, e⟩ := cheap_loop (S := S) ok (brightTimes p) none none none none none (fun a b y h => by cases h) fun x hx => times_range (List.mem_filter.mp hx).1
  have e' : sForL (.n 2) f_cheapest_time_1 ((brightTimes p).map W.int) [some (wS p), some .non, none, none, none, none] S = _ := e
  refine (fnM_ev rfl).trans ?_
  simp -implicitDefEqProofs [b_cheapest_time, e1, e']
end
end SL

set_option Elab.async false
set_option linter.all false
set_option maxRecDepth 100000
set_option maxHeartbeats 2000000
namespace SL
open PySem PySem.Spec PyProof.Rows L2
/-- a datum that can be compared, not deeper than n -/
def okD (n : Nat) (d : PyData) : Prop := d.canLay0 = true ∧ d.depth ≤ n
theorem okD_list {n : Nat} : ∀ {ds : List PyData}, (∀ d ∈ ds, okD n d) → PyData.canLayAll0 ds = true ∧ PyData.depthAll ds ≤ n
  | [], _ => ⟨rfl, Nat.zero_le _⟩
  | d :: ds, h => by
    obtain ⟨h1, h2⟩ := okD_list fun x hx => h x (List.mem_cons_of_mem d hx)
    obtain ⟨h3, h4⟩ := h d List.mem_cons_self
    refine ⟨?_, ?_⟩
    · show (d.canLay0 && PyData.canLayAll0 ds) = true
      rw [h1, h3]
      rfl
    · show max d.depth (PyData.depthAll ds) ≤ n
      omega
theorem okD_lst {n : Nat} {ds : List PyData} (h : ∀ d ∈ ds, okD n d) : okD (n + 1) (.list ds) := by
  obtain ⟨h1, h2⟩ := okD_list h
  exact ⟨h1, Nat.succ_le_succ h2⟩
theorem okD_tup {n : Nat} {ds : List PyData} (h : ∀ d ∈ ds, okD n d) : okD (n + 1) (.tuple ds) := by
  obtain ⟨h1, h2⟩ := okD_list h
  exact ⟨h1, Nat.succ_le_succ h2⟩
theorem okD_int (n : Nat) (i : Int) : okD n (.int i) := ⟨rfl, Nat.zero_le _⟩
theorem okD_shaped {n : Nat} {d : PyData} (h : okD n d) (hn : n ≤ 64) : SeqAt.shaped d = true := by
  unfold SeqAt.shaped
  rw [h.1, decide_eq_true (Nat.le_trans h.2 hn)]
  rfl
theorem dats_map {α : Type} (f : α → W) (g : α → PyData) (h : ∀ a, dat (f a) = some (g a)) : ∀ as : List α, dats (as.map f) = some (as.map g)
  | [] => rfl
  | a :: as => by simp [dats, h a, dats_map f g h as]
def dPr3 (tick : Int) (q : Int × Int) : PyData := .tuple [.int tick, .int q.1, .int q.2]
def dTk (tick : Int) (s : Sc) : PyData := .tuple [.int s.light, .list (s.presses.map (dPr3 tick)), .list (s.dark.map PyData.int)]
theorem dat_wTk (tick : Int) (s : Sc) : dat (wTk tick s) = some (dTk tick s) := by
  have h1 := dats_map (wPr3 tick) (dPr3 tick) (fun q => by simp [wPr3, dPr3, dat, dats]) s.presses
  have h2 := dats_ints s.dark
  simp [wTk, dTk, dat, dats, h1, h2]
theorem ok_dTk (tick : Int) (s : Sc) : okD 3 (dTk tick s) := by
  refine okD_tup fun d hd => ?_
  simp only [List.mem_cons, List.not_mem_nil, or_false] at hd
  rcases hd with rfl | rfl | rfl
  · exact okD_int 2 _
  · refine okD_lst fun d hd => ?_
    obtain ⟨q, _, rfl⟩ := List.mem_map.mp hd
    refine okD_tup fun d hd => ?_
    simp only [List.mem_cons, List.not_mem_nil, or_false] at hd
    rcases hd with rfl | rfl | rfl <;> exact okD_int 0 _
  · refine okD_lst fun d hd => ?_
    obtain ⟨q, _, rfl⟩ := List.mem_map.mp hd
    exact okD_int 1 _
theorem wFs_zip : ∀ (fs : List Sc) (k : Nat), wFs k fs = (fs.zipIdx k).map fun q => wTk (q.2 : Int) q.1
  | [], _ => rfl
  | s :: fs, k => by
    rw [List.zipIdx_cons, List.map_cons, ← wFs_zip fs (k + 1)]
    rfl
end SL

set_option Elab.async false
set_option linter.all false
set_option maxRecDepth 100000
set_option maxHeartbeats 2000000
namespace SL
open PySem PySem.Spec PyProof.Rows L2
section
variable {p : Pt} {S : Sto}
theorem zip_dark (fs : List Sc) : ∀ k : Nat, ((fs.zipIdx k).filter fun q => !q.1.dark.isEmpty).isEmpty = fs.all fun s => s.dark.isEmpty := by
  induction fs with
  | nil => intro k; rfl
  | cons s fs ih =>
    intro k
    rw [List.zipIdx_cons, List.all_cons]
    cases h : s.dark.isEmpty with
    | true => rw [List.filter_cons_of_neg (by simp [h]), ih]; rfl
    | false => rw [List.filter_cons_of_pos (by simp [h])]; rfl
theorem run_l_is_bright (ok : p.Ok) : m_l_is_bright [wP p] S = .ok (.bl (bright p)) S := by
  have hlen := story_len ok
  have e4 : ∀ U, frR U (m_l_cycle [wP p] U) = .ok (.tup [.lst (wFs 0 (story p).1), .int (story p).2]) U := fun U => run_l_cycle ok
  have e5 : mLc [1] (.n 1) (iL (mIx (mFr (mCall m_l_cycle (mCons (mVar 0) mNil))) (mC (.int 0)))) i_l_is_bright_1 e_l_is_bright_1 [some (wP p), none] S = .ok (.lst ((((story p).1.zipIdx 0).filter fun q => !q.1.dark.isEmpty).map fun q => wTk (q.2 : Int) q.1)) S := by
    refine mLc_if (fun q : Sc × Nat => wTk (q.2 : Int) q.1) (fun q : Sc × Nat => wTk (q.2 : Int) q.1) (fun q => !q.1.dark.isEmpty) ((story p).1.zipIdx 0) ?_ (by decide) (fun q _ => ⟨_, rfl, fun U => ?_, fun _ U => ?_⟩) (fun q _ _ => nol_le nol_wTk (by omega)) (by rw [List.length_zipIdx]; omega)
    · simp -implicitDefEqProofs [e4, wFs_zip]
    · have e2 : opNe (.lst (q.1.dark.map W.int)) (.lst []) U = .ok (.bl (!q.1.dark.isEmpty)) U := opNe_ints rfl
      simp -implicitDefEqProofs [i_l_is_bright_1, wipeR, wTk, e2]
    · simp -implicitDefEqProofs [e_l_is_bright_1, wipeR]
  have e6 : ∀ as : List (Sc × Nat), opEq (.lst (as.map fun q => wTk (q.2 : Int) q.1)) (.lst []) S = .ok (.bl as.isEmpty) S := fun as => by
    have h1 := dats_map (fun q : Sc × Nat => wTk (q.2 : Int) q.1) (fun q => dTk (q.2 : Int) q.1) (fun q => dat_wTk _ _) as
    rw [opEq_nil (w := .lst (as.map fun q => wTk (q.2 : Int) q.1)) rfl h1 (okD_shaped (n := 4) (okD_lst fun d hd => by
      obtain ⟨q, _, rfl⟩ := List.mem_map.mp hd
      exact ok_dTk _ _) (by omega))]
    cases as <;> rfl
  refine (fnM_ev rfl).trans ?_
  simp -implicitDefEqProofs [b_l_is_bright, e5, e6, zip_dark, bright]
end
end SL

set_option Elab.async false
set_option linter.all false
set_option maxRecDepth 100000
set_option maxHeartbeats 2000000
namespace SL
open PySem PySem.Spec PyProof.Rows L2
section
variable {p : Pt} {S : Sto}
theorem wFs_drop : ∀ (fs : List Sc) (k j : Nat), (wFs k fs).drop j = wFs (k + j) (fs.drop j)
  | [], k, j => by simp [wFs]
  | s :: fs, k, 0 => by simp
  | s :: fs, k, j + 1 => by
    rw [List.drop_succ_cons, ← show k + 1 + j = k + (j + 1) by omega, ← wFs_drop fs (k + 1) j]
    rfl
theorem zip_lit (fs : List Sc) : ∀ k : Nat, ((fs.zipIdx k).filter fun q => decide (0 < q.1.light)).length = (fs.filter fun s => decide (0 < s.light)).length := by
  induction fs with
  | nil => intro k; rfl
  | cons s fs ih =>
    intro k
    rw [List.zipIdx_cons]
    by_cases h : 0 < s.light
    · rw [List.filter_cons_of_pos (by simp [h]), List.filter_cons_of_pos (by simp [h]), List.length_cons, List.length_cons, ih]
    · rw [List.filter_cons_of_neg (by simp [h]), List.filter_cons_of_neg (by simp [h]), ih]
@[simp] theorem ix_wP0 : opIx (wP p) (.int 0) S = .ok (.int p.top) S := by simp [wP]
@[simp] theorem ix_wP1 : opIx (wP p) (.int 1) S = .ok (.int p.length) S := by simp [wP]
@[simp] theorem ix_wP2 : opIx (wP p) (.int 2) S = .ok (.int p.time) S := by simp [wP]
@[simp] theorem ix_wP3 : opIx (wP p) (.int 3) S = .ok (.tup (p.trips.map wTt)) S := by simp [wP]
theorem wP_fold {x : Int} : W.tup [.int p.top, .int p.length, .int x, .tup (p.trips.map wTt)] = wP (withTime p x) := rfl
theorem late_cut (ok : p.Ok) : cutX (wFs 0 (story p).1) (some (story p).2) none = wFs (story p).2.toNat (late p) := by
  have hs := story_start ok
  rw [cut_from _ hs.1 (by rw [wFs_len]; omega), wFs_drop, Nat.zero_add]
  rfl
def wStp (b : Bool) (p : Pt) (x : Int) (o : Best) : Best := if b then better p x o else o
theorem k06_step (ok : p.Ok) {x : Int} (h0 : 1 ≤ x) (h1 : x ≤ 60) (o : Best) (ho : bestOk o) (ts : List Int) (hl : ts.length < 1000) (x0 x1 x3 x4 x5 x9 x10 x11 x12 x13 x14 x15 : Option W) : ∃ y9 y10 y11 y12,
    f_k06_law_1 [x0, x1, some (wP p), x3, x4, x5, some (.loc S.length), some (wBest o), some (.int x), x9, x10, x11, x12, x13, x14, x15] (S ++ [.lst (ts.map W.int)]) =
      .ok (.nx [x0, x1, some (wP p), x3, x4, x5, some (.loc S.length), some (wBest (if bright (withTime p x) then better p x o else o)), some (.int x), y9, y10, y11, y12, x13, x14, x15]) (S ++ [.lst ((if bright (withTime p x) then ts ++ [x] else ts).map W.int)]) := by
  have okx := withTime_ok ok h0 h1
  have hll := late_le okx
  have hli := lit_le (p := withTime p x)
  have e1 : ∀ U, frR U (m_l_is_bright [wP (withTime p x)] U) = .ok (.bl (bright (withTime p x))) U := fun U => by rw [run_l_is_bright okx, frR_bl]
  cases hb : bright (withTime p x) with
  | false =>
    refine ⟨some (wP (withTime p x)), x10, x11, x12, ?_⟩
    simp -implicitDefEqProofs [f_k06_law_1, wP_fold, e1, hb]
  | true =>
    have hts : ts.length < 16000000 := by omega
    have e2 : ∀ U, frR U (m_l_cycle [wP (withTime p x)] U) = .ok (.tup [.lst (wFs 0 (story (withTime p x)).1), .int (story (withTime p x)).2]) U := fun U => run_l_cycle okx
    have e3 : ∀ (z : Option W) U, ∃ L : List W, L.length = lit (withTime p x) ∧ mLc [15] (.n 15) (iL (mVar 11)) i_k06_law_1 e_k06_law_2 [x0, x1, some (wP p), x3, x4, x5, some (.loc S.length), some (wBest o), some (.int x), some (wP (withTime p x)), z, some (.lst (wFs (story (withTime p x)).2.toNat (late (withTime p x)))), x12, x13, x14, x15] U = .ok (.lst L) U := fun z U => by
      refine ⟨_, ?_, mLc_if (fun q : Sc × Nat => wTk (q.2 : Int) q.1) (fun q : Sc × Nat => wTk (q.2 : Int) q.1) (fun q => decide (0 < q.1.light)) ((late (withTime p x)).zipIdx (story (withTime p x)).2.toNat) ?_ (by decide) (fun q _ => ⟨_, rfl, fun U => ?_, fun _ U => ?_⟩) (fun q _ _ => nol_le nol_wTk (by omega)) (by rw [List.length_zipIdx]; omega)⟩
      · rw [List.length_map, zip_lit]
        rfl
      · simp -implicitDefEqProofs [wFs_zip]
      · simp -implicitDefEqProofs [i_k06_law_1, wipeR, wTk]
      · simp -implicitDefEqProofs [e_k06_law_2, wipeR]
    obtain ⟨L, hL, e4⟩ := e3 (some (.tup [.lst (wFs 0 (story (withTime p x)).1), .int (story (withTime p x)).2])) (S ++ [.lst ((ts ++ [x]).map W.int)])
    have hc := late_cut okx
    have wl : (wFs (story (withTime p x)).2.toNat (late (withTime p x))).length = (late (withTime p x)).length := wFs_len _ _
    refine ⟨some (wP (withTime p x)), some (.tup [.lst (wFs 0 (story (withTime p x)).1), .int (story (withTime p x)).2]), some (.lst (wFs (story (withTime p x)).2.toNat (late (withTime p x)))), some (.int (lit (withTime p x) : Nat)), ?_⟩
    cases o with
    | none =>
      simp -implicitDefEqProofs [wBest] at e4
      simp -implicitDefEqProofs [f_k06_law_1, wP_fold, e1, hb, hts, e2, opCut_lst, hc, e4, hL, wBest, better, wl]
    | some q =>
      obtain ⟨a, b, y⟩ := q
      obtain ⟨ha, hb2⟩ := ho a b y rfl
      have m1 : mulOk ((lit (withTime p x) : Nat) : Int) (b : Nat) = true := mulOk_r (by omega) (by omega)
      have m2 : mulOk ((a : Nat) : Int) (((late (withTime p x)).length : Nat) : Int) = true := mulOk_l (by omega) (by omega)
      simp -implicitDefEqProofs [wBest] at e4
      by_cases hc1 : lit (withTime p x) * b < a * (late (withTime p x)).length
      · have hc2 : ((lit (withTime p x) : Nat) : Int) * (b : Int) < (a : Int) * ((late (withTime p x)).length : Int) := by
          have : ((lit (withTime p x) * b : Nat) : Int) < ((a * (late (withTime p x)).length : Nat) : Int) := Int.ofNat_lt.mpr hc1
          push_cast at this
          exact this
        simp -implicitDefEqProofs [f_k06_law_1, wP_fold, e1, hb, hts, e2, opCut_lst, hc, e4, hL, wBest, better, wl, m1, m2, hc1, hc2]
      · have hc2 : ¬ ((lit (withTime p x) : Nat) : Int) * (b : Int) < (a : Int) * ((late (withTime p x)).length : Int) := fun z => hc1 (by
          have : ((lit (withTime p x) * b : Nat) : Int) < ((a * (late (withTime p x)).length : Nat) : Int) := by push_cast; exact z
          exact Int.ofNat_lt.mp this)
        simp -implicitDefEqProofs [f_k06_law_1, wP_fold, e1, hb, hts, e2, opCut_lst, hc, e4, hL, wBest, better, wl, m1, m2, hc1, hc2]
theorem k06_loop (ok : p.Ok) (x0 x1 x3 x4 x5 x13 x14 x15 : Option W) : ∀ (xs : List Int) (o : Best) (ts : List Int) (x8 x9 x10 x11 x12 : Option W), bestOk o → (∀ x ∈ xs, 1 ≤ x ∧ x ≤ 60) → ts.length + xs.length < 1000 → ∃ y8 y9 y10 y11 y12,
    sForL (.n 8) f_k06_law_1 (xs.map W.int) [x0, x1, some (wP p), x3, x4, x5, some (.loc S.length), some (wBest o), x8, x9, x10, x11, x12, x13, x14, x15] (S ++ [.lst (ts.map W.int)]) =
      .ok (.nx [x0, x1, some (wP p), x3, x4, x5, some (.loc S.length), some (wBest (cheapL p (xs.filter fun x => bright (withTime p x)) o)), y8, y9, y10, y11, y12, x13, x14, x15]) (S ++ [.lst ((ts ++ xs.filter fun x => bright (withTime p x)).map W.int)])
  | [], o, ts, x8, x9, x10, x11, x12, _, _, _ => ⟨x8, x9, x10, x11, x12, by simp [cheapL]⟩
  | x :: xs, o, ts, x8, x9, x10, x11, x12, ho, hx, hl => by
    simp only [List.length_cons] at hl
    obtain ⟨h0, h1⟩ := hx x List.mem_cons_self
    obtain ⟨y9, y10, y11, y12, e⟩ := k06_step (S := S) ok h0 h1 o ho ts (by omega) x0 x1 x3 x4 x5 x9 x10 x11 x12 x13 x14 x15
    have ho2 : bestOk (if bright (withTime p x) then better p x o else o) := by
      split
      · exact better_ok ok h0 h1 ho
      · exact ho
    obtain ⟨z8, z9, z10, z11, z12, e2⟩ := k06_loop ok x0 x1 x3 x4 x5 x13 x14 x15 xs _ (if bright (withTime p x) then ts ++ [x] else ts) (some (.int x)) y9 y10 y11 y12 ho2 (fun y hy => hx y (List.mem_cons_of_mem _ hy)) (by
      split
      · rw [List.length_append, List.length_singleton]
        omega
      · omega)
    refine ⟨z8, z9, z10, z11, z12, ?_⟩
    rw [List.map_cons, sForL_nx (r1 := _) rfl e, e2]
    cases hb : bright (withTime p x) with
    | true => simp [hb, cheapL]
    | false => simp [hb, cheapL]
/-- trips within a shorter round -/
def cutTr (L : Int) (t : Tr) : Tr := ⟨t.start % L, t.source, t.target, t.pace, t.habit⟩
def cutPt (p : Pt) (L : Int) : Pt := ⟨p.top, L, p.time, p.trips.map (cutTr L)⟩
theorem cutPt_ok (ok : p.Ok) {L : Int} (h0 : 1 ≤ L) (h1 : L ≤ 48) : (cutPt p L).Ok := ⟨ok.t0, ok.t1, h0, h1, ok.m0, ok.m1, by simp [cutPt, ok.n], fun t ht => by
  obtain ⟨u, hu, rfl⟩ := List.mem_map.mp ht
  have ou := ok.ok u hu
  exact ⟨Int.emod_nonneg _ (show L ≠ 0 by omega), Int.emod_lt_of_pos _ (by show 0 < L; omega), ou.a0, ou.a1, ou.b0, ou.b1, ou.ne, ou.p0, ou.p1, ou.hb⟩⟩
theorem opAdd_tup {xs ys : List W} (h : xs.length + ys.length ≤ 16000000) : opAdd (.tup xs) (.tup ys) S = .ok (.tup (xs ++ ys)) S := if_pos h
theorem opCut_tup {xs : List W} {lo hi : Option Int} : opCut lo hi (.tup xs) S = .ok (.tup (cutX xs lo hi)) S := rfl
theorem cut_wTt {t : Tr} : opCut (some 1) none (wTt t) S = .ok (.tup [.int t.source, .int t.target, .int t.pace, .str t.habit]) S := rfl
@[simp] theorem ix_wTt0 {t : Tr} : opIx (wTt t) (.int 0) S = .ok (.int t.start) S := by simp [wTt]
theorem itR2_61 : itR2 [.int 1, .int 61] S = .ok (times.map W.int) S := itR2_times
theorem sm_wO (k : Nat) (S : Sto) (o : Option Int) : sm (k + 1) S (wO o) (wO o) := by
  cases o <;> rfl
theorem sm_wBest (k : Nat) (S : Sto) (o : Best) : sm (k + 2) S (wBest o) (wBest o) := by
  cases o with
  | none => rfl
  | some q =>
    obtain ⟨a, b, y⟩ := q
    refine ⟨_, rfl, rfl, by simp, fun i x y hx hy => ?_⟩
    match i, hx, hy with
    | 0, hx, hy => cases hx; cases hy; rfl
    | 1, hx, hy => cases hx; cases hy; rfl
    | 2, hx, hy => cases hx; cases hy; rfl
theorem frR_wO {o : Option Int} : frR S (.ok (wO o) S) = .ok (wO o) S := frR_nols (by cases o <;> rfl)
theorem frR_wBest {o : Best} : frR S (.ok (wBest o) S) = .ok (wBest o) S := frR_nols (by
  cases o with
  | none => rfl
  | some q => rfl)
end
end SL

set_option Elab.async false
set_option linter.all false
set_option maxRecDepth 100000
set_option maxHeartbeats 2000000
namespace SL
open PySem PySem.Spec PyProof.Rows L2
theorem cut_to {α : Type} (xs : List α) {k : Int} (h0 : 0 ≤ k) : cutX xs none (some k) = xs.take k.toNat := by
  unfold cutX
  have e1 : HT.sIx xs.length 0 none = 0 := rfl
  have e2 : HT.sIx xs.length xs.length (some k) = min k.toNat xs.length := by
    show (if k < 0 then (k + (xs.length : Int)).toNat else min k.toNat xs.length) = _
    rw [if_neg (by omega)]
  rw [e1, e2, List.drop_zero, Nat.sub_zero]
  rcases Nat.le_total k.toNat xs.length with h | h
  · rw [Nat.min_eq_left h]
  · rw [Nat.min_eq_right h, List.take_length, List.take_of_length_le h]
theorem cut_init {α : Type} (xs : List α) (x : α) : cutX (xs ++ [x]) none (some (-1)) = xs := by
  unfold cutX
  have e1 : HT.sIx (xs ++ [x]).length 0 none = 0 := rfl
  have e2 : HT.sIx (xs ++ [x]).length (xs ++ [x]).length (some (-1)) = xs.length := by
    show (if (-1 : Int) < 0 then ((-1 : Int) + ((xs ++ [x]).length : Int)).toNat else min (-1 : Int).toNat (xs ++ [x]).length) = _
    rw [if_pos (by decide), List.length_append, List.length_singleton]
    omega
  rw [e1, e2]
  simp
def wCy (p : Pt) : W := .tup [.lst (wFs 0 (story p).1), .int (story p).2]
section
variable {p q : Pt} {S : Sto}
theorem cyc_wCy (ok : p.Ok) : frR S (m_l_cycle [wP p] S) = .ok (wCy p) S := run_l_cycle ok
@[simp] theorem ix_wCy0 : opIx (wCy p) (.int 0) S = .ok (.lst (wFs 0 (story p).1)) S := rfl
@[simp] theorem ix_wCy1 : opIx (wCy p) (.int 1) S = .ok (.int (story p).2) S := rfl
theorem ix_wFs (ok : p.Ok) {tick : Int} (ht : 0 ≤ tick) : opIx (.lst (wFs 0 (story p).1)) (.int (plc (story p).1.length (story p).2 tick)) S = .ok (wTk (plc (story p).1.length (story p).2 tick) (scn p tick)) S := by
  have hs := story_start ok
  have hp := plc_range hs.1 hs.2 ht
  have ha := plc_at ok ht
  have hw := wFs_at _ 0 _ _ ha
  have ep : plc (story p).1.length (story p).2 tick = (((plc (story p).1.length (story p).2 tick).toNat : Nat) : Int) := by omega
  rw [Nat.zero_add, ← ep] at hw
  rw [opIx_lst]
  conv => lhs; rw [ep]
  rw [atI_nat, hw]
  rfl
theorem at_wFs (ok : p.Ok) {tick : Int} (ht : 0 ≤ tick) : atI (wFs 0 (story p).1) (plc (story p).1.length (story p).2 tick) = some (wTk (plc (story p).1.length (story p).2 tick) (scn p tick)) := by
  have hs := story_start ok
  have hp := plc_range hs.1 hs.2 ht
  have ha := plc_at ok ht
  have hw := wFs_at _ 0 _ _ ha
  have ep : plc (story p).1.length (story p).2 tick = (((plc (story p).1.length (story p).2 tick).toNat : Nat) : Int) := by omega
  rw [Nat.zero_add, ← ep] at hw
  conv => lhs; rw [ep]
  rw [atI_nat, hw]
theorem run_l_place (ok : p.Ok) {tick : Int} (ht : 0 ≤ tick) : frR S (m_l_place [wCy p, .int tick] S) = .ok (.int (plc (story p).1.length (story p).2 tick)) S := by
  have hs := story_start ok
  have wl : (wFs 0 (story p).1).length = (story p).1.length := wFs_len _ _
  have h0 : decide (0 < ((story p).1.length : Int) - (story p).2) = true := decide_eq_true (by omega)
  have key : m_l_place [wCy p, .int tick] S = .ok (.int (plc (story p).1.length (story p).2 tick)) S := by
    refine (fnM_ev rfl).trans ?_
    unfold plc
    by_cases h : tick < (story p).1.length
    · rw [if_pos h]
      simp -implicitDefEqProofs [b_l_place, wl, h]
    · rw [if_neg h]
      simp -implicitDefEqProofs [b_l_place, wl, h, hs.2]
  rw [key, frR_int]
@[simp] theorem ix_wTk0 {tick : Int} {s : Sc} : opIx (wTk tick s) (.int 0) S = .ok (.int s.light) S := rfl
@[simp] theorem ix_wTk1 {tick : Int} {s : Sc} : opIx (wTk tick s) (.int 1) S = .ok (.lst (s.presses.map (wPr3 tick))) S := rfl
@[simp] theorem ix_wTk2 {tick : Int} {s : Sc} : opIx (wTk tick s) (.int 2) S = .ok (.lst (s.dark.map W.int)) S := rfl
theorem law_burn (ok : p.Ok) {tick : Int} (ht : 0 ≤ tick) {mc mt : M W} {r : Rho} {U : Sto} (hc : mc r U = .ok (wCy p) U) (hm : mt r U = .ok (.int tick) U) :
    mOp opGt (mIx (mIx (mIx mc (mC (.int 0))) (mFr (mCall m_l_place (mCons mc (mCons mt mNil))))) (mC (.int 0))) (mC (.int 0)) r U = .ok (.bl (burn p tick)) U := by
  have e1 : frR U (m_l_place [wCy p, .int tick] U) = .ok (.int (plc (story p).1.length (story p).2 tick)) U := run_l_place ok ht
  have e2 : opIx (.lst (wFs 0 (story p).1)) (.int (plc (story p).1.length (story p).2 tick)) U = .ok (wTk (plc (story p).1.length (story p).2 tick) (scn p tick)) U := ix_wFs ok ht
  have b1 : decide (0 < (scn p tick).light) = burn p tick := rfl
  simp -implicitDefEqProofs [hc, hm, e1, e2, b1, -opIx_lst]
/-! ### logs -/
theorem run_l_checks {D : List Int} (g : Dr D) (ok : p.Ok) : ∃ D', Dr D' ∧ ∀ D0 T, frR (dst D0 T) (m_l_checks [.loc 0, wS p, wCy p] (dst D T)) = .ok (.bl true) (dst D' T) := by
  obtain ⟨v1, D1, g1, a1, b1, e1⟩ := draw g (lim := 90) (by omega) (by omega)
  obtain ⟨v2, D2, g2, a2, b2, e2⟩ := draw g1 (lim := v1 + 1) (by omega) (by omega)
  obtain ⟨v3, D3, g3, a3, b3, e3⟩ := draw g2 (lim := 6) (by omega) (by omega)
  obtain ⟨v4, D4, g4, a4, b4, e4⟩ := draw g3 (lim := 5) (by omega) (by omega)
  refine ⟨D4, g4, fun D0 T => ?_⟩
  have hL : mLc [9] (.n 9) (iR1 (mCons (mFr (mCall m_l_below (mCons (mVar 0) (mCons (mC (.int 90)) mNil)))) mNil)) mYes e_l_checks_1 [some (.loc 0), some (wS p), some (wCy p), none, none, none, none, none, none, none] (dst D T) =
      .ok (.lst ((List.range v1.toNat).map fun (t : Nat) => W.bl (burn p t))) (dst D1 T) := by
    refine mLc_map (fun (t : Nat) => W.int (t : Int)) (fun (t : Nat) => W.bl (burn p t)) (List.range v1.toNat) ?_ (by decide) (fun t _ => ⟨_, rfl, fun U => ?_⟩) (fun _ _ => rfl) (by simp; omega)
    · have : itR1 [.int v1] (dst D1 T) = .ok (rngW 0 1 v1.toNat) (dst D1 T) := if_pos (by omega)
      simp -implicitDefEqProofs [e1, this, rng_eq]
    · exact law_burn ok (by omega) (by simp [wipeR]) (by simp [wipeR])
  have hlen : ((List.range v1.toNat).map fun (t : Nat) => W.bl (burn p t)).length = v1.toNat := by simp
  have hv1 : ((v1.toNat : Nat) : Int) = v1 := by omega
  have hpl : ∀ U, frR U (m_l_place [wCy p, .int v2] U) = .ok (.int (plc (story p).1.length (story p).2 v2)) U := fun U => run_l_place ok a2
  have hat := at_wFs ok a2
  have b1 : decide (0 < (scn p v2).light) = burn p v2 := rfl
  have hbad : ∃ bad : W, plainE bad ∧ isBl bad ≠ some (burn p v2) ∧ atI [W.bl (!burn p v2), .int (if burn p v2 = true then 1 else 0), .non, .str "True", .lst [.bl (burn p v2)], .tup [.bl (burn p v2)]] v3 = some bad := by
    rcases (show v3 = 0 ∨ v3 = 1 ∨ v3 = 2 ∨ v3 = 3 ∨ v3 = 4 ∨ v3 = 5 by omega) with rfl | rfl | rfl | rfl | rfl | rfl
    · exact ⟨_, .inl ⟨_, rfl⟩, fun z => by simp [isBl] at z, rfl⟩
    · exact ⟨_, .inr ⟨fun U => isi_int_bool, rfl⟩, fun z => by simp [isBl] at z, rfl⟩
    · exact ⟨_, .inr ⟨fun U => isi_non_bool, rfl⟩, fun z => by simp [isBl] at z, rfl⟩
    · exact ⟨_, .inr ⟨fun U => isi_str_bool, rfl⟩, fun z => by simp [isBl] at z, rfl⟩
    · exact ⟨_, .inr ⟨fun U => isi_lst_bool, rfl⟩, fun z => by simp [isBl] at z, rfl⟩
    · exact ⟨_, .inr ⟨fun U => isi_tup_bool, rfl⟩, fun z => by simp [isBl] at z, rfl⟩
  obtain ⟨bad, hb1, hb2, hb3⟩ := hbad
  have hno : ∃ no : W, (∀ U, bIsi [no, .ty "list"] U = .ok (.bl false) U) ∧ atI [W.non, .tup [], .int 5, .bl true, .str "log"] v4 = some no := by
    rcases (show v4 = 0 ∨ v4 = 1 ∨ v4 = 2 ∨ v4 = 3 ∨ v4 = 4 by omega) with rfl | rfl | rfl | rfl | rfl
    · exact ⟨_, fun U => isi_non_list, rfl⟩
    · exact ⟨_, fun U => isi_tup_list, rfl⟩
    · exact ⟨_, fun U => isi_int_list, rfl⟩
    · exact ⟨_, fun U => isi_bl_list, rfl⟩
    · exact ⟨_, fun U => isi_str_list, rfl⟩
  obtain ⟨no, hn1, hn2⟩ := hno
  have hpb : ∀ n, ∀ e ∈ (List.range n).map (fun (t : Nat) => W.bl (burn p t)), plainE e := fun n e he => by
    obtain ⟨t, _, rfl⟩ := List.mem_map.mp he
    exact .inl ⟨_, rfl⟩
  have hpd : ∀ n m, ∀ e ∈ ((List.range n).map (fun (t : Nat) => W.bl (burn p t))).drop m, plainE e := fun n m e he => hpb n e (List.mem_of_mem_drop he)
  have f1 : ∀ U, frR U (m_first_error [wS p, .lst ((List.range v1.toNat).map fun (t : Nat) => W.bl (burn p t))] U) = .ok .non U := fun U => by
    rw [run_first_error ok (hpb _), List.range_eq_range', feN_right]
    rfl
  have hcut1 : ∀ U, opCut none (some v2) (.lst ((List.range v1.toNat).map fun (t : Nat) => W.bl (burn p t))) U = .ok (.lst ((List.range v2.toNat).map fun (t : Nat) => W.bl (burn p t))) U := fun U => by
    rw [opCut_lst, cut_to _ a2, ← List.map_take, List.take_range, Nat.min_eq_left (by omega)]
  have hcut2 : ∀ U, opCut (some v2) none (.lst ((List.range v1.toNat).map fun (t : Nat) => W.bl (burn p t))) U = .ok (.lst (((List.range v1.toNat).map fun (t : Nat) => W.bl (burn p t)).drop v2.toNat)) U := fun U => by
    rw [opCut_lst, cut_from _ a2 (by rw [hlen]; omega)]
  generalize hR : ((List.range v1.toNat).map fun (t : Nat) => W.bl (burn p t)).drop v2.toNat = R at *
  have hRp : ∀ e ∈ R, plainE e := by rw [← hR]; exact hpd _ _
  have hRl : R.length ≤ 90 := by rw [← hR, List.length_drop, hlen]; omega
  generalize hA : (List.range v2.toNat).map (fun (t : Nat) => W.bl (burn p t)) = A at *
  have hAl : A.length ≤ 90 := by rw [← hA]; simp; omega
  have ha1 : ∀ U, opAdd (.lst A) (.lst [bad, .non]) U = .ok (.lst (A ++ [bad, .non])) U := fun U => opAdd_lst (by simp; omega)
  have ha2 : ∀ U, opAdd (.lst (A ++ [bad, .non])) (.lst R) U = .ok (.lst (A ++ bad :: .non :: R)) U := fun U => by
    rw [opAdd_lst (by simp; omega), List.append_assoc]
    rfl
  have f2 : ∀ U, frR U (m_first_error [wS p, .lst (A ++ bad :: .non :: R)] U) = .ok (.int v2) U := fun U => by
    rw [run_first_error ok (fun e he => ?_)]
    · rw [← hA, List.range_eq_range', feN_wrong p bad (.non :: R) v2.toNat 0 (by rw [Nat.zero_add, show ((v2.toNat : Nat) : Int) = v2 by omega]; exact hb2)]
      show Res.ok (W.int ((0 + v2.toNat : Nat) : Int)) U = _
      rw [Nat.zero_add, show ((v2.toNat : Nat) : Int) = v2 by omega]
    · rcases List.mem_append.mp he with he | he
      · rw [← hA] at he
        exact hpb _ _ he
      · rcases List.mem_cons.mp he with rfl | he
        · exact hb1
        · rcases List.mem_cons.mp he with rfl | he
          · exact .inr ⟨fun U => isi_non_bool, rfl⟩
          · exact hRp _ he
  have f3 : ∀ U, frR U (m_first_error [wS p, no] U) = .ok (.int 0) U := fun U => run_first_error0 hn1
  have heq : ∀ U, frR U (m_l_equal 8 [.lst [.non, .int v2, .int 0], .lst [.non, .int v2, .int 0]] U) = .ok (.bl true) U := fun U => by
    rw [equal_ok 8 U _ _ ?_, frR_bl]
    refine ⟨_, .inl rfl, rfl, by simp, fun i x y hx hy => ?_⟩
    match i, hx, hy with
    | 0, hx, hy => cases hx; cases hy; rfl
    | 1, hx, hy => cases hx; cases hy; rfl
    | 2, hx, hy => cases hx; cases hy; rfl
  have hint : ∀ U, bInt [.bl (burn p v2)] U = .ok (.int (if burn p v2 = true then 1 else 0)) U := fun U => rfl
  have had : ∀ U, opAdd (.lst [.non, .int v2]) (.lst [.int 0]) U = .ok (.lst [.non, .int v2, .int 0]) U := fun U => opAdd_lst (by simp)
  have key : m_l_checks [.loc 0, wS p, wCy p] (dst D T) = .ok (.bl true) (dst D4 T) := by
    refine (fnM_ev rfl).trans ?_
    rw [show [W.loc 0, wS p, wCy p].map some ++ List.replicate (10 - [W.loc 0, wS p, wCy p].length) none = [some (.loc 0), some (wS p), some (wCy p), none, none, none, none, none, none, none] from rfl]
    simp -implicitDefEqProofs [b_l_checks, hL, hlen, hv1, e2, hpl, hat, b1, hint, e3, hb3, f1, hcut1, hcut2, ha1, ha2, f2, e4, hn2, f3, had, heq]
  rw [key]
  exact fr_dst rfl
end
end SL

set_option Elab.async false
set_option linter.all false
set_option maxRecDepth 100000
set_option maxHeartbeats 2000000
namespace SL
open PySem PySem.Spec PyProof.Rows L2
section
variable {p q : Pt} {S : Sto}
theorem sm_fdW (k : Nat) (S : Sto) (o : Option (Nat × Bool)) : sm (k + 2) S (fdW o) (fdW o) := by
  cases o with
  | none => rfl
  | some r =>
    obtain ⟨t, b⟩ := r
    refine ⟨_, rfl, rfl, by simp, fun i x y hx hy => ?_⟩
    match i, hx, hy with
    | 0, hx, hy => cases hx; cases hy; rfl
    | 1, hx, hy => cases hx; cases hy; rfl
def fdO (p q : Pt) : Option (Nat × Bool) → List Nat → Option (Nat × Bool)
  | some r, _ => some r
  | none, ts => fdN p q ts
theorem k11_diff (okp : p.Ok) (okq : q.Ok) (x0 x1 x2 x3 x4 x5 x6 x7 x8 x10 x11 x15 x16 : Option W) : ∀ (ts : List Nat) (o : Option (Nat × Bool)) (x13 x14 : Option W), ∃ y13 y14,
    sForL (.n 13) f_k11_law_3 (ts.map fun (t : Nat) => W.int (t : Int)) [x0, x1, x2, x3, x4, x5, x6, x7, x8, some (.lst [wCy p, wCy q]), x10, x11, some (fdW o), x13, x14, x15, x16] S =
      .ok (.nx [x0, x1, x2, x3, x4, x5, x6, x7, x8, some (.lst [wCy p, wCy q]), x10, x11, some (fdW (fdO p q o ts)), y13, y14, x15, x16]) S
  | [], o, x13, x14 => ⟨x13, x14, by cases o <;> rfl⟩
  | t :: ts, o, x13, x14 => by
    have hl : ∀ x12 : Option W, mLc [16] (.n 16) (iL (mVar 9)) mYes e_k11_law_2 [x0, x1, x2, x3, x4, x5, x6, x7, x8, some (.lst [wCy p, wCy q]), x10, x11, x12, some (.int (t : Int)), x14, x15, x16] S = .ok (.lst [.bl (burn p t), .bl (burn q t)]) S := fun x12 => by
      have := mLc_map (S := S) (S1 := S) (vs := [16]) (T := .n 16) (mi := iL (mVar 9)) (te := e_k11_law_2) (r := [x0, x1, x2, x3, x4, x5, x6, x7, x8, some (.lst [wCy p, wCy q]), x10, x11, x12, some (.int (t : Int)), x14, x15, x16])
        (fun z : Bool => if z then wCy p else wCy q) (fun z : Bool => W.bl (if z then burn p t else burn q t)) [true, false] (by simp) (by decide) (fun z _ => ⟨_, rfl, fun U => ?_⟩) (fun _ _ => rfl) (by simp)
      · exact this
      · cases z with
        | true => exact law_burn okp (by omega) (by simp [wipeR]) (by simp [wipeR])
        | false => exact law_burn okq (by omega) (by simp [wipeR]) (by simp [wipeR])
    have hb : f_k11_law_3 [x0, x1, x2, x3, x4, x5, x6, x7, x8, some (.lst [wCy p, wCy q]), x10, x11, some (fdW o), some (.int (t : Int)), x14, x15, x16] S =
        .ok (.nx [x0, x1, x2, x3, x4, x5, x6, x7, x8, some (.lst [wCy p, wCy q]), x10, x11, some (fdW (fdO p q o [t])), some (.int (t : Int)), some (.lst [.bl (burn p t), .bl (burn q t)]), x15, x16]) S := by
      cases o with
      | some r =>
        obtain ⟨a, b⟩ := r
        cases hb : (burn p t == burn q t) with
        | true => simp -implicitDefEqProofs [f_k11_law_3, hl, hb, fdO, fdW]
        | false => simp -implicitDefEqProofs [f_k11_law_3, hl, hb, fdO, fdW]
      | none =>
        cases hb : (burn p t == burn q t) with
        | true =>
          have hb' : (burn p t != burn q t) = false := by simp [bne, hb]
          simp -implicitDefEqProofs [f_k11_law_3, hl, hb, hb', fdO, fdW, fdN]
        | false =>
          have hb' : (burn p t != burn q t) = true := by simp [bne, hb]
          simp -implicitDefEqProofs [f_k11_law_3, hl, hb, hb', fdO, fdW, fdN]
    obtain ⟨y13, y14, e⟩ := k11_diff okp okq x0 x1 x2 x3 x4 x5 x6 x7 x8 x10 x11 x15 x16 ts (fdO p q o [t]) (some (.int (t : Int))) (some (.lst [.bl (burn p t), .bl (burn q t)]))
    refine ⟨y13, y14, ?_⟩
    rw [List.map_cons, sForL_nx (r1 := _) rfl hb, e]
    congr 1
    cases o with
    | some r => rfl
    | none =>
      show Fw.nx [x0, x1, x2, x3, x4, x5, x6, x7, x8, some (.lst [wCy p, wCy q]), x10, x11, some (fdW (fdO p q (fdN p q [t]) ts)), y13, y14, x15, x16] = Fw.nx [x0, x1, x2, x3, x4, x5, x6, x7, x8, some (.lst [wCy p, wCy q]), x10, x11, some (fdW (fdN p q (t :: ts))), y13, y14, x15, x16]
      have : fdO p q (fdN p q [t]) ts = fdN p q (t :: ts) := by
        unfold fdN
        split <;> rfl
      rw [this]
theorem k11_while (a b : Int) (hb : 0 < b) (x0 x1 x2 x3 x4 x5 x6 x7 x8 x9 x12 x13 x14 x15 x16 : Option W) : ∀ (n : Nat) (m r : Int), mulF n a b m = some r →
    sWhileN t_k11_law_1 f_k11_law_2 n [x0, x1, x2, x3, x4, x5, x6, x7, x8, x9, some (.lst [.int a, .int b]), some (.int m), x12, x13, x14, x15, x16] S = .ok (.nx [x0, x1, x2, x3, x4, x5, x6, x7, x8, x9, some (.lst [.int a, .int b]), some (.int r), x12, x13, x14, x15, x16]) S
  | 0, _, _, h => by cases h
  | n + 1, m, r, h => by
    have hm0 := Int.emod_nonneg m (b := b) (by omega)
    have ht : t_k11_law_1 [x0, x1, x2, x3, x4, x5, x6, x7, x8, x9, some (.lst [.int a, .int b]), some (.int m), x12, x13, x14, x15, x16] S = .ok (decide (m % b > 0)) S := by
      simp -implicitDefEqProofs [t_k11_law_1, hb]
    unfold mulF at h
    unfold sWhileN
    rw [ht]
    by_cases hm : m % b = 0
    · rw [if_pos hm] at h
      cases h
      rw [decide_eq_false (by omega)]
    · rw [if_neg hm] at h
      rw [decide_eq_true (by omega)]
      have hb2 : f_k11_law_2 [x0, x1, x2, x3, x4, x5, x6, x7, x8, x9, some (.lst [.int a, .int b]), some (.int m), x12, x13, x14, x15, x16] S = .ok (.nx [x0, x1, x2, x3, x4, x5, x6, x7, x8, x9, some (.lst [.int a, .int b]), some (.int (m + a)), x12, x13, x14, x15, x16]) S := by
        simp -implicitDefEqProofs [f_k11_law_2]
      dsimp only
      rw [hb2]
      exact k11_while a b hb x0 x1 x2 x3 x4 x5 x6 x7 x8 x9 x12 x13 x14 x15 x16 n (m + a) r h
theorem k11_tail {D : List Int} (g : Dr D) (okp : p.Ok) (okq : q.Ok) (T : Sto) (x0 x2 x5 x6 x7 x8 x9 x10 x11 x12 x13 x14 x15 x16 : Option W) : ∃ D' y8 y9 y10 y11 y12 y13 y14, Dr D' ∧
    c_k11_law_4 [x0, some (.loc 0), x2, some (wP p), some (wP q), x5, x6, x7, x8, x9, x10, x11, x12, x13, x14, x15, x16] (dst D T) = .ok (.nx [x0, some (.loc 0), x2, some (wP p), some (wP q), x5, x6, x7, y8, y9, y10, y11, y12, y13, y14, x15, x16]) (dst D' T) := by
  obtain ⟨D', g', hch⟩ := run_l_checks g okp
  have p1 := late_pos okp
  have p2 := late_pos okq
  have k1 := late_len okp
  have k2 := late_len okq
  have w1 : (wFs 0 (story p).1).length = (story p).1.length := wFs_len _ _
  have w2 : (wFs 0 (story q).1).length = (story q).1.length := wFs_len _ _
  have m1 : ∀ U, frR U (m_l_made [wP p] U) = .ok (wS p) U := fun U => run_l_made okp
  have m2 : ∀ U, frR U (m_l_made [wP q] U) = .ok (wS q) U := fun U => run_l_made okq
  have c1 : ∀ U, frR U (m_l_cycle [wP p] U) = .ok (wCy p) U := fun U => cyc_wCy okp
  have c2 : ∀ U, frR U (m_l_cycle [wP q] U) = .ok (wCy q) U := fun U => cyc_wCy okq
  have hz : mLc [16] (.n 16) (iL (mVar 9)) mYes e_k11_law_1 [x0, some (.loc 0), x2, some (wP p), some (wP q), x5, x6, x7, some (.lst [wS p, wS q]), some (.lst [wCy p, wCy q]), x10, x11, x12, x13, x14, x15, x16] (dst D T) = .ok (.lst [.int (late p).length, .int (late q).length]) (dst D T) := by
    have := mLc_map (S := dst D T) (S1 := dst D T) (vs := [16]) (T := .n 16) (mi := iL (mVar 9)) (te := e_k11_law_1) (r := [x0, some (.loc 0), x2, some (wP p), some (wP q), x5, x6, x7, some (.lst [wS p, wS q]), some (.lst [wCy p, wCy q]), x10, x11, x12, x13, x14, x15, x16])
        (fun z : Bool => if z then wCy p else wCy q) (fun z : Bool => W.int (if z then ((late p).length : Int) else ((late q).length : Int))) [true, false] (by simp) (by decide) (fun z _ => ⟨_, rfl, fun U => ?_⟩) (fun _ _ => rfl) (by simp)
    · exact this
    · cases z with
      | true => simp -implicitDefEqProofs [e_k11_law_1, wipeR, w1, k1]
      | false => simp -implicitDefEqProofs [e_k11_law_1, wipeR, w2, k2]
  have hw := sWhile_is (k11_while (S := dst D T) (late p).length (late q).length (by omega) x0 (some (.loc 0)) x2 (some (wP p)) (some (wP q)) x5 x6 x7 (some (.lst [wS p, wS q])) (some (.lst [wCy p, wCy q])) (some .non) x13 x14 x15 x16 _ _ _ (lcmF_is (a := (late p).length) (b := (late q).length) (by omega) (by omega)).1) (by simp)
  have sr := span_range okp okq
  have hsp : (if (story q).2 > (story p).2 then (story q).2 else (story p).2) + lcmF (late p).length (late q).length = span p q := rfl
  have r1 : ∀ U, itR1 [.int (span p q)] U = .ok ((List.range (span p q).toNat).map fun (t : Nat) => W.int (t : Int)) U := fun U => by
    have : itR1 [.int (span p q)] U = .ok (rngW 0 1 (span p q).toNat) U := if_pos (by omega)
    rw [this, rng_eq]
  obtain ⟨y13, y14, hd⟩ := k11_diff (S := dst D T) okp okq x0 (some (.loc 0)) x2 (some (wP p)) (some (wP q)) x5 x6 x7 (some (.lst [wS p, wS q])) (some (.lst [.int (late p).length, .int (late q).length])) (some (.int (lcmF (late p).length (late q).length))) x15 x16 (List.range (span p q).toNat) none x13 x14
  have hd' : sForL (.n 13) f_k11_law_3 ((List.range (span p q).toNat).map fun (t : Nat) => W.int (t : Int)) [x0, some (.loc 0), x2, some (wP p), some (wP q), x5, x6, x7, some (.lst [wS p, wS q]), some (.lst [wCy p, wCy q]), some (.lst [.int (late p).length, .int (late q).length]), some (.int (lcmF (late p).length (late q).length)), some .non, x13, x14, x15, x16] (dst D T) =
      .ok (.nx [x0, some (.loc 0), x2, some (wP p), some (wP q), x5, x6, x7, some (.lst [wS p, wS q]), some (.lst [wCy p, wCy q]), some (.lst [.int (late p).length, .int (late q).length]), some (.int (lcmF (late p).length (late q).length)), some (fdW (firstDiff p q)), y13, y14, x15, x16]) (dst D T) := hd
  have f1 : ∀ U, frR U (m_first_difference [wS p, wS q] U) = .ok (fdW (firstDiff p q)) U := fun U => run_first_difference okp okq
  have q1 : ∀ U, frR U (m_l_equal 8 [fdW (firstDiff p q), fdW (firstDiff p q)] U) = .ok (.bl true) U := fun U => by
    rw [equal_ok 8 U _ _ (sm_fdW _ _ _), frR_bl]
  refine ⟨D', some (.lst [wS p, wS q]), some (.lst [wCy p, wCy q]), some (.lst [.int (late p).length, .int (late q).length]), some (.int (lcmF (late p).length (late q).length)), some (fdW (firstDiff p q)), y13, y14, g', ?_⟩
  simp -implicitDefEqProofs [c_k11_law_4, m1, m2, c1, c2, hz, hw, c_k11_law_3, hsp, r1, hd', c_k11_law_2, f1, q1, hch]
end
/-! ### the two staircases -/
def shiftTr (L : Int) (t : Tr) : Tr := ⟨t.start + L, t.source, t.target, t.pace, t.habit⟩
def dblTr (L : Int) (ts : List Tr) : List Tr := ts.flatMap fun t => [t, shiftTr L t]
def dblPt (p : Pt) : Pt := ⟨p.top, 2 * p.length, p.time, dblTr p.length p.trips⟩
theorem dbl_len (L : Int) : ∀ ts : List Tr, (dblTr L ts).length = 2 * ts.length
  | [] => rfl
  | t :: ts => by
    have := dbl_len L ts
    unfold dblTr at this ⊢
    rw [List.flatMap_cons, List.length_append, this, List.length_cons]
    simp
    omega
theorem dblPt_ok {p : Pt} (ok : p.Ok) (hl : p.length ≤ 24) (hn : p.trips.length ≤ 4) : (dblPt p).Ok := by
  have l0 := ok.l0
  refine ⟨ok.t0, ok.t1, ?_, ?_, ok.m0, ok.m1, ?_, fun t ht => ?_⟩
  · show 1 ≤ 2 * p.length
    omega
  · show 2 * p.length ≤ 48
    omega
  · show (dblTr p.length p.trips).length ≤ 8
    rw [dbl_len]
    omega
  · obtain ⟨u, hu, ht2⟩ := List.mem_flatMap.mp (show t ∈ p.trips.flatMap fun t => [t, shiftTr p.length t] from ht)
    have ou := ok.ok u hu
    have h1 := ou.s1
    have h0 := ou.s0
    simp only [List.mem_cons, List.not_mem_nil, or_false] at ht2
    rcases ht2 with rfl | rfl
    · exact ⟨ou.s0, by show t.start < 2 * p.length; omega, ou.a0, ou.a1, ou.b0, ou.b1, ou.ne, ou.p0, ou.p1, ou.hb⟩
    · exact ⟨by show 0 ≤ u.start + p.length; omega, by show u.start + p.length < 2 * p.length; omega, ou.a0, ou.a1, ou.b0, ou.b1, ou.ne, ou.p0, ou.p1, ou.hb⟩
def alwTr (t : Tr) : Tr := ⟨t.start, t.source, t.target, t.pace, "always"⟩
def setTrips (p : Pt) (ts : List Tr) : Pt := ⟨p.top, p.length, p.time, ts⟩
theorem alwTr_ok {top length : Int} {t : Tr} (o : t.Ok top length) : (alwTr t).Ok top length := ⟨o.s0, o.s1, o.a0, o.a1, o.b0, o.b1, o.ne, o.p0, o.p1, .inr (.inl rfl)⟩
section
variable {p q : Pt} {S : Sto}
theorem k11_double (x0 x1 x2 x4 x5 x8 x9 x10 x11 x12 x13 x14 x15 x16 : Option W) : ∀ (ts acc : List Tr) (x7 : Option W), acc.length + 2 * ts.length < 1000 → ∃ y7,
    sForL (.n 7) f_k11_law_1 (ts.map wTt) [x0, x1, x2, some (wP p), x4, x5, some (.lst (acc.map wTt)), x7, x8, x9, x10, x11, x12, x13, x14, x15, x16] S =
      .ok (.nx [x0, x1, x2, some (wP p), x4, x5, some (.lst ((acc ++ dblTr p.length ts).map wTt)), y7, x8, x9, x10, x11, x12, x13, x14, x15, x16]) S
  | [], acc, x7, _ => ⟨x7, by simp [dblTr]⟩
  | t :: ts, acc, x7, h => by
    simp only [List.length_cons] at h
    have e1 : ∀ U, opAdd (.lst (acc.map wTt)) (.lst [wTt t, wTt (shiftTr p.length t)]) U = .ok (.lst ((acc ++ [t, shiftTr p.length t]).map wTt)) U := fun U => by
      rw [opAdd_lst (by simp; omega), List.map_append]
      rfl
    have e2 : ∀ U, opAdd (.tup [.int (t.start + p.length)]) (.tup [.int t.source, .int t.target, .int t.pace, .str t.habit]) U = .ok (wTt (shiftTr p.length t)) U := fun U => opAdd_tup (by simp)
    have hb : f_k11_law_1 [x0, x1, x2, some (wP p), x4, x5, some (.lst (acc.map wTt)), some (wTt t), x8, x9, x10, x11, x12, x13, x14, x15, x16] S =
        .ok (.nx [x0, x1, x2, some (wP p), x4, x5, some (.lst ((acc ++ [t, shiftTr p.length t]).map wTt)), some (wTt t), x8, x9, x10, x11, x12, x13, x14, x15, x16]) S := by
      simp -implicitDefEqProofs [f_k11_law_1, cut_wTt, e2]
      simp -implicitDefEqProofs [e1, List.map_append]
    obtain ⟨y7, e⟩ := k11_double x0 x1 x2 x4 x5 x8 x9 x10 x11 x12 x13 x14 x15 x16 ts (acc ++ [t, shiftTr p.length t]) (some (wTt t)) (by simp; omega)
    refine ⟨y7, ?_⟩
    rw [List.map_cons, sForL_nx (r1 := _) rfl hb, e]
    simp [dblTr]
end
end SL

set_option Elab.async false
set_option linter.all false
set_option maxRecDepth 100000
set_option maxHeartbeats 4000000
namespace SL
open PySem PySem.Spec PyProof.Rows L2
def dTt (t : Tr) : PyData := .tuple [.int t.start, .int t.source, .int t.target, .int t.pace, .str t.habit]
theorem dat_wTt (t : Tr) : dat (wTt t) = some (dTt t) := by simp [wTt, dTt, dat, dats]
theorem ok_dTt {t : Tr} (h : habitOk t.habit) : okD 1 (dTt t) := by
  refine okD_tup fun d hd => ?_
  simp only [List.mem_cons, List.not_mem_nil, or_false] at hd
  rcases hd with rfl | rfl | rfl | rfl | rfl
  · exact okD_int 0 _
  · exact okD_int 0 _
  · exact okD_int 0 _
  · exact okD_int 0 _
  · exact ⟨habit_lay h, Nat.zero_le _⟩
section
variable {p q : Pt} {S : Sto}
theorem opNe_trips (h : ∀ t ∈ p.trips, habitOk t.habit) : opNe (.tup (p.trips.map wTt)) (.tup []) S = .ok (.bl (!p.trips.isEmpty)) S := by
  have h1 := dats_map wTt dTt dat_wTt p.trips
  have h2 : dat (seeL S (.tup (p.trips.map wTt))) = some (.tuple (p.trips.map dTt)) := by simp [seeL, dat, h1]
  have h3 : dat (seeL S (.tup [])) = some (.tuple []) := by simp [seeL, dat, dats]
  rw [opNe_ok h2 h3 (okD_shaped (n := 2) (okD_tup fun d hd => by
    obtain ⟨t, ht, rfl⟩ := List.mem_map.mp hd
    exact ok_dTt (h t ht)) (by omega)) (by decide +kernel)]
  cases p.trips <;> rfl
theorem cut_wP2 : opCut none (some 2) (wP p) S = .ok (.tup [.int p.top, .int p.length]) S := rfl
theorem cut_wP3 : opCut none (some 3) (wP p) S = .ok (.tup [.int p.top, .int p.length, .int p.time]) S := rfl
theorem cut_wTt4 {t : Tr} : opCut none (some 4) (wTt t) S = .ok (.tup [.int t.start, .int t.source, .int t.target, .int t.pace]) S := rfl
theorem cut_trips4 (h : p.trips.length ≤ 4) : opCut none (some 4) (.tup (p.trips.map wTt)) S = .ok (.tup (p.trips.map wTt)) S := by
  rw [opCut_tup, cut_to _ (by omega), List.take_of_length_le (by simpa using h)]
theorem wP_mk {ts : List Tr} : W.tup [.int p.top, .int p.length, .int p.time, .tup (ts.map wTt)] = wP (setTrips p ts) := rfl
theorem setTrips_self : setTrips p p.trips = p := rfl
theorem k11_step {D : List Int} (g : Dr D) (T : Sto) (x0 x2 x3 x4 x5 x6 x7 x8 x9 x10 x11 x12 x13 x14 x15 x16 : Option W) : ∃ D' y3 y4 y5 y6 y7 y8 y9 y10 y11 y12 y13 y14, Dr D' ∧
    f_k11_law_4 [x0, some (.loc 0), x2, x3, x4, x5, x6, x7, x8, x9, x10, x11, x12, x13, x14, x15, x16] (dst D T) = .ok (.nx [x0, some (.loc 0), x2, y3, y4, y5, y6, y7, y8, y9, y10, y11, y12, y13, y14, x15, x16]) (dst D' T) := by
  obtain ⟨p, D1, g1, okp, hnp, e1⟩ := run_parts g (most := 4) (by omega) (by omega)
  obtain ⟨q, D2, g2, okq, hnq, e2⟩ := run_parts g1 (most := 4) (by omega) (by omega)
  obtain ⟨v, D3, g3, a3, b3, e3⟩ := draw g2 (lim := 4) (by omega) (by omega)
  have hn4 : p.trips.length ≤ 4 := by omega
  have hab : ∀ t ∈ p.trips, habitOk t.habit := fun t ht => (okp.ok t ht).hb
  have hne : ∀ U, opNe (.tup (p.trips.map wTt)) (.tup []) U = .ok (.bl (!p.trips.isEmpty)) U := fun U => opNe_trips hab
  have hl : ∀ x : Int, decide (p.length ≤ x) = decide (p.length ≤ x) := fun _ => rfl
  -- the tail for a pair
  have tail := fun {p' q' : Pt} {D : List Int} (g : Dr D) (a : p'.Ok) (b : q'.Ok) (x5 x6 x7 : Option W) => k11_tail (p := p') (q := q') g a b T x0 x2 x5 x6 x7 x8 x9 x10 x11 x12 x13 x14 x15 x16
  rcases (show v = 0 ∨ v = 1 ∨ v = 2 ∨ v = 3 by omega) with rfl | rfl | rfl | rfl
  · obtain ⟨w, D4, g4, a4, b4, e4⟩ := draw g3 (lim := 30) (by omega) (by omega)
    obtain ⟨D', y8, y9, y10, y11, y12, y13, y14, g', et⟩ := tail g4 okp (withTime_ok okp (x := 1 + w) (by omega) (by omega)) (some (.int 0)) x6 x7
    refine ⟨D', some (wP p), some (wP (withTime p (1 + w))), some (.int 0), x6, x7, y8, y9, y10, y11, y12, y13, y14, g', ?_⟩
    have had : ∀ U, opAdd (.tup [.int p.top, .int p.length]) (.tup [.int (1 + w), .tup (p.trips.map wTt)]) U = .ok (wP (withTime p (1 + w))) U := fun U => opAdd_tup (by simp)
    simp -implicitDefEqProofs [f_k11_law_4, e1, e2, e3, e4, cut_wP2, had, c_k11_law_6, c_k11_law_5, et]
  · by_cases hl : p.length ≤ 24
    · obtain ⟨D', y8, y9, y10, y11, y12, y13, y14, g', et⟩ := tail g3 okp (dblPt_ok okp hl hn4) (some (.int 1)) (some (.lst ((dblTr p.length p.trips).map wTt))) (k11_double (S := dst D3 T) (p := p) x0 (some (.loc 0)) x2 (some (wP q)) (some (.int 1)) x8 x9 x10 x11 x12 x13 x14 x15 x16 p.trips [] x7 (by simp; omega)).choose
      have hd := (k11_double (S := dst D3 T) (p := p) x0 (some (.loc 0)) x2 (some (wP q)) (some (.int 1)) x8 x9 x10 x11 x12 x13 x14 x15 x16 p.trips [] x7 (by simp; omega)).choose_spec
      generalize (k11_double (S := dst D3 T) (p := p) x0 (some (.loc 0)) x2 (some (wP q)) (some (.int 1)) x8 x9 x10 x11 x12 x13 x14 x15 x16 p.trips [] x7 (by simp; omega)).choose = y7 at et hd
      rw [List.map_nil, List.nil_append] at hd
      refine ⟨D', some (wP p), some (wP (dblPt p)), some (.int 1), some (.lst ((dblTr p.length p.trips).map wTt)), y7, y8, y9, y10, y11, y12, y13, y14, g', ?_⟩
      have had : ∀ U, opAdd (.tup [.int p.top, .int p.length, .int p.time]) (.tup [.tup (p.trips.map wTt)]) U = .ok (wP p) U := fun U => opAdd_tup (by simp)
      have hm : ∀ j : Int, mulOk 2 j = true := fun j => mulOk_l (by decide) (by decide)
      have hmk : W.tup [.int p.top, .int (2 * p.length), .int p.time, .tup ((dblTr p.length p.trips).map wTt)] = wP (dblPt p) := rfl
      simp -implicitDefEqProofs [f_k11_law_4, e1, e2, e3, c_k11_law_6, hl, cut_trips4 hn4, hd, c_k11_law_1, cut_wP3, had, hm, hmk, c_k11_law_5, et]
    · obtain ⟨D', y8, y9, y10, y11, y12, y13, y14, g', et⟩ := tail g3 okp okq (some (.int 1)) x6 x7
      refine ⟨D', some (wP p), some (wP q), some (.int 1), x6, x7, y8, y9, y10, y11, y12, y13, y14, g', ?_⟩
      simp -implicitDefEqProofs [f_k11_law_4, e1, e2, e3, c_k11_law_6, hl, c_k11_law_5, et]
  · rcases List.eq_nil_or_concat p.trips with hp | ⟨ts, t, hp⟩
    · obtain ⟨D', y8, y9, y10, y11, y12, y13, y14, g', et⟩ := tail g3 okp okq (some (.int 2)) x6 x7
      refine ⟨D', some (wP p), some (wP q), some (.int 2), x6, x7, y8, y9, y10, y11, y12, y13, y14, g', ?_⟩
      simp -implicitDefEqProofs [f_k11_law_4, e1, e2, e3, c_k11_law_6, c_k11_law_5, hne, show p.trips.isEmpty = true by rw [hp]; rfl, et]
    · rw [List.concat_eq_append] at hp
      have okz : (setTrips p (ts ++ [alwTr t])).Ok := ⟨okp.t0, okp.t1, okp.l0, okp.l1, okp.m0, okp.m1, by have := okp.n; rw [hp] at this; simpa [setTrips] using this, fun u hu => by
        have h : ∀ z ∈ ts ++ [t], z.Ok p.top p.length := fun z hz => okp.ok z (by rw [hp]; exact hz)
        rcases List.mem_append.mp (show u ∈ ts ++ [alwTr t] from hu) with hu | hu
        · exact h u (List.mem_append_left _ hu)
        · rw [List.mem_singleton.mp hu]
          exact alwTr_ok (h t (by simp))⟩
      obtain ⟨D', y8, y9, y10, y11, y12, y13, y14, g', et⟩ := tail g3 okp okz (some (.int 2)) x6 x7
      refine ⟨D', some (wP p), some (wP (setTrips p (ts ++ [alwTr t]))), some (.int 2), x6, x7, y8, y9, y10, y11, y12, y13, y14, g', ?_⟩
      have htl : ts.length ≤ 8 := by have := okp.n; rw [hp] at this; simp at this; omega
      have c1 : ∀ U, opCut none (some (-1)) (.tup (p.trips.map wTt)) U = .ok (.tup (ts.map wTt)) U := fun U => by
        rw [opCut_tup, hp, List.map_append, List.map_singleton, cut_init]
      have c2 : ∀ U, opIx (.tup (p.trips.map wTt)) (.int (-1)) U = .ok (wTt t) U := fun U => by
        rw [opIx_tup, hp, List.map_append, List.map_singleton, atI_last]
        rfl
      have c2' : atI (p.trips.map wTt) (-1) = some (wTt t) := by
        rw [hp, List.map_append, List.map_singleton, atI_last]
      have a1 : ∀ U, opAdd (.tup [.int t.start, .int t.source, .int t.target, .int t.pace]) (.tup [.str "always"]) U = .ok (wTt (alwTr t)) U := fun U => opAdd_tup (by simp)
      have a2 : ∀ U, opAdd (.tup (ts.map wTt)) (.tup [wTt (alwTr t)]) U = .ok (.tup ((ts ++ [alwTr t]).map wTt)) U := fun U => by
        rw [opAdd_tup (by simp; omega), List.map_append]
        rfl
      have a3 : ∀ U, opAdd (.tup [.int p.top, .int p.length, .int p.time]) (.tup [.tup ((ts ++ [alwTr t]).map wTt)]) U = .ok (wP (setTrips p (ts ++ [alwTr t]))) U := fun U => opAdd_tup (by simp)
      simp -implicitDefEqProofs [f_k11_law_4, e1, e2, e3, c_k11_law_6, c_k11_law_5, hne, show p.trips.isEmpty = false by rw [hp]; simp, cut_wP3, c1, c2', cut_wTt4, a1]
      simp -implicitDefEqProofs [a2, a3, et, -List.map_append]
  · obtain ⟨D', y8, y9, y10, y11, y12, y13, y14, g', et⟩ := tail g3 okp okq (some (.int 3)) x6 x7
    refine ⟨D', some (wP p), some (wP q), some (.int 3), x6, x7, y8, y9, y10, y11, y12, y13, y14, g', ?_⟩
    simp -implicitDefEqProofs [f_k11_law_4, e1, e2, e3, c_k11_law_6, c_k11_law_5, et]
theorem k11_loop : ∀ (ws : List W) {D : List Int} (g : Dr D) (T : Sto) (x0 x2 x3 x4 x5 x6 x7 x8 x9 x10 x11 x12 x13 x14 x15 x16 : Option W), ∃ D' y2 y3 y4 y5 y6 y7 y8 y9 y10 y11 y12 y13 y14, Dr D' ∧
    sForL (.n 2) f_k11_law_4 ws [x0, some (.loc 0), x2, x3, x4, x5, x6, x7, x8, x9, x10, x11, x12, x13, x14, x15, x16] (dst D T) = .ok (.nx [x0, some (.loc 0), y2, y3, y4, y5, y6, y7, y8, y9, y10, y11, y12, y13, y14, x15, x16]) (dst D' T)
  | [], D, g, T, x0, x2, x3, x4, x5, x6, x7, x8, x9, x10, x11, x12, x13, x14, x15, x16 => ⟨D, x2, x3, x4, x5, x6, x7, x8, x9, x10, x11, x12, x13, x14, g, rfl⟩
  | w :: ws, D, g, T, x0, x2, x3, x4, x5, x6, x7, x8, x9, x10, x11, x12, x13, x14, x15, x16 => by
    obtain ⟨D1, y3, y4, y5, y6, y7, y8, y9, y10, y11, y12, y13, y14, g1, e⟩ := k11_step g T x0 (some w) x3 x4 x5 x6 x7 x8 x9 x10 x11 x12 x13 x14 x15 x16
    obtain ⟨D2, z2, z3, z4, z5, z6, z7, z8, z9, z10, z11, z12, z13, z14, g2, e2⟩ := k11_loop ws g1 T x0 (some w) y3 y4 y5 y6 y7 y8 y9 y10 y11 y12 y13 y14 x15 x16
    exact ⟨D2, z2, z3, z4, z5, z6, z7, z8, z9, z10, z11, z12, z13, z14, g2, by rw [sForL_nx (r1 := _) rfl e, e2]⟩
def lateA : Pt := ⟨1, 4, 3, [⟨0, 0, 1, 1, "always"⟩]⟩
def lateB : Pt := ⟨1, 6, 3, [⟨0, 0, 1, 1, "always"⟩, ⟨4, 0, 1, 1, "always"⟩]⟩
theorem lateA_ok : lateA.Ok := ⟨by decide, by decide, by decide, by decide, by decide, by decide, by decide, fun t ht => by
  rw [List.mem_singleton.mp ht]
  exact ⟨by decide, by decide, by decide, by decide, by decide, by decide, by decide, by decide, by decide, .inr (.inl rfl)⟩⟩
theorem lateB_ok : lateB.Ok := ⟨by decide, by decide, by decide, by decide, by decide, by decide, by decide, fun t ht => by
  rcases List.mem_cons.mp ht with rfl | ht
  · exact ⟨by decide, by decide, by decide, by decide, by decide, by decide, by decide, by decide, by decide, .inr (.inl rfl)⟩
  · rw [List.mem_singleton.mp ht]
    exact ⟨by decide, by decide, by decide, by decide, by decide, by decide, by decide, by decide, by decide, .inr (.inl rfl)⟩⟩
theorem late_diff : firstDiff lateA lateB = some (7, false) := by decide +kernel
theorem k11_law_is (ns : List Int) (h : ns.length ≤ 63) : ∃ S, m_k11_law [.scr ns] [] = .ok (.bl true) S := by
  obtain ⟨D, g, e1⟩ := run_random ns h 11 (by omega)
  obtain ⟨D2, z2, z3, z4, z5, z6, z7, z8, z9, z10, z11, z12, z13, z14, g2, e2⟩ := k11_loop (rngW 0 1 3) g [] (some (.scr ns)) none none none none none none none none none none none none none none none
  refine ⟨dst D2 [], (fnM_ev rfl).trans ?_⟩
  have e3 : ∀ U, itR1 [.int 3] U = .ok (rngW 0 1 3) U := fun U => itR1_len (n := 3) (by omega)
  have s1 : ∀ U, frR U (newR .Stairs m_Stairs___init__ [.int 1, .int 4, .int 3, .tup [.int 0, .int 0, .int 1, .int 1, .str "always"]] U) = .ok (wS lateA) U := fun U => run_StairsF lateA_ok
  have s2 : ∀ U, frR U (newR .Stairs m_Stairs___init__ [.int 1, .int 6, .int 3, .tup [.int 0, .int 0, .int 1, .int 1, .str "always"], .tup [.int 4, .int 0, .int 1, .int 1, .str "always"]] U) = .ok (wS lateB) U := fun U => run_StairsF lateB_ok
  have f1 : ∀ U, frR U (m_first_difference [wS lateA, wS lateB] U) = .ok (.tup [.int 7, .bl false]) U := fun U => by
    rw [run_first_difference lateA_ok lateB_ok, late_diff]
    rfl
  have q1 : ∀ U, opEq (.tup [.int 7, .bl false]) (.tup [.int 7, .bl false]) U = .ok (.bl true) U := fun U => by
    have d : dat (seeL U (.tup [.int 7, .bl false])) = some (.tuple [.int 7, .bool false]) := by simp [seeL, dat, dats]
    rw [opEq_ok d d (by decide +kernel) (by decide +kernel)]
    rw [show PyData.eqv (.tuple [.int 7, .bool false]) (.tuple [.int 7, .bool false]) = true by decide +kernel]
  simp -implicitDefEqProofs [b_k11_law, e1, e2, e3, c_k11_law_7, s1, s2, f1, q1]
end
end SL

set_option Elab.async false
set_option linter.all false
set_option maxRecDepth 100000
set_option maxHeartbeats 2000000
/-! staircases as lists of bytes -/
namespace SL
open PySem PySem.Spec PyProof.Rows L2
section
variable {S : Sto} {r : Rho} {n : Nat}
@[simp] theorem sForS_ev (i j : Nat) (mi : M (List W)) (b : MSt) : sForS i j mi b r S = (mi r S).bd fun xs S1 => sForSL i j b xs r S1 := by simp [sForS]
@[simp] theorem sForSL_nil {i j : Nat} {b : MSt} : sForSL i j b [] r S = .ok (.nx r) S := rfl
theorem sForSL_nx {i j : Nat} {b : MSt} {x : W} {xs : List W} {r1 r2 : Rho} {S2 : Sto} (h : starRun i j x r = some r1) (hb : b r1 S = .ok (.nx r2) S2) : sForSL i j b (x :: xs) r S = sForSL i j b xs r2 S2 := by
  rw [sForSL, h]
  dsimp only
  rw [hb]
@[simp] theorem sFldAdd_ev {c : Cl} {f : Fl} (mo m : M W) : sFldAdd c f mo m r S = (mo r S).bd fun w S1 => (fld c f w S1).bd fun v S2 => (m r S2).bd fun y S3 => asI v (fun a S4 => asI y (fun b S5 => (setO c f w (.int (a + b)) S5).st r) S4) S3 := by
  simp only [sFldAdd, bind_ev]
  cases mo r S with
  | ok w S1 =>
    simp only [bd_ok]
    have e : (match getO c S1 w, fix c f with
        | some xs, some i => match xs[i]? with
          | some x => Res.ok x S1
          | none => Res.stuck
        | _, _ => Res.stuck) = fld c f w S1 := by
      unfold fld
      cases getO c S1 w with
      | none => rfl
      | some xs =>
        cases fix c f with
        | none => rfl
        | some i =>
          simp only [oc_some]
          cases xs[i]? <;> rfl
    rw [bind_ev]
    refine (congrArg (fun z => Res.bd z _) e).trans ?_
    cases fld c f w S1 with
    | ok v S2 =>
      simp only [bd_ok]
      rw [bind_ev]
      cases m r S2 with
      | ok y S3 =>
        simp only [bd_ok]
        by_cases hv : ∃ a, v = .int a
        · obtain ⟨a, rfl⟩ := hv
          by_cases hy : ∃ b, y = .int b
          · obtain ⟨b, rfl⟩ := hy
            simp only [asI_int]
            unfold Res.st
            rfl
          · cases y <;> first | rfl | exact absurd ⟨_, rfl⟩ hy
        · cases v <;> first | rfl | exact absurd ⟨_, rfl⟩ hv
      | exc c ws S1 => rfl
      | stuck => rfl
    | exc c ws S1 => rfl
    | stuck => rfl
  | exc c ws S1 => rfl
  | stuck => rfl
theorem fExtend_loc {w : W} {ys : List W} (hw : getL S w = some ys) : fExtend [.loc n, w] S = oc (cl S[n]?) (fun xs => bc (decide (xs.length + ys.length < 16000000)) (.ok .non (S.set n (.lst (xs ++ ys)))) .stuck) .stuck := by
  unfold fExtend cellL
  dsimp only
  rw [hw]
  cases S[n]? with
  | none => rfl
  | some c =>
    cases c <;> first | rfl | skip
    exact ite_bc _ _ _
theorem bSum_ev {w : W} {ns : List Int} (h : getIs S w = some ns) : bSum [w] S = .ok (.int ns.sum) S := by
  show (match getIs S w with | some ns => Res.ok (W.int ns.sum) S | none => .stuck) = _
  rw [h]
end
def hnum (h : Str) : Int := if h = "dark" then 0 else if h = "always" then 1 else 2
theorem run_habit {S : Sto} {h : Str} (q : habitOk h) : fIndexT [.ktup (List.map W.str ["dark", "always", "never"]), .str h] S = .ok (.int (hnum h)) S := by
  unfold fIndexT
  dsimp only
  rw [strsOf_map]
  dsimp only
  rcases q with rfl | rfl | rfl
  · rw [show (["dark", "always", "never"] : List Str).findIdx? (fun y : Str => decide (y = ("dark" : Str))) = some 0 by decide +kernel]
    rfl
  · rw [show (["dark", "always", "never"] : List Str).findIdx? (fun y : Str => decide (y = ("always" : Str))) = some 1 by decide +kernel]
    rfl
  · rw [show (["dark", "always", "never"] : List Str).findIdx? (fun y : Str => decide (y = ("never" : Str))) = some 2 by decide +kernel]
    rfl
def codeT (t : Tr) : List Int := [t.start, t.source, t.target, t.pace, hnum t.habit]
def codeTs (ts : List Tr) : List Int := ts.flatMap codeT
def encB (p : Pt) : List Int := [83, p.top, p.length, p.time, (p.trips.length : Int)] ++ codeTs p.trips
def sumI (ns : List Int) : Int := ns.sum
def enc (p : Pt) : List Int := encB p ++ [sumI (encB p) % 256]
theorem codeTs_len : ∀ ts : List Tr, (codeTs ts).length = 5 * ts.length
  | [] => rfl
  | t :: ts => by
    have := codeTs_len ts
    unfold codeTs at this ⊢
    rw [List.flatMap_cons, List.length_append, this, List.length_cons]
    show 5 + 5 * ts.length = _
    omega
theorem encB_len (p : Pt) : (encB p).length = 5 + 5 * p.trips.length := by
  unfold encB
  rw [List.length_append, codeTs_len]
  rfl
theorem enc_len (p : Pt) : (enc p).length = 6 + 5 * p.trips.length := by
  unfold enc
  rw [List.length_append, encB_len]
  show 5 + 5 * p.trips.length + 1 = _
  omega
section
variable {p : Pt} {S : Sto}
theorem enc_loop {top length : Int} (x0 : Option W) : ∀ (ts : List Tr) (acc : List Int) (x2 x3 : Option W), (∀ t ∈ ts, t.Ok top length) → acc.length + 5 * ts.length < 1000 → ∃ y2 y3,
    sForSL 2 3 f_encode_1 (ts.map wTt) [x0, some (.loc S.length), x2, x3] (S ++ [.lst (acc.map W.int)]) = .ok (.nx [x0, some (.loc S.length), y2, y3]) (S ++ [.lst ((acc ++ codeTs ts).map W.int)])
  | [], acc, x2, x3, _, _ => ⟨x2, x3, by simp [codeTs]⟩
  | t :: ts, acc, x2, x3, hok, hl => by
    simp only [List.length_cons] at hl
    obtain ⟨y2, y3, e⟩ := enc_loop x0 ts (acc ++ codeT t) (some (.lst [.int t.start, .int t.source, .int t.target, .int t.pace])) (some (.str t.habit)) (fun u hu => hok u (List.mem_cons_of_mem _ hu)) (by rw [List.length_append]; show acc.length + 5 + 5 * ts.length < 1000; omega)
    refine ⟨y2, y3, ?_⟩
    have hr : starRun 2 3 (wTt t) [x0, some (.loc S.length), x2, x3] = some [x0, some (.loc S.length), some (.lst [.int t.start, .int t.source, .int t.target, .int t.pace]), some (.str t.habit)] := rfl
    have hh : ∀ U, fIndexT [.ktup [.str "dark", .str "always", .str "never"], .str t.habit] U = .ok (.int (hnum t.habit)) U := fun U => run_habit (hok t List.mem_cons_self).hb
    have hrv : ∀ U xs, recvOk "tuple" U (.ktup xs) = true := fun U xs => rfl
    have hx : ∀ U n w ys, getL U w = some ys → fExtend [.loc n, w] U = oc (cl U[n]?) (fun xs => bc (decide (xs.length + ys.length < 16000000)) (.ok .non (U.set n (.lst (xs ++ ys)))) .stuck) .stuck := fun U n w ys h => fExtend_loc h
    have hb : f_encode_1 [x0, some (.loc S.length), some (.lst [.int t.start, .int t.source, .int t.target, .int t.pace]), some (.str t.habit)] (S ++ [.lst (acc.map W.int)]) = .ok (.nx [x0, some (.loc S.length), some (.lst [.int t.start, .int t.source, .int t.target, .int t.pace]), some (.str t.habit)]) (S ++ [.lst ((acc ++ codeT t).map W.int)]) := by
      have hl5 : acc.length + 5 < 16000000 := by omega
      simp -implicitDefEqProofs [f_encode_1, hh, hrv, hx _ _ (.lst [.int t.start, .int t.source, .int t.target, .int t.pace, .int (hnum t.habit)]) _ rfl, hl5, codeT]
    rw [List.map_cons, sForSL_nx hr hb, e]
    simp [codeTs]
theorem run_encode (ok : p.Ok) : m_encode [wS p] S = .ok (.loc (S.length + 1)) (S ++ [.lst ((encB p).map W.int), .lst ((enc p).map W.int)]) := by
  have hn := ok.n
  have e1 : ∀ U, frR U (noX (m_Stairs_all_trips [wS p] U)) = .ok (.tup (p.trips.map wTt)) U := fun U => by
    rw [run_all_trips ok, noX_ok]
    exact frR_nols (by
      show (p.trips.map wTt).all (nol 15) = true
      rw [List.all_map]
      exact List.all_eq_true.mpr fun t _ => nol_le nol_wTt (by omega))
  obtain ⟨y2, y3, e⟩ := enc_loop (S := S) (some (wS p)) p.trips [83, p.top, p.length, p.time, (p.trips.length : Int)] none none ok.ok (by show 5 + 5 * p.trips.length < 1000; omega)
  have e' : sForSL 2 3 f_encode_1 (p.trips.map wTt) [some (wS p), some (.loc S.length), none, none] (S ++ [.lst [.int 83, .int p.top, .int p.length, .int p.time, .int (p.trips.length : Int)]]) = .ok (.nx [some (wS p), some (.loc S.length), y2, y3]) (S ++ [.lst ((encB p).map W.int)]) := e
  have hl := encB_len p
  have hs : bSum [.loc S.length] (S ++ [.lst ((encB p).map W.int)]) = .ok (.int (sumI (encB p))) (S ++ [.lst ((encB p).map W.int)]) := bSum_ev (by
    unfold getIs
    rw [getL_loc, at_app0, cl_lst]
    exact intsOf_map _)
  have he : ((encB p).map W.int) ++ [W.int (sumI (encB p) % 256)] = (enc p).map W.int := by simp [enc]
  have hl2 : (enc p).length ≤ 16000000 := by rw [enc_len]; omega
  refine (fnM_ev rfl).trans ?_
  simp -implicitDefEqProofs [b_encode, e1, e', hs, he, hl2]
end
end SL

set_option Elab.async false
set_option linter.all false
set_option maxRecDepth 100000
set_option maxHeartbeats 2000000
/-! the sum of a measure over the first ticks -/
namespace SL
open PySem PySem.Spec PyProof.Rows L2
theorem mCallV_ev {n i : Nat} {g : FnM} {t : M (List W)} {r : Rho} {S : Sto} (h : r[i]? = some (some (.cls (.lam n)))) : mCallV n g i t r S = mCall g t r S := by
  unfold mCallV
  rw [h]
  exact if_pos rfl
/-- the sum over the first t ticks, as the program finds it -/
def cntF (μ : Sc → Int) (p : Pt) (t : Int) : Int :=
  if t ≤ (story p).1.length then (((story p).1.map μ).take t.toNat).sum
  else (((story p).1.map μ).take ((story p).2 + (t - (story p).2) % ((late p).length : Int)).toNat).sum + (t - (story p).2) / ((late p).length : Int) * (((story p).1.map μ).drop (story p).2.toNat).sum
section
variable {p : Pt} {S : Sto} {μ : Sc → Int} {gam : FnM} {n : Nat}
theorem run_count (ok : p.Ok) (hg : ∀ s U, gam [wSc s] U = .ok (.int (μ s)) U) {t : Int} (ht : 0 ≤ t) (hb : t ≤ 1000000000000000000) : m_Story_count n gam [wSy p, .int t, .cls (.lam n)] S = .ok (.int (cntF μ p t)) S := by
  have hs := story_start ok
  have hl := story_len ok
  have k1 := late_len ok
  have p1 := late_pos ok
  have e1 : ∀ U, frR U (noX (m_Story_size [wSy p] U)) = .ok (.int ((late p).length : Int)) U := fun U => size_wSy ok
  have h0 : decide (0 < (late p).length) = true := decide_eq_true p1
  have h2 : decide (((late p).length : Int) < 1073741824) = true := decide_eq_true (by omega)
  have hL : mLc [6] (.n 6) (iL (mFld .Story .scenes (mVar 0))) mYes (e_Story_count_1 n gam) [some (wSy p), some (.int t), some (.cls (.lam n)), none, none, none, none] S = .ok (.lst (((story p).1.map μ).map W.int)) S := by
    rw [List.map_map]
    refine mLc_map wSc (fun s => W.int (μ s)) (story p).1 (by simp) (by decide) (fun s _ => ⟨_, rfl, fun U => ?_⟩) (fun _ _ => rfl) (by omega)
    unfold e_Story_count_1
    show frR U (mCallV n gam 2 (mCons (mVar 6) mNil) _ U) = _
    rw [mCallV_ev (by rfl)]
    have : mCall gam (mCons (mVar 6) mNil) [some (wSy p), some (.int t), some (.cls (.lam n)), none, none, none, some (wSc s)] U = .ok (.int (μ s)) U := by
      simp -implicitDefEqProofs [hg]
    rw [show (wipeR [some (wSy p), some (.int t), some (.cls (.lam n)), none, none, none, none] [6]).set 6 (some (wSc s)) = [some (wSy p), some (.int t), some (.cls (.lam n)), none, none, none, some (wSc s)] from rfl] at *
    rw [this, frR_int]
  have hlen : ((story p).1.map μ).length = (story p).1.length := List.length_map _
  generalize hxs : (story p).1.map μ = xs at hL hlen
  have hsum : ∀ (ys : List Int) U, bSum [.lst (ys.map W.int)] U = .ok (.int ys.sum) U := fun ys U => bSum_ev getIs_ints
  have st : ∀ k U, bSum [.lst ((xs.map W.int).take k)] U = .ok (.int (xs.take k).sum) U := fun k U => by rw [← List.map_take]; exact hsum _ U
  have sd : ∀ k U, bSum [.lst ((xs.map W.int).drop k)] U = .ok (.int (xs.drop k).sum) U := fun k U => by rw [← List.map_drop]; exact hsum _ U
  have c1 : ∀ {k : Int} U, 0 ≤ k → opCut none (some k) (.lst (xs.map W.int)) U = .ok (.lst ((xs.take k.toNat).map W.int)) U := fun U h => by
    rw [opCut_lst, cut_to _ h, List.map_take]
  have c2 : ∀ U, opCut (some (story p).2) none (.lst (xs.map W.int)) U = .ok (.lst ((xs.drop (story p).2.toNat).map W.int)) U := fun U => by
    rw [opCut_lst, cut_from _ hs.1 (by rw [List.length_map]; omega), List.map_drop]
  refine (fnM_ev rfl).trans ?_
  unfold cntF
  rw [hxs]
  by_cases h : t ≤ (story p).1.length
  · rw [if_pos h]
    have h' : t ≤ (xs.length : Int) := by omega
    simp -implicitDefEqProofs [b_Story_count, hL, h', c1 _ ht, st, sd, -opCut_lst]
  · rw [if_neg h]
    have h' : ¬ t ≤ (xs.length : Int) := by omega
    have hm := Int.emod_nonneg (t - (story p).2) (b := ((late p).length : Int)) (by omega)
    have m1 : mulOk ((t - (story p).2) / ((late p).length : Int)) (xs.drop (story p).2.toNat).sum = true := mulOk_l (by
      have := Int.ediv_nonneg (a := t - (story p).2) (b := ((late p).length : Int)) (by omega) (by omega)
      omega) (by
      have := Int.ediv_le_self (a := t - (story p).2) (b := ((late p).length : Int)) (by omega)
      omega)
    have c3 : ∀ U, opCut none (some ((story p).2 + (t - (story p).2) % ((late p).length : Int))) (.lst (xs.map W.int)) U = .ok (.lst ((xs.take ((story p).2 + (t - (story p).2) % ((late p).length : Int)).toNat).map W.int)) U := fun U => c1 U (by omega)
    simp -implicitDefEqProofs [b_Story_count, hL, h', c2, c3, st, sd, e1, h0, h2, m1, -opCut_lst]
end
end SL

set_option Elab.async false
set_option linter.all false
set_option maxRecDepth 100000
set_option maxHeartbeats 2000000
namespace SL
open PySem PySem.Spec PyProof.Rows L2
/-! it is the sum over the ticks -/
theorem isum_app (xs ys : List Int) : (xs ++ ys).sum = xs.sum + ys.sum := by
  induction xs with
  | nil => simp
  | cons x xs ih =>
    rw [List.cons_append, List.sum_cons, List.sum_cons, ih]
    omega
theorem isum_take {xs : List Int} {k : Nat} (h : k < xs.length) : (xs.take (k + 1)).sum = (xs.take k).sum + xs[k] := by
  rw [List.take_succ_eq_append_getElem h, isum_app, List.sum_cons, List.sum_nil]
  omega
theorem isum_split (xs : List Int) (k : Nat) : (xs.take k).sum + (xs.drop k).sum = xs.sum := by
  rw [← isum_app, List.take_append_drop]
def gsum (xs : List Int) (s L t : Nat) : Int := (xs.take (s + (t - s) % L)).sum + (((t - s) / L : Nat) : Int) * (xs.drop s).sum
theorem gsum_step {xs : List Int} {s L t : Nat} (hN : xs.length = s + L) (hL : 0 < L) (hs : s ≤ t) : gsum xs s L (t + 1) = gsum xs s L t + xs[s + (t - s) % L]'(by have := Nat.mod_lt (t - s) hL; omega) := by
  unfold gsum
  have hm := Nat.mod_lt (t - s) hL
  have hd := Nat.div_add_mod (t - s) L
  by_cases h : (t - s) % L + 1 < L
  · have e1 : (t + 1 - s) % L = (t - s) % L + 1 := by
      rw [show t + 1 - s = L * ((t - s) / L) + ((t - s) % L + 1) by omega, Nat.mul_add_mod, Nat.mod_eq_of_lt h]
    have e2 : (t + 1 - s) / L = (t - s) / L := by
      rw [show t + 1 - s = L * ((t - s) / L) + ((t - s) % L + 1) by omega, Nat.mul_add_div hL, Nat.div_eq_of_lt h, Nat.add_zero]
    rw [e1, e2, ← Nat.add_assoc, isum_take (by omega)]
    omega
  · have e1 : (t + 1 - s) % L = 0 := by
      rw [show t + 1 - s = L * ((t - s) / L + 1) by rw [Nat.mul_add, Nat.mul_one]; omega, Nat.mul_mod_right]
    have e2 : (t + 1 - s) / L = (t - s) / L + 1 := by
      rw [show t + 1 - s = L * ((t - s) / L + 1) by rw [Nat.mul_add, Nat.mul_one]; omega, Nat.mul_div_cancel_left _ hL]
    have e3 : (xs.take (s + (t - s) % L)).sum + xs[s + (t - s) % L]'(by omega) = xs.sum := by
      rw [← isum_take (by omega), List.take_of_length_le (by omega)]
    have e4 := isum_split xs s
    rw [e1, e2, Nat.add_zero]
    have e5 : (((t - s) / L + 1 : Nat) : Int) * (xs.drop s).sum = (((t - s) / L : Nat) : Int) * (xs.drop s).sum + (xs.drop s).sum := by
      rw [Int.natCast_add, Int.add_mul]
      simp
    omega
/-- the sum of a measure over the first t ticks -/
def cnt (μ : Sc → Int) (p : Pt) (t : Nat) : Int := ((List.range t).map fun (i : Nat) => μ (scn p (i : Int))).sum
theorem cnt_succ (μ : Sc → Int) (p : Pt) (t : Nat) : cnt μ p (t + 1) = cnt μ p t + μ (scn p (t : Int)) := by
  unfold cnt
  rw [List.range_succ, List.map_append, isum_app, List.map_cons, List.map_nil, List.sum_cons, List.sum_nil]
  omega
section
variable {p : Pt} {μ : Sc → Int}
theorem mu_at (ok : p.Ok) (t : Nat) : ((story p).1.map μ)[(plc (story p).1.length (story p).2 (t : Int)).toNat]? = some (μ (scn p (t : Int))) := by
  rw [List.getElem?_map, plc_at ok (by omega)]
  rfl
theorem cnt_first (ok : p.Ok) : ∀ t : Nat, t ≤ (story p).1.length → cnt μ p t = (((story p).1.map μ).take t).sum
  | 0, _ => rfl
  | t + 1, h => by
    have ht : t < ((story p).1.map μ).length := by rw [List.length_map]; omega
    rw [cnt_succ, cnt_first ok t (by omega), isum_take ht]
    have e := mu_at (μ := μ) ok t
    have ep : plc (story p).1.length (story p).2 (t : Int) = (t : Int) := if_pos (by omega)
    rw [ep, Int.toNat_natCast, List.getElem?_eq_getElem ht] at e
    rw [Option.some.inj e]
theorem cnt_late (ok : p.Ok) : ∀ k : Nat, cnt μ p ((story p).2.toNat + k) = gsum ((story p).1.map μ) (story p).2.toNat (late p).length ((story p).2.toNat + k)
  | 0 => by
    have hs := story_start ok
    rw [cnt_first ok _ (by omega)]
    unfold gsum
    simp
  | k + 1 => by
    have hs := story_start ok
    have kl := late_len ok
    have pl := late_pos ok
    have hN : ((story p).1.map μ).length = (story p).2.toNat + (late p).length := by rw [List.length_map]; omega
    rw [← Nat.add_assoc, cnt_succ, cnt_late ok k, gsum_step hN pl (by omega)]
    have e := mu_at (μ := μ) ok ((story p).2.toNat + k)
    have hm := Nat.mod_lt k pl
    have ep : (plc (story p).1.length (story p).2 (((story p).2.toNat + k : Nat) : Int)).toNat = (story p).2.toNat + ((story p).2.toNat + k - (story p).2.toNat) % (late p).length := by
      rw [Nat.add_sub_cancel_left]
      unfold plc
      rw [← kl, show (((story p).2.toNat + k : Nat) : Int) - (story p).2 = (k : Int) by omega, ← Int.natCast_emod]
      split
      · rw [Nat.mod_eq_of_lt (by omega)]
        omega
      · omega
    rw [ep] at e
    have hlt : (story p).2.toNat + ((story p).2.toNat + k - (story p).2.toNat) % (late p).length < ((story p).1.map μ).length := by
      rw [Nat.add_sub_cancel_left]
      omega
    rw [List.getElem?_eq_getElem hlt] at e
    rw [Option.some.inj e]
theorem cntF_is (ok : p.Ok) (t : Nat) : cntF μ p (t : Int) = cnt μ p t := by
  have hs := story_start ok
  have kl := late_len ok
  have pl := late_pos ok
  unfold cntF
  split
  · rw [Int.toNat_natCast, cnt_first ok t (by omega)]
  · rename_i h
    obtain ⟨k, rfl⟩ : ∃ k, t = (story p).2.toNat + k := ⟨t - (story p).2.toNat, by omega⟩
    rw [cnt_late ok k]
    unfold gsum
    rw [show (((story p).2.toNat + k : Nat) : Int) - (story p).2 = (k : Int) by omega, Nat.add_sub_cancel_left, ← Int.natCast_emod, ← Int.natCast_ediv]
    rw [show ((story p).2 + ((k % (late p).length : Nat) : Int)).toNat = (story p).2.toNat + k % (late p).length by omega]
theorem cnt_congr {q : Pt} {t : Nat} (h : ∀ i : Nat, i < t → μ (scn p i) = μ (scn q i)) : cnt μ p t = cnt μ q t := by
  unfold cnt
  congr 1
  exact List.map_congr_left fun i hi => h i (List.mem_range.mp hi)
end
end SL

set_option Elab.async false
set_option linter.all false
set_option maxRecDepth 100000
set_option maxHeartbeats 2000000
/-! the first difference is the first of all ticks -/
namespace SL
open PySem PySem.Spec PyProof.Rows L2
theorem plc_late {n : Nat} {s t : Int} (h1 : s < n) (h : s ≤ t) : plc n s t = s + (t - s) % (n - s) := by
  unfold plc
  split
  · rw [Int.emod_eq_of_lt (by omega) (by omega)]
    omega
  · rfl
theorem mulF_spec {a b : Int} : ∀ (n : Nat) (m r : Int), mulF n a b m = some r → ∃ k : Nat, r = m + k * a ∧ r % b = 0 ∧ ∀ j : Nat, j < k → (m + j * a) % b ≠ 0
  | 0, _, _, h => by cases h
  | n + 1, m, r, h => by
    unfold mulF at h
    split at h
    · rename_i hm
      cases h
      exact ⟨0, by simp, hm, fun j hj => absurd hj (by omega)⟩
    · rename_i hm
      obtain ⟨k, h1, h2, h3⟩ := mulF_spec n _ r h
      refine ⟨k + 1, by rw [h1, Int.natCast_add, Int.add_mul]; omega, h2, fun j hj => ?_⟩
      cases j with
      | zero => simpa using hm
      | succ j =>
        have := h3 j (by omega)
        rwa [show m + a + (j : Int) * a = m + ((j + 1 : Nat) : Int) * a by rw [Int.natCast_add, Int.add_mul]; omega] at this
theorem lcmF_spec {a b : Int} (ha : 0 < a) (hb : 0 < b) : a ∣ lcmF a b ∧ b ∣ lcmF a b ∧ ∀ x : Int, 0 < x → a ∣ x → b ∣ x → lcmF a b ≤ x := by
  obtain ⟨e, h0, _⟩ := lcmF_is ha hb
  obtain ⟨k, h1, h2, h3⟩ := mulF_spec _ _ _ e
  refine ⟨⟨1 + k, by rw [h1, Int.mul_add, Int.mul_one, Int.mul_comm a]⟩, Int.dvd_of_emod_eq_zero h2, fun x hx ⟨c, hc⟩ hbx => ?_⟩
  by_cases hlt : lcmF a b ≤ x
  · exact hlt
  · exfalso
    have hc0 : 0 < c := by
      by_cases z : 0 < c
      · exact z
      · have := Int.mul_le_mul_of_nonneg_left (a := c) (b := 0) (c := a) (by omega) (Int.le_of_lt ha)
        rw [Int.mul_zero] at this
        omega
    obtain ⟨j, rfl⟩ : ∃ j : Nat, c = (j : Int) + 1 := ⟨(c - 1).toNat, by omega⟩
    have hx2 : x = a + (j : Int) * a := by rw [hc, Int.mul_add, Int.mul_one, Int.mul_comm a]; omega
    have hjk : j < k := by
      rcases Nat.lt_or_ge j k with z | z
      · exact z
      · exfalso
        have : (k : Int) * a ≤ (j : Int) * a := Int.mul_le_mul_of_nonneg_right (by omega) (Int.le_of_lt ha)
        omega
    exact h3 j hjk (by rw [← hx2]; exact Int.emod_eq_zero_of_dvd hbx)
theorem lcmF_comm {a b : Int} (ha : 0 < a) (hb : 0 < b) : lcmF a b = lcmF b a := by
  obtain ⟨a1, a2, a3⟩ := lcmF_spec ha hb
  obtain ⟨b1, b2, b3⟩ := lcmF_spec hb ha
  have h1 := (lcmF_is ha hb).2.1
  have h2 := (lcmF_is hb ha).2.1
  have := a3 _ h2 b2 b1
  have := b3 _ h1 a2 a1
  omega
theorem emod_shift {x y l d : Int} (h : d ∣ l) (e : l ∣ x - y) : x % d = y % d := by
  obtain ⟨c, hc⟩ := Int.dvd_trans h e
  rw [show x = y + d * c by omega, Int.add_mul_emod_self_left]
theorem fdN_spec (p q : Pt) : ∀ (n k : Nat), match fdN p q (List.range' k n) with
    | none => ∀ t : Nat, k ≤ t → t < k + n → burn p (t : Int) = burn q (t : Int)
    | some (t, b) => k ≤ t ∧ t < k + n ∧ b = burn p (t : Int) ∧ burn p (t : Int) ≠ burn q (t : Int) ∧ ∀ i : Nat, k ≤ i → i < t → burn p (i : Int) = burn q (i : Int)
  | 0, k => fun t h1 h2 => absurd h2 (by omega)
  | n + 1, k => by
    rw [List.range'_succ]
    unfold fdN
    by_cases h : (burn p (k : Int) != burn q (k : Int)) = true
    · rw [if_pos h]
      exact ⟨Nat.le_refl _, by omega, rfl, by simpa using h, fun i h1 h2 => absurd h2 (by omega)⟩
    · rw [if_neg h]
      have hk : burn p (k : Int) = burn q (k : Int) := by simpa using h
      have ih := fdN_spec p q n (k + 1)
      cases hf : fdN p q (List.range' (k + 1) n) with
      | none =>
        rw [hf] at ih
        intro t h1 h2
        rcases Nat.eq_or_lt_of_le h1 with z | z
        · rw [← z]
          exact hk
        · exact ih t z (by omega)
      | some r =>
        obtain ⟨t, b⟩ := r
        rw [hf] at ih
        obtain ⟨h1, h2, h3, h4, h5⟩ := ih
        refine ⟨by omega, by omega, h3, h4, fun i i1 i2 => ?_⟩
        rcases Nat.eq_or_lt_of_le i1 with z | z
        · rw [← z]
          exact hk
        · exact h5 i z i2
theorem fdN_swap (p q : Pt) : ∀ ts : List Nat, fdN q p ts = (fdN p q ts).map fun r => (r.1, !r.2)
  | [] => rfl
  | t :: ts => by
    unfold fdN
    have hs : (burn q (t : Int) != burn p (t : Int)) = (burn p (t : Int) != burn q (t : Int)) := by cases burn p (t : Int) <;> cases burn q (t : Int) <;> rfl
    rw [hs]
    by_cases h : (burn p (t : Int) != burn q (t : Int)) = true
    · rw [if_pos h, if_pos h]
      have : burn q (t : Int) = !burn p (t : Int) := by
        revert h
        cases burn p (t : Int) <;> cases burn q (t : Int) <;> simp
      rw [this]
      rfl
    · rw [if_neg h, if_neg h]
      exact fdN_swap p q ts
section
variable {p q : Pt}
theorem span_comm (okp : p.Ok) (okq : q.Ok) : span q p = span p q := by
  have p1 := late_pos okp
  have p2 := late_pos okq
  unfold span
  rw [lcmF_comm (by omega) (by omega)]
  split <;> split <;> omega
theorem firstDiff_swap (okp : p.Ok) (okq : q.Ok) : firstDiff q p = (firstDiff p q).map fun r => (r.1, !r.2) := by
  unfold firstDiff
  rw [span_comm okp okq, fdN_swap]
theorem scn_shift (ok : p.Ok) {t t' : Int} (h : (story p).2 ≤ t) (h' : (story p).2 ≤ t') (e : (t - (story p).2) % ((late p).length : Int) = (t' - (story p).2) % ((late p).length : Int)) : scn p t = scn p t' := by
  have hs := story_start ok
  have kl := late_len ok
  unfold scn
  rw [plc_late hs.2 h, plc_late hs.2 h', ← kl, e]
theorem firstDiff_spec (okp : p.Ok) (okq : q.Ok) : match firstDiff p q with
    | none => ∀ t : Nat, burn p (t : Int) = burn q (t : Int)
    | some (t, b) => t < 20000000 ∧ b = burn p (t : Int) ∧ burn p (t : Int) ≠ burn q (t : Int) ∧ ∀ i : Nat, i < t → burn p (i : Int) = burn q (i : Int) := by
  have sr := span_range okp okq
  have h := fdN_spec p q (span p q).toNat 0
  rw [← List.range_eq_range'] at h
  unfold firstDiff
  cases hf : fdN p q (List.range (span p q).toNat) with
  | some r =>
    obtain ⟨t, b⟩ := r
    rw [hf] at h
    obtain ⟨h1, h2, h3, h4, h5⟩ := h
    exact ⟨by omega, h3, h4, fun i hi => h5 i (by omega) hi⟩
  | none =>
    rw [hf] at h
    intro t
    by_cases ht : t < (span p q).toNat
    · exact h t (by omega) (by omega)
    · have s1 := story_start okp
      have s2 := story_start okq
      have p1 := late_pos okp
      have p2 := late_pos okq
      obtain ⟨d1, d2, _⟩ := lcmF_spec (a := ((late p).length : Int)) (b := ((late q).length : Int)) (by omega) (by omega)
      have l0 := (lcmF_is (a := ((late p).length : Int)) (b := ((late q).length : Int)) (by omega) (by omega)).2.1
      obtain ⟨m, hm, m1, m2⟩ : ∃ m : Int, span p q = m + lcmF (late p).length (late q).length ∧ (story p).2 ≤ m ∧ (story q).2 ≤ m := by
        refine ⟨_, rfl, ?_, ?_⟩ <;> split <;> omega
      generalize lcmF ((late p).length : Int) ((late q).length : Int) = l at d1 d2 l0 hm
      have r0 := Int.emod_nonneg ((t : Int) - m) (b := l) (by omega)
      have r1 := Int.emod_lt_of_pos ((t : Int) - m) (b := l) l0
      obtain ⟨u, hu⟩ : ∃ u : Nat, (u : Int) = m + ((t : Int) - m) % l := ⟨(m + ((t : Int) - m) % l).toNat, by omega⟩
      have hd : l ∣ (t : Int) - (u : Int) := by
        have := Int.emod_add_mul_ediv ((t : Int) - m) l
        exact ⟨((t : Int) - m) / l, by omega⟩
      have e1 : scn p (t : Int) = scn p (u : Int) := scn_shift okp (by omega) (by omega) (emod_shift d1 (by rw [show (t : Int) - (story p).2 - ((u : Int) - (story p).2) = (t : Int) - u by omega]; exact hd))
      have e2 : scn q (t : Int) = scn q (u : Int) := scn_shift okq (by omega) (by omega) (emod_shift d2 (by rw [show (t : Int) - (story q).2 - ((u : Int) - (story q).2) = (t : Int) - u by omega]; exact hd))
      have := h u (by omega) (by omega)
      unfold burn at this ⊢
      rw [e1, e2]
      exact this
end
end SL

set_option Elab.async false
set_option linter.all false
set_option maxRecDepth 100000
set_option maxHeartbeats 0
namespace SL
open PySem PySem.Spec PyProof.Rows L2
/-! law -/
def N_k36_law : List PySem.Str := ["_law_script", "_law_d", "_law_parts_here", "_law_others", "_law_one", "_law_other", "_law_found", "_law_back", "_law_logs", "_law_unlike", "_law_tick", "_law_twin", "_law_stairs"]
noncomputable def e_k36_law_1 : M W := mOp opGt (mFr (mCall m_light (mCons (mVar 12) (mCons (mVar 10) (mNil))))) (mC (.int 0))
noncomputable def e_k36_law_2 : M W := mLc [10] (.n 10) (iR1 (mCons (mC (.int 60)) (mNil))) (mYes) (e_k36_law_1)
noncomputable def e_k36_law_3 : M W := mVar 10
noncomputable def i_k36_law_1 : M Bool := mB (mOp opNe (mIx (mIx (mVar 8) (mC (.int 0))) (mVar 10)) (mIx (mIx (mVar 8) (mC (.int 1))) (mVar 10)))
noncomputable def c_k36_law_1 : MSt := sSeq (sSet 11 (mFr (mMeth .Stairs m_Stairs_with_trips (mVar 4) (mCons (mCall bList (mCons (mFr (mProp .Stairs m_Stairs_all_trips (mVar 4))) (mNil))) (mNil))))) (sRet (mAndV (mOp opIsN (mFr (mCall m_first_difference (mCons (mVar 4) (mCons (mVar 11) (mNil))))) (mC .non)) (mOp opEq (mFr (mCall m_count_lit (mCons (mVar 4) (mCons (mC (.int 60)) (mNil))))) (mBm "list" fCount (mIx (mVar 8) (mC (.int 0))) (mCons (mC (.bl true)) (mNil))))))
noncomputable def c_k36_law_2 : MSt := sSeq (sIf (mAnd (mB (mOp opNotN (mVar 6) (mC .non))) (mB (mOp opLe (mIx (mVar 6) (mC (.int 0))) (mOp opPow (mC (.int 10)) (mC (.int 18)))))) (sSeq (sSet 10 (mIx (mVar 6) (mC (.int 0)))) (sSeq (sIf (mOr (mB (mOp opNe (mOp opGt (mFr (mCall m_light (mCons (mVar 4) (mCons (mVar 10) (mNil))))) (mC (.int 0))) (mIx (mVar 6) (mC (.int 1))))) (mB (mOp opEq (mOp opGt (mFr (mCall m_light (mCons (mVar 5) (mCons (mVar 10) (mNil))))) (mC (.int 0))) (mIx (mVar 6) (mC (.int 1)))))) (sRet (mC (.bl false))) (sNext)) (sIf (mB (mOp opNe (mFr (mCall m_count_lit (mCons (mVar 4) (mCons (mVar 10) (mNil))))) (mFr (mCall m_count_lit (mCons (mVar 5) (mCons (mVar 10) (mNil))))))) (sRet (mC (.bl false))) (sNext)))) (sNext)) (c_k36_law_1)
noncomputable def c_k36_law_3 : MSt := sSeq (sIf (mOr (mB (mOp opNe (mFr (mCall m_first_error (mCons (mVar 4) (mCons (mIx (mVar 8) (mC (.int 1))) (mNil))))) (mIf (mB (mOp opNe (mVar 9) (mLst (mNil)))) (mIx (mVar 9) (mC (.int 0))) (mC .non)))) (mB (mOp opNotN (mFr (mCall m_first_error (mCons (mVar 4) (mCons (mIx (mVar 8) (mC (.int 0))) (mNil))))) (mC .non)))) (sRet (mC (.bl false))) (sNext)) (c_k36_law_2)
noncomputable def c_k36_law_4 : MSt := sSeq (sIf (mAnd (mB (mOp opEq (mVar 9) (mLst (mNil)))) (mAnd (mB (mOp opNotN (mVar 6) (mC .non))) (mB (mOp opLt (mIx (mVar 6) (mC (.int 0))) (mC (.int 60)))))) (sRet (mC (.bl false))) (sNext)) (c_k36_law_3)
noncomputable def c_k36_law_5 : MSt := sSeq (sSet 8 (mLc [12] (.n 12) (iT (mTup (mCons (mVar 4) (mCons (mVar 5) (mNil))))) (mYes) (e_k36_law_2))) (sSeq (sSet 9 (mLc [10] (.n 10) (iR1 (mCons (mC (.int 60)) (mNil))) (i_k36_law_1) (e_k36_law_3))) (sSeq (sIf (mAnd (mB (mOp opNe (mVar 9) (mLst (mNil)))) (mB (mOp opNe (mVar 6) (mTup (mCons (mIx (mVar 9) (mC (.int 0))) (mCons (mIx (mIx (mVar 8) (mC (.int 0))) (mIx (mVar 9) (mC (.int 0)))) (mNil))))))) (sRet (mC (.bl false))) (sNext)) (c_k36_law_4)))
noncomputable def c_k36_law_6 : MSt := sSeq (sPar [4, 5] (mCons (mFr (mCall m_l_made (mCons (mVar 2) (mNil)))) (mCons (mFr (mCall m_l_made (mCons (mVar 3) (mNil)))) (mNil)))) (sSeq (sPar [6, 7] (mCons (mFr (mCall m_first_difference (mCons (mVar 4) (mCons (mVar 5) (mNil))))) (mCons (mFr (mCall m_first_difference (mCons (mVar 5) (mCons (mVar 4) (mNil))))) (mNil)))) (sSeq (sIf (mOr (mB (mOp opNe (mOp opIsN (mVar 6) (mC .non)) (mOp opIsN (mVar 7) (mC .non)))) (mAnd (mB (mOp opNotN (mVar 6) (mC .non))) (mB (mOp opNe (mVar 7) (mTup (mCons (mIx (mVar 6) (mC (.int 0))) (mCons (mNotV (mIx (mVar 6) (mC (.int 1)))) (mNil)))))))) (sRet (mC (.bl false))) (sNext)) (c_k36_law_5)))
noncomputable def b_k36_law : MSt := sSeq (sSet 1 (mCall m_l_random (mCons (mVar 0) (mCons (mC (.int 36)) (mNil))))) (sSeq (sPar [2, 3] (mCons (mFr (mCall m_l_parts (mCons (mVar 1) (mCons (mC (.int 4)) (mNil))))) (mCons (mFr (mCall m_l_parts (mCons (mVar 1) (mCons (mC (.int 4)) (mNil))))) (mNil)))) (sSeq (sIf (mB (mOp opEq (mFr (mCall m_l_below (mCons (mVar 1) (mCons (mC (.int 2)) (mNil))))) (mC (.int 0)))) (sSet 3 (mOp opAdd (mCut (mVar 2) (mNoPart) (mPart (mC (.int 2)))) (mTup (mCons (mOp opAdd (mC (.int 1)) (mFr (mCall m_l_below (mCons (mVar 1) (mCons (mC (.int 60)) (mNil)))))) (mCons (mCall bTuple (mCons (mFr (mCall m_l_shuffled (mCons (mVar 1) (mCons (mCall bList (mCons (mIx (mVar 2) (mC (.int 3))) (mNil))) (mNil))))) (mNil))) (mNil)))))) (sNext)) (c_k36_law_6)))
noncomputable abbrev m_k36_law : FnM := fnM 13 1 b_k36_law
end SL

set_option Elab.async false
set_option linter.all false
set_option maxRecDepth 100000
set_option maxHeartbeats 0
namespace SL
open PySem PySem.Spec PyProof.Rows L2
/-! law -/
def N_k34_law : List PySem.Str := ["_law_script", "_law_d", "_law_parts_here", "_law_others", "_law_stairs", "_law_other", "_law_third", "_law_one", "_law_words", "_law_k", "_law_code", "_law_line", "_law_row", "_law_word"]
noncomputable def f_k34_law_1 : MSt := sSeq (sIf (mOr (mB (mOp opNe (mTup (mCons (mFld .Stairs .top (mVar 7)) (mCons (mFld .Stairs .length (mVar 7)) (mCons (mFld .Stairs .time (mVar 7)) (mCons (mFr (mProp .Stairs m_Stairs_all_trips (mVar 7))) (mNil)))))) (mVar 2))) (mB (mOp opNe (mFr (mProp .Stairs m_Stairs_text (mVar 7))) (mFr (mProp .Stairs m_Stairs_text (mVar 4)))))) (sRet (mC (.bl false))) (sNext)) (sIf (mOr (mB (mOp opNe (mFr (mCall m_encode (mCons (mVar 7) (mNil)))) (mFr (mCall m_encode (mCons (mVar 4) (mNil)))))) (mB (mOp opNotN (mFr (mCall m_first_difference (mCons (mVar 7) (mCons (mVar 4) (mNil))))) (mC .non)))) (sRet (mC (.bl false))) (sNext))
noncomputable def e_k34_law_1 : M W := mBm "str" fSplit (mVar 11) (mCons (mC (.str " ")) (mNil))
noncomputable def e_k34_law_2 : M W := mIx (mVar 12) (mC (.int 0))
noncomputable def e_k34_law_3 : M W := mCall bIntS (mCons (mVar 13) (mNil))
noncomputable def f_k34_law_2 : MSt := sIf (mOr (mB (mOp opNe (mLc [13] (.n 13) (iL (mCut (mIx (mVar 8) (mOp opAdd (mVar 9) (mC (.int 1)))) (mPart (mC (.int 1))) (mPart (mC (.int 5))))) (mYes) (e_k34_law_3)) (mCall bList (mCons (mCut (mIx (mIx (mVar 2) (mC (.int 3))) (mVar 9)) (mNoPart) (mPart (mC (.int 4)))) (mNil))))) (mB (mOp opNe (mIx (mIx (mVar 8) (mOp opAdd (mVar 9) (mC (.int 1)))) (mC (.int 5))) (mIx (mIx (mIx (mVar 2) (mC (.int 3))) (mVar 9)) (mC (.int 4)))))) (sRet (mC (.bl false))) (sNext)
noncomputable def c_k34_law_1 : MSt := sSeq (sSet 10 (mFr (mCall m_encode (mCons (mVar 4) (mNil))))) (sSeq (sIf (mOr (mB (mOp opNe (mOp opMod (mCall bInt (mCons (mCall bSum (mCons (mCut (mVar 10) (mNoPart) (mPart (mNeg (mC (.int 1))))) (mNil))) (mNil))) (mC (.int 256))) (mIx (mVar 10) (mNeg (mC (.int 1)))))) (mB (mOp opNe (mCall bLen (mCons (mVar 10) (mNil))) (mOp opAdd (mC (.int 6)) (mOp opMul (mC (.int 5)) (mCall bLen (mCons (mIx (mVar 2) (mC (.int 3))) (mNil)))))))) (sRet (mC (.bl false))) (sNext)) (sRet (mOp opEq (mFr (mProp .Stairs m_Stairs_all_trips (mFr (mMeth .Stairs m_Stairs_with_trips (mVar 4) (mCons (mLst (mNil)) (mNil)))))) (mTup (mNil)))))
noncomputable def c_k34_law_2 : MSt := sSeq (sFor (.n 9) (iR1 (mCons (mCall bLen (mCons (mIx (mVar 2) (mC (.int 3))) (mNil))) (mNil))) (f_k34_law_2)) (c_k34_law_1)
noncomputable def c_k34_law_3 : MSt := sSeq (sIf (mB (mOp opNe (mLc [12] (.n 12) (iL (mCut (mVar 8) (mPart (mC (.int 1))) (mNoPart))) (mYes) (e_k34_law_2)) (mOp opMul (mLst (mCons (mC (.str "trip")) (mNil))) (mCall bLen (mCons (mIx (mVar 2) (mC (.int 3))) (mNil)))))) (sRet (mC (.bl false))) (sNext)) (c_k34_law_2)
noncomputable def c_k34_law_4 : MSt := sSeq (sSet 8 (mLc [11] (.n 11) (iL (mBm "str" fSplit (mFr (mProp .Stairs m_Stairs_text (mVar 4))) (mCons (mC (.str "\n")) (mNil)))) (mYes) (e_k34_law_1))) (sSeq (sIf (mOr (mB (mOp opNe (mIx (mVar 8) (mC (.int 0))) (mLst (mCons (mC (.str "stairs")) (mCons (mCall bStr (mCons (mIx (mVar 2) (mC (.int 0))) (mNil))) (mCons (mCall bStr (mCons (mIx (mVar 2) (mC (.int 1))) (mNil))) (mCons (mCall bStr (mCons (mIx (mVar 2) (mC (.int 2))) (mNil))) (mNil)))))))) (mB (mOp opNe (mCall bLen (mCons (mVar 8) (mNil))) (mOp opAdd (mC (.int 1)) (mCall bLen (mCons (mIx (mVar 2) (mC (.int 3))) (mNil))))))) (sRet (mC (.bl false))) (sNext)) (c_k34_law_3))
noncomputable def c_k34_law_5 : MSt := sSeq (sIf (mOr (mB (mOp opNe (mOp opEq (mFr (mProp .Stairs m_Stairs_text (mVar 4))) (mFr (mProp .Stairs m_Stairs_text (mVar 5)))) (mOp opEq (mVar 2) (mVar 3)))) (mB (mOp opNe (mOp opEq (mFr (mCall m_encode (mCons (mVar 4) (mNil)))) (mFr (mCall m_encode (mCons (mVar 5) (mNil))))) (mOp opEq (mVar 2) (mVar 3))))) (sRet (mC (.bl false))) (sNext)) (c_k34_law_4)
noncomputable def b_k34_law : MSt := sSeq (sSet 1 (mCall m_l_random (mCons (mVar 0) (mCons (mC (.int 34)) (mNil))))) (sSeq (sPar [2, 3] (mCons (mFr (mCall m_l_full (mCons (mVar 1) (mNil)))) (mCons (mFr (mCall m_l_full (mCons (mVar 1) (mNil)))) (mNil)))) (sSeq (sPar [4, 5] (mCons (mFr (mCall m_l_made (mCons (mVar 2) (mNil)))) (mCons (mFr (mCall m_l_made (mCons (mVar 3) (mNil)))) (mNil)))) (sSeq (sSet 6 (mFr (mMeth .Stairs m_Stairs_with_time (mFr (mMeth .Stairs m_Stairs_with_trips (mFr (mCall (newR .Stairs m_Stairs___init__) (mCons (mIx (mVar 2) (mC (.int 0))) (mCons (mIx (mVar 2) (mC (.int 1))) (mCons (mC (.int 1)) (mNil)))))) (mCons (mCall bList (mCons (mIx (mVar 2) (mC (.int 3))) (mNil))) (mNil)))) (mCons (mIx (mVar 2) (mC (.int 2))) (mNil))))) (sSeq (sFor (.n 7) (iT (mTup (mCons (mFr (mCall m_Stairs_parse (mCons (mC (.cls .Stairs)) (mCons (mFr (mProp .Stairs m_Stairs_text (mVar 4))) (mNil))))) (mCons (mFr (mCall m_decode (mCons (mFr (mCall m_encode (mCons (mVar 4) (mNil)))) (mNil)))) (mCons (mVar 6) (mNil)))))) (f_k34_law_1)) (c_k34_law_5)))))
noncomputable abbrev m_k34_law : FnM := fnM 14 1 b_k34_law
end SL

set_option Elab.async false
set_option linter.all false
set_option maxRecDepth 100000
set_option maxHeartbeats 0
namespace SL
open PySem PySem.Spec PyProof.Rows L2
/-! law -/
def N_k15_law : List PySem.Str := ["_law_script", "_law_d", "_law_step", "_law_parts_here", "_law_rows", "_law_text", "_law_stairs", "_law_trip_here", "_law_row", "_law_word"]
noncomputable def e_k15_law_1 : M W := mOp opAdd (mTup (mCons (mC (.str "trip")) (mNil))) (mVar 7)
noncomputable def e_k15_law_2 : M W := mCall bStr (mCons (mVar 9) (mNil))
noncomputable def e_k15_law_3 : M W := mBm "str" fJoin (mC (.str " ")) (mCons (mLc [9] (.n 9) (iT (mVar 8)) (mYes) (e_k15_law_2)) (mNil))
noncomputable def f_k15_law_1 : MSt := sSeq (sSet 3 (mFr (mCall m_l_parts (mCons (mVar 1) (mCons (mC (.int 8)) (mNil)))))) (sSeq (sSet 4 (mOp opAdd (mLst (mCons (mOp opAdd (mTup (mCons (mC (.str "stairs")) (mNil))) (mCut (mVar 3) (mNoPart) (mPart (mC (.int 3))))) (mNil))) (mLc [7] (.n 7) (iT (mIx (mVar 3) (mC (.int 3)))) (mYes) (e_k15_law_1)))) (sSeq (sSet 5 (mBm "str" fJoin (mC (.str "\n")) (mCons (mLc [8] (.n 8) (iL (mVar 4)) (mYes) (e_k15_law_3)) (mNil)))) (sSeq (sSet 6 (mFr (mCall m_Stairs_parse (mCons (mC (.cls .Stairs)) (mCons (mVar 5) (mNil)))))) (sSeq (sIf (mNot (mB (mFr (mCall mr_l_equal (mCons (mLst (mCons (mFr (mProp .Stairs m_Stairs_text (mVar 6))) (mCons (mFr (mProp .Stairs m_Stairs_text (mFr (mCall m_l_made (mCons (mVar 3) (mNil)))))) (mNil)))) (mCons (mLst (mCons (mVar 5) (mCons (mVar 5) (mNil)))) (mNil))))))) (sRet (mC (.bl false))) (sNext)) (sIf (mNot (mB (mFr (mCall mr_l_equal (mCons (mLst (mCons (mFld .Stairs .top (mVar 6)) (mCons (mFld .Stairs .length (mVar 6)) (mCons (mFld .Stairs .time (mVar 6)) (mCons (mFr (mProp .Stairs m_Stairs_all_trips (mVar 6))) (mNil)))))) (mCons (mCall bList (mCons (mVar 3) (mNil))) (mNil))))))) (sRet (mC (.bl false))) (sNext))))))
noncomputable def b_k15_law : MSt := sSeq (sSet 1 (mCall m_l_random (mCons (mVar 0) (mCons (mC (.int 15)) (mNil))))) (sSeq (sFor (.n 2) (iR1 (mCons (mC (.int 5)) (mNil))) (f_k15_law_1)) (sRet (mC (.bl true))))
noncomputable abbrev m_k15_law : FnM := fnM 10 1 b_k15_law
end SL

set_option Elab.async false
set_option linter.all false
set_option maxRecDepth 100000
set_option maxHeartbeats 2000000
/-! texts of staircases -/
namespace SL
open PySem PySem.Spec PyProof.Rows L2
/-- a cell of a row: a number, a word -/
inductive Cel where
  | i (n : Int) | s (z : Str)
def cW : Cel → W
  | .i n => .int n
  | .s z => .str z
def num (n : Int) : Str := ((toString n : String) : Str)
def cS : Cel → Str
  | .i n => num n
  | .s z => z
def tls (z : Str) : List Nat := z.cps.toList
def goodB (z : Str) : Bool := decide (1 ≤ z.length) && decide (z.length ≤ 8) && (tls z).all fun x => decide (x < 128) && decide (x ≠ 32) && decide (x ≠ 10)
def smallC : Cel → Prop
  | .i n => 0 ≤ n ∧ n < 100
  | .s z => z = "stairs" ∨ z = "trip" ∨ habitOk z
theorem num_good : ∀ n : Nat, n < 100 → goodB (num (n : Int)) = true := by decide +kernel
theorem small_good {c : Cel} (h : smallC c) : goodB (cS c) = true := by
  cases c with
  | i n =>
    have h : 0 ≤ n ∧ n < 100 := h
    have := num_good n.toNat (by omega)
    rw [show ((n.toNat : Nat) : Int) = n by omega] at this
    exact this
  | s z =>
    rcases (show z = "stairs" ∨ z = "trip" ∨ habitOk z from h) with rfl | rfl | rfl | rfl | rfl <;> decide +kernel
theorem good_len {z : Str} (h : goodB z = true) : 1 ≤ z.length ∧ z.length ≤ 8 := by
  unfold goodB at h
  simp only [Bool.and_eq_true, decide_eq_true_eq] at h
  exact h.1
theorem good_all {z : Str} (h : goodB z = true) : ∀ x ∈ tls z, x < 128 ∧ x ≠ 32 ∧ x ≠ 10 := by
  unfold goodB at h
  simp only [Bool.and_eq_true, decide_eq_true_eq, List.all_eq_true] at h
  exact fun x hx => ⟨(h.2 x hx).1.1, (h.2 x hx).1.2, (h.2 x hx).2⟩
theorem num_len {n : Int} (h0 : 0 ≤ n) (h1 : n < 100) : n.natAbs.log2 < 1920 := by
  rcases Nat.eq_zero_or_pos n.natAbs with z | z
  · rw [z]
    decide
  · rw [Nat.log2_lt (by omega)]
    have : n.natAbs < 2 ^ 7 := by omega
    exact Nat.lt_of_lt_of_le this (Nat.pow_le_pow_right (by decide) (by decide))
section
variable {S : Sto}
theorem bStr_cel {c : Cel} (h : smallC c) : bStr [cW c] S = .ok (.str (cS c)) S := by
  cases c with
  | i n =>
    have h : 0 ≤ n ∧ n < 100 := h
    exact if_pos (num_len h.1 h.2)
  | s z => rfl
theorem fJoin_map {α : Type} (f : α → Str) (xs : List α) (sep : Str) (h : (xs.map fun a => (f a).length).sum + xs.length * sep.length ≤ 16777216) : fJoin [.str sep, .lst (xs.map fun a => W.str (f a))] S = .ok (.str (Txt.join sep (xs.map f))) S := by
  unfold fJoin
  dsimp only
  rw [getQ_lst]
  dsimp only
  have e : xs.map (fun a => W.str (f a)) = (xs.map f).map W.str := by rw [List.map_map]; rfl
  rw [e, strsOf_map]
  dsimp only
  rw [if_pos]
  rw [List.map_map, List.length_map]
  exact h
end
abbrev RowC := List Cel
def lineS (r : RowC) : Str := Txt.join " " (r.map cS)
def rowTr (t : Tr) : RowC := [.s "trip", .i t.start, .i t.source, .i t.target, .i t.pace, .s t.habit]
def rowsC (p : Pt) : List RowC := [.s "stairs", .i p.top, .i p.length, .i p.time] :: p.trips.map rowTr
def textS (p : Pt) : Str := Txt.join "\n" ((rowsC p).map lineS)
def rowW (r : RowC) : W := .tup (r.map cW)
theorem sum_le {α : Type} (f : α → Nat) (m : Nat) : ∀ xs : List α, (∀ x ∈ xs, f x ≤ m) → (xs.map f).sum ≤ xs.length * m
  | [], _ => Nat.zero_le _
  | x :: xs, h => by
    have := sum_le f m xs fun y hy => h y (List.mem_cons_of_mem _ hy)
    have := h x List.mem_cons_self
    rw [List.map_cons, List.sum_cons, List.length_cons, Nat.add_mul]
    omega
theorem rows_small {p : Pt} (ok : p.Ok) : ∀ r ∈ rowsC p, r.length ≤ 6 ∧ 1 ≤ r.length ∧ ∀ c ∈ r, smallC c := fun r hr => by
  have t0 := ok.t0
  have t1 := ok.t1
  have l0 := ok.l0
  have l1 := ok.l1
  have m0 := ok.m0
  have m1 := ok.m1
  rcases List.mem_cons.mp hr with rfl | hr
  · refine ⟨by simp, by simp, fun c hc => ?_⟩
    simp only [List.mem_cons, List.not_mem_nil, or_false] at hc
    rcases hc with rfl | rfl | rfl | rfl
    · exact .inl rfl
    · exact ⟨by omega, by omega⟩
    · exact ⟨by omega, by omega⟩
    · exact ⟨by omega, by omega⟩
  · obtain ⟨t, ht, rfl⟩ := List.mem_map.mp hr
    have o := ok.ok t ht
    have := o.s0
    have := o.s1
    have := o.a0
    have := o.a1
    have := o.b0
    have := o.b1
    have := o.p0
    have := o.p1
    refine ⟨by simp [rowTr], by simp [rowTr], fun c hc => ?_⟩
    simp only [rowTr, List.mem_cons, List.not_mem_nil, or_false] at hc
    rcases hc with rfl | rfl | rfl | rfl | rfl | rfl
    · exact .inr (.inl rfl)
    · exact ⟨by omega, by omega⟩
    · exact ⟨by omega, by omega⟩
    · exact ⟨by omega, by omega⟩
    · exact ⟨by omega, by omega⟩
    · exact .inr (.inr o.hb)
theorem line_fit {r : RowC} (h : r.length ≤ 6) (hs : ∀ c ∈ r, smallC c) : (r.map fun c => (cS c).length).sum + r.length * (" " : Str).length ≤ 16777216 ∧ (lineS r).length ≤ 100 := by
  have h1 := sum_le (fun c => (cS c).length) 8 r fun c hc => (good_len (small_good (hs c hc))).2
  have e : (" " : Str).length = 1 := by decide +kernel
  have h2 := StrLaws.join_length_le " " (r.map cS)
  rw [List.map_map, List.length_map, e] at h2
  have h3 : (lineS r).length = (Str.join " " (r.map cS)).length := by
    unfold lineS
    rw [TL.join_eq]
  have h4 : (r.map ((fun x => x.length) ∘ cS)).sum = (r.map fun c => (cS c).length).sum := rfl
  rw [h4] at h2
  rw [e, h3]
  omega
section
variable {p : Pt} {S : Sto}
theorem run_text (ok : p.Ok) : m_Stairs_text [wS p] S = .ok (.str (textS p)) S := by
  have hn := ok.n
  have hsm := rows_small ok
  have e1 : ∀ (x1 x3 x4 : Option W) U, mLc [2] (.n 2) (iL (mFld .Stairs .trips (mVar 0))) mYes e_Stairs_text_1 [some (wS p), x1, none, x3, x4] U = .ok (.lst (p.trips.map fun t => rowW (rowTr t))) U := fun x1 x3 x4 U => by
    refine mLc_map wT (fun t => rowW (rowTr t)) p.trips (by simp) (by decide) (fun t ht => ⟨_, rfl, fun U => ?_⟩) (fun _ _ => rfl) (by omega)
    have e5 : ∀ U, frR U (noX (m_Trip_parts [wT t] U)) = .ok (wTt t) U := fun U => by
      rw [run_parts_of, noX_ok]
      exact frR_nols (nol_le nol_wTt (by omega))
    have e6 : getQ U (wTt t) = some [.int t.start, .int t.source, .int t.target, .int t.pace, .str t.habit] := rfl
    simp -implicitDefEqProofs [e_Stairs_text_1, wipeR, e5, e6]
    rfl
  have inner : ∀ (r : RowC), r ∈ rowsC p → ∀ (x0 x1 x2 : Option W) U, e_Stairs_text_3 [x0, x1, x2, some (rowW r), none] U = .ok (.str (lineS r)) U := fun r hr x0 x1 x2 U => by
    obtain ⟨h6, _, hc⟩ := hsm r hr
    have l1 : ∀ U, mLc [4] (.n 4) (iT (mVar 3)) mYes e_Stairs_text_2 [x0, x1, x2, some (rowW r), none] U = .ok (.lst (r.map fun c => W.str (cS c))) U := fun U => by
      refine mLc_map cW (fun c => W.str (cS c)) r (by simp [rowW]) (by decide) (fun c hcr => ⟨_, rfl, fun U => ?_⟩) (fun _ _ => rfl) (by omega)
      simp -implicitDefEqProofs [e_Stairs_text_2, wipeR, bStr_cel (hc c hcr)]
    have hrv : ∀ U, recvOk "str" U (.str " ") = true := fun U => rfl
    have j1 : ∀ U, fJoin [.str " ", .lst (r.map fun c => W.str (cS c))] U = .ok (.str (lineS r)) U := fun U => fJoin_map cS r " " (line_fit h6 hc).1
    simp -implicitDefEqProofs [e_Stairs_text_3, l1, hrv, j1]
  have l2 : ∀ (x0 x2 : Option W) U, mLc [3] (.n 3) (iL (mVar 1)) mYes e_Stairs_text_3 [x0, some (.lst ((rowsC p).map rowW)), x2, none, none] U = .ok (.lst ((rowsC p).map fun r => W.str (lineS r))) U := fun x0 x2 U => by
    refine mLc_map rowW (fun r => W.str (lineS r)) (rowsC p) (by simp) (by decide) (fun r hr => ⟨_, rfl, fun U => ?_⟩) (fun _ _ => rfl) (by simp [rowsC]; omega)
    exact inner r hr _ _ _ U
  have j2 : ∀ U, fJoin [.str "\n", .lst ((rowsC p).map fun r => W.str (lineS r))] U = .ok (.str (textS p)) U := fun U => fJoin_map lineS (rowsC p) "\n" (by
    have h1 := sum_le (fun r => (lineS r).length) 100 (rowsC p) fun r hr => (line_fit (hsm r hr).1 (hsm r hr).2.2).2
    have h2 : (rowsC p).length ≤ 9 := by simp [rowsC]; omega
    have e : ("\n" : Str).length = 1 := by decide +kernel
    rw [e]
    omega)
  have a1 : ∀ U, opAdd (.lst [.tup [.str "stairs", .int p.top, .int p.length, .int p.time]]) (.lst (p.trips.map fun t => rowW (rowTr t))) U = .ok (.lst ((rowsC p).map rowW)) U := fun U => by
    rw [opAdd_lst (by simp; omega)]
    unfold rowsC
    rw [List.map_cons, List.map_map]
    rfl
  have hrv : ∀ U, recvOk "str" U (.str "\n") = true := fun U => rfl
  refine (fnM_ev rfl).trans ?_
  simp -implicitDefEqProofs [b_Stairs_text, e1, a1, l2, hrv, j2]
theorem text_prop (ok : p.Ok) : frR S (noX (m_Stairs_text [wS p] S)) = .ok (.str (textS p)) S := by rw [run_text ok, noX_ok, frR_str]
end
end SL

set_option Elab.async false
set_option linter.all false
set_option maxRecDepth 100000
set_option maxHeartbeats 0
namespace SL
open PySem PySem.Spec PyProof.Rows L2
/-! law -/
def N_k17_law : List PySem.Str := ["_law_script", "_law_d", "_law_step", "_law_parts_here", "_law_expected", "_law_trip_here", "_law_again", "_law_code"]
noncomputable def f_k17_law_1 : MSt := sSet 4 (mOp opAddC (mOp opAdd (mVar 4) (mCall bList (mCons (mCut (mVar 5) (mNoPart) (mPart (mC (.int 4)))) (mNil)))) (mLst (mCons (mBm "list" fIndex (mLst (mCons (mC (.str "dark")) (mCons (mC (.str "always")) (mCons (mC (.str "never")) (mNil))))) (mCons (mIx (mVar 5) (mC (.int 4))) (mNil))) (mNil))))
noncomputable def f_k17_law_2 : MSt := sSeq (sSet 7 (mCall m_encode (mCons (mFr (mCall m_l_made (mCons (mVar 3) (mNil)))) (mNil)))) (sSeq (sIf (mOr (mNot (mB (mFr (mCall mr_l_equal (mCons (mVar 7) (mCons (mVar 4) (mNil))))))) (mOr (mB (mOp opNe (mFr (mProp .Stairs m_Stairs_text (mFr (mCall m_decode (mCons (mVar 7) (mNil)))))) (mFr (mProp .Stairs m_Stairs_text (mFr (mCall m_l_made (mCons (mVar 3) (mNil)))))))) (mB (mOp opNe (mVar 7) (mVar 4))))) (sRet (mC (.bl false))) (sNext)) (sExpr (mBm "list" fAppend (mVar 7) (mCons (mC (.int 0)) (mNil)))))
noncomputable def c_k17_law_1 : MSt := sSeq (sExpr (mBm "list" fAppend (mVar 4) (mCons (mOp opMod (mCall bSum (mCons (mVar 4) (mNil))) (mC (.int 256))) (mNil)))) (sFor (.n 6) (iR1 (mCons (mC (.int 2)) (mNil))) (f_k17_law_2))
noncomputable def f_k17_law_3 : MSt := sSeq (sSet 3 (mFr (mCall m_l_parts (mCons (mVar 1) (mCons (mC (.int 8)) (mNil)))))) (sSeq (sSet 4 (mOp opAddC (mOp opAdd (mLst (mCons (mC (.int 83)) (mNil))) (mCall bList (mCons (mCut (mVar 3) (mNoPart) (mPart (mC (.int 3)))) (mNil)))) (mLst (mCons (mCall bLen (mCons (mIx (mVar 3) (mC (.int 3))) (mNil))) (mNil))))) (sSeq (sFor (.n 5) (iT (mIx (mVar 3) (mC (.int 3)))) (f_k17_law_1)) (c_k17_law_1)))
noncomputable def b_k17_law : MSt := sSeq (sSet 1 (mCall m_l_random (mCons (mVar 0) (mCons (mC (.int 17)) (mNil))))) (sSeq (sFor (.n 2) (iR1 (mCons (mC (.int 4)) (mNil))) (f_k17_law_3)) (sRet (mC (.bl true))))
noncomputable abbrev m_k17_law : FnM := fnM 8 1 b_k17_law
end SL

set_option Elab.async false
set_option linter.all false
set_option maxRecDepth 100000
set_option maxHeartbeats 2000000
/-! staircases read from lists of bytes -/
namespace SL
open PySem PySem.Spec PyProof.Rows L2
/-- cw is the list L -/
def CodeAt (U : Sto) (cw : W) (L : List Int) : Prop := cw = .lst (L.map W.int) ∨ ∃ n, cw = .loc n ∧ U[n]? = some (.lst (L.map W.int))
section
variable {U : Sto} {cw : W} {L : List Int}
theorem CodeAt.app (h : CodeAt U cw L) (T : Sto) : CodeAt (U ++ T) cw L := by
  rcases h with h | ⟨n, h, q⟩
  · exact .inl h
  · refine .inr ⟨n, h, ?_⟩
    rw [List.getElem?_append_left (List.getElem?_eq_some_iff.mp q).1]
    exact q
theorem CodeAt.set (h : CodeAt U cw L) {R : Nat} {c : Cl} {xs : List W} {d : Ce} (hR : U[R]? = some (.ins c xs)) : CodeAt (U.set R d) cw L := by
  rcases h with h | ⟨n, h, q⟩
  · exact .inl h
  · refine .inr ⟨n, h, ?_⟩
    have : R ≠ n := fun e => by
      rw [e, q] at hR
      cases hR
    rw [List.getElem?_set_ne this]
    exact q
theorem CodeAt.getL (h : CodeAt U cw L) : getL U cw = some (L.map W.int) := by
  rcases h with rfl | ⟨n, rfl, q⟩
  · rfl
  · rw [getL_loc, q]
    rfl
theorem CodeAt.isi (h : CodeAt U cw L) : bIsi [cw, .ty "list"] U = .ok (.bl true) U := by
  rcases h with rfl | ⟨n, rfl, q⟩
  · exact isi_lst_list
  · rw [isi_loc_list, q]
    rfl
theorem CodeAt.len (h : CodeAt U cw L) : bLen [cw] U = .ok (.int L.length) U := by
  rcases h with rfl | ⟨n, rfl, q⟩
  · simp
  · simp [q]
theorem CodeAt.ix (h : CodeAt U cw L) {k : Nat} {b : Int} (hk : L[k]? = some b) : opIx cw (.int (k : Int)) U = .ok (.int b) U := by
  rcases h with rfl | ⟨n, rfl, q⟩
  · simp [hk]
  · simp [q, hk]
theorem CodeAt.cut (h : CodeAt U cw L) (k : Nat) : opCut none (some (k : Int)) cw U = .ok (.lst ((L.take k).map W.int)) U := by
  have : opCut none (some (k : Int)) cw U = .ok (.lst (cutX (L.map W.int) none (some (k : Int)))) U := by
    rcases h with rfl | ⟨n, rfl, q⟩
    · rfl
    · show (match SL.getL U (.loc n) with | some xs => Res.ok (W.lst (cutX xs none (some (k : Int)))) U | none => .stuck) = _
      rw [getL_loc, q]
      rfl
  rw [this, cut_to _ (by omega), Int.toNat_natCast, List.map_take]
theorem CodeAt.recv (h : CodeAt U cw L) : recvOk "list" U cw = true := by
  rcases h with rfl | ⟨n, rfl, q⟩
  · rfl
  · rw [recv_loc, q]
end
def rdr (cw : W) (k : Nat) : Ce := .ins .Reader [cw, .int (k : Int)]
section
variable {U : Sto} {cw : W} {L : List Int} {R k : Nat}
theorem run_read (h : CodeAt U cw L) (hR : U[R]? = some (rdr cw k)) {b lo hi : Int} (hk : L[k]? = some b) (h0 : lo ≤ b) (h1 : b ≤ hi) : m_Reader_read_byte [.loc R, .int lo, .int hi] U = .ok (.int b) (U.set R (rdr cw (k + 1))) := by
  have hlt : k < L.length := (List.getElem?_eq_some_iff.mp hk).1
  have hRl : R < U.length := (List.getElem?_eq_some_iff.mp hR).1
  have hne : ¬ (k : Int) = (L.length : Int) := by omega
  have hne' : ¬ k = L.length := by omega
  have i1 : frR U (m_is_int_in [.int b, .int lo, .int hi] U) = .ok (.bl true) U := by rw [run_in h0 h1, frR_bl]
  have hs : CodeAt (U.set R (rdr cw (k + 1))) cw L := h.set hR
  have hix := hs.ix hk
  have hR2 : (U.set R (rdr cw (k + 1)))[R]? = some (rdr cw (k + 1)) := List.getElem?_set_self hRl
  have hci : ci .Reader (some (rdr cw k)) = some [cw, .int (k : Int)] := rfl
  have hci2 : ci .Reader (some (rdr cw (k + 1))) = some [cw, .int ((k : Int) + 1)] := rfl
  have hfo : Ce.ins .Reader [cw, .int ((k : Int) + 1)] = rdr cw (k + 1) := rfl
  refine (fnM_ev rfl).trans ?_
  simp -implicitDefEqProofs [b_Reader_read_byte, fld_ev, hR, hci, h.len, hne, hne', h.ix hk, i1, hfo, hR2, hci2, hix]
theorem run_read_trip (h : CodeAt U cw L) (hR : U[R]? = some (rdr cw k)) {top length : Int} {t : Tr} (tok : t.Ok top length) {rest : List Int} (hk : L.drop k = codeT t ++ rest) : m_Reader_read_trip [.loc R, .int top, .int length] U = .ok (wTt t) (U.set R (rdr cw (k + 5))) := by
  have hRl : R < U.length := (List.getElem?_eq_some_iff.mp hR).1
  have at_ : ∀ j, L[k + j]? = (codeT t ++ rest)[j]? := fun j => by rw [← hk, List.getElem?_drop]
  have hc : habitOk t.habit := tok.hb
  have hh : 0 ≤ hnum t.habit ∧ hnum t.habit ≤ 2 ∧ ∀ V, opIx (.ktup [.str "dark", .str "always", .str "never"]) (.int (hnum t.habit)) V = .ok (.str t.habit) V := by
    rcases hc with e | e | e
    · rw [e]
      exact ⟨by decide +kernel, by decide +kernel, fun V => by
        rw [show hnum "dark" = 0 by decide +kernel]
        rfl⟩
    · rw [e]
      exact ⟨by decide +kernel, by decide +kernel, fun V => by
        rw [show hnum "always" = 1 by decide +kernel]
        rfl⟩
    · rw [e]
      exact ⟨by decide +kernel, by decide +kernel, fun V => by
        rw [show hnum "never" = 2 by decide +kernel]
        rfl⟩
  obtain ⟨hh0, hh1, hh2⟩ := hh
  have s1 := tok.s1
  have step : ∀ (j : Nat) (b lo hi : Int), (codeT t ++ rest)[j]? = some b → lo ≤ b → b ≤ hi → m_Reader_read_byte [.loc R, .int lo, .int hi] (U.set R (rdr cw (k + j))) = .ok (.int b) (U.set R (rdr cw (k + j + 1))) := fun j b lo hi hb h0 h1 => by
    have := run_read (U := U.set R (rdr cw (k + j))) (R := R) (k := k + j) (h.set hR) (List.getElem?_set_self hRl) (b := b) (lo := lo) (hi := hi) (by rw [at_]; exact hb) h0 h1
    rw [List.set_set] at this
    exact this
  have u0 : U.set R (rdr cw (k + 0)) = U := by
    rw [Nat.add_zero]
    have : U[R]'hRl = rdr cw k := by
      rw [List.getElem?_eq_getElem hRl] at hR
      exact Option.some.inj hR
    rw [← this, List.set_getElem_self]
  have r0 := step 0 t.start 0 (length - 1) rfl tok.s0 (by omega)
  rw [u0] at r0
  have r1 := step 1 t.source 0 top rfl tok.a0 tok.a1
  have r2 := step 2 t.target 0 top rfl tok.b0 tok.b1
  have r3 := step 3 t.pace 1 5 rfl tok.p0 tok.p1
  have r4 := step 4 (hnum t.habit) 0 2 rfl hh0 hh1
  have hg : ∀ j, getO .Reader (U.set R (rdr cw j)) (.loc R) = some [cw, .int (j : Int)] := fun j => by
    rw [getO_loc, List.getElem?_set_self hRl]
    rfl
  have hg0 : getO .Reader U (.loc R) = some [cw, .int (k : Int)] := by
    rw [getO_loc, hR]
    rfl
  have hne : ¬ t.target = t.source := fun e => tok.ne e.symm
  have hl3 : ∀ V, bLen [.ktup [.str "dark", .str "always", .str "never"]] V = .ok (.int 3) V := fun V => rfl
  refine (fnM_ev rfl).trans ?_
  simp -implicitDefEqProofs [b_Reader_read_trip, -getO_loc, hg0, hg, r0, r1, r2, r3, r4, hne, hl3, hh2]
  rfl
end
section
variable {S : Sto} {cw : W} {L : List Int}
theorem dec_trips (h : CodeAt S cw L) {top length : Int} (x0 x4 x5 x6 : Option W) : ∀ (xs : List W) (ts : List Tr) (k : Nat) (acc : List Tr) (rest : List Int), xs.length = ts.length → (∀ t ∈ ts, t.Ok top length) → L.drop k = codeTs ts ++ rest → acc.length + ts.length < 1000 →
    lcGo (.n 7) mYes e_decode_1 (S.length + 1) xs [x0, some (.loc S.length), some (.int top), some (.int length), x4, x5, x6, none] (S ++ [rdr cw k, .lst (acc.map wTt)]) = .ok (S.length + 1) (S ++ [rdr cw (k + 5 * ts.length), .lst ((acc ++ ts).map wTt)])
  | [], [], k, acc, rest, _, _, _, _ => by simp [lcGo]
  | x :: xs, t :: ts, k, acc, rest, hl, hok, hd, hs => by
    simp only [List.length_cons] at hl hs
    have hd2 : L.drop k = codeT t ++ (codeTs ts ++ rest) := by
      rw [hd]
      simp [codeTs]
    have hd3 : L.drop (k + 5) = codeTs ts ++ rest := by
      rw [← List.drop_drop, hd2]
      rfl
    have ih := dec_trips h x0 x4 x5 x6 xs ts (k + 5) (acc ++ [t]) rest (by omega) (fun u hu => hok u (List.mem_cons_of_mem _ hu)) hd3 (by simp; omega)
    have e1 := run_read_trip (U := S ++ [rdr cw k, .lst (acc.map wTt)]) (R := S.length) (k := k) (h.app _) (by simp) (hok t List.mem_cons_self) hd2
    rw [set_app0] at e1
    have hg : getO .Reader (S ++ [rdr cw k, .lst (acc.map wTt)]) (.loc S.length) = some [cw, .int (k : Int)] := by
      rw [getO_loc, at_app0]
      rfl
    have he : e_decode_1 [x0, some (.loc S.length), some (.int top), some (.int length), x4, x5, x6, some x] (S ++ [rdr cw k, .lst (acc.map wTt)]) = .ok (wTt t) (S ++ [rdr cw (k + 5), .lst (acc.map wTt)]) := by
      simp -implicitDefEqProofs [e_decode_1, -getO_loc, hg, e1]
    unfold lcGo lcTurn
    rw [run_n]
    dsimp only [List.set_cons_succ, List.set_cons_zero]
    rw [show mYes [x0, some (.loc S.length), some (.int top), some (.int length), x4, x5, x6, some x] (S ++ [rdr cw k, .lst (acc.map wTt)]) = .ok true _ from rfl]
    dsimp only
    rw [he]
    dsimp only
    rw [at_app 1]
    dsimp only [List.getElem?_cons_succ, List.getElem?_cons_zero]
    rw [if_pos (by rw [List.length_map]; omega), set_app 1]
    dsimp only [List.set_cons_succ, List.set_cons_zero]
    have e3 : acc.map wTt ++ [wTt t] = (acc ++ [t]).map wTt := by simp
    rw [e3, ih]
    simp [Nat.mul_add, Nat.add_assoc, Nat.add_comm]
  | [], _ :: _, _, _, _, hl, _, _, _ => by simp at hl
  | _ :: _, [], _, _, _, hl, _, _, _ => by simp at hl
end
end SL

set_option Elab.async false
set_option linter.all false
set_option maxRecDepth 100000
set_option maxHeartbeats 2000000
namespace SL
open PySem PySem.Spec PyProof.Rows L2
section
variable {p : Pt} {S : Sto} {cw : W}
theorem new_Reader : newR .Reader m_Reader___init__ [cw] S = .ok (.loc S.length) (S ++ [rdr cw 0]) := by
  unfold newR
  have key : m_Reader___init__ [.loc S.length, cw] (S ++ [.ins .Reader []]) = .ok .non (S ++ [rdr cw 0]) := by
    refine (fnM_ev rfl).trans ?_
    simp [b_Reader___init__]
    rfl
  rw [key]
theorem CodeAt.clo (h : CodeAt S cw (enc p)) : clo (S.length + 1) cw = true := by
  rcases h with rfl | ⟨n, rfl, q⟩
  · have := clos_nol (n := S.length + 1) (k := 1) (xs := (enc p).map W.int) (by rw [List.all_map]; exact List.all_eq_true.mpr fun _ _ => rfl)
    unfold SL.clo
    exact this
  · have := (List.getElem?_eq_some_iff.mp q).1
    unfold SL.clo
    exact decide_eq_true (by omega)
theorem dec_list (h : CodeAt S cw (enc p)) (ok : p.Ok) (x0 x4 x5 x6 : Option W) : mLc [7] (.n 7) (iR1 (mCons (mMeth .Reader m_Reader_read_byte (mVar 1) (mCons (mC (.int 0)) (mCons (mC (.int 8)) mNil))) mNil)) mYes e_decode_1 [x0, some (.loc S.length), some (.int p.top), some (.int p.length), x4, x5, x6, none] (S ++ [rdr cw 4]) =
    .ok (.lst (p.trips.map wTt)) (S ++ [rdr cw (5 + 5 * p.trips.length)]) := by
  have hn := ok.n
  have hg : getO .Reader (S ++ [rdr cw 4]) (.loc S.length) = some [cw, .int (4 : Nat)] := by
    rw [getO_loc, at_app0]
    rfl
  have hr := run_read (U := S ++ [rdr cw 4]) (R := S.length) (k := 4) (h.app _) (by simp) (b := (p.trips.length : Int)) (lo := 0) (hi := 8) rfl (by omega) (by omega)
  rw [set_app0] at hr
  have hi : iR1 (mCons (mMeth .Reader m_Reader_read_byte (mVar 1) (mCons (mC (.int 0)) (mCons (mC (.int 8)) mNil))) mNil) [x0, some (.loc S.length), some (.int p.top), some (.int p.length), x4, x5, x6, none] (S ++ [rdr cw 4]) = .ok (rngW 0 1 p.trips.length) (S ++ [rdr cw 5]) := by
    simp -implicitDefEqProofs [-getO_loc, hg, hr, itR1_len (show p.trips.length < 1000000 by omega)]
  have hd : (enc p).drop 5 = codeTs p.trips ++ [sumI (encB p) % 256] := rfl
  have hlc := dec_trips (S := S) h (top := p.top) (length := p.length) x0 x4 x5 x6 (rngW 0 1 p.trips.length) p.trips 5 [] _ (by rw [rngW_len]) ok.ok hd (by simp; omega)
  rw [List.map_nil, List.nil_append] at hlc
  have hlen : (S ++ [rdr cw 5]).length = S.length + 1 := by simp
  unfold mLc
  rw [hi]
  dsimp only
  rw [if_pos (by decide), hlen, List.append_assoc]
  rw [show wipeR [x0, some (.loc S.length), some (.int p.top), some (.int p.length), x4, x5, x6, none] [7] = [x0, some (.loc S.length), some (.int p.top), some (.int p.length), x4, x5, x6, none] from rfl]
  rw [show (S ++ ([rdr cw 5] ++ [Ce.lst []]) : Sto) = S ++ [rdr cw 5, .lst []] from rfl]
  rw [hlc]
  dsimp only
  have hat : (S ++ [rdr cw (5 + 5 * p.trips.length), .lst (p.trips.map wTt)])[S.length + 1]? = some (.lst (p.trips.map wTt)) := by simp
  rw [hat]
  dsimp only
  have hk : Kept (S ++ [rdr cw 5]) (S ++ [rdr cw (5 + 5 * p.trips.length), .lst (p.trips.map wTt)]) := by
    refine ⟨by simp, fun n c hn hc => ?_⟩
    rw [hlen] at hn ⊢
    by_cases e : n = S.length
    · subst e
      rw [at_app0] at hc
      cases hc
      refine .inr ?_
      have := h.clo
      show clos (S.length + 1) [cw, .int _] = true
      unfold clos
      rw [this]
      rfl
    · refine .inl ?_
      rw [List.getElem?_append_left (by omega)] at hc ⊢
      exact hc
  rw [if_pos ⟨by simp, clos_nol (k := 2) (by rw [List.all_map]; exact List.all_eq_true.mpr fun _ _ => nol_wTt), hk⟩]
  congr 1
  have : (S ++ [rdr cw (5 + 5 * p.trips.length), .lst (p.trips.map wTt)]) = (S ++ [rdr cw (5 + 5 * p.trips.length)]) ++ [.lst (p.trips.map wTt)] := by simp
  rw [this, List.take_append_of_le_length (by simp), List.take_of_length_le (by simp)]
theorem run_decode (h : CodeAt S cw (enc p)) (ok : p.Ok) : frR S (m_decode [cw] S) = .ok (wS p) S := by
  have hn := ok.n
  have hE := enc_len p
  have hB := encB_len p
  have n1 : newR .Reader m_Reader___init__ [cw] S = .ok (.loc S.length) (S ++ [rdr cw 0]) := new_Reader
  have rd : ∀ (k : Nat) (b lo hi : Int), (enc p)[k]? = some b → lo ≤ b → b ≤ hi → m_Reader_read_byte [.loc S.length, .int lo, .int hi] (S ++ [rdr cw k]) = .ok (.int b) (S ++ [rdr cw (k + 1)]) := fun k b lo hi hb h0 h1 => by
    have := run_read (U := S ++ [rdr cw k]) (R := S.length) (k := k) (h.app _) (by simp) hb h0 h1
    rw [set_app0] at this
    exact this
  have r0 := rd 0 83 83 83 rfl (by omega) (by omega)
  have r1 := rd 1 p.top 1 9 rfl ok.t0 ok.t1
  have r2 := rd 2 p.length 1 48 rfl ok.l0 ok.l1
  have r3 := rd 3 p.time 1 60 rfl ok.m0 ok.m1
  have hl := dec_list h ok
  have hg : ∀ k, getO .Reader (S ++ [rdr cw k]) (.loc S.length) = some [cw, .int (k : Int)] := fun k => by
    rw [getO_loc, at_app0]
    rfl
  have htk : (enc p).take (5 + 5 * p.trips.length) = encB p := by
    unfold enc
    rw [List.take_append_of_le_length (by omega), List.take_of_length_le (by omega)]
  have hct : opCut none (some ((5 : Int) + 5 * (p.trips.length : Int))) cw (S ++ [rdr cw (5 + 5 * p.trips.length)]) = .ok (.lst ((encB p).map W.int)) (S ++ [rdr cw (5 + 5 * p.trips.length)]) := by
    have := (h.app [rdr cw (5 + 5 * p.trips.length)]).cut (5 + 5 * p.trips.length)
    rw [htk] at this
    exact this
  have hsum : ∀ U, bSum [.lst ((encB p).map W.int)] U = .ok (.int (sumI (encB p))) U := fun U => bSum_ev (by
    unfold getIs
    rw [getL_lst]
    exact intsOf_map _)
  have hchk : (enc p)[5 + 5 * p.trips.length]? = some (sumI (encB p) % 256) := by
    unfold enc
    rw [← hB, List.getElem?_append_right (Nat.le_refl _), Nat.sub_self]
    rfl
  have r5 := rd (5 + 5 * p.trips.length) (sumI (encB p) % 256) (sumI (encB p) % 256) (sumI (encB p) % 256) hchk (by omega) (by omega)
  have hln := (h.app [rdr cw (5 + 5 * p.trips.length + 1)]).len
  have hst : ∀ U, frR U (newR .Stairs m_Stairs___init__ (.int p.top :: .int p.length :: .int p.time :: p.trips.map wTt) U) = .ok (wS p) U := fun U => run_StairsF ok
  have hlt : ¬ ((5 : Int) + 5 * (p.trips.length : Int) + 1 < ((enc p).length : Int)) := by omega
  have key : m_decode [cw] S = .ok (wS p) (S ++ [rdr cw (5 + 5 * p.trips.length + 1)]) := by
    refine (fnM_ev rfl).trans ?_
    simp -implicitDefEqProofs [b_decode, h.isi, n1, -getO_loc, hg, r0, r1, r2, r3, hl, fld_ev, hct, hsum, r5, hln, hlt, hst]
  rw [key]
  exact frR_nol (nol_le nol_wS (by omega))
end
end SL

set_option Elab.async false
set_option linter.all false
set_option maxRecDepth 100000
set_option maxHeartbeats 4000000
namespace SL
open PySem PySem.Spec PyProof.Rows L2
section
variable {p : Pt} {S : Sto}
theorem strs_lay {z : Str} (h : (tls z).all (fun x => decide (x < 128)) = true) : PyData.canLay0 (.str z) = true := by
  unfold PyData.canLay0
  show z.cps.all (· < 0x110000) = true
  rw [Array.all_eq_true_iff_forall_mem]
  intro x hx
  have := List.all_eq_true.mp h x (by unfold tls; exact Array.mem_toList_iff.mpr hx)
  have := of_decide_eq_true this
  exact decide_eq_true (by omega)
theorem join_all (P : Nat → Prop) {sep : Str} (hs : ∀ x ∈ tls sep, P x) : ∀ {zs : List Str}, (∀ z ∈ zs, ∀ x ∈ tls z, P x) → ∀ x ∈ tls (Txt.join sep zs), P x := by
  have key : ∀ zs : List (List Nat), (∀ z ∈ zs, ∀ x ∈ z, P x) → ∀ x ∈ TL.joinL (tls sep) zs, P x := by
    intro zs
    induction zs with
    | nil => intro _ x hx; simp [TL.joinL] at hx
    | cons a r ih =>
      intro h x hx
      cases r with
      | nil => exact h a List.mem_cons_self x (by simpa [TL.joinL] using hx)
      | cons b r =>
        have hx : x ∈ a ++ (tls sep ++ TL.joinL (tls sep) (b :: r)) := hx
        rcases List.mem_append.mp hx with hx | hx
        · exact h a List.mem_cons_self x hx
        · rcases List.mem_append.mp hx with hx | hx
          · exact hs x hx
          · exact ih (fun z hz => h z (List.mem_cons_of_mem _ hz)) x hx
  intro zs h x hx
  rw [TL.join_eq] at hx
  have hx : x ∈ TL.tl (Str.join sep zs) := hx
  rw [TL.tl_join] at hx
  refine key _ (fun z hz => ?_) x hx
  obtain ⟨y, hy, rfl⟩ := List.mem_map.mp hz
  exact h y hy
theorem line_all (ok : p.Ok) : ∀ z ∈ (rowsC p).map lineS, ∀ x ∈ tls z, x < 128 ∧ x ≠ 10 := fun z hz => by
  obtain ⟨r, hr, rfl⟩ := List.mem_map.mp hz
  obtain ⟨_, _, hc⟩ := rows_small ok r hr
  refine join_all (fun x => x < 128 ∧ x ≠ 10) (by decide +kernel) fun z hz => ?_
  obtain ⟨c, hcr, rfl⟩ := List.mem_map.mp hz
  have := good_all (small_good (hc c hcr))
  exact fun x hx => ⟨(this x hx).1, (this x hx).2.2⟩
theorem text_lay (ok : p.Ok) : PyData.canLay0 (.str (textS p)) = true := strs_lay (List.all_eq_true.mpr fun x hx => decide_eq_true (join_all (fun x => x < 128) (by decide +kernel) (fun z hz x hx => (line_all ok z hz x hx).1) x hx))
theorem opNe_self {a b : W} {d : PyData} (ha : dat (seeL S a) = some d) (hb : dat (seeL S b) = some d) (h : SeqAt.shaped d = true) : opNe a b S = .ok (.bl false) S := by
  have hc : d.canLay0 = true := by
    unfold SeqAt.shaped at h
    exact (Bool.and_eq_true_iff.mp h).1
  rw [opNe_ok ha hb h h, SeqAt.eqv_refl d hc]
  rfl
theorem see_ints {n : Nat} {ns : List Int} (h : S[n]? = some (.lst (ns.map W.int))) : dat (seeL S (.loc n)) = some (.list (ns.map PyData.int)) := by
  unfold seeL
  dsimp only
  rw [h]
  dsimp only
  simp [dat, dats_ints]
theorem k17_index {h : Str} (q : habitOk h) : fIndex [.lst [.str "dark", .str "always", .str "never"], .str h] S = .ok (.int (hnum h)) S := by
  rcases q with rfl | rfl | rfl
  · show (if (flatW (W.str "dark") && [W.str "dark", .str "always", .str "never"].all flatW) = true then (match [W.str "dark", .str "always", .str "never"].findIdx? (fun y => eqW y (W.str "dark")) with | some j => Res.ok (W.int (j : Nat)) S | none => .stuck) else .stuck) = _
    rw [if_pos (by rfl), show [W.str "dark", .str "always", .str "never"].findIdx? (fun y => eqW y (W.str "dark")) = some 0 by decide +kernel]
    rfl
  · show (if (flatW (W.str "always") && [W.str "dark", .str "always", .str "never"].all flatW) = true then (match [W.str "dark", .str "always", .str "never"].findIdx? (fun y => eqW y (W.str "always")) with | some j => Res.ok (W.int (j : Nat)) S | none => .stuck) else .stuck) = _
    rw [if_pos (by rfl), show [W.str "dark", .str "always", .str "never"].findIdx? (fun y => eqW y (W.str "always")) = some 1 by decide +kernel]
    rfl
  · show (if (flatW (W.str "never") && [W.str "dark", .str "always", .str "never"].all flatW) = true then (match [W.str "dark", .str "always", .str "never"].findIdx? (fun y => eqW y (W.str "never")) with | some j => Res.ok (W.int (j : Nat)) S | none => .stuck) else .stuck) = _
    rw [if_pos (by rfl), show [W.str "dark", .str "always", .str "never"].findIdx? (fun y => eqW y (W.str "never")) = some 2 by decide +kernel]
    rfl
theorem k17_loop {top length : Int} (x0 x1 x2 x3 x6 x7 : Option W) : ∀ (ts : List Tr) (acc : List Int) (U : Sto) (x5 : Option W), (∀ t ∈ ts, t.Ok top length) → acc.length + 5 * ts.length < 1000 → ∃ V y5,
    sForL (.n 5) f_k17_law_1 (ts.map wTt) [x0, x1, x2, x3, some (.loc U.length), x5, x6, x7] (U ++ [Ce.lst (acc.map W.int)]) = .ok (.nx [x0, x1, x2, x3, some (.loc (U ++ V).length), y5, x6, x7]) (U ++ V ++ [Ce.lst ((acc ++ codeTs ts).map W.int)])
  | [], acc, U, x5, _, _ => ⟨[], x5, by simp [codeTs]⟩
  | t :: ts, acc, U, x5, hok, hl => by
    simp only [List.length_cons] at hl
    obtain ⟨V, y5, e⟩ := k17_loop x0 x1 x2 x3 x6 x7 ts (acc ++ codeT t) (U ++ [Ce.lst (acc.map W.int)]) (some (wTt t)) (fun u hu => hok u (List.mem_cons_of_mem _ hu)) (by rw [List.length_append]; show acc.length + 5 + 5 * ts.length < 1000; omega)
    refine ⟨.lst (acc.map W.int) :: V, y5, ?_⟩
    have hi : ∀ V, fIndex [.lst [.str "dark", .str "always", .str "never"], .str t.habit] V = .ok (.int (hnum t.habit)) V := fun V => k17_index (hok t List.mem_cons_self).hb
    have h4 : ∀ V, opIx (wTt t) (.int 4) V = .ok (.str t.habit) V := fun V => rfl
    have a1 : ∀ V, opAdd (.loc U.length) (.lst [.int t.start, .int t.source, .int t.target, .int t.pace]) (U ++ Ce.lst (acc.map W.int) :: V) = .ok (.lst (acc.map W.int ++ [.int t.start, .int t.source, .int t.target, .int t.pace])) (U ++ Ce.lst (acc.map W.int) :: V) := fun V => by
      show (match SL.getL (U ++ Ce.lst (acc.map W.int) :: V) (.loc U.length), getL (U ++ Ce.lst (acc.map W.int) :: V) (.lst [.int t.start, .int t.source, .int t.target, .int t.pace]) with | some xs, some ys => if xs.length + ys.length ≤ 16000000 then Res.ok (W.lst (xs ++ ys)) (U ++ Ce.lst (acc.map W.int) :: V) else .stuck | _, _ => .stuck) = _
      rw [getL_loc, at_app0, cl_lst, getL_lst]
      dsimp only
      rw [if_pos (by simp; omega)]
    have a2 : ∀ V, opAddC (.lst (acc.map W.int ++ [.int t.start, .int t.source, .int t.target, .int t.pace])) (.lst [.int (hnum t.habit)]) V = .ok (.loc V.length) (V ++ [Ce.lst ((acc ++ codeT t).map W.int)]) := fun V => by
      rw [opAddC_lst (by simp; omega)]
      simp [codeT]
    have hb : f_k17_law_1 [x0, x1, x2, x3, some (.loc U.length), some (wTt t), x6, x7] (U ++ [Ce.lst (acc.map W.int)]) = .ok (.nx [x0, x1, x2, x3, some (.loc (U ++ [Ce.lst (acc.map W.int)]).length), some (wTt t), x6, x7]) (U ++ [Ce.lst (acc.map W.int)] ++ [Ce.lst ((acc ++ codeT t).map W.int)]) := by
      have := a1 []
      simp -implicitDefEqProofs [f_k17_law_1, cut_wTt4, hi, h4, this]
      simp -implicitDefEqProofs [a2]
    rw [List.map_cons, sForL_nx (r1 := _) rfl hb, e]
    simp [codeTs]
theorem k17_again (ok : p.Ok) {V : Sto} {e : Nat} (he : V[e]? = some (.lst ((enc p).map W.int))) (x0 x1 x2 x5 x6 x7 : Option W) :
    f_k17_law_2 [x0, x1, x2, some (wP p), some (.loc e), x5, x6, x7] V = .ok (.nx [x0, x1, x2, some (wP p), some (.loc e), x5, x6, some (.loc (V.length + 1))]) (V ++ [Ce.lst ((encB p).map W.int), Ce.lst ((enc p).map W.int ++ [.int 0])]) := by
  have hn := ok.n
  have hl := enc_len p
  have m1 : ∀ U, frR U (m_l_made [wP p] U) = .ok (wS p) U := fun U => run_l_made ok
  have c1 : m_encode [wS p] V = .ok (.loc (V.length + 1)) (V ++ [Ce.lst ((encB p).map W.int), Ce.lst ((enc p).map W.int)]) := run_encode ok
  have hel : e < V.length := (List.getElem?_eq_some_iff.mp he).1
  have he2 : (V ++ [Ce.lst ((encB p).map W.int), Ce.lst ((enc p).map W.int)])[e]? = some (.lst ((enc p).map W.int)) := by
    rw [List.getElem?_append_left hel]
    exact he
  have hc2 : (V ++ [Ce.lst ((encB p).map W.int), Ce.lst ((enc p).map W.int)])[V.length + 1]? = some (.lst ((enc p).map W.int)) := by simp
  have q1 : frR (V ++ [Ce.lst ((encB p).map W.int), Ce.lst ((enc p).map W.int)]) (m_l_equal 8 [.loc (V.length + 1), .loc e] (V ++ [Ce.lst ((encB p).map W.int), Ce.lst ((enc p).map W.int)])) = .ok (.bl true) (V ++ [Ce.lst ((encB p).map W.int), Ce.lst ((enc p).map W.int)]) := by
    rw [equal_ok 8 _ _ _ ?_, frR_bl]
    refine ⟨_, _, .inr ⟨_, rfl, hc2⟩, he2, rfl, by rw [List.length_map]; omega, fun i x y hx hy => ?_⟩
    rw [hx] at hy
    cases hy
    obtain ⟨z, _, rfl⟩ := List.mem_map.mp (List.mem_of_getElem? hx)
    rfl
  have d1 := run_decode (S := V ++ [Ce.lst ((encB p).map W.int), Ce.lst ((enc p).map W.int)]) (.inr ⟨V.length + 1, rfl, hc2⟩) ok
  have t1 : ∀ U, frR U (noX (m_Stairs_text [wS p] U)) = .ok (.str (textS p)) U := fun U => text_prop ok
  have n1 : ∀ U, opNe (.str (textS p)) (.str (textS p)) U = .ok (.bl false) U := fun U => opNe_self rfl rfl (shaped_str (text_lay ok))
  have n2 : opNe (.loc (V.length + 1)) (.loc e) (V ++ [Ce.lst ((encB p).map W.int), Ce.lst ((enc p).map W.int)]) = .ok (.bl false) (V ++ [Ce.lst ((encB p).map W.int), Ce.lst ((enc p).map W.int)]) := opNe_self (see_ints hc2) (see_ints he2) (shaped_ints _)
  have hl16 : (enc p).length < 16000000 := by omega
  simp -implicitDefEqProofs [f_k17_law_2, m1, c1, q1, d1, t1, n1, n2, hl16]
theorem k17_step {D : List Int} (g : Dr D) (T : Sto) (x0 x2 x3 x4 x5 x6 x7 : Option W) : ∃ D' T' y3 y4 y5 y6 y7, Dr D' ∧ f_k17_law_3 [x0, some (.loc 0), x2, x3, x4, x5, x6, x7] (dst D T) = .ok (.nx [x0, some (.loc 0), x2, y3, y4, y5, y6, y7]) (dst D' T') := by
  obtain ⟨p, D1, g1, ok, hnp, e1⟩ := run_parts g (most := 8) (by omega) (by omega)
  have hn := ok.n
  have hB := encB_len p
  have hE := enc_len p
  obtain ⟨V, y5, e2⟩ := k17_loop x0 (some (.loc 0)) x2 (some (wP p)) x6 x7 p.trips [83, p.top, p.length, p.time, (p.trips.length : Int)] (dst D1 T) x5 ok.ok (by show 5 + 5 * p.trips.length < 1000; omega)
  have e2' : sForL (.n 5) f_k17_law_1 (p.trips.map wTt) [x0, some (.loc 0), x2, some (wP p), some (.loc (dst D1 T).length), x5, x6, x7] (dst D1 T ++ [.lst [.int 83, .int p.top, .int p.length, .int p.time, .int (p.trips.length : Int)]]) = .ok (.nx [x0, some (.loc 0), x2, some (wP p), some (.loc (dst D1 T ++ V).length), y5, x6, x7]) (dst D1 T ++ V ++ [Ce.lst ((encB p).map W.int)]) := e2
  generalize hU : dst D1 T ++ V = U at e2'
  have hs : bSum [.loc U.length] (U ++ [Ce.lst ((encB p).map W.int)]) = .ok (.int (sumI (encB p))) (U ++ [Ce.lst ((encB p).map W.int)]) := bSum_ev (by
    unfold getIs
    rw [getL_loc, at_app0, cl_lst]
    exact intsOf_map _)
  have he : ((encB p).map W.int) ++ [W.int (sumI (encB p) % 256)] = (enc p).map W.int := by simp [enc]
  have hl16 : (encB p).length < 16000000 := by omega
  have g1' := fun (V : Sto) (e : Nat) (he : V[e]? = some (.lst ((enc p).map W.int))) (x6 x7 : Option W) => k17_again ok he x0 (some (.loc 0)) x2 y5 x6 x7
  have r1 := g1' (U ++ [Ce.lst ((enc p).map W.int)]) U.length (by simp) (some (.int 0)) x7
  have r2 := g1' (U ++ [Ce.lst ((enc p).map W.int)] ++ [Ce.lst ((encB p).map W.int), Ce.lst ((enc p).map W.int ++ [.int 0])]) U.length (by simp) (some (.int 1)) (some (.loc ((U ++ [Ce.lst ((enc p).map W.int)]).length + 1)))
  have i2 : ∀ U, itR1 [.int 2] U = .ok [.int 0, .int 1] U := fun U => (itR1_len (n := 2) (by omega)).trans (by rw [rng_eq]; rfl)
  have lp : sForL (.n 6) f_k17_law_2 [.int 0, .int 1] [x0, some (.loc 0), x2, some (wP p), some (.loc U.length), y5, x6, x7] (U ++ [Ce.lst ((enc p).map W.int)]) = _ := (sForL_nx (r1 := _) rfl r1).trans ((sForL_nx (r1 := _) rfl r2).trans sForL_nil)
  have a1 : ∀ V, opAdd (.lst [.int 83]) (.lst [.int p.top, .int p.length, .int p.time]) V = .ok (.lst [.int 83, .int p.top, .int p.length, .int p.time]) V := fun V => opAdd_lst (by simp)
  have a2 : ∀ V, opAddC (.lst [.int 83, .int p.top, .int p.length, .int p.time]) (.lst [.int (p.trips.length : Int)]) V = .ok (.loc V.length) (V ++ [Ce.lst [.int 83, .int p.top, .int p.length, .int p.time, .int (p.trips.length : Int)]]) := fun V => opAddC_lst (by simp)
  refine ⟨D1, T ++ V ++ [Ce.lst ((enc p).map W.int)] ++ [Ce.lst ((encB p).map W.int), Ce.lst ((enc p).map W.int ++ [.int 0])] ++ [Ce.lst ((encB p).map W.int), Ce.lst ((enc p).map W.int ++ [.int 0])], some (wP p), some (.loc U.length), y5, some (.int 1), some (.loc ((U ++ [Ce.lst ((enc p).map W.int)] ++ [Ce.lst ((encB p).map W.int), Ce.lst ((enc p).map W.int ++ [.int 0])]).length + 1)), g1, ?_⟩
  have hfin : dst D1 (T ++ V ++ [Ce.lst ((enc p).map W.int)] ++ [Ce.lst ((encB p).map W.int), Ce.lst ((enc p).map W.int ++ [.int 0])] ++ [Ce.lst ((encB p).map W.int), Ce.lst ((enc p).map W.int ++ [.int 0])]) = U ++ [Ce.lst ((enc p).map W.int)] ++ [Ce.lst ((encB p).map W.int), Ce.lst ((enc p).map W.int ++ [.int 0])] ++ [Ce.lst ((encB p).map W.int), Ce.lst ((enc p).map W.int ++ [.int 0])] := by
    rw [← hU]
    rfl
  rw [hfin, f_k17_law_3]
  simp -implicitDefEqProofs [e1, cut_wP3, a1, a2, e2', c_k17_law_1, hs, hl16, i2]
  rw [he]
  simp -implicitDefEqProofs at lp
  simp -implicitDefEqProofs [lp]
theorem k17_law_loop : ∀ (ws : List W) {D : List Int} (g : Dr D) (T : Sto) (x0 x2 x3 x4 x5 x6 x7 : Option W), ∃ D' T' y2 y3 y4 y5 y6 y7, Dr D' ∧
    sForL (.n 2) f_k17_law_3 ws [x0, some (.loc 0), x2, x3, x4, x5, x6, x7] (dst D T) = .ok (.nx [x0, some (.loc 0), y2, y3, y4, y5, y6, y7]) (dst D' T')
  | [], D, g, T, x0, x2, x3, x4, x5, x6, x7 => ⟨D, T, x2, x3, x4, x5, x6, x7, g, rfl⟩
  | w :: ws, D, g, T, x0, x2, x3, x4, x5, x6, x7 => by
    obtain ⟨D1, T1, y3, y4, y5, y6, y7, g1, e⟩ := k17_step g T x0 (some w) x3 x4 x5 x6 x7
    obtain ⟨D2, T2, z2, z3, z4, z5, z6, z7, g2, e2⟩ := k17_law_loop ws g1 T1 x0 (some w) y3 y4 y5 y6 y7
    exact ⟨D2, T2, z2, z3, z4, z5, z6, z7, g2, by rw [sForL_nx (r1 := _) rfl e, e2]⟩
theorem k17_law_is (ns : List Int) (h : ns.length ≤ 63) : ∃ S, m_k17_law [.scr ns] [] = .ok (.bl true) S := by
  obtain ⟨D, g, e1⟩ := run_random ns h 17 (by omega)
  obtain ⟨D2, T2, z2, z3, z4, z5, z6, z7, g2, e2⟩ := k17_law_loop (rngW 0 1 4) g [] (some (.scr ns)) none none none none none none
  refine ⟨dst D2 T2, (fnM_ev rfl).trans ?_⟩
  have e3 : ∀ U, itR1 [.int 4] U = .ok (rngW 0 1 4) U := fun U => itR1_len (n := 4) (by omega)
  simp -implicitDefEqProofs [b_k17_law, e1, e2, e3]
end
end SL

set_option Elab.async false
set_option linter.all false
set_option maxRecDepth 100000
set_option maxHeartbeats 2000000
/-! texts read -/
namespace SL
open PySem PySem.Spec PyProof.Rows L2
section
variable {S : Sto} {r : Rho}
@[simp] theorem sTgL_ev (is : List Nat) (m : M W) : sTgL is m r S = (m r S).bd fun w S1 => oc (getL S1 w) (fun ws => oc (setAll is ws r) (fun r1 => .ok (.nx r1) S1) .stuck) .stuck := by
  simp only [sTgL, bind_ev]
  cases m r S with
  | ok w S1 =>
    simp only [bd_ok]
    cases getL S1 w with
    | none => rfl
    | some ws =>
      simp only [oc_some]
      cases setAll is ws r <;> rfl
  | exc c ws S1 => rfl
  | stuck => rfl
@[simp] theorem mNewL_ev (i : Nat) (c : Cl) (g : FnM) (t : M (List W)) : mNewL i c g t r S = oc (r[i]?) (fun o => asC o c (mCall (newR c g) t r S)) .stuck := by
  unfold mNewL
  cases r[i]? with
  | none => rfl
  | some o =>
    cases o with
    | none => rfl
    | some w => cases w <;> rfl
@[simp] theorem asC_cls (c : Cl) (k : Res W) : asC (some (.cls c)) c k = k := if_pos rfl
@[simp] theorem iS_ev (m : M W) : iS m r S = (m r S).bd fun w S1 => (match w with
    | .str z => .ok (signsW z) S1
    | _ => .stuck) := by
  unfold iS
  refine (bind_ev ..).trans (bd_ext fun w S1 => ?_)
  cases w <;> rfl
theorem bAny_map {α : Type} (as : List α) (g : α → Bool) : bAny [.lst (as.map fun a => W.bl (g a))] S = .ok (.bl (as.any g)) S := by
  have h1 : ∀ l : List α, blsOf (l.map fun a => W.bl (g a)) = some (l.map g) := fun l => by
    induction l with
    | nil => rfl
    | cons x l ih => simp [blsOf, ih]
  show (match getL S (.lst (as.map fun a => W.bl (g a))) with | some xs => (match blsOf xs with | some bs => Res.ok (W.bl (bs.any id)) S | none => .stuck) | none => .stuck) = _
  rw [getL_lst]
  dsimp only
  rw [h1]
  dsimp only
  rw [List.any_map]
  rfl
theorem opIx_str {z : Str} (k : Nat) (c : Nat) (hl : z.length ≤ 16000000) (h : (tls z)[k]? = some c) : opIx (.str z) (.int (k : Nat)) S = .ok (.str ⟨#[c]⟩) S := by
  show (if z.length ≤ 16000000 then (match atI z.cps.toList ((k : Nat) : Int) with | some c => Res.ok (W.str ⟨#[c]⟩) S | none => .stuck) else .stuck) = _
  rw [if_pos hl, atI_nat, show z.cps.toList[k]? = some c from h]
end
def digits : Str := "0123456789"
def numB (n : Nat) : Bool :=
  let z := num (n : Int)
  decide (1 ≤ z.length) && decide (z.length ≤ 2) && (tls z).all (fun c => decide (c ∈ tls digits)) && (decide (z.length ≤ 1) || decide (1 ≤ (tls z).length ∧ (tls z).headD 0 ≠ 48 ∧ (tls z).headD 0 < 128)) && decide (PySem.intText? z = some (n : Int))
theorem numB_all : ∀ n : Nat, n < 100 → numB n = true := by decide +kernel
structure NumF (n : Int) : Prop where
  l1 : 1 ≤ (num n).length
  l2 : (num n).length ≤ 2
  dg : ∀ c ∈ tls (num n), c ∈ tls digits
  hd : (num n).length ≤ 1 ∨ ∃ c, (tls (num n))[0]? = some c ∧ c ≠ 48 ∧ c < 128
  it : PySem.intText? (num n) = some n
theorem numF {n : Int} (h0 : 0 ≤ n) (h1 : n < 100) : NumF n := by
  have h := numB_all n.toNat (by omega)
  unfold numB at h
  rw [show ((n.toNat : Nat) : Int) = n by omega] at h
  simp only [Bool.and_eq_true, Bool.or_eq_true, decide_eq_true_eq, List.all_eq_true] at h
  obtain ⟨⟨⟨⟨h1, h2⟩, h3⟩, h4⟩, h5⟩ := h
  refine ⟨h1, h2, h3, ?_, h5⟩
  rcases h4 with h4 | ⟨h4, h6, h7⟩
  · exact .inl h4
  · refine .inr ?_
    cases e : tls (num n) with
    | nil =>
      rw [e] at h4
      simp at h4
    | cons c r =>
      rw [e] at h6 h7
      exact ⟨c, rfl, h6, h7⟩
section
variable {S : Sto} {r : Rho}
theorem run_read_number {n : Int} (h0 : 0 ≤ n) (h1 : n < 100) : frR S (m_read_number [.str (num n)] S) = .ok (.int n) S := by
  have F := numF h0 h1
  have f1 := F.l1
  have f2 := F.l2
  have hb : ∀ U, bLenS [.str (num n)] U = .ok (.int ((num n).length : Nat)) U := fun U => if_pos (by omega)
  have hl : ∀ U, mLc [1] (.n 1) (iS (mVar 0)) mYes e_read_number_1 [some (.str (num n)), none] U = .ok (.lst ((tls (num n)).map fun c => W.bl (!decide (c ∈ tls digits)))) U := fun U => by
    refine mLc_map (fun c => W.str ⟨#[c]⟩) (fun c => W.bl (!decide (c ∈ tls digits))) (tls (num n)) ?_ (by decide) (fun c _ => ⟨_, rfl, fun U => ?_⟩) (fun _ _ => rfl) ?_
    · simp -implicitDefEqProofs
      rfl
    · have : ∀ U, opNotInS (.str ⟨#[c]⟩) (.str digits) U = .ok (.bl (!decide (c ∈ tls digits))) U := fun U => rfl
      simp -implicitDefEqProofs [e_read_number_1, wipeR]
      exact this U
    · have : (tls (num n)).length = (num n).length := Array.length_toList
      omega
  have ha : (tls (num n)).any (fun c => !decide (c ∈ tls digits)) = false := by
    rw [List.any_eq_false]
    intro c hc
    simp [F.dg c hc]
  have hi : ∀ U, bIntS [.str (num n)] U = .ok (.int n) U := fun U => by
    show (if (num n).length ≤ 640 then (match PySem.intText? (num n) with | some n => Res.ok (W.int n) U | none => .stuck) else .stuck) = _
    rw [if_pos (by omega), F.it]
  have k1 : (1 : Int) ≤ ((num n).length : Int) := by omega
  have k2 : ((num n).length : Int) ≤ 2 := by omega
  have key : m_read_number [.str (num n)] S = .ok (.int n) S := by
    refine (fnM_ev rfl).trans ?_
    rcases Nat.lt_or_ge 1 (num n).length with g | g
    · have gi : (1 : Int) < ((num n).length : Int) := by omega
      rcases F.hd with h | ⟨c, hc, hc2, hc3⟩
      · omega
      · have hx : ∀ U, opIx (.str (num n)) (.int 0) U = .ok (.str ⟨#[c]⟩) U := fun U => opIx_str 0 c (by omega) hc
        have hq : ∀ U, opEq (.str ⟨#[c]⟩) (.str "0") U = .ok (.bl false) U := fun U => by
          rw [opEq_str (strs_lay (by simp [tls, hc3])) (by decide +kernel), decide_eq_false]
          intro e
          have : c = 48 := by
            have := congrArg (fun z : Str => (tls z)[0]?) e
            simp [tls] at this
            have h48 : ("0" : Str).cps[0]? = some 48 := by decide +kernel
            rw [h48] at this
            exact Option.some.inj this
          exact hc2 this
        simp -implicitDefEqProofs [b_read_number, hb, k1, k2, f1, f2, hl, bAny_map, ha, g, gi, hx, hq, hi]
    · have g' : ¬ 1 < (num n).length := by omega
      have gi : ¬ (1 : Int) < ((num n).length : Int) := by omega
      simp -implicitDefEqProofs [b_read_number, hb, k1, k2, f1, f2, hl, bAny_map, ha, g', gi, hi]
  rw [key, frR_int]
theorem run_read_numbers {first : Str} (hf : PyData.canLay0 (.str first) = true) {ns : List Int} (hn : ∀ n ∈ ns, 0 ≤ n ∧ n < 100) (hl : ns.length < 1000) : frR S (m_read_numbers [.lst (.str first :: ns.map fun n => W.str (num n)), .str first, .int (ns.length : Nat)] S) = .ok (.lst (ns.map W.int)) S := by
  have c1 : ∀ U, opCut (some 1) none (.lst (.str first :: ns.map fun n => W.str (num n))) U = .ok (.lst (ns.map fun n => W.str (num n))) U := fun U => by
    rw [opCut_lst, cut_from _ (by omega) (by
      simp only [List.length_cons]
      omega)]
    rfl
  have c2 : ∀ U, opCut none (some 1) (.lst (.str first :: ns.map fun n => W.str (num n))) U = .ok (.lst [.str first]) U := fun U => by
    rw [opCut_lst, cut_to _ (by omega)]
    rfl
  have l1 : ∀ (x0 x1 x2 x3 : Option W) U, x0 = some (.lst (.str first :: ns.map fun n => W.str (num n))) → mLc [4] (.n 4) (iL (mCut (mVar 0) (mPart (mC (.int 1))) mNoPart)) mYes e_read_numbers_1 [x0, x1, x2, x3, none] U = .ok (.lst (ns.map W.int)) U := fun x0 x1 x2 x3 U h => by
    subst h
    refine mLc_map (fun n => W.str (num n)) W.int ns (by simp -implicitDefEqProofs [c1]) (by decide) (fun n hnn => ⟨_, rfl, fun U => ?_⟩) (fun _ _ => rfl) (by omega)
    have e5 : ∀ U, frR U (m_read_number [.str (num n)] U) = .ok (.int n) U := fun U => run_read_number (hn n hnn).1 (hn n hnn).2
    simp -implicitDefEqProofs [e_read_numbers_1, wipeR, e5]
  have q1 : ∀ U, opNe (.lst [.str first]) (.lst [.str first]) U = .ok (.bl false) U := fun U => opNe_self (d := .list [.str first]) (by simp [seeL, dat, dats]) (by simp [seeL, dat, dats]) (okD_shaped (n := 1) (okD_lst fun d hd => by
    rw [List.mem_singleton.mp hd]
    exact ⟨hf, Nat.zero_le _⟩) (by omega))
  have q2 : ∀ U, opInQ .non (.lst (ns.map W.int)) U = .ok (.bl false) U := fun U => by
    show (if (flatW .non && (ns.map W.int).all flatW) = true then Res.ok (W.bl (inW .non (ns.map W.int))) U else .stuck) = _
    rw [if_pos]
    · congr 2
      unfold inW
      rw [List.any_map, List.any_eq_false]
      intro n _
      simp [Function.comp, eqW, toV, eqV]
    · rw [Bool.and_eq_true]
      refine ⟨rfl, ?_⟩
      rw [List.all_map]
      exact List.all_eq_true.mpr fun _ _ => rfl
  have key : m_read_numbers [.lst (.str first :: ns.map fun n => W.str (num n)), .str first, .int (ns.length : Nat)] S = .ok (.lst (ns.map W.int)) S := by
    refine (fnM_ev rfl).trans ?_
    simp -implicitDefEqProofs [b_read_numbers, l1, c2, q1, q2]
  rw [key]
  exact frR_nols (nol_le nol_ints (by omega))
end
end SL

set_option Elab.async false
set_option linter.all false
set_option maxRecDepth 100000
set_option maxHeartbeats 4000000
namespace SL
open PySem PySem.Spec PyProof.Rows L2
theorem split_line {r : RowC} (h : r ≠ []) (hs : ∀ c ∈ r, smallC c) : Txt.split (lineS r) " " = r.map cS := by
  refine TL.split_join (s := 32) (S := []) (by decide +kernel) (by decide +kernel) (by simpa using h) fun z hz => ?_
  obtain ⟨c, hc, rfl⟩ := List.mem_map.mp hz
  exact fun m => (good_all (small_good (hs c hc)) 32 m).2.1 rfl
theorem split_text {p : Pt} (ok : p.Ok) : Txt.split (textS p) "\n" = (rowsC p).map lineS := by
  refine TL.split_join (s := 10) (S := []) (by decide +kernel) (by decide +kernel) (by simp [rowsC]) fun z hz => ?_
  exact fun m => (line_all ok z hz 10 m).2 rfl
theorem text_len {p : Pt} (ok : p.Ok) : (textS p).length ≤ 2000 := by
  have hn := ok.n
  have h1 := sum_le (fun r => (lineS r).length) 100 (rowsC p) fun r hr => (line_fit (rows_small ok r hr).1 (rows_small ok r hr).2.2).2
  have h2 : (rowsC p).length ≤ 9 := by simp [rowsC]; omega
  have e : ("\n" : Str).length = 1 := by decide +kernel
  have h3 := StrLaws.join_length_le "\n" ((rowsC p).map lineS)
  rw [List.map_map, List.length_map, e] at h3
  have h4 : ((rowsC p).map ((fun x => x.length) ∘ lineS)).sum = ((rowsC p).map fun r => (lineS r).length).sum := rfl
  unfold textS
  rw [TL.join_eq]
  omega
section
variable {p : Pt} {S : Sto}
theorem fSplit_ev {a b : Str} {zs : List Str} (hb : (b.length == 0) = false) (ha : a.length + 2 ≤ 16000000) (h : Txt.split a b = zs) : fSplit [.str a, .str b] S = .ok (.lst (zs.map W.str)) S := by
  rw [← h]
  exact if_pos ⟨hb, ha⟩
theorem sp_len : ((" " : Str).length == 0) = false := by decide +kernel
theorem nl_len : (("\n" : Str).length == 0) = false := by decide +kernel
theorem habit_notin {h : Str} (q : habitOk h) : opNotInQ (.str h) (.ktup [.str "dark", .str "always", .str "never"]) S = .ok (.bl false) S := by
  unfold opNotInQ
  rw [getQ_ktup]
  dsimp only
  rw [if_pos (by rfl), show inW (.str h) [.str "dark", .str "always", .str "never"] = true from habit_in q]
  rfl
theorem split_row {r : RowC} (h : r ∈ rowsC p) (ok : p.Ok) : fSplit [.str (lineS r), .str " "] S = .ok (.lst ((r.map cS).map W.str)) S := by
  obtain ⟨h6, h1, hc⟩ := rows_small ok r h
  have := (line_fit h6 hc).2
  exact fSplit_ev sp_len (by omega) (split_line (by intro e; rw [e] at h1; simp at h1) hc)
theorem parse_loop (ok : p.Ok) (x0 x1 x3 x8 x9 x10 : Option W) : ∀ (ts : List Tr) (j : Nat) (acc : List Tr) (x5 x6 x7 : Option W), p.trips.drop j = ts → acc.length + ts.length < 1000 → ∃ y5 y6 y7,
    sForL (.n 5) f_Stairs_parse_1 ((List.range' j ts.length).map fun (i : Nat) => W.int ((i : Int) + 1)) [x0, x1, some (.lst ((rowsC p).map fun r => W.str (lineS r))), x3, some (.loc S.length), x5, x6, x7, x8, x9, x10] (S ++ [.lst (acc.map wTt)]) =
      .ok (.nx [x0, x1, some (.lst ((rowsC p).map fun r => W.str (lineS r))), x3, some (.loc S.length), y5, y6, y7, x8, x9, x10]) (S ++ [.lst ((acc ++ ts).map wTt)])
  | [], j, acc, x5, x6, x7, _, _ => ⟨x5, x6, x7, by simp⟩
  | t :: ts, j, acc, x5, x6, x7, hd, hl => by
    simp only [List.length_cons] at hl
    have hj : p.trips[j]? = some t := by
      have := congrArg (fun l => l[0]?) hd
      simpa using this
    have hd2 : p.trips.drop (j + 1) = ts := by
      have := congrArg List.tail hd
      simpa using this
    have tok := ok.ok t (List.mem_of_getElem? hj)
    have hr : rowTr t ∈ rowsC p := List.mem_cons_of_mem _ (List.mem_map.mpr ⟨t, List.mem_of_getElem? hj, rfl⟩)
    have hx : ((rowsC p).map fun r => W.str (lineS r))[j + 1]? = some (.str (lineS (rowTr t))) := by
      rw [List.getElem?_map]
      show ((([.s "stairs", .i p.top, .i p.length, .i p.time] : RowC) :: p.trips.map rowTr)[j + 1]?).map _ = _
      rw [List.getElem?_cons_succ, List.getElem?_map, hj]
      rfl
    have s1 : ∀ U, fSplit [.str (lineS (rowTr t)), .str " "] U = .ok (.lst [.str "trip", .str (num t.start), .str (num t.source), .str (num t.target), .str (num t.pace), .str t.habit]) U := fun U => split_row hr ok
    have hrv : ∀ U z, recvOk "str" U (.str z) = true := fun U z => rfl
    have c1 : ∀ U, opCut none (some (-1)) (.lst [.str "trip", .str (num t.start), .str (num t.source), .str (num t.target), .str (num t.pace), .str t.habit]) U = .ok (.lst [.str "trip", .str (num t.start), .str (num t.source), .str (num t.target), .str (num t.pace)]) U := fun U => rfl
    have hm : atI [W.str "trip", .str (num t.start), .str (num t.source), .str (num t.target), .str (num t.pace), .str t.habit] (-1) = some (.str t.habit) := rfl
    have b0 := tok.s0
    have b1 := tok.s1
    have b2 := tok.a0
    have b3 := tok.a1
    have b4 := tok.b0
    have b5 := tok.b1
    have b6 := tok.p0
    have b7 := tok.p1
    have q1 := ok.t1
    have q2 := ok.l1
    have rn : ∀ U, frR U (m_read_numbers [.lst [.str "trip", .str (num t.start), .str (num t.source), .str (num t.target), .str (num t.pace)], .str "trip", .int 4] U) = .ok (.lst [.int t.start, .int t.source, .int t.target, .int t.pace]) U := fun U =>
      run_read_numbers (S := U) (first := "trip") (by decide +kernel) (ns := [t.start, t.source, t.target, t.pace]) (fun n hn => by
        simp only [List.mem_cons, List.not_mem_nil, or_false] at hn
        rcases hn with rfl | rfl | rfl | rfl <;> omega) (by simp)
    have hni : ∀ U, opNotInQ (.str t.habit) (.ktup [.str "dark", .str "always", .str "never"]) U = .ok (.bl false) U := fun U => habit_notin tok.hb
    have hal : acc.length < 16000000 := by omega
    have hmk : W.tup [.int t.start, .int t.source, .int t.target, .int t.pace, .str t.habit] = wTt t := rfl
    have hb : f_Stairs_parse_1 [x0, x1, some (.lst ((rowsC p).map fun r => W.str (lineS r))), x3, some (.loc S.length), some (.int ((j : Int) + 1)), x6, x7, x8, x9, x10] (S ++ [.lst (acc.map wTt)]) =
        .ok (.nx [x0, x1, some (.lst ((rowsC p).map fun r => W.str (lineS r))), x3, some (.loc S.length), some (.int ((j : Int) + 1)), some (.lst [.str "trip", .str (num t.start), .str (num t.source), .str (num t.target), .str (num t.pace), .str t.habit]), some (.lst [.int t.start, .int t.source, .int t.target, .int t.pace]), x8, x9, x10]) (S ++ [.lst ((acc ++ [t]).map wTt)]) := by
      have hix : ∀ U, opIx (.lst ((rowsC p).map fun r => W.str (lineS r))) (.int ((j : Int) + 1)) U = .ok (.str (lineS (rowTr t))) U := fun U => by
        rw [opIx_lst, show ((j : Int) + 1) = ((j + 1 : Nat) : Int) by omega, atI_nat, hx]
        rfl
      generalize hG : ((rowsC p).map fun r => W.str (lineS r)) = G at hix ⊢
      have hat : atI G ((j : Int) + 1) = some (.str (lineS (rowTr t))) := by
        have := hix []
        rw [opIx_lst] at this
        cases hh : atI G ((j : Int) + 1) with
        | none => rw [hh] at this; cases this
        | some w => rw [hh] at this; cases this; rfl
      simp -implicitDefEqProofs [f_Stairs_parse_1, hat, hrv, s1, c1, rn, hm, hni, hal, hmk]
    obtain ⟨y5, y6, y7, e⟩ := parse_loop ok x0 x1 x3 x8 x9 x10 ts (j + 1) (acc ++ [t]) (some (.int ((j : Int) + 1))) (some (.lst [.str "trip", .str (num t.start), .str (num t.source), .str (num t.target), .str (num t.pace), .str t.habit])) (some (.lst [.int t.start, .int t.source, .int t.target, .int t.pace])) hd2 (by simp; omega)
    refine ⟨y5, y6, y7, ?_⟩
    rw [List.length_cons, List.range'_succ, List.map_cons, sForL_nx (r1 := _) rfl hb, e]
    simp
theorem run_parse (ok : p.Ok) : frR S (m_Stairs_parse [.cls .Stairs, .str (textS p)] S) = .ok (wS p) S := by
  have hn := ok.n
  have t0 := ok.t0
  have t1 := ok.t1
  have l0 := ok.l0
  have l1 := ok.l1
  have m0 := ok.m0
  have m1 := ok.m1
  have s1 : ∀ U, fSplit [.str (textS p), .str "\n"] U = .ok (.lst ((rowsC p).map fun r => W.str (lineS r))) U := fun U => by
    rw [fSplit_ev nl_len (by have := text_len ok; omega) (split_text ok), List.map_map]
    rfl
  have hrv : ∀ U z, recvOk "str" U (.str z) = true := fun U z => rfl
  have hx : atI ((rowsC p).map fun r => W.str (lineS r)) 0 = some (.str (lineS [.s "stairs", .i p.top, .i p.length, .i p.time])) := by
    rw [atI_zero]
    rfl
  have s2 : ∀ U, fSplit [.str (lineS [.s "stairs", .i p.top, .i p.length, .i p.time]), .str " "] U = .ok (.lst [.str "stairs", .str (num p.top), .str (num p.length), .str (num p.time)]) U := fun U => split_row List.mem_cons_self ok
  have rn : ∀ U, frR U (m_read_numbers [.lst [.str "stairs", .str (num p.top), .str (num p.length), .str (num p.time)], .str "stairs", .int 3] U) = .ok (.lst [.int p.top, .int p.length, .int p.time]) U := fun U =>
    run_read_numbers (S := U) (first := "stairs") (by decide +kernel) (ns := [p.top, p.length, p.time]) (fun n hn => by
      simp only [List.mem_cons, List.not_mem_nil, or_false] at hn
      rcases hn with rfl | rfl | rfl <;> omega) (by simp)
  have hl : ((rowsC p).map fun r => W.str (lineS r)).length = 1 + p.trips.length := by simp [rowsC]; omega
  have hi : ∀ U, itR2 [.int 1, .int ((1 + p.trips.length : Nat) : Int)] U = .ok ((List.range' 0 p.trips.length).map fun (i : Nat) => W.int ((i : Int) + 1)) U := fun U => by
    have h : ∀ i j : Int, i = 1 → j = ((1 + p.trips.length : Nat) : Int) → itR2 [.int i, .int j] U = .ok ((List.range' 0 p.trips.length).map fun (i : Nat) => W.int ((i : Int) + 1)) U := fun i j h1 h2 => by
      rw [itR2_ev (by omega) (by omega) (by omega) (by omega), h1, h2, rngW_seqI, show (((1 + p.trips.length : Nat) : Int) - 1).toNat = p.trips.length by omega]
      unfold seqI
      rw [List.map_map, List.range_eq_range']
      congr 1
      refine List.map_congr_left fun i _ => ?_
      show W.int (1 + (i : Int)) = W.int ((i : Int) + 1)
      rw [Int.add_comm]
    exact h 1 _ rfl rfl
  obtain ⟨y5, y6, y7, e⟩ := parse_loop (S := S) ok (some (.cls .Stairs)) (some (.str (textS p))) (some (.lst [.int p.top, .int p.length, .int p.time])) none none none p.trips 0 [] none none none rfl (by simp; omega)
  have hst : ∀ U, frR U (newR .Stairs m_Stairs___init__ (.int p.top :: .int p.length :: .int p.time :: p.trips.map wTt) U) = .ok (wS p) U := fun U => run_StairsF ok
  generalize hG : ((rowsC p).map fun r => W.str (lineS r)) = G at *
  rw [List.map_nil, List.nil_append] at e
  have hlen : (G.length : Int) = ((1 + p.trips.length : Nat) : Int) := by rw [hl]
  have key : m_Stairs_parse [.cls .Stairs, .str (textS p)] S = .ok (wS p) (S ++ [.lst (p.trips.map wTt)]) := by
    refine (fnM_ev rfl).trans ?_
    simp -implicitDefEqProofs [b_Stairs_parse, s1, hrv, hx, s2, rn]
    rw [hlen, hi]
    simp -implicitDefEqProofs [e, hst]
  rw [key]
  exact frR_nol (nol_le nol_wS (by omega))
end
end SL

set_option Elab.async false
set_option linter.all false
set_option maxRecDepth 100000
set_option maxHeartbeats 4000000
namespace SL
open PySem PySem.Spec PyProof.Rows L2
/-- values that the law's equal finds equal to themselves -/
def smOk : Nat → W → Bool
  | 0, _ => false
  | k + 1, w => match w with
    | .non | .bl _ | .int _ => true
    | .str s => PyData.canLay0 (.str s)
    | .tup xs | .lst xs => decide (xs.length < 1000000) && xs.all (smOk k)
    | _ => false
theorem sm_refl : ∀ (k : Nat) (S : Sto) (w : W), smOk k w = true → sm k S w w
  | 0, _, _, h => by cases h
  | k + 1, S, w, h => by
    cases w <;> first | rfl | (cases h; done) | skip
    · exact ⟨rfl, h⟩
    · rename_i xs
      have h : (decide (xs.length < 1000000) && xs.all (smOk k)) = true := h
      obtain ⟨h1, h2⟩ := Bool.and_eq_true_iff.mp h
      refine ⟨xs, rfl, rfl, of_decide_eq_true h1, fun i x y hx hy => ?_⟩
      rw [hx] at hy
      cases hy
      exact sm_refl k S x (List.all_eq_true.mp h2 x (List.mem_of_getElem? hx))
    · rename_i xs
      have h : (decide (xs.length < 1000000) && xs.all (smOk k)) = true := h
      obtain ⟨h1, h2⟩ := Bool.and_eq_true_iff.mp h
      refine ⟨xs, .inl rfl, rfl, of_decide_eq_true h1, fun i x y hx hy => ?_⟩
      rw [hx] at hy
      cases hy
      exact sm_refl k S x (List.all_eq_true.mp h2 x (List.mem_of_getElem? hx))
theorem equal_self {S : Sto} {w : W} (h : smOk 8 w = true) : frR S (m_l_equal 8 [w, w] S) = .ok (.bl true) S := by
  rw [equal_ok 8 S _ _ (sm_refl 8 S w h), frR_bl]
theorem smOk_wTt {t : Tr} (h : habitOk t.habit) (k : Nat) : smOk (k + 2) (wTt t) = true := by
  show (true && [W.int t.start, .int t.source, .int t.target, .int t.pace, .str t.habit].all (smOk (k + 1))) = true
  simp only [List.all_cons, List.all_nil, Bool.and_true, Bool.true_and]
  exact habit_lay h
theorem smOk_trips {p : Pt} (ok : p.Ok) (k : Nat) : smOk (k + 3) (.tup (p.trips.map wTt)) = true := by
  have hn := ok.n
  show (decide ((p.trips.map wTt).length < 1000000) && (p.trips.map wTt).all (smOk (k + 2))) = true
  rw [Bool.and_eq_true]
  refine ⟨decide_eq_true (by rw [List.length_map]; omega), ?_⟩
  rw [List.all_map]
  exact List.all_eq_true.mpr fun t ht => smOk_wTt (ok.ok t ht).hb k
theorem smOk_parts {p : Pt} (ok : p.Ok) : smOk 8 (.lst [.int p.top, .int p.length, .int p.time, .tup (p.trips.map wTt)]) = true := by
  show (true && (true && (true && (true && (smOk 7 (.tup (p.trips.map wTt)) && true))))) = true
  rw [smOk_trips ok 4]
  rfl
section
variable {p : Pt} {S : Sto}
theorem k15_step {D : List Int} (g : Dr D) (T : Sto) (x0 x2 x3 x4 x5 x6 : Option W) : ∃ D' y3 y4 y5 y6, Dr D' ∧ f_k15_law_1 [x0, some (.loc 0), x2, x3, x4, x5, x6, none, none, none] (dst D T) = .ok (.nx [x0, some (.loc 0), x2, y3, y4, y5, y6, none, none, none]) (dst D' T) := by
  obtain ⟨p, D1, g1, ok, hnp, e1⟩ := run_parts g (most := 8) (by omega) (by omega)
  have hn := ok.n
  have hsm := rows_small ok
  have a0 : ∀ U, opAdd (.tup [.str "stairs"]) (.tup [.int p.top, .int p.length, .int p.time]) U = .ok (rowW [.s "stairs", .i p.top, .i p.length, .i p.time]) U := fun U => opAdd_tup (by simp)
  have l1 : ∀ (x4 x5 x6 x8 x9 : Option W) U, mLc [7] (.n 7) (iT (mIx (mVar 3) (mC (.int 3)))) mYes e_k15_law_1 [x0, some (.loc 0), x2, some (wP p), x4, x5, x6, none, x8, x9] U = .ok (.lst ((p.trips.map rowTr).map rowW)) U := fun x4 x5 x6 x8 x9 U => by
    rw [List.map_map]
    refine mLc_map wTt (rowW ∘ rowTr) p.trips (by simp) (by decide) (fun t ht => ⟨_, rfl, fun U => ?_⟩) (fun _ _ => rfl) (by omega)
    have : ∀ U, opAdd (.tup [.str "trip"]) (wTt t) U = .ok (rowW (rowTr t)) U := fun U => opAdd_tup (by simp)
    simp -implicitDefEqProofs [e_k15_law_1, wipeR, this]
  have a1 : ∀ U, opAdd (.lst [rowW [.s "stairs", .i p.top, .i p.length, .i p.time]]) (.lst ((p.trips.map rowTr).map rowW)) U = .ok (.lst ((rowsC p).map rowW)) U := fun U => by
    rw [opAdd_lst (by simp; omega)]
    rfl
  have inner : ∀ (r : RowC), r ∈ rowsC p → ∀ (x3 x4 x5 x6 x7 : Option W) U, e_k15_law_3 [x0, some (.loc 0), x2, x3, x4, x5, x6, x7, some (rowW r), none] U = .ok (.str (lineS r)) U := fun r hr x3 x4 x5 x6 x7 U => by
    obtain ⟨h6, _, hc⟩ := hsm r hr
    have l1 : ∀ U, mLc [9] (.n 9) (iT (mVar 8)) mYes e_k15_law_2 [x0, some (.loc 0), x2, x3, x4, x5, x6, x7, some (rowW r), none] U = .ok (.lst (r.map fun c => W.str (cS c))) U := fun U => by
      refine mLc_map cW (fun c => W.str (cS c)) r (by simp [rowW]) (by decide) (fun c hcr => ⟨_, rfl, fun U => ?_⟩) (fun _ _ => rfl) (by omega)
      simp -implicitDefEqProofs [e_k15_law_2, wipeR, bStr_cel (hc c hcr)]
    have hrv : ∀ U, recvOk "str" U (.str " ") = true := fun U => rfl
    have j1 : ∀ U, fJoin [.str " ", .lst (r.map fun c => W.str (cS c))] U = .ok (.str (lineS r)) U := fun U => fJoin_map cS r " " (line_fit h6 hc).1
    simp -implicitDefEqProofs [e_k15_law_3, l1, hrv, j1]
  have l2 : ∀ (x5 x6 : Option W) U, mLc [8] (.n 8) (iL (mVar 4)) mYes e_k15_law_3 [x0, some (.loc 0), x2, some (wP p), some (.lst ((rowsC p).map rowW)), x5, x6, none, none, none] U = .ok (.lst ((rowsC p).map fun r => W.str (lineS r))) U := fun x5 x6 U => by
    refine mLc_map rowW (fun r => W.str (lineS r)) (rowsC p) (by simp) (by decide) (fun r hr => ⟨_, rfl, fun U => ?_⟩) (fun _ _ => rfl) (by simp [rowsC]; omega)
    exact inner r hr _ _ _ _ _ U
  have j2 : ∀ U, fJoin [.str "\n", .lst ((rowsC p).map fun r => W.str (lineS r))] U = .ok (.str (textS p)) U := fun U => fJoin_map lineS (rowsC p) "\n" (by
    have h1 := sum_le (fun r => (lineS r).length) 100 (rowsC p) fun r hr => (line_fit (hsm r hr).1 (hsm r hr).2.2).2
    have h2 : (rowsC p).length ≤ 9 := by simp [rowsC]; omega
    have e : ("\n" : Str).length = 1 := by decide +kernel
    rw [e]
    omega)
  have hrv : ∀ U, recvOk "str" U (.str "\n") = true := fun U => rfl
  have pr : ∀ U, frR U (m_Stairs_parse [.cls .Stairs, .str (textS p)] U) = .ok (wS p) U := fun U => run_parse ok
  have m1 : ∀ U, frR U (m_l_made [wP p] U) = .ok (wS p) U := fun U => run_l_made ok
  have t1 : ∀ U, frR U (noX (m_Stairs_text [wS p] U)) = .ok (.str (textS p)) U := fun U => text_prop ok
  have q1 : ∀ U, frR U (m_l_equal 8 [.lst [.str (textS p), .str (textS p)], .lst [.str (textS p), .str (textS p)]] U) = .ok (.bl true) U := fun U => equal_self (by
    show (true && (smOk 7 (.str (textS p)) && (smOk 7 (.str (textS p)) && true))) = true
    rw [show smOk 7 (.str (textS p)) = true from text_lay ok]
    rfl)
  have at1 : ∀ U, frR U (noX (m_Stairs_all_trips [wS p] U)) = .ok (.tup (p.trips.map wTt)) U := fun U => by
    rw [run_all_trips ok, noX_ok]
    exact frR_nols (by
      show (p.trips.map wTt).all (nol 15) = true
      rw [List.all_map]
      exact List.all_eq_true.mpr fun t _ => nol_le nol_wTt (by omega))
  have bl : ∀ U, bList [wP p] U = .ok (.lst [.int p.top, .int p.length, .int p.time, .tup (p.trips.map wTt)]) U := fun U => rfl
  have q2 : ∀ U, frR U (m_l_equal 8 [.lst [.int p.top, .int p.length, .int p.time, .tup (p.trips.map wTt)], .lst [.int p.top, .int p.length, .int p.time, .tup (p.trips.map wTt)]] U) = .ok (.bl true) U := fun U => equal_self (smOk_parts ok)
  refine ⟨D1, some (wP p), some (.lst ((rowsC p).map rowW)), some (.str (textS p)), some (wS p), g1, ?_⟩
  simp -implicitDefEqProofs [f_k15_law_1, e1, cut_wP3, a0, l1, -List.map_map, a1, l2, hrv, j2, pr, t1, m1, q1, at1, bl, q2]
theorem k15_loop : ∀ (ws : List W) {D : List Int} (g : Dr D) (T : Sto) (x0 x2 x3 x4 x5 x6 : Option W), ∃ D' y2 y3 y4 y5 y6, Dr D' ∧
    sForL (.n 2) f_k15_law_1 ws [x0, some (.loc 0), x2, x3, x4, x5, x6, none, none, none] (dst D T) = .ok (.nx [x0, some (.loc 0), y2, y3, y4, y5, y6, none, none, none]) (dst D' T)
  | [], D, g, T, x0, x2, x3, x4, x5, x6 => ⟨D, x2, x3, x4, x5, x6, g, rfl⟩
  | w :: ws, D, g, T, x0, x2, x3, x4, x5, x6 => by
    obtain ⟨D1, y3, y4, y5, y6, g1, e⟩ := k15_step g T x0 (some w) x3 x4 x5 x6
    obtain ⟨D2, z2, z3, z4, z5, z6, g2, e2⟩ := k15_loop ws g1 T x0 (some w) y3 y4 y5 y6
    exact ⟨D2, z2, z3, z4, z5, z6, g2, by rw [sForL_nx (r1 := _) rfl e, e2]⟩
theorem k15_law_is (ns : List Int) (h : ns.length ≤ 63) : ∃ S, m_k15_law [.scr ns] [] = .ok (.bl true) S := by
  obtain ⟨D, g, e1⟩ := run_random ns h 15 (by omega)
  obtain ⟨D2, z2, z3, z4, z5, z6, g2, e2⟩ := k15_loop (rngW 0 1 5) g [] (some (.scr ns)) none none none none none
  refine ⟨dst D2 [], (fnM_ev rfl).trans ?_⟩
  have e3 : ∀ U, itR1 [.int 5] U = .ok (rngW 0 1 5) U := fun U => itR1_len (n := 5) (by omega)
  simp -implicitDefEqProofs [b_k15_law, e1, e2, e3]
end
end SL

set_option Elab.async false
set_option linter.all false
set_option maxRecDepth 100000
set_option maxHeartbeats 4000000
namespace SL
open PySem PySem.Spec PyProof.Rows L2
theorem wT_inj {t u : Tr} (h : wT t = wT u) : t = u := by
  obtain ⟨a, b, c, d, e⟩ := t
  obtain ⟨a2, b2, c2, d2, e2⟩ := u
  simp only [wT] at h
  injection h with _ h
  simp only [List.cons.injEq, W.int.injEq, W.str.injEq, and_true] at h
  obtain ⟨h1, h2, h3, h4, h5⟩ := h
  subst h1 h2 h3 h4 h5
  rfl
theorem map_inj' {α β : Type} {f : α → β} (hf : ∀ a b, f a = f b → a = b) : ∀ {xs ys : List α}, xs.map f = ys.map f → xs = ys
  | [], [], _ => rfl
  | [], y :: ys, h => by simp at h
  | x :: xs, [], h => by simp at h
  | x :: xs, y :: ys, h => by
    rw [List.map_cons, List.map_cons] at h
    injection h with h1 h2
    rw [hf _ _ h1, map_inj' hf h2]
theorem wS_inj {p q : Pt} (h : wS p = wS q) : p = q := by
  obtain ⟨a, b, c, d⟩ := p
  obtain ⟨a2, b2, c2, d2⟩ := q
  simp only [wS] at h
  injection h with _ h
  simp only [List.cons.injEq, W.int.injEq, W.lst.injEq, and_true] at h
  obtain ⟨h1, h2, h3, h4⟩ := h
  subst h1 h2 h3
  rw [map_inj' (fun _ _ => wT_inj) h4]
theorem text_inj {p q : Pt} (okp : p.Ok) (okq : q.Ok) (h : textS p = textS q) : p = q := by
  have h1 := run_parse (S := []) okp
  have h2 := run_parse (S := []) okq
  rw [h, h2] at h1
  injection h1 with h1 _
  exact (wS_inj h1).symm
theorem enc_inj {p q : Pt} (okp : p.Ok) (okq : q.Ok) (h : enc p = enc q) : p = q := by
  have h1 := run_decode (S := []) (p := p) (cw := .lst ((enc p).map W.int)) (.inl rfl) okp
  have h2 := run_decode (S := []) (p := q) (cw := .lst ((enc q).map W.int)) (.inl rfl) okq
  rw [h, h2] at h1
  injection h1 with h1 _
  exact (wS_inj h1).symm
theorem eqv_int (i j : Int) : PyData.eqv (.int i) (.int j) = decide (i = j) := by
  show (i == j) = _
  exact Bool.beq_eq_decide_eq _ _
theorem eqv_str (i j : Str) : PyData.eqv (.str i) (.str j) = decide (i = j) := by
  show (i == j) = _
  exact Bool.beq_eq_decide_eq _ _
theorem eqvAll_map {α : Type} (f : α → PyData) (h : ∀ a b, PyData.eqv (f a) (f b) = true ↔ a = b) : ∀ xs ys : List α, PyData.eqvAll (xs.map f) (ys.map f) = true ↔ xs = ys
  | [], [] => by simp [PyData.eqvAll]
  | [], y :: ys => by simp [PyData.eqvAll]
  | x :: xs, [] => by simp [PyData.eqvAll]
  | x :: xs, y :: ys => by
    simp only [List.map_cons, PyData.eqvAll, Bool.and_eq_true, h, eqvAll_map f h xs ys, List.cons.injEq]
theorem eqv_ints (xs ys : List Int) : PyData.eqv (.list (xs.map PyData.int)) (.list (ys.map PyData.int)) = decide (xs = ys) := by
  have h := eqvAll_map PyData.int (fun a b => by rw [eqv_int, decide_eq_true_eq]) xs ys
  show PyData.eqvAll _ _ = _
  by_cases e : xs = ys
  · rw [decide_eq_true e]
    exact h.mpr e
  · rw [decide_eq_false e]
    cases hh : PyData.eqvAll (xs.map PyData.int) (ys.map PyData.int) with
    | false => rfl
    | true => exact absurd (h.mp hh) e
theorem eqv_dTt (t u : Tr) : PyData.eqv (dTt t) (dTt u) = true ↔ t = u := by
  obtain ⟨a, b, c, d, e⟩ := t
  obtain ⟨a2, b2, c2, d2, e2⟩ := u
  show PyData.eqvAll _ _ = true ↔ _
  simp only [PyData.eqvAll, eqv_int, eqv_str, Bool.and_eq_true, decide_eq_true_eq, Tr.mk.injEq, and_true]
def dP (p : Pt) : PyData := .tuple [.int p.top, .int p.length, .int p.time, .tuple (p.trips.map dTt)]
theorem eqv_dP (p q : Pt) : PyData.eqv (dP p) (dP q) = true ↔ p = q := by
  obtain ⟨a, b, c, d⟩ := p
  obtain ⟨a2, b2, c2, d2⟩ := q
  show PyData.eqvAll _ _ = true ↔ _
  have h : PyData.eqv (.tuple (d.map dTt)) (.tuple (d2.map dTt)) = true ↔ d = d2 := eqvAll_map dTt eqv_dTt d d2
  simp only [PyData.eqvAll, eqv_int, Bool.and_eq_true, decide_eq_true_eq, Pt.mk.injEq, and_true, h]
section
variable {p q : Pt} {S : Sto}
theorem dat_wP : dat (seeL S (wP p)) = some (dP p) := by
  have h1 := dats_map wTt dTt dat_wTt p.trips
  simp [wP, dP, seeL, dat, dats, h1]
theorem ok_dP (ok : p.Ok) : SeqAt.shaped (dP p) = true := okD_shaped (n := 3) (okD_tup fun d hd => by
  simp only [List.mem_cons, List.not_mem_nil, or_false] at hd
  rcases hd with rfl | rfl | rfl | rfl
  · exact okD_int 2 _
  · exact okD_int 2 _
  · exact okD_int 2 _
  · exact okD_tup fun d hd => by
      obtain ⟨t, ht, rfl⟩ := List.mem_map.mp hd
      exact ok_dTt (ok.ok t ht).hb) (by omega)
theorem opEq_trips (h : ∀ t ∈ p.trips, habitOk t.habit) : opEq (.tup (p.trips.map wTt)) (.tup []) S = .ok (.bl p.trips.isEmpty) S := by
  have h1 := dats_map wTt dTt dat_wTt p.trips
  have h2 : dat (seeL S (.tup (p.trips.map wTt))) = some (.tuple (p.trips.map dTt)) := by simp [seeL, dat, h1]
  have h3 : dat (seeL S (.tup [])) = some (.tuple []) := by simp [seeL, dat, dats]
  rw [opEq_ok h2 h3 (okD_shaped (n := 2) (okD_tup fun d hd => by
    obtain ⟨t, ht, rfl⟩ := List.mem_map.mp hd
    exact ok_dTt (h t ht)) (by omega)) (by decide +kernel)]
  cases p.trips <;> rfl
theorem opMulT_ev {xs : List W} (h : xs ≠ []) (hl : xs.length ≤ 1000) : opMulT (.tup xs) (.int 8) S = .ok (.tup (List.replicate 8 xs).flatten) S := if_pos ⟨h, by decide, by decide, hl⟩
theorem flat_map {α β : Type} (f : α → β) (xs : List α) : ∀ k : Nat, (List.replicate k (xs.map f)).flatten = (List.replicate k xs).flatten.map f
  | 0 => rfl
  | k + 1 => by
    rw [List.replicate_succ, List.replicate_succ, List.flatten_cons, List.flatten_cons, List.map_append, flat_map f xs k]
theorem run_full {D : List Int} (g : Dr D) : ∃ p D', Dr D' ∧ p.Ok ∧ ∀ D0 T, frR (dst D0 T) (m_l_full [.loc 0] (dst D T)) = .ok (wP p) (dst D' T) := by
  obtain ⟨p, D1, g1, ok, hnp, e1⟩ := run_parts g (most := 4) (by omega) (by omega)
  obtain ⟨v, D2, g2, a2, b2, e2⟩ := draw g1 (lim := 5) (by omega) (by omega)
  have hab : ∀ t ∈ p.trips, habitOk t.habit := fun t ht => (ok.ok t ht).hb
  have hq : ∀ U, opEq (.tup (p.trips.map wTt)) (.tup []) U = .ok (.bl p.trips.isEmpty) U := fun U => opEq_trips hab
  have hn := ok.n
  by_cases hv : 0 < v
  · refine ⟨p, D2, g2, ok, fun D0 T => ?_⟩
    have key : m_l_full [.loc 0] (dst D T) = .ok (wP p) (dst D2 T) := by
      refine (fnM_ev rfl).trans ?_
      simp -implicitDefEqProofs [b_l_full, e1, e2, hv]
    rw [key]
    exact fr_dst (nol_le nol_wP (by omega))
  · cases ht : p.trips.isEmpty with
    | true =>
      refine ⟨p, D2, g2, ok, fun D0 T => ?_⟩
      have key : m_l_full [.loc 0] (dst D T) = .ok (wP p) (dst D2 T) := by
        refine (fnM_ev rfl).trans ?_
        simp -implicitDefEqProofs [b_l_full, e1, e2, hv, hq, ht]
      rw [key]
      exact fr_dst (nol_le nol_wP (by omega))
    | false =>
      have hne : p.trips ≠ [] := by
        intro e
        rw [e] at ht
        cases ht
      have hne2 : p.trips.map wTt ≠ [] := by simpa using hne
      have hm : ∀ U, opMulT (.tup (p.trips.map wTt)) (.int 8) U = .ok (.tup ((List.replicate 8 p.trips).flatten.map wTt)) U := fun U => by
        rw [opMulT_ev hne2 (by rw [List.length_map]; omega), flat_map]
      have hc : ∀ U, opCut none (some 8) (.tup ((List.replicate 8 p.trips).flatten.map wTt)) U = .ok (.tup (((List.replicate 8 p.trips).flatten.take 8).map wTt)) U := fun U => by
        rw [opCut_tup, cut_to _ (by omega), List.map_take]
        rfl
      have okz : (setTrips p ((List.replicate 8 p.trips).flatten.take 8)).Ok := ⟨ok.t0, ok.t1, ok.l0, ok.l1, ok.m0, ok.m1, List.length_take_le _ _, fun t htt => by
        obtain ⟨l, hl, htl⟩ := List.mem_flatten.mp (List.mem_of_mem_take (show t ∈ (List.replicate 8 p.trips).flatten.take 8 from htt))
        rw [(List.mem_replicate.mp hl).2] at htl
        exact ok.ok t htl⟩
      refine ⟨setTrips p ((List.replicate 8 p.trips).flatten.take 8), D2, g2, okz, fun D0 T => ?_⟩
      have ha : ∀ U, opAdd (.tup [.int p.top, .int p.length, .int p.time]) (.tup [.tup (((List.replicate 8 p.trips).flatten.take 8).map wTt)]) U = .ok (wP (setTrips p ((List.replicate 8 p.trips).flatten.take 8))) U := fun U => opAdd_tup (by simp)
      generalize hG : (List.replicate 8 p.trips).flatten = G at *
      generalize hZ : List.take 8 G = Z at *
      have key : m_l_full [.loc 0] (dst D T) = .ok (wP (setTrips p Z)) (dst D2 T) := by
        refine (fnM_ev rfl).trans ?_
        simp -implicitDefEqProofs [b_l_full, e1, e2, hv, hq, ht, hm, hc, cut_wP3, ha]
      rw [key]
      exact fr_dst (nol_le nol_wP (by omega))
theorem run_with_trips {ts : List Tr} (ok : (setTrips p ts).Ok) : frR S (m_Stairs_with_trips [wS p, .lst (ts.map wTt)] S) = .ok (wS (setTrips p ts)) S := by
  have e2 : ∀ U, frR U (newR .Stairs m_Stairs___init__ (.int p.top :: .int p.length :: .int p.time :: ts.map wTt) U) = .ok (wS (setTrips p ts)) U := fun U => run_StairsF ok
  have key : m_Stairs_with_trips [wS p, .lst (ts.map wTt)] S = .ok (wS (setTrips p ts)) S := by
    refine (fnM_ev rfl).trans ?_
    simp -implicitDefEqProofs [b_Stairs_with_trips, e2]
  rw [key]
  exact frR_nols (nol_le nol_wS (by omega))
theorem encodeF (ok : p.Ok) : frR S (m_encode [wS p] S) = .ok (.lst ((enc p).map W.int)) S := by
  rw [run_encode ok]
  exact frR_app (frz_locL (by simp) (by omega) (frz_ints 14))
theorem all_tripsF (ok : p.Ok) : frR S (noX (m_Stairs_all_trips [wS p] S)) = .ok (.tup (p.trips.map wTt)) S := by
  rw [run_all_trips ok, noX_ok]
  exact frR_nols (by
    show (p.trips.map wTt).all (nol 15) = true
    rw [List.all_map]
    exact List.all_eq_true.mpr fun t _ => nol_le nol_wTt (by omega))
theorem opNe_ints_self {ns : List Int} : opNe (.lst (ns.map W.int)) (.lst (ns.map W.int)) S = .ok (.bl false) S := by
  have h : dat (seeL S (.lst (ns.map W.int))) = some (.list (ns.map PyData.int)) := by simp [seeL, dat, dats_ints]
  exact opNe_self h h (shaped_ints ns)
theorem opEq_ints2 {ns ms : List Int} : opEq (.lst (ns.map W.int)) (.lst (ms.map W.int)) S = .ok (.bl (decide (ns = ms))) S := by
  have h : ∀ ns : List Int, dat (seeL S (.lst (ns.map W.int))) = some (.list (ns.map PyData.int)) := fun ns => by simp [seeL, dat, dats_ints]
  rw [opEq_ok (h ns) (h ms) (shaped_ints ns) (shaped_ints ms), eqv_ints]
theorem fdN_self (p : Pt) : ∀ ts : List Nat, fdN p p ts = none
  | [] => rfl
  | t :: ts => by
    unfold fdN
    rw [if_neg (by simp)]
    exact fdN_self p ts
end
end SL

set_option Elab.async false
set_option linter.all false
set_option maxRecDepth 100000
set_option maxHeartbeats 4000000
namespace SL
open PySem PySem.Spec PyProof.Rows L2
def litM (s : Sc) : Int := if 0 < s.light then 1 else 0
section
variable {p q : Pt} {S : Sto}
theorem run_check_tick {t : Int} (h0 : 0 ≤ t) (h1 : t ≤ 1000000000000000000) : frR S (m_check_tick [.int t] S) = .ok .non S := by
  have e : ∀ U, frR U (m_is_int_in [.int t, .int 0, .int 1000000000000000000] U) = .ok (.bl true) U := fun U => by rw [run_in h0 h1, frR_bl]
  have key : m_check_tick [.int t] S = .ok .non S := by
    refine (fnM_ev rfl).trans ?_
    simp -implicitDefEqProofs [b_check_tick, e]
  rw [key]
  exact frR_nols rfl
theorem run_light (ok : p.Ok) {t : Int} (h0 : 0 ≤ t) (h1 : t ≤ 1000000000000000000) : frR S (m_light [wS p, .int t] S) = .ok (.int (scn p t).light) S := by
  have e1 : ∀ U, frR U (m_check_tick [.int t] U) = .ok .non U := fun U => run_check_tick h0 h1
  have e2 : ∀ U, frR U (newR .Story m_Story___init__ [wS p] U) = .ok (wSy p) U := fun U => new_wSy ok
  have e3 : ∀ U, frR U (m_Story_scene [wSy p, .int t] U) = .ok (wSc (scn p t)) U := fun U => run_sceneAt ok h0
  have key : m_light [wS p, .int t] S = .ok (.int (scn p t).light) S := by
    refine (fnM_ev rfl).trans ?_
    simp -implicitDefEqProofs [b_light, e1, e2, e3]
  rw [key, frR_int]
theorem mMtLam_ev {c : Cl} {g : Nat → FnM} {mo me : M W} {r : Rho} {w x : W} {xs : List W} {v : Int} (ho : mo r S = .ok w S) (hg : getO c S w = some xs) (he : me r S = .ok x S) (hr : ∀ n, g n [w, x, .cls (.lam n)] S = .ok (.int v) S) : mMtLam c g mo me r S = .ok (.int v) S := by
  have hn : S.all (nlmC (frN S [w, x])) = true := List.all_eq_true.mpr fun c hc => frN_S hc
  unfold mMtLam
  rw [bind_def, ho]
  dsimp only
  rw [bind_def, hg]
  dsimp only
  rw [bind_def, he]
  dsimp only
  rw [hr, frR_int]
  exact if_pos ⟨rfl, hn⟩
theorem run_count_lit (ok : p.Ok) {t : Nat} (h1 : t ≤ 1000000000000000000) : frR S (m_count_lit [wS p, .int (t : Int)] S) = .ok (.int (cnt litM p t)) S := by
  have e1 : ∀ U, frR U (m_check_tick [.int (t : Int)] U) = .ok .non U := fun U => run_check_tick (by omega) (by omega)
  have hl : ∀ s U, l_count_lit_1 [wSc s] U = .ok (.int (litM s)) U := fun s U => by
    have : l_count_lit_1 [wSc s] U = mCall bInt (mCons (mOp opGt (mFld .Scene .burning (mVar 0)) (mC (.int 0))) (mNil)) [some (wSc s)] U := by
      unfold l_count_lit_1 fnE
      exact if_pos rfl
    rw [this]
    simp -implicitDefEqProofs [bInt, litM]
  have e4 : mMtLam .Story (fun n => m_Story_count n l_count_lit_1) (mFr (mCall (newR .Story m_Story___init__) (mCons (mVar 0) (mNil)))) (mVar 1) [some (wS p), some (.int (t : Int))] S = .ok (.int (cnt litM p t)) S := by
    refine mMtLam_ev (w := wSy p) (x := .int (t : Int)) ?_ getO_wSy (by simp) fun n => ?_
    · simp -implicitDefEqProofs [new_wSy ok]
    · rw [run_count ok hl (by omega) (by omega), cntF_is ok]
  have key : m_count_lit [wS p, .int (t : Int)] S = .ok (.int (cnt litM p t)) S := by
    refine (fnM_ev rfl).trans ?_
    simp -implicitDefEqProofs [b_count_lit, e1, e4]
  rw [key, frR_int]
theorem lit_congr {t : Nat} (h : ∀ i : Nat, i < t → burn p (i : Int) = burn q (i : Int)) : cnt litM p t = cnt litM q t := cnt_congr fun i hi => by
  have := h i hi
  unfold burn at this
  unfold litM
  have e : (0 < (scn p (i : Int)).light) ↔ (0 < (scn q (i : Int)).light) := decide_eq_decide.mp this
  by_cases z : 0 < (scn p (i : Int)).light
  · rw [if_pos z, if_pos (e.mp z)]
  · rw [if_neg z, if_neg fun y => z (e.mpr y)]
/-! ### shuffled -/
theorem erase_map {α β : Type} (f : α → β) : ∀ (xs : List α) (k : Nat), (xs.map f).eraseIdx k = (xs.eraseIdx k).map f
  | [], k => by cases k <;> rfl
  | x :: xs, 0 => rfl
  | x :: xs, k + 1 => by
    show f x :: (xs.map f).eraseIdx k = f x :: (xs.eraseIdx k).map f
    rw [erase_map f xs k]
theorem perm_erase {α : Type} : ∀ (xs : List α) (k : Nat) (h : k < xs.length), xs.Perm (xs[k] :: xs.eraseIdx k)
  | [], _, h => absurd h (by simp)
  | x :: xs, 0, _ => .refl _
  | x :: xs, k + 1, h => ((perm_erase xs k (by simpa using h)).cons x).trans (.swap ..)
theorem ne_nil_trips {n : Nat} {ts : List Tr} (hs : S[n]? = some (.lst (ts.map wTt))) (h : ∀ t ∈ ts, habitOk t.habit) : opNe (.loc n) (.lst []) S = .ok (.bl (!ts.isEmpty)) S := by
  have h1 := dats_map wTt dTt dat_wTt ts
  have h2 : dat (seeL S (.loc n)) = some (.list (ts.map dTt)) := by
    simp only [seeL, hs]
    simp [dat, h1]
  have h3 : dat (seeL S (.lst [])) = some (.list []) := by simp [seeL, dat, dats]
  rw [opNe_ok h2 h3 (okD_shaped (n := 2) (okD_lst fun d hd => by
    obtain ⟨t, ht, rfl⟩ := List.mem_map.mp hd
    exact ok_dTt (h t ht)) (by omega)) (by decide +kernel)]
  cases ts <;> rfl
theorem shuf_loop (x1 : Option W) : ∀ (n : Nat) {D : List Int} (g : Dr D) (xs ys : List Tr), xs.length = n → xs.length + ys.length ≤ 8 → (∀ t ∈ xs, habitOk t.habit) → ∃ zs D', Dr D' ∧ (ys ++ xs).Perm zs ∧ ∀ T : Sto,
    sWhileN t_l_shuffled_1 f_l_shuffled_1 (n + 1) [some (.loc 0), x1, some (.loc (T.length + 1)), some (.loc (T.length + 2))] (dst D (T ++ [.lst (xs.map wTt), .lst (ys.map wTt)])) = .ok (.nx [some (.loc 0), x1, some (.loc (T.length + 1)), some (.loc (T.length + 2))]) (dst D' (T ++ [.lst [], .lst (zs.map wTt)]))
  | 0, D, g, xs, ys, hl, h8, hab => by
    have hx : xs = [] := List.length_eq_zero_iff.mp hl
    subst hx
    refine ⟨ys, D, g, by simp, fun T => ?_⟩
    have ht : t_l_shuffled_1 [some (.loc 0), x1, some (.loc (T.length + 1)), some (.loc (T.length + 2))] (dst D (T ++ [.lst [], .lst (ys.map wTt)])) = .ok false (dst D (T ++ [.lst [], .lst (ys.map wTt)])) := by
      have hg : (dst D (T ++ [.lst [], .lst (ys.map wTt)]))[T.length + 1]? = some (.lst []) := by
        unfold dst
        simp
      have e := ne_nil_trips (S := dst D (T ++ [.lst [], .lst (ys.map wTt)])) (ts := []) hg (by simp)
      simp -implicitDefEqProofs [t_l_shuffled_1, e]
    unfold sWhileN
    rw [List.map_nil, ht]
  | n + 1, D, g, xs, ys, hl, h8, hab => by
    obtain ⟨v, D1, g1, a1, b1, e1⟩ := draw g (lim := (xs.length : Int)) (by omega) (by omega)
    obtain ⟨k, rfl⟩ : ∃ k : Nat, v = (k : Int) := ⟨v.toNat, by omega⟩
    have hk : k < xs.length := by omega
    obtain ⟨zs, D', g', hp, ih⟩ := shuf_loop x1 n g1 (xs.eraseIdx k) (ys ++ [xs[k]]) (by rw [List.length_eraseIdx_of_lt hk]; omega) (by rw [List.length_eraseIdx_of_lt hk]; simp; omega) (fun t ht => hab t (List.mem_of_mem_eraseIdx ht))
    refine ⟨zs, D', g', ?_, fun T => ?_⟩
    · refine List.Perm.trans ?_ hp
      rw [List.append_assoc]
      refine List.Perm.append_left ys ?_
      exact perm_erase xs k hk
    · have hg : ∀ D, (dst D (T ++ [.lst (xs.map wTt), .lst (ys.map wTt)]))[T.length + 1]? = some (.lst (xs.map wTt)) := fun D => by
        unfold dst
        simp
      have ht : t_l_shuffled_1 [some (.loc 0), x1, some (.loc (T.length + 1)), some (.loc (T.length + 2))] (dst D (T ++ [.lst (xs.map wTt), .lst (ys.map wTt)])) = .ok true (dst D (T ++ [.lst (xs.map wTt), .lst (ys.map wTt)])) := by
        have e := ne_nil_trips (hg D) hab
        have hne : xs.isEmpty = false := by cases xs <;> first | rfl | simp at hl
        simp -implicitDefEqProofs [t_l_shuffled_1, e, hne]
      have hb : f_l_shuffled_1 [some (.loc 0), x1, some (.loc (T.length + 1)), some (.loc (T.length + 2))] (dst D (T ++ [.lst (xs.map wTt), .lst (ys.map wTt)])) = .ok (.nx [some (.loc 0), x1, some (.loc (T.length + 1)), some (.loc (T.length + 2))]) (dst D1 (T ++ [.lst ((xs.eraseIdx k).map wTt), .lst ((ys ++ [xs[k]]).map wTt)])) := by
        have hl2 : bLen [.loc (T.length + 1)] (dst D (T ++ [.lst (xs.map wTt), .lst (ys.map wTt)])) = .ok (.int (xs.length : Int)) (dst D (T ++ [.lst (xs.map wTt), .lst (ys.map wTt)])) := by
          simp [hg D]
        have hp2 : fPop [.loc (T.length + 1), .int (k : Int)] (dst D1 (T ++ [.lst (xs.map wTt), .lst (ys.map wTt)])) = .ok (wTt xs[k]) (dst D1 (T ++ [.lst ((xs.eraseIdx k).map wTt), .lst (ys.map wTt)])) := by
          rw [fPop_at (hg D1) (y := wTt xs[k]) (by rw [List.getElem?_map, List.getElem?_eq_getElem hk]; rfl) (by omega)]
          congr 1
          unfold dst
          simp [erase_map]
        have ha2 : fAppend [.loc (T.length + 2), wTt xs[k]] (dst D1 (T ++ [.lst ((xs.eraseIdx k).map wTt), .lst (ys.map wTt)])) = .ok .non (dst D1 (T ++ [.lst ((xs.eraseIdx k).map wTt), .lst ((ys ++ [xs[k]]).map wTt)])) := by
          have hg2 : (dst D1 (T ++ [.lst ((xs.eraseIdx k).map wTt), .lst (ys.map wTt)]))[T.length + 2]? = some (.lst (ys.map wTt)) := by
            unfold dst
            simp
          have hs2 : (dst D1 (T ++ [.lst ((xs.eraseIdx k).map wTt), .lst (ys.map wTt)])).set (T.length + 2) (.lst (ys.map wTt ++ [wTt xs[k]])) = dst D1 (T ++ [.lst ((xs.eraseIdx k).map wTt), .lst ((ys ++ [xs[k]]).map wTt)]) := by
            unfold dst
            simp
          rw [fAppend_loc, hg2]
          show bc (decide ((ys.map wTt).length < 16000000)) _ _ = _
          rw [decide_eq_true (by rw [List.length_map]; omega), bc_true, hs2]
        have r1 := hg D
        have r1' := hg D1
        have r2 : (dst D (T ++ [.lst (xs.map wTt), .lst (ys.map wTt)]))[T.length + 2]? = some (.lst (ys.map wTt)) := by
          unfold dst
          simp
        have q1 : recvOk "list" (dst D (T ++ [.lst (xs.map wTt), .lst (ys.map wTt)])) (.loc (T.length + 1)) = true := by
          unfold recvOk
          dsimp only
          rw [r1]
          rfl
        have q2 : recvOk "list" (dst D (T ++ [.lst (xs.map wTt), .lst (ys.map wTt)])) (.loc (T.length + 2)) = true := by
          unfold recvOk
          dsimp only
          rw [r2]
          rfl
        simp -implicitDefEqProofs [f_l_shuffled_1, r1, r2, q1, q2, hl2, e1, hp2, ha2]
      unfold sWhileN
      rw [ht]
      dsimp only
      rw [hb]
      exact ih T
theorem run_shuffled {D : List Int} (g : Dr D) {xs : List Tr} (h8 : xs.length ≤ 8) (hab : ∀ t ∈ xs, habitOk t.habit) : ∃ zs D', Dr D' ∧ xs.Perm zs ∧ ∀ D0 T, frR (dst D0 T) (m_l_shuffled [.loc 0, .lst (xs.map wTt)] (dst D T)) = .ok (.lst (zs.map wTt)) (dst D' T) := by
  obtain ⟨zs, D', g', hp, e⟩ := shuf_loop (some (.lst (xs.map wTt))) xs.length g xs [] rfl (by simpa using h8) hab
  refine ⟨zs, D', g', by simpa using hp, fun D0 T => ?_⟩
  have hl : (dst D T).length = T.length + 1 := by simp [dst]
  have c1 : bListC [.lst (xs.map wTt)] (dst D T) = .ok (.loc (T.length + 1)) (dst D (T ++ [.lst (xs.map wTt)])) := by
    simp [dst]
  have e2 := sWhile_is (e T) (by simp)
  rw [List.map_nil] at e2
  have key : m_l_shuffled [.loc 0, .lst (xs.map wTt)] (dst D T) = .ok (.loc (T.length + 2)) (dst D' (T ++ [.lst [], .lst (zs.map wTt)])) := by
    refine (fnM_ev rfl).trans ?_
    have hl3 : (dst D (T ++ [.lst (xs.map wTt)])).length = T.length + 2 := by simp [dst]
    have hl4 : dst D (T ++ [.lst (xs.map wTt)]) ++ [.lst []] = dst D (T ++ [.lst (xs.map wTt), .lst ([].map wTt)]) := by simp [dst]
    simp -implicitDefEqProofs [b_l_shuffled, c1, hl3, hl4, e2]
  rw [key]
  have hk : Kept (dst D0 T) (dst D' (T ++ [.lst [], .lst (zs.map wTt)])) := kept_head (c := .lst (D0.map W.int)) (d := .lst (D'.map W.int)) (T := T) (U := [.lst [], .lst (zs.map wTt)]) (clos_nol (k := 1) (by rw [List.all_map]; exact List.all_eq_true.mpr fun _ _ => rfl))
  have hf : frz 16 (dst D' (T ++ [.lst [], .lst (zs.map wTt)])) (dst D0 T).length (.loc (T.length + 2)) = some (.lst (zs.map wTt)) := frz_locL (by unfold dst; simp) (by simp [dst]) (frzL_all fun x hx => by
    obtain ⟨t, _, rfl⟩ := List.mem_map.mp hx
    exact frz_nol _ _ (nol_le nol_wTt (by omega)))
  rw [frR_ok hk hf]
  congr 1
  simp [dst]
end
end SL

set_option Elab.async false
set_option linter.all false
set_option maxRecDepth 100000
set_option maxHeartbeats 4000000
namespace SL
open PySem PySem.Spec PyProof.Rows L2
def preM (s : Sc) : Int := (s.presses.length : Int)
section
variable {p : Pt} {S : Sto}
theorem run_count_presses (ok : p.Ok) {t : Nat} (h1 : t ≤ 1000000000000000000) : frR S (m_count_presses [wS p, .int (t : Int)] S) = .ok (.int (cnt preM p t)) S := by
  have e1 : ∀ U, frR U (m_check_tick [.int (t : Int)] U) = .ok .non U := fun U => run_check_tick (by omega) (by omega)
  have hl : ∀ s U, l_count_presses_1 [wSc s] U = .ok (.int (preM s)) U := fun s U => by
    have : l_count_presses_1 [wSc s] U = mCall bLen (mCons (mFld .Scene .presses (mVar 0)) (mNil)) [some (wSc s)] U := by
      unfold l_count_presses_1 fnE
      exact if_pos rfl
    rw [this]
    simp -implicitDefEqProofs [preM]
  have e4 : mMtLam .Story (fun n => m_Story_count n l_count_presses_1) (mFr (mCall (newR .Story m_Story___init__) (mCons (mVar 0) (mNil)))) (mVar 1) [some (wS p), some (.int (t : Int))] S = .ok (.int (cnt preM p t)) S := by
    refine mMtLam_ev (w := wSy p) (x := .int (t : Int)) ?_ getO_wSy (by simp) fun n => ?_
    · simp -implicitDefEqProofs [new_wSy ok]
    · rw [run_count ok hl (by omega) (by omega), cntF_is ok]
  have key : m_count_presses [wS p, .int (t : Int)] S = .ok (.int (cnt preM p t)) S := by
    refine (fnM_ev rfl).trans ?_
    simp -implicitDefEqProofs [b_count_presses, e1, e4]
  rw [key, frR_int]
/-- the law's own sum -/
def lsum (xs : List Int) (s : Nat) (t : Int) : Int := if t ≤ xs.length then (xs.take t.toNat).sum
  else (xs.take s).sum + (t - s) / ((xs.length : Int) - s) * (xs.drop s).sum + ((xs.drop s).take ((t - s) % ((xs.length : Int) - s)).toNat).sum
theorem lsum_cnt (ok : p.Ok) (μ : Sc → Int) (t : Nat) : lsum ((story p).1.map μ) (story p).2.toNat (t : Int) = cnt μ p t := by
  rw [← cntF_is ok]
  have hs := story_start ok
  have kl := late_len ok
  have pl := late_pos ok
  unfold lsum cntF
  rw [List.length_map]
  split
  · rfl
  · rename_i h
    have e1 : ((story p).1.length : Int) - ((story p).2.toNat : Int) = ((late p).length : Int) := by omega
    have e2 : (t : Int) - ((story p).2.toNat : Int) = (t : Int) - (story p).2 := by omega
    have hm := Int.emod_nonneg ((t : Int) - (story p).2) (b := ((late p).length : Int)) (by omega)
    rw [e1, e2, show ((story p).2 + ((t : Int) - (story p).2) % ((late p).length : Int)).toNat = (story p).2.toNat + (((t : Int) - (story p).2) % ((late p).length : Int)).toNat by omega, List.take_add, isum_app]
    omega
end
end SL

set_option Elab.async false
set_option linter.all false
set_option maxRecDepth 100000
set_option maxHeartbeats 2000000
namespace SL
open PySem PySem.Spec PyProof.Rows L2
section
variable {α β : Type} (i : α → W) (g : α → Bool) (bs : α → List β) (i1 j : β → W) (g1 : α → β → Bool)
/-- two clauses whose elements change nothing -/
def flat2 (as : List α) : List W := as.flatMap fun a => if g a then ((bs a).filter (g1 a)).map j else []
theorem lcGo2_map {T T1 : Tg} {tt tt1 : M Bool} {mi1 : M (List W)} {te : M W} {vs1 : List Nat} {r : Rho} {S : Sto} (hv : T1.slots.all vs1.contains = true) : ∀ (as : List α) (acc : List W),
    (∀ a ∈ as, ∃ r1, T.run (i a) r = some r1 ∧ (∀ U, tt r1 U = .ok (g a) U) ∧ (g a = true → (∀ U, mi1 r1 U = .ok ((bs a).map i1) U) ∧ ∀ b ∈ bs a, ∃ r2, T1.run (i1 b) (wipeR r1 vs1) = some r2 ∧ (∀ U, tt1 r2 U = .ok (g1 a b) U) ∧ (g1 a b = true → ∀ U, te r2 U = .ok (j b) U))) →
    acc.length + (as.map fun a => (bs a).length).sum ≤ 16000000 →
    lcGo2 T tt mi1 T1 tt1 te vs1 S.length (as.map i) r (S ++ [.lst acc]) = .ok S.length (S ++ [.lst (acc ++ flat2 g bs j g1 as)])
  | [], acc, _, _ => by simp [lcGo2, flat2]
  | x :: xs, acc, h, hl => by
    simp only [List.map_cons, List.sum_cons] at hl
    obtain ⟨r1, h1, h2, h3⟩ := h x List.mem_cons_self
    have ih := fun acc => lcGo2_map (S := S) hv xs acc fun y hy => h y (List.mem_cons_of_mem _ hy)
    rw [List.map_cons]
    unfold lcGo2
    rw [h1]
    dsimp only
    rw [h2]
    have hf : flat2 g bs j g1 (x :: xs) = (if g x then ((bs x).filter (g1 x)).map j else []) ++ flat2 g bs j g1 xs := by
      unfold flat2
      rw [List.flatMap_cons]
    cases hg : g x with
    | false =>
      dsimp only
      rw [ih acc (by omega), hf, hg]
      simp
    | true =>
      obtain ⟨h4, h5⟩ := h3 hg
      dsimp only
      rw [h4]
      dsimp only
      rw [if_pos hv, lcGo_map i1 j (g1 x) (S := S) (bs x) acc h5 (by omega)]
      dsimp only
      have hfl : ((bs x).filter (g1 x)).length ≤ (bs x).length := List.length_filter_le _ _
      rw [ih _ (by rw [List.length_append, List.length_map]; omega), hf, hg]
      simp
theorem mLc2_map {vs vs1 : List Nat} {T T1 : Tg} {mi mi1 : M (List W)} {tt tt1 : M Bool} {te : M W} {r : Rho} {S S1 : Sto} (as : List α) (hm : mi r S = .ok (as.map i) S1) (hv : T.slots.all vs.contains = true) (hv1 : T1.slots.all vs1.contains = true)
    (h : ∀ a ∈ as, ∃ r1, T.run (i a) (wipeR r vs) = some r1 ∧ (∀ U, tt r1 U = .ok (g a) U) ∧ (g a = true → (∀ U, mi1 r1 U = .ok ((bs a).map i1) U) ∧ ∀ b ∈ bs a, ∃ r2, T1.run (i1 b) (wipeR r1 vs1) = some r2 ∧ (∀ U, tt1 r2 U = .ok (g1 a b) U) ∧ (g1 a b = true → ∀ U, te r2 U = .ok (j b) U)))
    (hn : ∀ b, nol 14 (j b) = true) (hl : (as.map fun a => (bs a).length).sum ≤ 16000000) : mLc2 vs vs1 T mi tt mi1 T1 tt1 te r S = .ok (.lst (flat2 g bs j g1 as)) S1 := by
  have e := lcGo2_map i g bs i1 j g1 (S := S1) hv1 as [] h (by simpa using hl)
  have hc : clos S1.length (flat2 g bs j g1 as) = true := clos_nol (k := 14) (List.all_eq_true.mpr fun y hy => by
    unfold flat2 at hy
    obtain ⟨a, _, ha⟩ := List.mem_flatMap.mp hy
    split at ha
    · obtain ⟨b, _, rfl⟩ := List.mem_map.mp ha
      exact hn b
    · cases ha)
  unfold mLc2
  rw [hm]
  dsimp only
  rw [if_pos hv, e]
  dsimp only
  rw [at_app0]
  dsimp only [List.nil_append]
  rw [if_pos ⟨by simp, hc, kept_app _ _⟩, List.take_left]
end
end SL

set_option Elab.async false
set_option linter.all false
set_option maxRecDepth 100000
set_option maxHeartbeats 4000000
namespace SL
open PySem PySem.Spec PyProof.Rows L2
section
variable {p : Pt} {S : Sto}
theorem outer_len (p : Pt) (tick : Int) : ∀ (k : Nat) (ts : List Tr) (now : Int) (ps : Prs) (wk : List Int), (outer p tick k ts now ps wk).2.1.length ≤ ps.length + 50 * ts.length
  | _, [], _, _, _ => Nat.le_refl _
  | k, t :: ts, now, ps, wk => by
    unfold outer
    have h1 := inner_len p.time t k (ages p t tick) now ps
    have h2 : (ages p t tick).length ≤ 50 := agesN_len _ _ _ _
    have h3 := outer_len p tick (k + 1) ts (inner p.time t k now ps (ages p t tick)).1 (inner p.time t k now ps (ages p t tick)).2 (if (ages p t tick).isEmpty then wk else wk ++ [(k : Int)])
    rw [List.length_cons]
    omega
theorem cycN_few (p : Pt) : ∀ (n : Nat) (found : List Sc) (light : Int) (seen : Sn) (r : List Sc × Int), cycN p n found light seen = some r → (∀ s ∈ found, s.presses.length ≤ 50 * p.trips.length) → ∀ s ∈ r.1, s.presses.length ≤ 50 * p.trips.length
  | 0, _, _, _, _, h, _ => by cases h
  | n + 1, found, light, seen, r, h, hf => by
    have hs : ∀ s ∈ found ++ [scene p light found.length], s.presses.length ≤ 50 * p.trips.length := fun s hs => by
      rcases List.mem_append.mp hs with hs | hs
      · exact hf s hs
      · rw [List.mem_singleton.mp hs]
        have := outer_len p found.length 0 p.trips (dim light) [] []
        simpa [scene] using this
    unfold cycN at h
    split at h
    · split at h
      · cases h
        exact hf
      · exact cycN_few p n _ _ _ r h hs
    · exact cycN_few p n _ _ _ r h hs
theorem story_few (ok : p.Ok) : ∀ s ∈ (story p).1, s.presses.length ≤ 400 := fun s hs => by
  have := cycN_few p 3000 [] 0 [] _ (story_is ok) (by simp) s hs
  have := ok.n
  omega
theorem nsum_le {α : Type} (f : α → Nat) (c : Nat) : ∀ (as : List α), (∀ a ∈ as, f a ≤ c) → (as.map f).sum ≤ c * as.length
  | [], _ => by simp
  | a :: as, h => by
    have h1 := h a List.mem_cons_self
    have h2 := nsum_le f c as fun b hb => h b (List.mem_cons_of_mem _ hb)
    rw [List.map_cons, List.sum_cons, List.length_cons, Nat.mul_add]
    omega
/-- the trips that press, scene by scene -/
def pressing (p : Pt) : List Int := (story p).1.flatMap fun s => s.presses.map fun a => a.1
theorem pressing_lc (ok : p.Ok) : mLc2 [2, 3, 4] [3, 4] (.n 2) (iL (mFld .Story .scenes (mFr (mCall (newR .Story m_Story___init__) (mCons (mVar 0) (mNil)))))) (mYes) (j_idle_trips_1) (.t [3, 4]) (mYes) (e_idle_trips_1) [some (wS p), none, none, none, none] S = .ok (.lst ((pressing p).map W.int)) S := by
  have hl := story_len ok
  have e := mLc2_map (S := S) (S1 := S) (vs := [2, 3, 4]) (vs1 := [3, 4]) (T := .n 2) (T1 := .t [3, 4]) (mi := iL (mFld .Story .scenes (mFr (mCall (newR .Story m_Story___init__) (mCons (mVar 0) (mNil)))))) (tt := mYes) (mi1 := j_idle_trips_1) (tt1 := mYes) (te := e_idle_trips_1) (r := [some (wS p), none, none, none, none])
    wSc (fun _ => true) (fun s : Sc => s.presses) wPr (fun a => W.int a.1) (fun _ _ => true) (story p).1 ?_ (by decide) (by decide) ?_ (fun _ => rfl) ?_
  · rw [e]
    congr 2
    unfold flat2 pressing
    rw [List.map_flatMap]
    congr 1
    funext s
    show ((s.presses.filter fun _ => true).map fun a => W.int a.1) = _
    rw [List.filter_eq_self.mpr (by simp), List.map_map]
    rfl
  · simp -implicitDefEqProofs [new_wSy ok]
  · intro s _
    refine ⟨_, rfl, fun _ => rfl, fun _ => ⟨fun U => ?_, fun b _ => ⟨_, rfl, fun _ => rfl, fun _ U => ?_⟩⟩⟩
    · simp -implicitDefEqProofs [j_idle_trips_1, wipeR]
    · rfl
  · have := nsum_le (fun s : Sc => s.presses.length) 400 (story p).1 (story_few ok)
    omega
/-- the trips that never press -/
def idle (p : Pt) : List Nat := (List.range p.trips.length).filter fun (k : Nat) => !(pressing p).contains (k : Int)
theorem notIn_ints {x : Int} {ns : List Int} : opNotInQ (.int x) (.lst (ns.map W.int)) S = .ok (.bl (!ns.contains x)) S := by
  have h1 : (ns.map W.int).all flatW = true := by
    rw [List.all_map]
    exact List.all_eq_true.mpr fun _ _ => rfl
  have h2 : inW (.int x) (ns.map W.int) = ns.contains x := by
    unfold inW
    rw [List.any_map]
    induction ns with
    | nil => rfl
    | cons n ns ih =>
      rw [List.any_cons, List.contains_cons]
      congr 1
      · show eqW (.int n) (.int x) = _
        unfold eqW toV eqV
        show (n == x) = (x == n)
        rw [Bool.eq_iff_iff, beq_iff_eq, beq_iff_eq]
        exact ⟨Eq.symm, Eq.symm⟩
      · exact ih (by
          rw [List.all_map]
          exact List.all_eq_true.mpr fun _ _ => rfl)
  show (match getQ S (.lst (ns.map W.int)) with | some xs => if flatW (.int x) && xs.all flatW then (Res.ok (W.bl (!inW (.int x) xs)) S : Res W) else .stuck | none => .stuck) = _
  rw [show getQ S (.lst (ns.map W.int)) = some (ns.map W.int) from rfl]
  dsimp only
  rw [if_pos (by rw [h1]; rfl), h2]
theorem run_idle (ok : p.Ok) : m_idle_trips [wS p] S = .ok (.loc S.length) (S ++ [.lst ((idle p).map fun (k : Nat) => W.int (k : Int))]) := by
  have hn := ok.n
  have e1 := pressing_lc (S := S) ok
  have e2 : mLcC [3] (.n 3) (iR1 (mCons (mCall bLen (mCons (mFld .Stairs .trips (mVar 0)) (mNil))) (mNil))) (i_idle_trips_1) (e_idle_trips_2) [some (wS p), some (.lst ((pressing p).map W.int)), none, none, none] S = .ok (.loc S.length) (S ++ [.lst ((idle p).map fun (k : Nat) => W.int (k : Int))]) := by
    refine mLcC_if (fun (k : Nat) => W.int (k : Int)) (fun (k : Nat) => W.int (k : Int)) (fun k => !(pressing p).contains (k : Int)) (List.range p.trips.length) ?_ (by decide) (fun k _ => ⟨_, rfl, fun U => ?_, fun _ U => ?_⟩) (by simp; omega)
    · have : itR1 [.int (p.trips.length : Int)] S = .ok (rngW 0 1 p.trips.length) S := itR1_len (by omega)
      simp -implicitDefEqProofs [this, rngW]
    · have h : opNotInQ (.int (k : Int)) (.lst ((pressing p).map W.int)) U = .ok (.bl (!(pressing p).contains (k : Int))) U := notIn_ints
      simp -implicitDefEqProofs [i_idle_trips_1, wipeR, h]
    · simp -implicitDefEqProofs [e_idle_trips_2, wipeR]
  refine (fnM_ev rfl).trans ?_
  simp -implicitDefEqProofs [b_idle_trips, e1, e2]
end
end SL

set_option Elab.async false
set_option linter.all false
set_option maxRecDepth 100000
set_option maxHeartbeats 2000000
/-! the scenes of all ticks, one by the other -/
namespace SL
open PySem PySem.Spec PyProof.Rows L2
theorem foldl_max_mem : ∀ (xs : List Int) (a : Int), a ≤ xs.foldl max a ∧ ∀ x ∈ xs, x ≤ xs.foldl max a
  | [], a => ⟨Int.le_refl _, by simp⟩
  | y :: xs, a => by
    have ih := foldl_max_mem xs (max a y)
    refine ⟨Int.le_trans (Int.le_max_left a y) ih.1, fun x hx => ?_⟩
    rcases List.mem_cons.mp hx with rfl | hx
    · exact Int.le_trans (Int.le_max_right a x) ih.1
    · exact ih.2 x hx
section
variable {p : Pt}
theorem dur_longest {t : Tr} (h : t ∈ p.trips) : t.dur ≤ longest p := (foldl_max_mem _ 0).2 _ (List.mem_map_of_mem h)
theorem longest_nn : 0 ≤ longest p := (foldl_max_mem _ 0).1
theorem ages_per {t : Tr} (h : t ∈ p.trips) {a b : Int} (ha : longest p ≤ a) (hb : longest p ≤ b) (e : a % p.length = b % p.length) : ages p t a = ages p t b := by
  have hd := dur_longest h
  have e1 : t.lim a = t.lim b := by
    unfold Tr.lim
    rw [if_pos (by omega), if_pos (by omega)]
  have e2 : (a - t.start) % p.length = (b - t.start) % p.length := by rw [Int.sub_emod, e, ← Int.sub_emod]
  unfold ages
  rw [e1, e2]
theorem outer_congr {q : Pt} {a b : Int} (ht : p.time = q.time) : ∀ (ts : List Tr) (k : Nat) (now : Int) (ps : Prs) (wk : List Int), (∀ t ∈ ts, ages p t a = ages q t b) → outer p a k ts now ps wk = outer q b k ts now ps wk
  | [], _, _, _, _, _ => rfl
  | t :: ts, k, now, ps, wk, h => by
    unfold outer
    rw [h t List.mem_cons_self, ht]
    exact outer_congr ht ts _ _ _ _ fun u hu => h u (List.mem_cons_of_mem _ hu)
theorem scene_per {l a b : Int} (ha : longest p ≤ a) (hb : longest p ≤ b) (e : a % p.length = b % p.length) : scene p l a = scene p l b := by
  unfold scene
  rw [outer_congr rfl p.trips 0 (dim l) [] [] fun t ht => ages_per ht ha hb e]
/-- the light behind the first i scenes -/
def lightB (fs : List Sc) : Nat → Int
  | 0 => 0
  | i + 1 => ((fs[i]?).map Sc.light).getD 0
theorem lightB_succ {fs : List Sc} {i : Nat} : lightB fs (i + 1) = ((fs[i]?).map Sc.light).getD 0 := rfl
theorem lightB_app {fs gs : List Sc} : ∀ {i : Nat}, i ≤ fs.length → lightB (fs ++ gs) i = lightB fs i
  | 0, _ => rfl
  | i + 1, h => by
    rw [lightB_succ, lightB_succ, List.getElem?_append_left (by omega)]
def Linked (p : Pt) (fs : List Sc) : Prop := ∀ (i : Nat) (s : Sc), fs[i]? = some s → s = scene p (lightB fs i) (i : Int)
theorem Linked.snoc {fs : List Sc} (h : Linked p fs) : Linked p (fs ++ [scene p (lightB fs fs.length) (fs.length : Int)]) := fun i s e => by
  by_cases hi : i < fs.length
  · rw [List.getElem?_append_left hi] at e
    rw [lightB_app (by omega)]
    exact h i s e
  · have hl := (List.getElem?_eq_some_iff.mp e).1
    rw [List.length_append, List.length_singleton] at hl
    have : i = fs.length := by omega
    subst this
    rw [List.getElem?_append_right (Nat.le_refl _), Nat.sub_self] at e
    rw [lightB_app (Nat.le_refl _)]
    exact (Option.some.inj e).symm
theorem lightB_snoc {fs : List Sc} {x : Sc} : lightB (fs ++ [x]) (fs ++ [x]).length = x.light := by
  rw [List.length_append, List.length_singleton, lightB_succ, List.getElem?_append_right (Nat.le_refl _), Nat.sub_self]
  rfl
def SeenOk (p : Pt) (fs : List Sc) (seen : Sn) : Prop := ∀ q ∈ seen, ∃ j : Nat, q.2 = (j : Int) ∧ j < fs.length ∧ longest p ≤ j ∧ q.1 = ((j : Int) % p.length, lightB fs j)
theorem SeenOk.app {fs gs : List Sc} {seen : Sn} (h : SeenOk p fs seen) : SeenOk p (fs ++ gs) seen := fun q hq => by
  obtain ⟨j, h1, h2, h3, h4⟩ := h q hq
  exact ⟨j, h1, by rw [List.length_append]; omega, h3, by rw [lightB_app (by omega)]; exact h4⟩
theorem snGet_at {s : Sn} {k : Int × Int} {i : Int} (h : snGet s k = some i) : (k, i) ∈ s := by
  unfold snGet at h
  obtain ⟨q, hq, e⟩ := Option.map_eq_some_iff.mp h
  have h1 := List.mem_of_find?_eq_some hq
  have h2 : q.1 = k := by simpa using List.find?_some hq
  have e : q.2 = i := e
  rw [← h2, ← e]
  exact h1
theorem cycN_spec : ∀ (n : Nat) (found : List Sc) (seen : Sn) (r : List Sc × Int), Linked p found → SeenOk p found seen → cycN p n found (lightB found found.length) seen = some r →
    Linked p r.1 ∧ ∃ j : Nat, r.2 = (j : Int) ∧ j < r.1.length ∧ longest p ≤ j ∧ (r.1.length : Int) % p.length = (j : Int) % p.length ∧ lightB r.1 r.1.length = lightB r.1 j
  | 0, _, _, _, _, _, h => by cases h
  | n + 1, found, seen, r, hl, hs, h => by
    have next : ∀ seen', SeenOk p (found ++ [scene p (lightB found found.length) found.length]) seen' → cycN p n (found ++ [scene p (lightB found found.length) found.length]) (scene p (lightB found found.length) found.length).light seen' = some r →
        Linked p r.1 ∧ ∃ j : Nat, r.2 = (j : Int) ∧ j < r.1.length ∧ longest p ≤ j ∧ (r.1.length : Int) % p.length = (j : Int) % p.length ∧ lightB r.1 r.1.length = lightB r.1 j := fun seen' hs' h' => by
      refine cycN_spec n _ seen' r hl.snoc hs' ?_
      rw [lightB_snoc]
      exact h'
    unfold cycN at h
    by_cases h1 : longest p ≤ found.length
    · rw [if_pos h1] at h
      cases hg : snGet seen ((found.length : Int) % p.length, lightB found found.length) with
      | some s2 =>
        rw [hg] at h
        have h : some (found, s2) = some r := h
        cases h
        obtain ⟨j, e1, e2, e3, e4⟩ := hs _ (snGet_at hg)
        obtain ⟨e5, e6⟩ := Prod.mk.inj e4
        exact ⟨hl, j, e1, e2, e3, e5, e6⟩
      | none =>
        rw [hg] at h
        refine next _ (fun q hq => ?_) h
        rcases List.mem_append.mp hq with hq | hq
        · exact hs.app q hq
        · rw [List.mem_singleton] at hq
          subst hq
          exact ⟨found.length, rfl, by simp, h1, by rw [lightB_app (Nat.le_refl _)]⟩
    · rw [if_neg h1] at h
      exact next _ hs.app h
theorem story_spec (ok : p.Ok) : Linked p (story p).1 ∧ ∃ j : Nat, (story p).2 = (j : Int) ∧ j < (story p).1.length ∧ longest p ≤ j ∧ ((story p).1.length : Int) % p.length = (j : Int) % p.length ∧ lightB (story p).1 (story p).1.length = lightB (story p).1 j :=
  cycN_spec 3000 [] [] _ (fun i s e => by simp at e) (fun q hq => by simp at hq) (story_is ok)
theorem scn_at (ok : p.Ok) {i : Nat} (h : i < (story p).1.length) : (story p).1[i]? = some (scn p (i : Int)) := by
  have := plc_at ok (tick := (i : Int)) (by omega)
  have e : plc (story p).1.length (story p).2 (i : Int) = (i : Int) := if_pos (by omega)
  rw [e, Int.toNat_natCast] at this
  exact this
theorem scn_plc {i : Nat} {t : Int} (h : (plc (story p).1.length (story p).2 t).toNat = i) (hi : (i : Int) < (story p).1.length) : scn p t = scn p (i : Int) := by
  have e : plc (story p).1.length (story p).2 (i : Int) = (i : Int) := if_pos hi
  unfold scn
  rw [h, e, Int.toNat_natCast]
theorem lightB_scn (ok : p.Ok) {i : Nat} (h : i < (story p).1.length) : lightB (story p).1 (i + 1) = (scn p (i : Int)).light := by
  rw [lightB_succ, scn_at ok h]
  rfl
theorem scn_zero (ok : p.Ok) : scn p 0 = scene p 0 0 := (story_spec ok).1 0 _ (scn_at ok (i := 0) (story_pos ok))
/-- each scene by the one before -/
theorem scn_step (ok : p.Ok) (t : Nat) : scn p ((t : Int) + 1) = scene p (scn p (t : Int)).light ((t : Int) + 1) := by
  obtain ⟨hl, j, e1, e2, e3, e4, e5⟩ := story_spec ok
  have hL := ok.l0
  by_cases h1 : t + 1 < (story p).1.length
  · have h := hl (t + 1) _ (scn_at ok h1)
    rw [lightB_scn ok (by omega)] at h
    exact h
  · -- beyond: t stands at the place m, t + 1 at the next one
    have key : ∃ m : Nat, m < (story p).1.length ∧ scn p (t : Int) = scn p (m : Int) ∧ (m : Int) % p.length = (t : Int) % p.length ∧ (longest p ≤ (m : Int) + 1) ∧ ((m + 1 < (story p).1.length ∧ scn p ((t : Int) + 1) = scn p ((m + 1 : Nat) : Int)) ∨ (m + 1 = (story p).1.length ∧ scn p ((t : Int) + 1) = scn p (j : Int))) := by
      obtain ⟨M, hM⟩ : ∃ M : Nat, M = (story p).1.length - j := ⟨_, rfl⟩
      have hM0 : 0 < M := by omega
      have hd : ((M : Nat) : Int) % p.length = 0 := by
        have : ((M : Nat) : Int) = (story p).1.length - (j : Int) := by omega
        rw [this, Int.sub_emod, e4, ← Int.sub_emod, Int.sub_self, Int.zero_emod]
      have pl : ∀ u : Nat, (story p).1.length ≤ u → (plc (story p).1.length (story p).2 (u : Int)).toNat = j + (u - j) % M := fun u hu => by
        unfold plc
        rw [if_neg (by omega), e1, show ((story p).1.length : Int) - (j : Int) = ((M : Nat) : Int) by omega, show (u : Int) - (j : Int) = ((u - j : Nat) : Int) by omega, ← Int.natCast_emod]
        omega
      by_cases h2 : t < (story p).1.length
      · have ht : t + 1 = (story p).1.length := by omega
        refine ⟨t, h2, rfl, rfl, by omega, .inr ⟨ht, ?_⟩⟩
        have q := pl (t + 1) (by omega)
        rw [show t + 1 - j = M by omega, Nat.mod_self, Nat.add_zero] at q
        exact scn_plc q (by omega)
      · have q := pl t (by omega)
        have q2 := pl (t + 1) (by omega)
        have hm := Nat.mod_lt (t - j) hM0
        have dv := Nat.div_add_mod (t - j) M
        refine ⟨j + (t - j) % M, by omega, scn_plc q (by omega), ?_, by omega, ?_⟩
        · have : (t : Int) = ((j + (t - j) % M : Nat) : Int) + (M : Int) * (((t - j) / M : Nat) : Int) := by
            rw [← Int.natCast_mul, ← Int.natCast_add]
            omega
          rw [this, Int.add_emod, Int.mul_emod, hd]
          simp
        · by_cases h3 : (t - j) % M + 1 < M
          · refine .inl ⟨by omega, ?_⟩
            have : (t + 1 - j) % M = (t - j) % M + 1 := by
              rw [show t + 1 - j = M * ((t - j) / M) + ((t - j) % M + 1) by omega, Nat.mul_add_mod, Nat.mod_eq_of_lt h3]
            rw [this] at q2
            exact scn_plc (by rw [show ((t : Int) + 1) = ((t + 1 : Nat) : Int) by omega]; omega) (by omega)
          · refine .inr ⟨by omega, ?_⟩
            have : (t + 1 - j) % M = 0 := by
              rw [show t + 1 - j = M * ((t - j) / M + 1) by rw [Nat.mul_add, Nat.mul_one]; omega, Nat.mul_mod_right]
            rw [this] at q2
            exact scn_plc (by rw [show ((t : Int) + 1) = ((t + 1 : Nat) : Int) by omega]; omega) (by omega)
    have bey : (longest p : Int) ≤ (t : Int) + 1 := by omega
    obtain ⟨m, hm, k1, k2, k3, k4⟩ := key
    have k5 : ((m : Int) + 1) % p.length = ((t : Int) + 1) % p.length := by rw [Int.add_emod, k2, ← Int.add_emod]
    rcases k4 with ⟨h4, k4⟩ | ⟨h4, k4⟩
    · have h := hl (m + 1) _ (scn_at ok h4)
      rw [lightB_scn ok hm] at h
      rw [k4, h, k1]
      exact scene_per (by omega) bey (by rw [show ((m + 1 : Nat) : Int) = (m : Int) + 1 by omega]; exact k5)
    · have h := hl j _ (scn_at ok e2)
      rw [k4, h, k1, ← lightB_scn ok hm, h4, e5]
      exact scene_per e3 bey (by rw [← e4, ← k5]; congr 1; omega)
end
end SL

set_option Elab.async false
set_option linter.all false
set_option maxRecDepth 100000
set_option maxHeartbeats 4000000
namespace SL
open PySem PySem.Spec PyProof.Rows L2
/-! ### generators -/
section
variable {a b : MGy} {m : MSt} {ws ws' xs ys : List W} {r r' : Rho} {S S' : Sto}
theorem gSeq_nx (h : a ws r S = .ok (ws', .nx r') S') : gSeq a b ws r S = b ws' r' S' := by
  unfold gSeq
  rw [h]
theorem gPl_ok {f : Fw} (h : m r S = .ok f S') : gPl m ws r S = .ok (ws, f) S' := by
  unfold gPl
  rw [h]
theorem gFor_ok {T : Tg} {mi : M (List W)} (h : mi r S = .ok xs S') : gFor T mi b ws r S = gForL T b xs ws r S' := by
  unfold gFor
  rw [bind_def, h]
theorem gYd_ok {e : M W} {w : W} (h : e r S = .ok w S') (hl : ws.length < 16000000) : gYd e ws r S = .ok (ws ++ [w], .nx r) S' := by
  unfold gYd
  rw [if_pos hl, h]
theorem gForL_nx {T : Tg} {x : W} {r1 r2 : Rho} (h1 : T.run x r = some r1) (h2 : b ws r1 S = .ok (ws', .nx r2) S') : gForL T b (x :: xs) ws r S = gForL T b xs ws' r2 S' := by
  rw [gForL, h1]
  dsimp only
  rw [h2]
theorem fnG_ev {n k : Nat} (h : ws.length = k) : fnG n k b ws S = endG (b [] (ws.map some ++ List.replicate (n - k) none) S) := if_pos h
def lgR : Res (List W) → Res W
  | .ok ys S => .ok (.lst ys) S
  | _ => .stuck
@[simp] theorem lgR_ok : lgR (.ok ys S) = .ok (.lst ys) S := rfl
@[simp] theorem mListG_ev {g : GnM} {t : M (List W)} : mListG g t r S = (t r S).bd fun ws S1 => lgR (g ws S1) := by
  unfold mListG
  rw [bind_ev]
  refine bd_ext fun w S1 => ?_
  cases g w S1 <;> rfl
end
section
variable {p : Pt} {S : Sto}
theorem yd_press {t : Int} {a c : Int} {x0 x1 x2 x3 : Option W} {ws : List W} (hl : ws.length < 16000000) : f_presses_between_1 ws [x0, x1, x2, x3, some (.int t), some (.int a), some (.int c)] S = .ok (ws ++ [wPr3 t (a, c)], .nx [x0, x1, x2, x3, some (.int t), some (.int a), some (.int c)]) S := by
  have e : mTup (mCons (mVar 4) (mCons (mVar 5) (mCons (mVar 6) mNil))) [x0, x1, x2, x3, some (.int t), some (.int a), some (.int c)] S = .ok (wPr3 t (a, c)) S := by simp [wPr3]
  exact gSeq_nx (gYd_ok e hl)
theorem press_in {t : Int} (x0 x1 x2 x3 : Option W) : ∀ (ps : Prs) (x5 x6 : Option W) (ws : List W), ws.length + ps.length < 16000000 → ∃ y5 y6,
    gForL (.t [5, 6]) f_presses_between_1 (ps.map wPr) ws [x0, x1, x2, x3, some (.int t), x5, x6] S = .ok (ws ++ ps.map (wPr3 t), .nx [x0, x1, x2, x3, some (.int t), y5, y6]) S
  | [], x5, x6, ws, _ => ⟨x5, x6, by rw [List.map_nil, List.map_nil, List.append_nil]; rfl⟩
  | (a, c) :: ps, x5, x6, ws, h => by
    simp only [List.length_cons] at h
    obtain ⟨y5, y6, e⟩ := press_in x0 x1 x2 x3 ps (some (.int a)) (some (.int c)) (ws ++ [wPr3 t (a, c)]) (by simp; omega)
    refine ⟨y5, y6, ?_⟩
    rw [List.map_cons, gForL_nx (r1 := [x0, x1, x2, x3, some (.int t), some (.int a), some (.int c)]) rfl (yd_press (by omega)), e, List.map_cons, List.append_assoc]
    rfl
/-- all presses of some ticks -/
def tellP (p : Pt) (ts : List Int) : List W := ts.flatMap fun t => (scn p t).presses.map (wPr3 t)
theorem scn_few (ok : p.Ok) {t : Int} (h : 0 ≤ t) : (scn p t).presses.length ≤ 400 := story_few ok _ (List.mem_of_getElem? (plc_at ok h))
theorem press_out (ok : p.Ok) (x0 x1 x2 : Option W) : ∀ (ts : List Int) (x4 x5 x6 : Option W) (ws : List W), (∀ t ∈ ts, 0 ≤ t) → ws.length + 400 * ts.length < 16000000 → ∃ y4 y5 y6,
    gForL (.n 4) f_presses_between_2 (ts.map W.int) ws [x0, x1, x2, some (wSy p), x4, x5, x6] S = .ok (ws ++ tellP p ts, .nx [x0, x1, x2, some (wSy p), y4, y5, y6]) S
  | [], x4, x5, x6, ws, _, _ => ⟨x4, x5, x6, by show _ = Res.ok (ws ++ [], _) S; rw [List.append_nil]; rfl⟩
  | t :: ts, x4, x5, x6, ws, h0, h => by
    have ht := h0 t List.mem_cons_self
    have hf := scn_few ok ht
    simp only [List.length_cons] at h
    have e1 : ∀ U, frR U (m_Story_scene [wSy p, .int t] U) = .ok (wSc (scn p t)) U := fun U => run_sceneAt ok ht
    obtain ⟨z5, z6, e2⟩ := press_in (S := S) (t := t) x0 x1 x2 (some (wSy p)) (scn p t).presses x5 x6 ws (by omega)
    have hi : iL (mFld .Scene .presses (mFr (mMeth .Story m_Story_scene (mVar 3) (mCons (mVar 4) mNil)))) [x0, x1, x2, some (wSy p), some (.int t), x5, x6] S = .ok ((scn p t).presses.map wPr) S := by
      simp -implicitDefEqProofs [e1]
    have hb : f_presses_between_2 ws [x0, x1, x2, some (wSy p), some (.int t), x5, x6] S = .ok (ws ++ (scn p t).presses.map (wPr3 t), .nx [x0, x1, x2, some (wSy p), some (.int t), z5, z6]) S :=
      gSeq_nx ((gFor_ok hi).trans e2)
    obtain ⟨y4, y5, y6, e⟩ := press_out ok x0 x1 x2 ts (some (.int t)) z5 z6 (ws ++ (scn p t).presses.map (wPr3 t)) (fun u hu => h0 u (List.mem_cons_of_mem _ hu)) (by simp; omega)
    refine ⟨y4, y5, y6, ?_⟩
    rw [List.map_cons, gForL_nx (r1 := [x0, x1, x2, some (wSy p), some (.int t), x5, x6]) rfl hb, e]
    show Res.ok (_, _) S = Res.ok (ws ++ (t :: ts).flatMap _, _) S
    rw [List.flatMap_cons, List.append_assoc]
    rfl
theorem seqI_mem {lo x : Int} {n : Nat} (h : x ∈ seqI lo n) : lo ≤ x ∧ x < lo + n := by
  unfold seqI at h
  obtain ⟨i, hi, rfl⟩ := List.mem_map.mp h
  have := List.mem_range.mp hi
  omega
theorem seqI_len {lo : Int} {n : Nat} : (seqI lo n).length = n := by simp [seqI]
theorem run_presses (ok : p.Ok) {a c : Int} (h0 : 0 ≤ a) (h1 : a ≤ 1000000000000000000) (h2 : a - 1 ≤ c) (h3 : c ≤ 1000000000000000000) (h4 : c ≤ a + 999) :
    m_presses_between [wS p, .int a, .int c] S = .ok (tellP p (seqI a (c + 1 - a).toNat)) S := by
  have e1 : ∀ U, frR U (m_check_tick [.int a] U) = .ok .non U := fun U => run_check_tick h0 h1
  have e2 : ∀ U, frR U (newR .Story m_Story___init__ [wS p] U) = .ok (wSy p) U := fun U => new_wSy ok
  have em : ∀ U, bMin [.int 1000000000000000000, .int (a + 1000 - 1)] U = .ok (.int (if a + 1000 - 1 < 1000000000000000000 then a + 1000 - 1 else 1000000000000000000)) U := fun U => by
    simp [bMin]
  have e3 : ∀ U, frR U (m_is_int_in [.int c, .int (a - 1), .int (if a + 1000 - 1 < 1000000000000000000 then a + 1000 - 1 else 1000000000000000000)] U) = .ok (.bl true) U := fun U => by
    rw [run_in h2 (by split <;> omega), frR_bl]
  have e4 : ∀ U, itR2 [.int a, .int (c + 1)] U = .ok ((seqI a (c + 1 - a).toNat).map W.int) U := fun U => by rw [itR2_ev (by omega) (by omega) (by omega) (by omega), rngW_seqI]
  obtain ⟨y4, y5, y6, e5⟩ := press_out (S := S) ok (some (wS p)) (some (.int a)) (some (.int c)) (seqI a (c + 1 - a).toNat) none none none [] (fun t ht => by have := seqI_mem ht; omega) (by rw [seqI_len, List.length_nil]; omega)
  refine (fnG_ev rfl).trans ?_
  have s1 : sExpr (mFr (mCall m_check_tick (mCons (mVar 1) mNil))) [some (wS p), some (.int a), some (.int c), none, none, none, none] S = .ok (.nx [some (wS p), some (.int a), some (.int c), none, none, none, none]) S := by simp -implicitDefEqProofs [e1]
  have s2 : sIf (mNot (mB (mFr (mCall m_is_int_in (mCons (mVar 2) (mCons (mOp opSub (mVar 1) (mC (.int 1))) (mCons (mCall bMin (mCons (mC (.int 1000000000000000000)) (mCons (mOp opSub (mOp opAdd (mVar 1) (mC (.int 1000))) (mC (.int 1))) mNil))) mNil))))))) (fun _ _ => .stuck) sNext [some (wS p), some (.int a), some (.int c), none, none, none, none] S = .ok (.nx [some (wS p), some (.int a), some (.int c), none, none, none, none]) S := by
    simp -implicitDefEqProofs [em, e3]
  have s3 : sSet 3 (mFr (mCall (newR .Story m_Story___init__) (mCons (mVar 0) mNil))) [some (wS p), some (.int a), some (.int c), none, none, none, none] S = .ok (.nx [some (wS p), some (.int a), some (.int c), some (wSy p), none, none, none]) S := by simp -implicitDefEqProofs [e2]
  have s4 : iR2 (mCons (mVar 1) (mCons (mOp opAdd (mVar 2) (mC (.int 1))) mNil)) [some (wS p), some (.int a), some (.int c), some (wSy p), none, none, none] S = .ok ((seqI a (c + 1 - a).toNat).map W.int) S := by simp -implicitDefEqProofs [e4]
  have key : b_presses_between [] [some (wS p), some (.int a), some (.int c), none, none, none, none] S = .ok (tellP p (seqI a (c + 1 - a).toNat), .nx [some (wS p), some (.int a), some (.int c), some (wSy p), y4, y5, y6]) S := by
    unfold b_presses_between
    rw [gSeq_nx (gPl_ok s1), gSeq_nx (gPl_ok s2), gSeq_nx (gPl_ok s3), gSeq_nx ((gFor_ok s4).trans e5)]
    rfl
  exact congrArg endG key
theorem nol_tellP {ts : List Int} : nol 3 (.lst (tellP p ts)) = true := by
  show (tellP p ts).all (nol 2) = true
  refine List.all_eq_true.mpr fun x hx => ?_
  obtain ⟨t, _, hx⟩ := List.mem_flatMap.mp hx
  obtain ⟨a, _, rfl⟩ := List.mem_map.mp hx
  rfl
theorem run_pressesF (ok : p.Ok) {a c : Int} (h0 : 0 ≤ a) (h1 : a ≤ 1000000000000000000) (h2 : a - 1 ≤ c) (h3 : c ≤ 1000000000000000000) (h4 : c ≤ a + 999) :
    frR S (lgR (m_presses_between [wS p, .int a, .int c] S)) = .ok (.lst (tellP p (seqI a (c + 1 - a).toNat))) S := by
  rw [run_presses ok h0 h1 h2 h3 h4, lgR_ok]
  exact frR_nols (nol_le nol_tellP (by omega))
/-! ### who stands in the dark -/
theorem run_in_dark (ok : p.Ok) {t : Int} (h0 : 0 ≤ t) (h1 : t ≤ 1000000000000000000) : m_in_dark [wS p, .int t] S = .ok (.loc S.length) (S ++ [.lst ((scn p t).dark.map W.int)]) := by
  have e1 : ∀ U, frR U (m_check_tick [.int t] U) = .ok .non U := fun U => run_check_tick h0 h1
  have e2 : ∀ U, frR U (newR .Story m_Story___init__ [wS p] U) = .ok (wSy p) U := fun U => new_wSy ok
  have e3 : ∀ U, frR U (m_Story_scene [wSy p, .int t] U) = .ok (wSc (scn p t)) U := fun U => run_sceneAt ok h0
  refine (fnM_ev rfl).trans ?_
  simp -implicitDefEqProofs [b_in_dark, e1, e2, e3]
theorem run_in_darkF (ok : p.Ok) {t : Int} (h0 : 0 ≤ t) (h1 : t ≤ 1000000000000000000) : frR S (m_in_dark [wS p, .int t] S) = .ok (.lst ((scn p t).dark.map W.int)) S := by
  rw [run_in_dark ok h0 h1]
  exact frR_app (frz_locL at_app0 (Nat.le_refl _) (frz_ints 14))
/-! ### the first ticks, one by the other -/
def dayL (p : Pt) : Nat → Int
  | 0 => 0
  | k + 1 => (scn p (k : Int)).light
theorem dayL_succ {k : Nat} : dayL p (k + 1) = (scn p (k : Int)).light := rfl
theorem scn_day (ok : p.Ok) : ∀ k : Nat, scn p (k : Int) = scene p (dayL p k) (k : Int)
  | 0 => scn_zero ok
  | k + 1 => scn_step ok k
def days (p : Pt) (n : Nat) : List Sc := (List.range n).map fun (i : Nat) => scn p (i : Int)
theorem days_len {n : Nat} : (days p n).length = n := by simp [days]
theorem days_succ {n : Nat} : days p (n + 1) = days p n ++ [scn p (n : Int)] := by simp [days, List.range_succ]
theorem days_at {n i : Nat} (h : i < n) : (days p n)[i]? = some (scn p (i : Int)) := by simp [days, h]
theorem days_loop (ok : p.Ok) (x1 : Option W) : ∀ (m k : Nat) (x4 : Option W), k + m < 1000000 → ∃ y4,
    sForL (.n 4) f_l_days_1 ((List.range' k m).map fun (i : Nat) => W.int (i : Int)) [some (wP p), x1, some (.loc S.length), some (.int (dayL p k)), x4] (S ++ [.lst (wFs 0 (days p k))]) =
      .ok (.nx [some (wP p), x1, some (.loc S.length), some (.int (dayL p (k + m))), y4]) (S ++ [.lst (wFs 0 (days p (k + m)))])
  | 0, k, x4, _ => ⟨x4, rfl⟩
  | m + 1, k, x4, h => by
    have e1 : ∀ S', frR S' (m_l_tick [wP p, .int (dayL p k), .int (k : Int)] S') = .ok (wTk k (scn p (k : Int))) S' := fun S' => by rw [run_l_tick ok _ (by omega), ← scn_day ok]
    have wl : (wFs 0 (days p k)).length = k := by rw [wFs_len, days_len]
    have wa : wFs 0 (days p (k + 1)) = wFs 0 (days p k) ++ [wTk (k : Int) (scn p (k : Int))] := by
      rw [days_succ, wFs_app, days_len, Nat.zero_add]
    have la : atI (wFs 0 (days p k) ++ [wTk (k : Int) (scn p (k : Int))]) (-1) = some (wTk (k : Int) (scn p (k : Int))) := atI_last
    have lb : ∀ U, opIx (wTk (k : Int) (scn p (k : Int))) (.int 0) U = .ok (.int (scn p (k : Int)).light) U := fun U => by simp [wTk]
    have hb : f_l_days_1 [some (wP p), x1, some (.loc S.length), some (.int (dayL p k)), some (.int (k : Int))] (S ++ [.lst (wFs 0 (days p k))]) =
        .ok (.nx [some (wP p), x1, some (.loc S.length), some (.int (dayL p (k + 1))), some (.int (k : Int))]) (S ++ [.lst (wFs 0 (days p (k + 1)))]) := by
      have hk : k < 16000000 := by omega
      rw [wa, dayL_succ]
      simp -implicitDefEqProofs [f_l_days_1, e1, wl, hk, la, lb]
    obtain ⟨y4, e⟩ := days_loop ok x1 m (k + 1) (some (.int (k : Int))) (by omega)
    refine ⟨y4, ?_⟩
    rw [List.range'_succ, List.map_cons, sForL_nx (r1 := _) rfl hb, e, show k + 1 + m = k + (m + 1) by omega]
theorem run_l_days (ok : p.Ok) {n : Nat} (h : n < 1000000) : frR S (m_l_days [wP p, .int (n : Int)] S) = .ok (.lst (wFs 0 (days p n))) S := by
  obtain ⟨y4, e⟩ := days_loop (S := S) ok (some (.int (n : Int))) n 0 none (by omega)
  rw [← List.range_eq_range', ← rng_eq, Nat.zero_add] at e
  have e0 : wFs 0 (days p 0) = [] := rfl
  have e00 : dayL p 0 = 0 := rfl
  rw [e0, e00] at e
  have e2 : ∀ U, itR1 [.int (n : Int)] U = .ok (rngW 0 1 n) U := fun U => itR1_len h
  have key : m_l_days [wP p, .int (n : Int)] S = .ok (.loc S.length) (S ++ [.lst (wFs 0 (days p n))]) := by
    refine (fnM_ev rfl).trans ?_
    simp -implicitDefEqProofs [b_l_days, e2, e]
  rw [key]
  exact frR_app (frz_locL (xs := wFs 0 (days p n)) (ys := wFs 0 (days p n)) (by simp) (Nat.le_refl _) (frzL_all fun x hx => frz_nol _ _ (nol_le (List.all_eq_true.mp (nol_wFs _ _) x hx) (by omega))))
end
end SL

set_option Elab.async false
set_option linter.all false
set_option maxRecDepth 100000
set_option maxHeartbeats 4000000
namespace SL
open PySem PySem.Spec PyProof.Rows L2
section
variable {p : Pt} {S : Sto}
theorem run_l_sum (ok : p.Ok) {xs : List Int} (hx : xs.length = (story p).1.length) {t : Int} (h0 : 0 ≤ t) (h1 : t ≤ 1000000000000000000) {w : W} (hw : ∀ U, opIx w (.int 1) U = .ok (.int (story p).2) U) : frR S (m_l_sum [w, .lst (xs.map W.int), .int t] S) = .ok (.int (lsum xs (story p).2.toNat t)) S := by
  have hs := story_start ok
  have hl := story_len ok
  have st : ∀ k U, bSum [.lst ((xs.map W.int).take k)] U = .ok (.int (xs.take k).sum) U := fun k U => by rw [← List.map_take]; exact bSum_ev getIs_ints
  have sd : ∀ k U, bSum [.lst ((xs.map W.int).drop k)] U = .ok (.int (xs.drop k).sum) U := fun k U => by rw [← List.map_drop]; exact bSum_ev getIs_ints
  have sdt : ∀ k j U, bSum [.lst (((xs.map W.int).drop k).take j)] U = .ok (.int ((xs.drop k).take j).sum) U := fun k j U => by rw [← List.map_drop, ← List.map_take]; exact bSum_ev getIs_ints
  have c1 : ∀ {k : Int} U, 0 ≤ k → opCut none (some k) (.lst (xs.map W.int)) U = .ok (.lst ((xs.map W.int).take k.toNat)) U := fun U h => by rw [opCut_lst, cut_to _ h]
  have c2 : ∀ U, opCut (some (story p).2) none (.lst (xs.map W.int)) U = .ok (.lst ((xs.map W.int).drop (story p).2.toNat)) U := fun U => by
    rw [opCut_lst, cut_from _ hs.1 (by rw [List.length_map]; omega)]
  have e1 : ((story p).2.toNat : Int) = (story p).2 := by omega
  have key : m_l_sum [w, .lst (xs.map W.int), .int t] S = .ok (.int (lsum xs (story p).2.toNat t)) S := by
    refine (fnM_ev rfl).trans ?_
    unfold lsum
    rw [e1]
    by_cases h : t ≤ (xs.length : Int)
    · rw [if_pos h]
      simp -implicitDefEqProofs [b_l_sum, hw, h, c1 _ h0, st, -opCut_lst]
    · rw [if_neg h]
      have q1 : decide (0 < (xs.length : Int) - (story p).2) = true := decide_eq_true (by omega)
      have q2 : decide ((xs.length : Int) - (story p).2 < 1073741824) = true := decide_eq_true (by omega)
      have q3 : (0 : Int) < (xs.length : Int) - (story p).2 := by omega
      have q4 : (xs.length : Int) - (story p).2 < 1073741824 := by omega
      have q5 : decide ((story p).2 < (xs.length : Int)) = true := decide_eq_true (by omega)
      have hm := Int.emod_nonneg (t - (story p).2) (b := (xs.length : Int) - (story p).2) (by omega)
      have m1 : mulOk ((t - (story p).2) / ((xs.length : Int) - (story p).2)) (xs.drop (story p).2.toNat).sum = true := mulOk_l (by
        have := Int.ediv_nonneg (a := t - (story p).2) (b := (xs.length : Int) - (story p).2) (by omega) (by omega)
        omega) (by
        have := Int.ediv_le_self (a := t - (story p).2) (b := (xs.length : Int) - (story p).2) (by omega)
        omega)
      have c3 : ∀ U, opCut none (some ((t - (story p).2) % ((xs.length : Int) - (story p).2))) (.lst ((xs.map W.int).drop (story p).2.toNat)) U = .ok (.lst (((xs.map W.int).drop (story p).2.toNat).take ((t - (story p).2) % ((xs.length : Int) - (story p).2)).toNat)) U := fun U => by rw [opCut_lst, cut_to _ hm]
      simp -implicitDefEqProofs [b_l_sum, hw, h, c1 _ hs.1, c2, c3, st, sd, sdt, q1, q2, q3, q4, q5, m1, -opCut_lst]
  rw [key, frR_int]
theorem run_l_late {D : List Int} (g : Dr D) : ∃ p D', Dr D' ∧ p.Ok ∧ p.trips.length ≤ 5 ∧ ∀ D0 T, frR (dst D0 T) (m_l_late [.loc 0] (dst D T)) = .ok (wP p) (dst D' T) := by
  obtain ⟨h, D1, g1, a1, b1, e1⟩ := draw g (lim := 3) (by omega) (by omega)
  obtain ⟨s, D2, g2, a2, b2, e2⟩ := draw g1 (lim := 38) (by omega) (by omega)
  obtain ⟨c, D3, g3, a3, b3, e3⟩ := draw g2 (lim := 3) (by omega) (by omega)
  obtain ⟨t, D4, g4, a4, b4, e4⟩ := draw g3 (lim := 9) (by omega) (by omega)
  obtain ⟨u, D5, g5, a5, b5, e5⟩ := draw g4 (lim := 3) (by omega) (by omega)
  obtain ⟨z, hz, ez⟩ : ∃ z : Str, habitOk z ∧ ∀ U, opIx (.lst [.str "always", .str "dark", .str "never"]) (.int h) U = .ok (.str z) U := by
    rcases (show h = 0 ∨ h = 1 ∨ h = 2 by omega) with rfl | rfl | rfl
    · exact ⟨"always", .inr (.inl rfl), fun _ => rfl⟩
    · exact ⟨"dark", .inl rfl, fun _ => rfl⟩
    · exact ⟨"never", .inr (.inr rfl), fun _ => rfl⟩
  refine ⟨⟨9, 48, 1 + t, [⟨u, 0, 9, 1, "always"⟩, ⟨10 + s, 2, 1, 1 + c, z⟩]⟩, D5, g5, ⟨by dsimp only; omega, by dsimp only; omega, by dsimp only; omega, by dsimp only; omega, by dsimp only; omega, by dsimp only; omega, by simp, fun x hx => ?_⟩, by simp, fun D0 T => ?_⟩
  · rcases List.mem_cons.mp hx with rfl | hx
    · exact ⟨a5, by dsimp only; omega, by dsimp only; omega, by dsimp only; omega, by dsimp only; omega, by dsimp only; omega, by simp, by dsimp only; omega, by dsimp only; omega, .inr (.inl rfl)⟩
    · rw [List.mem_singleton.mp hx]
      exact ⟨by dsimp only; omega, by dsimp only; omega, by dsimp only; omega, by dsimp only; omega, by dsimp only; omega, by dsimp only; omega, by simp, by dsimp only; omega, by dsimp only; omega, hz⟩
  · have key : m_l_late [.loc 0] (dst D T) = .ok (wP ⟨9, 48, 1 + t, [⟨u, 0, 9, 1, "always"⟩, ⟨10 + s, 2, 1, 1 + c, z⟩]⟩) (dst D5 T) := by
      refine (fnM_ev rfl).trans ?_
      simp -implicitDefEqProofs [b_l_late, e1, e2, e3, e4, e5, ez, wP, wTt, -opIx_lst]
    rw [key]
    have hk := kept_head (c := .lst (D0.map W.int)) (d := .lst (D5.map W.int)) (T := T) (U := []) (clos_nol (k := 1) (by rw [List.all_map]; exact List.all_eq_true.mpr fun _ _ => rfl))
    rw [List.append_nil] at hk
    exact fr_dst (D := D0) (nol_le nol_wP (by omega))
theorem run_some_tick {D : List Int} (g : Dr D) : ∃ (t : Nat) (D' : List Int), Dr D' ∧ t ≤ 1000000000000000000 ∧ ∀ D0 T, frR (dst D0 T) (m_l_some_tick [.loc 0] (dst D T)) = .ok (.int (t : Int)) (dst D' T) := by
  obtain ⟨a, D1, g1, a1, b1, e1⟩ := draw g (lim := 120) (by omega) (by omega)
  obtain ⟨b, D2, g2, a2, b2, e2⟩ := draw g1 (lim := 1000000) (by omega) (by omega)
  obtain ⟨c, D3, g3, a3, b3, e3⟩ := draw g2 (lim := 2) (by omega) (by omega)
  have p1 : ∀ U, opPow (.int 10) (.int 18) U = .ok (.int 1000000000000000000) U := fun U => by
    show (if 0 ≤ (18 : Int) ∧ (18 : Int) ≤ 1000000 ∧ (10 : Int).natAbs < 2 ^ 64 then (Res.ok (W.int ((10 : Int) ^ (18 : Int).toNat)) U : Res W) else .stuck) = _
    rw [if_pos (by decide)]
    rfl
  have p2 : ∀ U, opPow (.int 10) (.int 6) U = .ok (.int 1000000) U := fun U => by
    show (if 0 ≤ (6 : Int) ∧ (6 : Int) ≤ 1000000 ∧ (10 : Int).natAbs < 2 ^ 64 then (Res.ok (W.int ((10 : Int) ^ (6 : Int).toNat)) U : Res W) else .stuck) = _
    rw [if_pos (by decide)]
    rfl
  have fin : ∀ t : Nat, (∀ U, opIx (.lst [.int a, .int (1000000000000000000 - b)]) (.int c) U = .ok (.int (t : Int)) U) → ∀ D0 T, frR (dst D0 T) (m_l_some_tick [.loc 0] (dst D T)) = .ok (.int (t : Int)) (dst D3 T) := fun t ht D0 T => by
    have key : m_l_some_tick [.loc 0] (dst D T) = .ok (.int (t : Int)) (dst D3 T) := by
      refine (fnM_ev rfl).trans ?_
      simp -implicitDefEqProofs [b_l_some_tick, e1, p1, p2, e2, e3, ht, -opIx_lst]
    rw [key]
    exact fr_dst (D := D0) rfl
  rcases (show c = 0 ∨ c = 1 by omega) with rfl | rfl
  · exact ⟨a.toNat, D3, g3, by omega, fin _ fun U => by rw [show ((a.toNat : Nat) : Int) = a by omega]; rfl⟩
  · exact ⟨(1000000000000000000 - b).toNat, D3, g3, by omega, fin _ fun U => by rw [show (((1000000000000000000 - b).toNat : Nat) : Int) = 1000000000000000000 - b by omega]; rfl⟩
end
end SL

set_option Elab.async false
set_option linter.all false
set_option maxRecDepth 100000
set_option maxHeartbeats 4000000
namespace SL
open PySem PySem.Spec PyProof.Rows L2
section
variable {S : Sto}
theorem press_loop (x0 x1 x2 x3 x4 x5 x6 x7 x8 x11 x13 : Option W) : ∀ (ss : List Sc) (k : Nat) (acc : List Int) (x10 x12 : Option W), (∀ s ∈ ss, s.presses.length ≤ 400) → acc.length + 400 * ss.length < 10000000 → ∃ y10,
    sForL (.n 10) f_k03_law_1 (wFs k ss) [x0, x1, x2, x3, x4, x5, x6, x7, x8, some (.lst (acc.map W.int)), x10, x11, x12, x13] S = .ok (.nx [x0, x1, x2, x3, x4, x5, x6, x7, x8, some (.lst ((acc ++ ss.flatMap fun s => s.presses.map fun a => a.1).map W.int)), y10, x11, x12, x13]) S
  | [], k, acc, x10, x12, _, _ => ⟨x10, by simp [wFs]⟩
  | s :: ss, k, acc, x10, x12, h4, hl => by
    have hs := h4 s List.mem_cons_self
    simp only [List.length_cons] at hl
    have hL : ∀ U, mLc [12] (.n 12) (iL (mIx (mVar 10) (mC (.int 1)))) (mYes) (e_k03_law_3) [x0, x1, x2, x3, x4, x5, x6, x7, x8, some (.lst (acc.map W.int)), some (wTk (k : Int) s), x11, x12, x13] U = .ok (.lst ((s.presses.map fun a => a.1).map W.int)) U := fun U => by
      rw [List.map_map]
      refine mLc_map (wPr3 (k : Int)) (fun a => W.int a.1) s.presses (by simp) (by decide) (fun a _ => ⟨_, rfl, fun V => ?_⟩) (fun _ _ => rfl) (by omega)
      rfl
    have hA : ∀ U, opAdd (.lst (acc.map W.int)) (.lst ((s.presses.map fun a => a.1).map W.int)) U = .ok (.lst ((acc ++ s.presses.map fun a => a.1).map W.int)) U := fun U => by
      rw [opAdd_lst (by simp; omega), List.map_append]
    have hb : f_k03_law_1 [x0, x1, x2, x3, x4, x5, x6, x7, x8, some (.lst (acc.map W.int)), some (wTk (k : Int) s), x11, x12, x13] S = .ok (.nx [x0, x1, x2, x3, x4, x5, x6, x7, x8, some (.lst ((acc ++ s.presses.map fun a => a.1).map W.int)), some (wTk (k : Int) s), x11, x12, x13]) S := by
      simp -implicitDefEqProofs [f_k03_law_1, hL, hA, -List.map_append, -List.map_map]
    obtain ⟨y10, e⟩ := press_loop x0 x1 x2 x3 x4 x5 x6 x7 x8 x11 x13 ss (k + 1) (acc ++ s.presses.map fun a => a.1) (some (wTk (k : Int) s)) x12 (fun z hz => h4 z (List.mem_cons_of_mem _ hz)) (by simp; omega)
    refine ⟨y10, ?_⟩
    have hw : wFs k (s :: ss) = wTk (k : Int) s :: wFs (k + 1) ss := rfl
    rw [hw, sForL_nx (r1 := _) rfl hb, e, List.flatMap_cons, List.append_assoc]
end
end SL

set_option Elab.async false
set_option linter.all false
set_option maxRecDepth 100000
set_option maxHeartbeats 4000000
namespace SL
open PySem PySem.Spec PyProof.Rows L2
theorem wFs_zipI : ∀ (k : Nat) (ss : List Sc), wFs k ss = (ss.zipIdx k).map fun z => wTk (z.2 : Int) z.1
  | _, [] => rfl
  | k, s :: ss => by
    rw [List.zipIdx_cons, List.map_cons, ← wFs_zipI (k + 1) ss]
    rfl
theorem zip_fst {β : Type} (f : Sc → β) : ∀ (k : Nat) (ss : List Sc), ((ss.zipIdx k).map fun z => f z.1) = ss.map f
  | _, [] => rfl
  | k, s :: ss => by rw [List.zipIdx_cons, List.map_cons, List.map_cons, zip_fst f (k + 1) ss]
section
variable {p : Pt} {S : Sto}
theorem vals_lc (ok : p.Ok) (x0 x1 x2 x3 x4 x6 x7 x8 x9 x10 x11 x12 x13 : Option W) : mLc [10] (.n 10) (iL (mIx (mVar 5) (mC (.int 0)))) (mYes) (e_k03_law_1) [x0, x1, x2, x3, x4, some (wCy p), x6, x7, x8, x9, x10, x11, x12, x13] S = .ok (.lst (((story p).1.map preM).map W.int)) S := by
  have hl := story_len ok
  rw [List.map_map, ← zip_fst (W.int ∘ preM) 0]
  refine mLc_map (fun z : Sc × Nat => wTk (z.2 : Int) z.1) (fun z => W.int (preM z.1)) ((story p).1.zipIdx 0) ?_ (by decide) (fun z _ => ⟨_, rfl, fun U => ?_⟩) (fun _ _ => rfl) (by simp; omega)
  · rw [← wFs_zipI]
    rfl
  · simp -implicitDefEqProofs [e_k03_law_1, wipeR, ix_wTk1, preM]
theorem lits_lc (ok : p.Ok) (x0 x1 x2 x3 x4 x6 x7 x8 x9 x10 x11 x12 x13 : Option W) : mLc [10] (.n 10) (iL (mIx (mVar 5) (mC (.int 0)))) (mYes) (e_k03_law_2) [x0, x1, x2, x3, x4, some (wCy p), x6, x7, x8, x9, x10, x11, x12, x13] S = .ok (.lst (((story p).1.map litM).map W.int)) S := by
  have hl := story_len ok
  rw [List.map_map, ← zip_fst (W.int ∘ litM) 0]
  refine mLc_map (fun z : Sc × Nat => wTk (z.2 : Int) z.1) (fun z => W.int (litM z.1)) ((story p).1.zipIdx 0) ?_ (by decide) (fun z _ => ⟨_, rfl, fun U => ?_⟩) (fun _ _ => rfl) (by simp; omega)
  · rw [← wFs_zipI]
    rfl
  · simp -implicitDefEqProofs [e_k03_law_2, wipeR, ix_wTk0, litM, bInt]
end
end SL

set_option Elab.async false
set_option linter.all false
set_option maxRecDepth 100000
set_option maxHeartbeats 4000000
namespace SL
open PySem PySem.Spec PyProof.Rows L2
/-! ### the cycle, told -/
theorem pow18 {U : Sto} : opPow (.int 10) (.int 18) U = .ok (.int 1000000000000000000) U := by
  show (if 0 ≤ (18 : Int) ∧ (18 : Int) ≤ 1000000 ∧ (10 : Int).natAbs < 2 ^ 64 then (Res.ok (W.int ((10 : Int) ^ (18 : Int).toNat)) U : Res W) else .stuck) = _
  rw [if_pos (by decide)]
  rfl
theorem pow6 {U : Sto} : opPow (.int 10) (.int 6) U = .ok (.int 1000000) U := by
  show (if 0 ≤ (6 : Int) ∧ (6 : Int) ≤ 1000000 ∧ (10 : Int).natAbs < 2 ^ 64 then (Res.ok (W.int ((10 : Int) ^ (6 : Int).toNat)) U : Res W) else .stuck) = _
  rw [if_pos (by decide)]
  rfl
theorem wFs_dropK : ∀ (j k : Nat) (fs : List Sc), (wFs k fs).drop j = wFs (k + j) (fs.drop j)
  | 0, _, _ => rfl
  | j + 1, k, [] => by simp [wFs]
  | j + 1, k, s :: fs => by
    show (wFs (k + 1) fs).drop j = wFs (k + (j + 1)) (fs.drop j)
    rw [wFs_dropK j (k + 1) fs, show k + 1 + j = k + (j + 1) by omega]
section
variable {p : Pt} {S : Sto}
def cycW (p : Pt) : W := .tup [.int ((late p).length : Int), .int ((late p).map preM).sum, .int ((lit p : Nat) : Int)]
theorem late_le3 (ok : p.Ok) : (late p).length ≤ 3000 := by
  have := story_len ok
  unfold late
  rw [List.length_drop]
  omega
theorem run_find_cycle (ok : p.Ok) : frR S (m_find_cycle [wS p] S) = .ok (cycW p) S := by
  have hs := story_start ok
  have hl := late_le3 ok
  have e2 : ∀ U, frR U (newR .Story m_Story___init__ [wS p] U) = .ok (wSy p) U := fun U => new_wSy ok
  have e1 : ∀ U, frR U (noX (m_Story_size [wSy p] U)) = .ok (.int ((late p).length : Int)) U := fun U => size_wSy ok
  have c2 : ∀ U, opCut (some (story p).2) none (.lst ((story p).1.map wSc)) U = .ok (.lst ((late p).map wSc)) U := fun U => by
    rw [opCut_lst, cut_from _ hs.1 (by rw [List.length_map]; omega), ← List.map_drop]
    rfl
  have l1 : ∀ U, mLc [4] (.n 4) (iL (mVar 2)) mYes e_find_cycle_1 [some (wS p), some (wSy p), some (.lst ((late p).map wSc)), none, none] U = .ok (.lst (((late p).map preM).map W.int)) U := fun U => by
    rw [List.map_map]
    refine mLc_map wSc (fun s => W.int (preM s)) (late p) (by simp) (by decide) (fun s _ => ⟨_, rfl, fun V => ?_⟩) (fun _ _ => rfl) (by omega)
    simp -implicitDefEqProofs [e_find_cycle_1, wipeR, preM]
  have l2 : ∀ U x3, mLc [4] (.n 4) (iL (mVar 2)) i_find_cycle_1 e_find_cycle_2 [some (wS p), some (wSy p), some (.lst ((late p).map wSc)), x3, none] U = .ok (.lst (((late p).filter fun s => decide (0 < s.light)).map wSc)) U := fun U x3 => by
    refine mLc_if wSc wSc (fun s => decide (0 < s.light)) (late p) (by simp) (by decide) (fun s _ => ⟨_, rfl, fun V => ?_, fun _ V => ?_⟩) (fun _ _ _ => nol_le nol_wSc (by omega)) (by omega)
    · simp -implicitDefEqProofs [i_find_cycle_1, wipeR]
    · simp -implicitDefEqProofs [e_find_cycle_2, wipeR]
  have sm : ∀ U, bSum [.lst (((late p).map preM).map W.int)] U = .ok (.int ((late p).map preM).sum) U := fun U => bSum_ev getIs_ints
  have key : m_find_cycle [wS p] S = .ok (cycW p) S := by
    refine (fnM_ev rfl).trans ?_
    simp -implicitDefEqProofs [b_find_cycle, e2, c2, l1, sm, e1, l2, cycW, lit, -List.map_map]
  rw [key]
  exact frR_nols rfl
theorem cut_late (ok : p.Ok) : opCut (some (story p).2) none (.lst (wFs 0 (story p).1)) S = .ok (.lst (wFs (story p).2.toNat (late p))) S := by
  have hs := story_start ok
  rw [opCut_lst, cut_from _ hs.1 (by rw [wFs_len]; omega), wFs_dropK, Nat.zero_add]
  rfl
theorem zip_filter (f : Sc → Bool) : ∀ (k : Nat) (ss : List Sc), ((ss.zipIdx k).filter fun z => f z.1).length = (ss.filter f).length
  | _, [] => rfl
  | k, s :: ss => by
    rw [List.zipIdx_cons, List.filter_cons, List.filter_cons]
    cases h : f s with
    | true =>
      simp only [if_true]
      rw [List.length_cons, List.length_cons, zip_filter f (k + 1) ss]
    | false =>
      simp only [Bool.false_eq_true, if_false]
      exact zip_filter f (k + 1) ss
theorem tellP_one {t : Int} : tellP p (seqI t 1) = (scn p t).presses.map (wPr3 t) := by
  have e : seqI t 1 = [t] := by simp [seqI]
  rw [e]
  unfold tellP
  rw [List.flatMap_cons, List.flatMap_nil, List.append_nil]
end
end SL

set_option Elab.async false
set_option linter.all false
set_option maxRecDepth 100000
set_option maxHeartbeats 0
namespace SL
open PySem PySem.Spec PyProof.Rows L2
/-! law -/
def N_k02_law : List PySem.Str := ["_law_script", "_law_d", "_law_step", "_law_parts_here", "_law_stairs", "_law_cycle_here", "_law_late", "_law_presses", "_law_tick_here", "_law_one", "_law_expected", "_law_before", "_law_number", "_law_floor"]
noncomputable def e_k02_law_1 : M W := mCall bLen (mCons (mIx (mVar 9) (mC (.int 1))) (mNil))
noncomputable def e_k02_law_2 : M W := mVar 9
noncomputable def i_k02_law_1 : M Bool := mB (mOp opGt (mIx (mVar 9) (mC (.int 0))) (mC (.int 0)))
noncomputable def e_k02_law_3 : M W := mTup (mCons (mVar 8) (mCons (mVar 12) (mCons (mVar 13) (mNil))))
noncomputable def f_k02_law_1 : MSt := sSeq (sSet 3 (mFr (mCall m_l_parts (mCons (mVar 1) (mCons (mC (.int 5)) (mNil)))))) (sSeq (sPar [4, 5] (mCons (mFr (mCall m_l_made (mCons (mVar 3) (mNil)))) (mCons (mFr (mCall m_l_cycle (mCons (mVar 3) (mNil)))) (mNil)))) (sSeq (sSet 6 (mCut (mIx (mVar 5) (mC (.int 0))) (mPart (mIx (mVar 5) (mC (.int 1)))) (mNoPart))) (sSeq (sSet 7 (mCall bSum (mCons (mLc [9] (.n 9) (iL (mVar 6)) (mYes) (e_k02_law_1)) (mNil)))) (sSeq (sIf (mNot (mB (mFr (mCall mr_l_equal (mCons (mFr (mCall m_find_cycle (mCons (mVar 4) (mNil)))) (mCons (mTup (mCons (mCall bLen (mCons (mVar 6) (mNil))) (mCons (mVar 7) (mCons (mCall bLen (mCons (mLc [9] (.n 9) (iL (mVar 6)) (i_k02_law_1) (e_k02_law_2)) (mNil))) (mNil))))) (mNil))))))) (sRet (mC (.bl false))) (sNext)) (sSeq (sSet 8 (mOp opSub (mOp opPow (mC (.int 10)) (mC (.int 18))) (mFr (mCall m_l_below (mCons (mVar 1) (mCons (mOp opPow (mC (.int 10)) (mC (.int 6))) (mNil))))))) (sSeq (sSet 9 (mIx (mIx (mVar 5) (mC (.int 0))) (mFr (mCall m_l_place (mCons (mVar 5) (mCons (mVar 8) (mNil))))))) (sSeq (sIf (mNot (mB (mFr (mCall mr_l_equal (mCons (mLst (mCons (mFr (mCall m_light (mCons (mVar 4) (mCons (mVar 8) (mNil))))) (mCons (mFr (mCall m_in_dark (mCons (mVar 4) (mCons (mVar 8) (mNil))))) (mNil)))) (mCons (mLst (mCons (mIx (mVar 9) (mC (.int 0))) (mCons (mIx (mVar 9) (mC (.int 2))) (mNil)))) (mNil))))))) (sRet (mC (.bl false))) (sNext)) (sSeq (sSet 10 (mLc [11, 12, 13] (.t [11, 12, 13]) (iL (mIx (mVar 9) (mC (.int 1)))) (mYes) (e_k02_law_3))) (sSeq (sIf (mNot (mB (mFr (mCall mr_l_equal (mCons (mFr (mListG m_presses_between (mCons (mVar 4) (mCons (mVar 8) (mCons (mVar 8) (mNil)))))) (mCons (mVar 10) (mNil))))))) (sRet (mC (.bl false))) (sNext)) (sIf (mB (mOp opNe (mFr (mListG m_presses_between (mCons (mVar 4) (mCons (mVar 8) (mCons (mOp opSub (mVar 8) (mC (.int 1))) (mNil)))))) (mLst (mNil)))) (sRet (mC (.bl false))) (sNext)))))))))))
noncomputable def b_k02_law : MSt := sSeq (sSet 1 (mCall m_l_random (mCons (mVar 0) (mCons (mC (.int 2)) (mNil))))) (sSeq (sFor (.n 2) (iR1 (mCons (mC (.int 3)) (mNil))) (f_k02_law_1)) (sRet (mC (.bl true))))
noncomputable abbrev m_k02_law : FnM := fnM 14 1 b_k02_law
end SL

set_option Elab.async false
set_option linter.all false
set_option maxRecDepth 100000
set_option maxHeartbeats 0
namespace SL
open PySem PySem.Spec PyProof.Rows L2
/-! law -/
def N_k01_law : List PySem.Str := ["_law_script", "_law_d", "_law_step", "_law_parts_here", "_law_stairs", "_law_days_here", "_law_tick_here", "_law_found", "_law_first", "_law_last", "_law_expected"]
noncomputable def f_k01_law_1 : MSt := sSeq (sSet 7 (mCall m_in_dark (mCons (mVar 4) (mCons (mVar 6) (mNil))))) (sSeq (sIf (mNot (mB (mFr (mCall mr_l_equal (mCons (mLst (mCons (mFr (mCall m_light (mCons (mVar 4) (mCons (mVar 6) (mNil))))) (mCons (mVar 7) (mNil)))) (mCons (mLst (mCons (mIx (mIx (mVar 5) (mVar 6)) (mC (.int 0))) (mCons (mIx (mIx (mVar 5) (mVar 6)) (mC (.int 2))) (mNil)))) (mNil))))))) (sRet (mC (.bl false))) (sNext)) (sExpr (mBm "list" fAppend (mVar 7) (mCons (mC (.int 0)) (mNil)))))
noncomputable def f_k01_law_2 : MSt := sSet 10 (mOp opAdd (mVar 10) (mIx (mIx (mVar 5) (mVar 6)) (mC (.int 1))))
noncomputable def f_k01_law_3 : MSt := sSeq (sSet 3 (mFr (mCall m_l_parts (mCons (mVar 1) (mCons (mIx (mLst (mCons (mC (.int 4)) (mCons (mC (.int 8)) (mNil)))) (mFr (mCall m_l_below (mCons (mVar 1) (mCons (mC (.int 2)) (mNil)))))) (mNil)))))) (sSeq (sPar [4, 5] (mCons (mFr (mCall m_l_made (mCons (mVar 3) (mNil)))) (mCons (mFr (mCall m_l_days (mCons (mVar 3) (mCons (mC (.int 70)) (mNil))))) (mNil)))) (sSeq (sIf (mNot (mB (mFr (mCall mr_l_equal (mCons (mLst (mCons (mFld .Stairs .top (mVar 4)) (mCons (mFld .Stairs .length (mVar 4)) (mCons (mFld .Stairs .time (mVar 4)) (mCons (mFr (mProp .Stairs m_Stairs_all_trips (mVar 4))) (mNil)))))) (mCons (mCall bList (mCons (mVar 3) (mNil))) (mNil))))))) (sRet (mC (.bl false))) (sNext)) (sSeq (sFor (.n 6) (iR3 (mCons (mC (.int 0)) (mCons (mC (.int 70)) (mCons (mOp opAdd (mC (.int 1)) (mFr (mCall m_l_below (mCons (mVar 1) (mCons (mC (.int 5)) (mNil)))))) (mNil))))) (f_k01_law_1)) (sSeq (sSet 8 (mFr (mCall m_l_below (mCons (mVar 1) (mCons (mC (.int 40)) (mNil)))))) (sSeq (sPar [9, 10] (mCons (mOp opSub (mOp opAdd (mVar 8) (mFr (mCall m_l_below (mCons (mVar 1) (mCons (mC (.int 30)) (mNil)))))) (mC (.int 1))) (mCons (mLst (mNil)) (mNil)))) (sSeq (sFor (.n 6) (iR2 (mCons (mVar 8) (mCons (mOp opAdd (mVar 9) (mC (.int 1))) (mNil)))) (f_k01_law_2)) (sIf (mAnd (mB (mOp opGe (mVar 9) (mC (.int 0)))) (mNot (mB (mFr (mCall mr_l_equal (mCons (mFr (mListG m_presses_between (mCons (mVar 4) (mCons (mVar 8) (mCons (mVar 9) (mNil)))))) (mCons (mVar 10) (mNil)))))))) (sRet (mC (.bl false))) (sNext))))))))
noncomputable def b_k01_law : MSt := sSeq (sSet 1 (mCall m_l_random (mCons (mVar 0) (mCons (mC (.int 1)) (mNil))))) (sSeq (sFor (.n 2) (iR1 (mCons (mC (.int 3)) (mNil))) (f_k01_law_3)) (sRet (mC (.bl true))))
noncomputable abbrev m_k01_law : FnM := fnM 11 1 b_k01_law
end SL

set_option Elab.async false
set_option linter.all false
set_option maxRecDepth 100000
set_option maxHeartbeats 4000000
namespace SL
open PySem PySem.Spec PyProof.Rows L2
section
variable {p : Pt} {S : Sto}
theorem scn_dark (ok : p.Ok) (k : Nat) : (scn p (k : Int)).dark.length ≤ 8 := by
  have hn := ok.n
  have h := (wkl_pw (p := p) (k : Int) p.trips 0).2
  rw [scn_day ok k, scene_is]
  dsimp only
  split
  · omega
  · simp
theorem itR3_up {S : Sto} {c : Int} (h0 : 1 ≤ c) (h5 : c ≤ 5) : ∃ ts : List Nat, (∀ t ∈ ts, t < 70) ∧ itR3 [.int 0, .int 70, .int c] S = .ok (ts.map fun (t : Nat) => W.int (t : Int)) S := by
  have key : ∀ (c : Int) (n : Nat), 1 ≤ c → c ≤ 5 → Builtin.Range.rangeSize 0 70 c = (n : Int) → Builtin.Range.small 0 70 c = true → itR3 [.int 0, .int 70, .int c] S = .ok (rngW 0 c n) S := fun c n h1 h2 h3 hs => by
    show (if _ then Res.ok (rngW 0 c (Builtin.Range.rangeSize 0 70 c).toNat) S else .stuck) = _
    rw [if_pos ⟨by omega, by omega, hs, by omega⟩, h3, Int.toNat_natCast]
  have fin : ∀ (d n : Nat), (d - 1 + 1) = d → n ≤ 100 → d ≤ 5 → 1 ≤ d → Builtin.Range.rangeSize 0 70 (d : Int) = (n : Int) → Builtin.Range.small 0 70 (d : Int) = true → (∀ i, i < n → i * d < 70) → c = (d : Int) → ∃ ts : List Nat, (∀ t ∈ ts, t < 70) ∧ itR3 [.int 0, .int 70, .int c] S = .ok (ts.map fun (t : Nat) => W.int (t : Int)) S := fun d n _ hn h5 h1 hz hsm hi hc => by
    subst hc
    refine ⟨(List.range n).map fun i => i * d, fun t ht => ?_, ?_⟩
    · obtain ⟨i, hi', rfl⟩ := List.mem_map.mp ht
      exact hi i (List.mem_range.mp hi')
    · rw [key _ n (by omega) (by omega) hz hsm]
      unfold rngW
      rw [List.map_map]
      refine congrArg (fun l => Res.ok l S) (List.map_congr_left fun i _ => ?_)
      exact congrArg W.int (show (0 : Int) + (i : Int) * (d : Int) = ((i * d : Nat) : Int) by rw [Int.natCast_mul, Int.zero_add])
  rcases (show c = 1 ∨ c = 2 ∨ c = 3 ∨ c = 4 ∨ c = 5 by omega) with rfl | rfl | rfl | rfl | rfl
  · exact fin 1 70 rfl (by omega) (by omega) (by omega) (by decide) (by decide +kernel) (fun i hi => by omega) rfl
  · exact fin 2 35 rfl (by omega) (by omega) (by omega) (by decide) (by decide +kernel) (fun i hi => by omega) rfl
  · exact fin 3 24 rfl (by omega) (by omega) (by omega) (by decide) (by decide +kernel) (fun i hi => by omega) rfl
  · exact fin 4 18 rfl (by omega) (by omega) (by omega) (by decide) (by decide +kernel) (fun i hi => by omega) rfl
  · exact fin 5 14 rfl (by omega) (by omega) (by omega) (by decide) (by decide +kernel) (fun i hi => by omega) rfl
theorem wDays_at {n i : Nat} (h : i < n) : opIx (.lst (wFs 0 (days p n))) (.int (i : Int)) S = .ok (wTk (i : Int) (scn p (i : Int))) S := by
  have := wFs_at (days p n) 0 i _ (days_at h)
  rw [Nat.zero_add] at this
  rw [opIx_lst, atI_nat, this]
  rfl
theorem wTk_0 {k : Int} {s : Sc} : opIx (wTk k s) (.int 0) S = .ok (.int s.light) S := by simp [wTk]
theorem wTk_1 {k : Int} {s : Sc} : opIx (wTk k s) (.int 1) S = .ok (.lst (s.presses.map (wPr3 k))) S := rfl
theorem wTk_2 {k : Int} {s : Sc} : opIx (wTk k s) (.int 2) S = .ok (.lst (s.dark.map W.int)) S := rfl
/-- tick by tick -/
theorem tick_turn (ok : p.Ok) {t : Nat} (ht : t < 70) (x0 x1 x2 x3 x7 x8 x9 x10 : Option W) :
    f_k01_law_1 [x0, x1, x2, x3, some (wS p), some (.lst (wFs 0 (days p 70))), some (.int (t : Int)), x7, x8, x9, x10] S = .ok (.nx [x0, x1, x2, x3, some (wS p), some (.lst (wFs 0 (days p 70))), some (.int (t : Int)), some (.loc S.length), x8, x9, x10]) (S ++ [.lst ((scn p (t : Int)).dark.map W.int ++ [.int 0])]) := by
  have hd := scn_dark ok t
  have e1 := run_in_dark (S := S) ok (t := (t : Int)) (by omega) (by omega)
  have e2 : ∀ U, frR U (m_light [wS p, .int (t : Int)] U) = .ok (.int (scn p (t : Int)).light) U := fun U => run_light ok (by omega) (by omega)
  have e3 : ∀ U, opIx (.lst (wFs 0 (days p 70))) (.int (t : Int)) U = .ok (wTk (t : Int) (scn p (t : Int))) U := fun U => wDays_at ht
  have e4 : ∀ U, opIx (wTk (t : Int) (scn p (t : Int))) (.int 0) U = .ok (.int (scn p (t : Int)).light) U := fun U => wTk_0
  have e5 : ∀ U, opIx (wTk (t : Int) (scn p (t : Int))) (.int 2) U = .ok (.lst ((scn p (t : Int)).dark.map W.int)) U := fun U => wTk_2
  have q : frR (S ++ [.lst ((scn p (t : Int)).dark.map W.int)]) (m_l_equal 8 [.lst [.int (scn p (t : Int)).light, .loc S.length], .lst [.int (scn p (t : Int)).light, .lst ((scn p (t : Int)).dark.map W.int)]] (S ++ [.lst ((scn p (t : Int)).dark.map W.int)])) = .ok (.bl true) (S ++ [.lst ((scn p (t : Int)).dark.map W.int)]) := by
    rw [equal_ok 8 _ _ _ ?_, frR_bl]
    refine ⟨_, .inl rfl, rfl, by simp, fun i x y hx hy => ?_⟩
    match i, hx, hy with
    | 0, hx, hy =>
      cases hx
      cases hy
      rfl
    | 1, hx, hy =>
      cases hx
      cases hy
      exact sm_ints 5 _ _ _ (by omega) (.inr ⟨_, rfl, at_app0⟩)
    | i + 2, hx, hy => simp at hx
  have hl : (scn p (t : Int)).dark.length < 16000000 := by omega
  simp -implicitDefEqProofs [f_k01_law_1, e1, e2, e3, e4, e5, q, hl, -opIx_lst]
theorem ticks_loop (ok : p.Ok) (x0 x1 x2 x3 x8 x9 x10 : Option W) : ∀ (ts : List Nat) (D : List Int) (T : Sto) (x6 x7 : Option W), (∀ t ∈ ts, t < 70) → ∃ T' y6 y7,
    sForL (.n 6) f_k01_law_1 (ts.map fun (t : Nat) => W.int (t : Int)) [x0, x1, x2, x3, some (wS p), some (.lst (wFs 0 (days p 70))), x6, x7, x8, x9, x10] (dst D T) = .ok (.nx [x0, x1, x2, x3, some (wS p), some (.lst (wFs 0 (days p 70))), y6, y7, x8, x9, x10]) (dst D T')
  | [], D, T, x6, x7, _ => ⟨T, x6, x7, rfl⟩
  | t :: ts, D, T, x6, x7, h => by
    have hb := tick_turn (S := dst D T) ok (h t List.mem_cons_self) x0 x1 x2 x3 x7 x8 x9 x10
    obtain ⟨T', y6, y7, e⟩ := ticks_loop ok x0 x1 x2 x3 x8 x9 x10 ts D (T ++ [.lst ((scn p (t : Int)).dark.map W.int ++ [.int 0])]) (some (.int (t : Int))) (some (.loc (dst D T).length)) fun u hu => h u (List.mem_cons_of_mem _ hu)
    exact ⟨T', y6, y7, by rw [List.map_cons, sForL_nx (r1 := _) rfl hb]; exact e⟩
theorem want_loop (ok : p.Ok) (x0 x1 x2 x3 x4 x7 x8 x9 : Option W) : ∀ (ts : List Int) (acc : List Int) (x6 : Option W), (∀ t ∈ ts, 0 ≤ t ∧ t < 70) → (∀ t ∈ acc, 0 ≤ t) → acc.length + ts.length ≤ 100 → ∃ y6,
    sForL (.n 6) f_k01_law_2 (ts.map W.int) [x0, x1, x2, x3, x4, some (.lst (wFs 0 (days p 70))), x6, x7, x8, x9, some (.lst (tellP p acc))] S = .ok (.nx [x0, x1, x2, x3, x4, some (.lst (wFs 0 (days p 70))), y6, x7, x8, x9, some (.lst (tellP p (acc ++ ts)))]) S
  | [], acc, x6, _, _, _ => ⟨x6, by rw [List.append_nil]; rfl⟩
  | t :: ts, acc, x6, h, ha, hl => by
    obtain ⟨t0, t1⟩ := h t List.mem_cons_self
    obtain ⟨k, rfl⟩ : ∃ k : Nat, t = (k : Int) := ⟨t.toNat, by omega⟩
    simp only [List.length_cons] at hl
    have few : ∀ us : List Int, (∀ t ∈ us, 0 ≤ t) → (tellP p us).length ≤ 400 * us.length := fun us => by
      induction us with
      | nil => intro _; simp [tellP]
      | cons u us ih =>
        intro hu
        have h1 := ih fun v hv => hu v (List.mem_cons_of_mem _ hv)
        have h2 := scn_few ok (hu u List.mem_cons_self)
        unfold tellP at h1 ⊢
        rw [List.flatMap_cons, List.length_append, List.length_map, List.length_cons]
        omega
    have e3 : ∀ U, opIx (.lst (wFs 0 (days p 70))) (.int (k : Int)) U = .ok (wTk (k : Int) (scn p (k : Int))) U := fun U => wDays_at (by omega)
    have e4 : ∀ U, opIx (wTk (k : Int) (scn p (k : Int))) (.int 1) U = .ok (.lst ((scn p (k : Int)).presses.map (wPr3 (k : Int)))) U := fun U => wTk_1
    have e5 : ∀ U, opAdd (.lst (tellP p acc)) (.lst ((scn p (k : Int)).presses.map (wPr3 (k : Int)))) U = .ok (.lst (tellP p (acc ++ [(k : Int)]))) U := fun U => by
      have h1 := few acc ha
      have h2 := scn_few ok t0
      rw [opAdd_lst (by rw [List.length_map]; omega)]
      congr 2
      unfold tellP
      rw [List.flatMap_append, List.flatMap_cons, List.flatMap_nil, List.append_nil]
    have hb : f_k01_law_2 [x0, x1, x2, x3, x4, some (.lst (wFs 0 (days p 70))), some (.int (k : Int)), x7, x8, x9, some (.lst (tellP p acc))] S = .ok (.nx [x0, x1, x2, x3, x4, some (.lst (wFs 0 (days p 70))), some (.int (k : Int)), x7, x8, x9, some (.lst (tellP p (acc ++ [(k : Int)])))]) S := by
      simp -implicitDefEqProofs [f_k01_law_2, e3, e4, e5, -opIx_lst]
    obtain ⟨y6, e⟩ := want_loop ok x0 x1 x2 x3 x4 x7 x8 x9 ts (acc ++ [(k : Int)]) (some (.int (k : Int))) (fun u hu => h u (List.mem_cons_of_mem _ hu)) (fun u hu => by
      rcases List.mem_append.mp hu with hu | hu
      · exact ha u hu
      · rw [List.mem_singleton.mp hu]
        exact t0) (by simp; omega)
    refine ⟨y6, ?_⟩
    rw [List.map_cons, sForL_nx (r1 := _) rfl hb, e, List.append_assoc]
    rfl
theorem tellP_few (ok : p.Ok) : ∀ us : List Int, (∀ t ∈ us, 0 ≤ t) → (tellP p us).length ≤ 400 * us.length
  | [], _ => by simp [tellP]
  | u :: us, hu => by
    have h1 := tellP_few ok us fun v hv => hu v (List.mem_cons_of_mem _ hv)
    have h2 := scn_few ok (hu u List.mem_cons_self)
    unfold tellP at h1 ⊢
    rw [List.flatMap_cons, List.length_append, List.length_map, List.length_cons]
    omega
theorem smOk_tellP {us : List Int} {k : Nat} (h : (tellP p us).length < 1000000) : smOk (k + 3) (.lst (tellP p us)) = true := by
  show (decide ((tellP p us).length < 1000000) && (tellP p us).all (smOk (k + 2))) = true
  rw [decide_eq_true h, Bool.true_and]
  refine List.all_eq_true.mpr fun x hx => ?_
  obtain ⟨t, _, hx⟩ := List.mem_flatMap.mp hx
  obtain ⟨a, _, rfl⟩ := List.mem_map.mp hx
  rfl
theorem k01_step {D : List Int} (g : Dr D) (T : Sto) (x0 x2 x3 x4 x5 x6 x7 x8 x9 x10 : Option W) : ∃ D' T' y3 y4 y5 y6 y7 y8 y9 y10, Dr D' ∧
    f_k01_law_3 [x0, some (.loc 0), x2, x3, x4, x5, x6, x7, x8, x9, x10] (dst D T) = .ok (.nx [x0, some (.loc 0), x2, y3, y4, y5, y6, y7, y8, y9, y10]) (dst D' T') := by
  obtain ⟨v, D1, g1, a1, b1, e1⟩ := draw g (lim := 2) (by omega) (by omega)
  obtain ⟨m, m0, m8, em⟩ : ∃ m : Int, 0 ≤ m ∧ m ≤ 8 ∧ ∀ U, opIx (.lst [.int 4, .int 8]) (.int v) U = .ok (.int m) U := by
    rcases (show v = 0 ∨ v = 1 by omega) with rfl | rfl
    · exact ⟨4, by omega, by omega, fun _ => rfl⟩
    · exact ⟨8, by omega, by omega, fun _ => rfl⟩
  obtain ⟨p, D2, g2, ok, h8, e2⟩ := run_parts g1 (most := m) m0 m8
  obtain ⟨c, D3, g3, a3, b3, e3⟩ := draw g2 (lim := 5) (by omega) (by omega)
  obtain ⟨u, D4, g4, a4, b4, e4⟩ := draw g3 (lim := 40) (by omega) (by omega)
  obtain ⟨w, D5, g5, a5, b5, e5⟩ := draw g4 (lim := 30) (by omega) (by omega)
  have m1 : ∀ U, frR U (m_l_made [wP p] U) = .ok (wS p) U := fun U => run_l_made ok
  have dy : ∀ U, frR U (m_l_days [wP p, .int 70] U) = .ok (.lst (wFs 0 (days p 70))) U := fun U => run_l_days (n := 70) ok (by omega)
  have al : ∀ U, frR U (noX (m_Stairs_all_trips [wS p] U)) = .ok (.tup (p.trips.map wTt)) U := fun U => all_tripsF ok
  have bl : ∀ U, bList [wP p] U = .ok (.lst [.int p.top, .int p.length, .int p.time, .tup (p.trips.map wTt)]) U := fun U => rfl
  have q1 : ∀ U, frR U (m_l_equal 8 [.lst [.int p.top, .int p.length, .int p.time, .tup (p.trips.map wTt)], .lst [.int p.top, .int p.length, .int p.time, .tup (p.trips.map wTt)]] U) = .ok (.bl true) U := fun U => equal_self (smOk_parts ok)
  obtain ⟨ts, hts, er⟩ := itR3_up (S := dst D3 T) (c := 1 + c) (by omega) (by omega)
  obtain ⟨T', y6, y7, eT⟩ := ticks_loop ok x0 (some (.loc 0)) x2 (some (wP p)) x8 x9 x10 ts D3 T x6 x7 hts
  have hs : ∀ t ∈ seqI u (w).toNat, 0 ≤ t ∧ t < 70 := fun t ht => by
    have := seqI_mem ht
    omega
  obtain ⟨z6, eW⟩ := want_loop (S := dst D5 T') ok x0 (some (.loc 0)) x2 (some (wP p)) (some (wS p)) y7 (some (.int u)) (some (.int (u + w - 1))) (seqI u w.toNat) [] y6 hs (by simp) (by rw [seqI_len, List.length_nil]; omega)
  have er2 : ∀ U, itR2 [.int u, .int (u + w)] U = .ok ((seqI u w.toNat).map W.int) U := fun U => by
    rw [itR2_ev (by omega) (by omega) (by omega) (by omega), rngW_seqI, show (u + w - u).toNat = w.toNat by omega]
  have et : tellP p ([] : List Int) = [] := rfl
  rw [et, List.nil_append] at eW
  have few := tellP_few ok (seqI u w.toNat) fun t ht => (hs t ht).1
  rw [seqI_len] at few
  have q2 : ∀ U, frR U (m_l_equal 8 [.lst (tellP p (seqI u w.toNat)), .lst (tellP p (seqI u w.toNat))] U) = .ok (.bl true) U := fun U => equal_self (smOk_tellP (k := 5) (by omega))
  refine ⟨D5, T', some (wP p), some (wS p), some (.lst (wFs 0 (days p 70))), z6, y7, some (.int u), some (.int (u + w - 1)), some (.lst (tellP p (seqI u w.toNat))), g5, ?_⟩
  by_cases hz : 1 ≤ u + w
  · have pb : ∀ U, frR U (lgR (m_presses_between [wS p, .int u, .int (u + w - 1)] U)) = .ok (.lst (tellP p (seqI u w.toNat))) U := fun U => by
      rw [run_pressesF ok (by omega) (by omega) (by omega) (by omega) (by omega), show (u + w - 1 + 1 - u).toNat = w.toNat by omega]
    simp -implicitDefEqProofs [f_k01_law_3, e1, em, e2, m1, dy, al, bl, q1, e3, er, eT, e4, e5, er2, eW, hz, pb, q2, -opIx_lst]
  · simp -implicitDefEqProofs [f_k01_law_3, e1, em, e2, m1, dy, al, bl, q1, e3, er, eT, e4, e5, er2, eW, hz, -opIx_lst]
theorem k01_loop : ∀ (ws : List W) {D : List Int} (g : Dr D) (T : Sto) (x0 x2 x3 x4 x5 x6 x7 x8 x9 x10 : Option W), ∃ D' T' y2 y3 y4 y5 y6 y7 y8 y9 y10, Dr D' ∧
    sForL (.n 2) f_k01_law_3 ws [x0, some (.loc 0), x2, x3, x4, x5, x6, x7, x8, x9, x10] (dst D T) = .ok (.nx [x0, some (.loc 0), y2, y3, y4, y5, y6, y7, y8, y9, y10]) (dst D' T')
  | [], D, g, T, x0, x2, x3, x4, x5, x6, x7, x8, x9, x10 => ⟨D, T, x2, x3, x4, x5, x6, x7, x8, x9, x10, g, rfl⟩
  | w :: ws, D, g, T, x0, x2, x3, x4, x5, x6, x7, x8, x9, x10 => by
    obtain ⟨D1, T1, y3, y4, y5, y6, y7, y8, y9, y10, g1, e⟩ := k01_step g T x0 (some w) x3 x4 x5 x6 x7 x8 x9 x10
    obtain ⟨D2, T2, z2, z3, z4, z5, z6, z7, z8, z9, z10, g2, e2⟩ := k01_loop ws g1 T1 x0 (some w) y3 y4 y5 y6 y7 y8 y9 y10
    exact ⟨D2, T2, z2, z3, z4, z5, z6, z7, z8, z9, z10, g2, by rw [sForL_nx (r1 := _) rfl e, e2]⟩
theorem k01_law_is (ns : List Int) (h : ns.length ≤ 63) : ∃ S, m_k01_law [.scr ns] [] = .ok (.bl true) S := by
  obtain ⟨D, g, e1⟩ := run_random ns h 1 (by omega)
  obtain ⟨D2, T2, z2, z3, z4, z5, z6, z7, z8, z9, z10, g2, e2⟩ := k01_loop (rngW 0 1 3) g [] (some (.scr ns)) none none none none none none none none none
  refine ⟨dst D2 T2, (fnM_ev rfl).trans ?_⟩
  have e3 : ∀ U, itR1 [.int 3] U = .ok (rngW 0 1 3) U := fun U => itR1_len (n := 3) (by omega)
  simp -implicitDefEqProofs [b_k01_law, e1, e2, e3]
end
end SL

set_option Elab.async false
set_option linter.all false
set_option maxRecDepth 100000
set_option maxHeartbeats 4000000
namespace SL
open PySem PySem.Spec PyProof.Rows L2
section
variable {p : Pt} {S : Sto}
theorem scn_darkI (ok : p.Ok) {t : Int} (h : 0 ≤ t) : (scn p t).dark.length ≤ 8 := by
  have := scn_dark ok t.toNat
  rwa [show ((t.toNat : Nat) : Int) = t by omega] at this
theorem k02_step {D : List Int} (g : Dr D) (T : Sto) (x0 x2 x3 x4 x5 x6 x7 x8 x9 x10 x11 x12 x13 : Option W) : ∃ D' y3 y4 y5 y6 y7 y8 y9 y10, Dr D' ∧
    f_k02_law_1 [x0, some (.loc 0), x2, x3, x4, x5, x6, x7, x8, x9, x10, x11, x12, x13] (dst D T) = .ok (.nx [x0, some (.loc 0), x2, y3, y4, y5, y6, y7, y8, y9, y10, x11, x12, x13]) (dst D' T) := by
  obtain ⟨p, D2, g2, ok, h5, e2⟩ := run_parts g (most := 5) (by omega) (by omega)
  obtain ⟨v, D3, g3, a3, b3, e3⟩ := draw g2 (lim := 1000000) (by omega) (by omega)
  have hl := late_le3 ok
  have m1 : ∀ U, frR U (m_l_made [wP p] U) = .ok (wS p) U := fun U => run_l_made ok
  have c1 : ∀ U, frR U (m_l_cycle [wP p] U) = .ok (wCy p) U := fun U => cyc_wCy ok
  have ct : ∀ U, opCut (some (story p).2) none (.lst (wFs 0 (story p).1)) U = .ok (.lst (wFs (story p).2.toNat (late p))) U := fun U => cut_late ok
  have l1 : ∀ U x3 x4 x5 x7 x8 x9 x10, mLc [9] (.n 9) (iL (mVar 6)) mYes e_k02_law_1 [x0, some (.loc 0), x2, x3, x4, x5, some (.lst (wFs (story p).2.toNat (late p))), x7, x8, x9, x10, x11, x12, x13] U = .ok (.lst (((late p).map preM).map W.int)) U := fun U x3 x4 x5 x7 x8 x9 x10 => by
    rw [List.map_map, ← zip_fst (W.int ∘ preM) (story p).2.toNat]
    refine mLc_map (fun z : Sc × Nat => wTk (z.2 : Int) z.1) (fun z => W.int (preM z.1)) ((late p).zipIdx (story p).2.toNat) ?_ (by decide) (fun z _ => ⟨_, rfl, fun V => ?_⟩) (fun _ _ => rfl) (by simp; omega)
    · rw [← wFs_zipI]
      rfl
    · simp -implicitDefEqProofs [e_k02_law_1, wipeR, ix_wTk1, preM]
  have l2 : ∀ U x3 x4 x5 x7 x8 x9 x10, mLc [9] (.n 9) (iL (mVar 6)) i_k02_law_1 e_k02_law_2 [x0, some (.loc 0), x2, x3, x4, x5, some (.lst (wFs (story p).2.toNat (late p))), x7, x8, x9, x10, x11, x12, x13] U = .ok (.lst ((((late p).zipIdx (story p).2.toNat).filter fun z => decide (0 < z.1.light)).map fun z => wTk (z.2 : Int) z.1)) U := fun U x3 x4 x5 x7 x8 x9 x10 => by
    refine mLc_if (fun z : Sc × Nat => wTk (z.2 : Int) z.1) (fun z : Sc × Nat => wTk (z.2 : Int) z.1) (fun z => decide (0 < z.1.light)) ((late p).zipIdx (story p).2.toNat) ?_ (by decide) (fun z _ => ⟨_, rfl, fun V => ?_, fun _ V => ?_⟩) (fun _ _ _ => nol_le nol_wTk (by omega)) (by simp; omega)
    · rw [← wFs_zipI]
      rfl
    · simp -implicitDefEqProofs [i_k02_law_1, wipeR, ix_wTk0]
    · simp -implicitDefEqProofs [e_k02_law_2, wipeR]
  have sm : ∀ U, bSum [.lst (((late p).map preM).map W.int)] U = .ok (.int ((late p).map preM).sum) U := fun U => bSum_ev getIs_ints
  have ln : (((late p).zipIdx (story p).2.toNat).filter fun z => decide (0 < z.1.light)).length = lit p := zip_filter (fun s => decide (0 < s.light)) _ _
  have fc : ∀ U, frR U (m_find_cycle [wS p] U) = .ok (cycW p) U := fun U => run_find_cycle ok
  have wl : (wFs (story p).2.toNat (late p)).length = (late p).length := wFs_len _ _
  have q1 : ∀ U, frR U (m_l_equal 8 [cycW p, .tup [.int ((late p).length : Int), .int ((late p).map preM).sum, .int ((lit p : Nat) : Int)]] U) = .ok (.bl true) U := fun U => equal_self rfl
  obtain ⟨t, ht⟩ : ∃ t : Int, t = 1000000000000000000 - v := ⟨_, rfl⟩
  have t0 : 0 ≤ t := by omega
  have t1 : t ≤ 1000000000000000000 := by omega
  have hp18 : ∀ U, opPow (.int 10) (.int 18) U = .ok (.int 1000000000000000000) U := fun U => pow18
  have hp6 : ∀ U, opPow (.int 10) (.int 6) U = .ok (.int 1000000) U := fun U => pow6
  have pl : ∀ U, frR U (m_l_place [wCy p, .int t] U) = .ok (.int (plc (story p).1.length (story p).2 t)) U := fun U => run_l_place ok t0
  have ix : ∀ U, opIx (.lst (wFs 0 (story p).1)) (.int (plc (story p).1.length (story p).2 t)) U = .ok (wTk (plc (story p).1.length (story p).2 t) (scn p t)) U := fun U => ix_wFs ok t0
  have lg : ∀ U, frR U (m_light [wS p, .int t] U) = .ok (.int (scn p t).light) U := fun U => run_light ok t0 t1
  have dk : ∀ U, frR U (m_in_dark [wS p, .int t] U) = .ok (.lst ((scn p t).dark.map W.int)) U := fun U => run_in_darkF ok t0 t1
  have i0 : ∀ U, opIx (wTk (plc (story p).1.length (story p).2 t) (scn p t)) (.int 0) U = .ok (.int (scn p t).light) U := fun U => wTk_0
  have i1 : ∀ U, opIx (wTk (plc (story p).1.length (story p).2 t) (scn p t)) (.int 1) U = .ok (.lst ((scn p t).presses.map (wPr3 (plc (story p).1.length (story p).2 t)))) U := fun U => wTk_1
  have i2 : ∀ U, opIx (wTk (plc (story p).1.length (story p).2 t) (scn p t)) (.int 2) U = .ok (.lst ((scn p t).dark.map W.int)) U := fun U => wTk_2
  have hd := scn_darkI ok t0
  have q2 : ∀ U, frR U (m_l_equal 8 [.lst [.int (scn p t).light, .lst ((scn p t).dark.map W.int)], .lst [.int (scn p t).light, .lst ((scn p t).dark.map W.int)]] U) = .ok (.bl true) U := fun U => by
    refine equal_self ?_
    have : smOk 7 (.lst ((scn p t).dark.map W.int)) = true := by
      show (decide (((scn p t).dark.map W.int).length < 1000000) && ((scn p t).dark.map W.int).all (smOk 6)) = true
      rw [decide_eq_true (by rw [List.length_map]; omega), Bool.true_and, List.all_map]
      exact List.all_eq_true.mpr fun _ _ => rfl
    show (true && (true && (smOk 7 (.lst ((scn p t).dark.map W.int)) && true))) = true
    rw [this]
    rfl
  have hf := scn_few ok t0
  have ex : ∀ U x3 x4 x5 x6 x7 x10, mLc [11, 12, 13] (.t [11, 12, 13]) (iL (mIx (mVar 9) (mC (.int 1)))) mYes e_k02_law_3 [x0, some (.loc 0), x2, x3, x4, x5, x6, x7, some (.int t), some (wTk (plc (story p).1.length (story p).2 t) (scn p t)), x10, x11, x12, x13] U = .ok (.lst ((scn p t).presses.map (wPr3 t))) U := fun U x3 x4 x5 x6 x7 x10 => by
    refine mLc_map (wPr3 (plc (story p).1.length (story p).2 t)) (wPr3 t) (scn p t).presses (by simp -implicitDefEqProofs [i1, -opIx_lst]) (by decide) (fun a _ => ⟨_, rfl, fun V => ?_⟩) (fun _ _ => rfl) (by omega)
    simp -implicitDefEqProofs [e_k02_law_3, wipeR, wPr3]
  have pb : ∀ U, frR U (lgR (m_presses_between [wS p, .int t, .int t] U)) = .ok (.lst ((scn p t).presses.map (wPr3 t))) U := fun U => by
    rw [run_pressesF ok t0 t1 (by omega) (by omega) (by omega), show (t + 1 - t).toNat = 1 by omega, tellP_one]
  have pz : ∀ U, frR U (lgR (m_presses_between [wS p, .int t, .int (t - 1)] U)) = .ok (.lst []) U := fun U => by
    rw [run_pressesF ok t0 t1 (by omega) (by omega) (by omega), show (t - 1 + 1 - t).toNat = 0 by omega]
    rfl
  have q3 : ∀ U, frR U (m_l_equal 8 [.lst ((scn p t).presses.map (wPr3 t)), .lst ((scn p t).presses.map (wPr3 t))] U) = .ok (.bl true) U := fun U => by
    have := equal_self (S := U) (smOk_tellP (p := p) (us := seqI t 1) (k := 5) (by rw [tellP_one, List.length_map]; omega))
    rw [tellP_one] at this
    exact this
  have n0 : ∀ U, opNe (.lst []) (.lst []) U = .ok (.bl false) U := fun U => opNe_self (d := .list []) (by simp [seeL, dat, dats]) (by simp [seeL, dat, dats]) (by decide +kernel)
  refine ⟨D3, some (wP p), some (wS p), some (wCy p), some (.lst (wFs (story p).2.toNat (late p))), some (.int ((late p).map preM).sum), some (.int t), some (wTk (plc (story p).1.length (story p).2 t) (scn p t)), some (.lst ((scn p t).presses.map (wPr3 t))), g3, ?_⟩
  simp -implicitDefEqProofs [f_k02_law_1, e2, m1, c1, ct, l1, sm, fc, wl, l2, ln, q1, hp18, hp6, e3, ← ht, pl, ix, lg, dk, i0, i2, q2, ex, pb, q3, pz, n0, -opIx_lst, -opCut_lst, -List.map_map]
theorem k02_loop : ∀ (ws : List W) {D : List Int} (g : Dr D) (T : Sto) (x0 x2 x3 x4 x5 x6 x7 x8 x9 x10 x11 x12 x13 : Option W), ∃ D' y2 y3 y4 y5 y6 y7 y8 y9 y10, Dr D' ∧
    sForL (.n 2) f_k02_law_1 ws [x0, some (.loc 0), x2, x3, x4, x5, x6, x7, x8, x9, x10, x11, x12, x13] (dst D T) = .ok (.nx [x0, some (.loc 0), y2, y3, y4, y5, y6, y7, y8, y9, y10, x11, x12, x13]) (dst D' T)
  | [], D, g, T, x0, x2, x3, x4, x5, x6, x7, x8, x9, x10, x11, x12, x13 => ⟨D, x2, x3, x4, x5, x6, x7, x8, x9, x10, g, rfl⟩
  | w :: ws, D, g, T, x0, x2, x3, x4, x5, x6, x7, x8, x9, x10, x11, x12, x13 => by
    obtain ⟨D1, y3, y4, y5, y6, y7, y8, y9, y10, g1, e⟩ := k02_step g T x0 (some w) x3 x4 x5 x6 x7 x8 x9 x10 x11 x12 x13
    obtain ⟨D2, z2, z3, z4, z5, z6, z7, z8, z9, z10, g2, e2⟩ := k02_loop ws g1 T x0 (some w) y3 y4 y5 y6 y7 y8 y9 y10 x11 x12 x13
    exact ⟨D2, z2, z3, z4, z5, z6, z7, z8, z9, z10, g2, by rw [sForL_nx (r1 := _) rfl e, e2]⟩
theorem k02_law_is (ns : List Int) (h : ns.length ≤ 63) : ∃ S, m_k02_law [.scr ns] [] = .ok (.bl true) S := by
  obtain ⟨D, g, e1⟩ := run_random ns h 2 (by omega)
  obtain ⟨D2, z2, z3, z4, z5, z6, z7, z8, z9, z10, g2, e2⟩ := k02_loop (rngW 0 1 3) g [] (some (.scr ns)) none none none none none none none none none none none none
  refine ⟨dst D2 [], (fnM_ev rfl).trans ?_⟩
  have e3 : ∀ U, itR1 [.int 3] U = .ok (rngW 0 1 3) U := fun U => itR1_len (n := 3) (by omega)
  simp -implicitDefEqProofs [b_k02_law, e1, e2, e3]
end
end SL

set_option maxHeartbeats 0
namespace SL
open PySem PySem.Spec PyProof.Rows L2
def top (i : Nat) : Stmt := PySem.Challenge.pw_stairlights_k02_cycles_and_late_ticks.main.body.getD i (.Pass ⟨0, 0, 0, 0⟩)
def clsBody (s : Stmt) : List Stmt := match s with
  | .ClassDef _ _ _ body _ _ _ _ _ _ _ => body
  | _ => []
def inC (s : Stmt) (j : Nat) : Stmt := (clsBody s).getD j (.Pass ⟨0, 0, 0, 0⟩)
def FS : List Fx := [
  .fa (.glo "law"),
  .fa (.free "abs"),
  .fa (.glo "_law_random"),
  .fa (.free "range"),
  .fa (.free "len"),
  .fa (.glo "_law_below"),
  .fa (.glo "_law_trip"),
  .fa (.free "tuple"),
  .fa (.glo "_law_parts"),
  .fa (.free "int"),
  .fa (.free "isinstance"),
  .fa (.free "bool"),
  .fa (.glo "is_int_in"),
  .fa (.int "MAX_TOP" 9),
  .fa (.int "MAX_ROUND" 48),
  .fa (.int "MAX_TIME" 60),
  .fa (.free "enumerate"),
  .fa (.int "MAX_TRIPS" 8),
  .fa (.int "MAX_PACE" 5),
  .fa (.free "str"),
  .tp "HABITS" ["dark", "always", "never"],
  .fa (.glo "HABITS"),
  .fa (.glo "is_trip"),
  .fa (.cls "Stairs"),
  .fa (.noat "Stairs" "top"),
  .fa (.noat "Stairs" "length"),
  .fa (.noat "Stairs" "time"),
  .fa (.cls "Trip"),
  .fa (.noat "Trip" "start"),
  .fa (.noat "Trip" "source"),
  .fa (.noat "Trip" "target"),
  .fa (.noat "Trip" "pace"),
  .fa (.noat "Trip" "habit"),
  .fa (.glo "Trip"),
  .fa (.mkr "Trip"),
  .fa (.noat "Stairs" "trips"),
  .fa (.glo "Stairs"),
  .fa (.mkr "Stairs"),
  .fa (.meth "Stairs" "with_trips"),
  .fa (.free "list"),
  .fa (.glo "_law_made"),
  .fa (.glo "_law_duration"),
  .fa (.free "max"),
  .fa (.free "min"),
  .fa (.glo "_law_walks"),
  .fa (.free "sorted"),
  .fa (.free "set"),
  .fa (.glo "_law_tick"),
  .fa (.glo "_law_cycle"),
  .fa (.free "sum"),
  .fa (.free "all"),
  .fa (.glo "_law_equal"),
  .fa (.cls "Story"),
  .fa (.noat "Story" "scenes"),
  .fa (.noat "Story" "start"),
  .pr "Trip" "duration",
  .fa (.meth "Stairs" "ages"),
  .fa (.free "divmod"),
  .fa (.meth "Trip" "floor_at"),
  .fa (.str "ALWAYS" "always"),
  .fa (.str "DARK" "dark"),
  .fa (.cls "Scene"),
  .fa (.noat "Scene" "burning"),
  .fa (.noat "Scene" "presses"),
  .fa (.noat "Scene" "dark"),
  .fa (.glo "Scene"),
  .fa (.mkr "Scene"),
  .fa (.glo "next_scene"),
  .fa (.glo "Story"),
  .fa (.mkr "Story"),
  .pr "Story" "size",
  .fa (.glo "find_cycle"),
  .fa (.glo "_law_place"),
  .fa (.int "MAX_TICK" 1000000000000000000),
  .fa (.glo "check_tick"),
  .fa (.meth "Story" "scene"),
  .fa (.glo "in_dark"),
  .fa (.glo "light"),
  .fa (.int "MAX_LISTED" 1000),
  .fa (.glo "presses_between")]
def DS : List Df := [
  ⟨.fn "_law_random", "_law_random", "_law_random", defArgs (top 32), defBody (top 32), defScope (top 32)⟩,
  ⟨.fn "_law_below", "_law_below", "_law_below", defArgs (top 33), defBody (top 33), defScope (top 33)⟩,
  ⟨.fn "_law_trip", "_law_trip", "_law_trip", defArgs (top 34), defBody (top 34), defScope (top 34)⟩,
  ⟨.fn "_law_parts", "_law_parts", "_law_parts", defArgs (top 35), defBody (top 35), defScope (top 35)⟩,
  ⟨.fn "is_int_in", "is_int_in", "is_int_in", defArgs (top 16), defBody (top 16), defScope (top 16)⟩,
  ⟨.fn "is_trip", "is_trip", "is_trip", defArgs (top 18), defBody (top 18), defScope (top 18)⟩,
  ⟨.me "Trip" "__init__", "__init__", "Trip.__init__", defArgs (inC (top 17) 0), defBody (inC (top 17) 0), defScope (inC (top 17) 0)⟩,
  ⟨.me "Stairs" "__init__", "__init__", "Stairs.__init__", defArgs (inC (top 19) 0), defBody (inC (top 19) 0), defScope (inC (top 19) 0)⟩,
  ⟨.me "Stairs" "with_trips", "with_trips", "Stairs.with_trips", defArgs (inC (top 19) 5), defBody (inC (top 19) 5), defScope (inC (top 19) 5)⟩,
  ⟨.fn "_law_made", "_law_made", "_law_made", defArgs (top 36), defBody (top 36), defScope (top 36)⟩,
  ⟨.fn "_law_duration", "_law_duration", "_law_duration", defArgs (top 37), defBody (top 37), defScope (top 37)⟩,
  ⟨.fn "_law_walks", "_law_walks", "_law_walks", defArgs (top 38), defBody (top 38), defScope (top 38)⟩,
  ⟨.fn "_law_tick", "_law_tick", "_law_tick", defArgs (top 39), defBody (top 39), defScope (top 39)⟩,
  ⟨.fn "_law_cycle", "_law_cycle", "_law_cycle", defArgs (top 40), defBody (top 40), defScope (top 40)⟩,
  ⟨.fn "_law_equal", "_law_equal", "_law_equal", defArgs (top 41), defBody (top 41), defScope (top 41)⟩,
  ⟨.pr "Trip" "duration", "duration", "Trip.duration", defArgs (inC (top 17) 2), defBody (inC (top 17) 2), defScope (inC (top 17) 2)⟩,
  ⟨.me "Stairs" "ages", "ages", "Stairs.ages", defArgs (inC (top 19) 6), defBody (inC (top 19) 6), defScope (inC (top 19) 6)⟩,
  ⟨.me "Trip" "floor_at", "floor_at", "Trip.floor_at", defArgs (inC (top 17) 3), defBody (inC (top 17) 3), defScope (inC (top 17) 3)⟩,
  ⟨.me "Scene" "__init__", "__init__", "Scene.__init__", defArgs (inC (top 23) 0), defBody (inC (top 23) 0), defScope (inC (top 23) 0)⟩,
  ⟨.fn "next_scene", "next_scene", "next_scene", defArgs (top 24), defBody (top 24), defScope (top 24)⟩,
  ⟨.me "Story" "__init__", "__init__", "Story.__init__", defArgs (inC (top 25) 0), defBody (inC (top 25) 0), defScope (inC (top 25) 0)⟩,
  ⟨.pr "Story" "size", "size", "Story.size", defArgs (inC (top 25) 1), defBody (inC (top 25) 1), defScope (inC (top 25) 1)⟩,
  ⟨.fn "find_cycle", "find_cycle", "find_cycle", defArgs (top 28), defBody (top 28), defScope (top 28)⟩,
  ⟨.fn "_law_place", "_law_place", "_law_place", defArgs (top 42), defBody (top 42), defScope (top 42)⟩,
  ⟨.fn "check_tick", "check_tick", "check_tick", defArgs (top 20), defBody (top 20), defScope (top 20)⟩,
  ⟨.me "Story" "scene", "scene", "Story.scene", defArgs (inC (top 25) 2), defBody (inC (top 25) 2), defScope (inC (top 25) 2)⟩,
  ⟨.fn "in_dark", "in_dark", "in_dark", defArgs (top 30), defBody (top 30), defScope (top 30)⟩,
  ⟨.fn "light", "light", "light", defArgs (top 26), defBody (top 26), defScope (top 26)⟩,
  ⟨.fn "presses_between", "presses_between", "presses_between", defArgs (top 27), defBody (top 27), defScope (top 27)⟩,
  ⟨.fn "law", "law", "law", defArgs (top 43), defBody (top 43), defScope (top 43)⟩]
theorem sc_l_random : FnScope N_l_random ["_law_script", "_law_salt"] (defScope (top 32)) := ⟨rfl, rfl, rfl, by decide +kernel, rfl, by decide +kernel, by decide +kernel⟩
theorem ok_l_random {P : Program} {w : World} {K : PySem.W.Frag} {mg : PySem.Str → Option Value} {base : Heap} {lam : Lm} (Z : Sy FS DS K mg) : FnAt P w K mg base (caL K lam) "_law_random" 1 m_l_random := by
  exact Z.fn (N := N_l_random) (ps := ["_law_script", "_law_salt"]) 0 2 rfl rfl sc_l_random rfl rfl (fun _ _ _ _ _ _ us hl => match us, hl with | [_, _], _ => rfl) (fun f cdv A outer s H E b => by
    have nd := sc_l_random.nd
    exact ms_cons (ms_set 2 nd (me_var 1)) (ms_cons (ms_for (passes_of rfl) b.calm (mi_list (me_var 0)) (mg_name 3 nd) (ms_one (ms_set 2 nd (me_op om_mod (me_op om_add (me_op om_mul (me_var 2) (me_int)) (me_callB (bm_abs) (Z.free 1) (ma_cons (me_var 3) (ma_nil)))) (me_int))))) (ms_one (ms_ret (me_op om_addC (me_lst (ma_cons (me_var 2) (ma_cons (me_int) (ma_nil)))) (me_lcB [3] b nd (mi_list (me_var 0)) (blkOk_by (own := [("_law_cell", 3)]) (N := N_l_random) (sc := defScope (top 32)) (by decide +kernel)) rfl (fun _ _ _ _ _ b => mg_name 3 nd) (fun _ _ _ _ _ b => mts_one (mt_cmp om_ge (me_var 3) (me_op om_pow (me_int) (me_int)))) (fun _ _ _ _ _ b => me_var 3)))))))
theorem sc_l_below : FnScope N_l_below ["_law_d", "_law_limit"] (defScope (top 33)) := ⟨rfl, rfl, rfl, by decide +kernel, rfl, by decide +kernel, by decide +kernel⟩
theorem ok_l_below {P : Program} {w : World} {K : PySem.W.Frag} {mg : PySem.Str → Option Value} {base : Heap} {lam : Lm} (Z : Sy FS DS K mg) : FnAt P w K mg base (caL K lam) "_law_below" 1 m_l_below := by
  exact Z.fn (N := N_l_below) (ps := ["_law_d", "_law_limit"]) 1 5 rfl rfl sc_l_below rfl rfl (fun _ _ _ _ _ _ us hl => match us, hl with | [_, _], _ => rfl) (fun f cdv A outer s H E b => by
    have nd := sc_l_below.nd
    exact ms_cons (ms_if (mt_bool (mw_and (mt_cmp (om_eq b.hr.units) (me_ix (me_var 0) (me_int)) (me_int)) (mw_and1 (mt_cmp om_gt (me_callB (bm_len) (Z.free 4) (ma_cons (me_var 0) (ma_nil))) (me_int))))) (ms_one (ms_ixset (me_var 0) (me_int) (me_bm PySem.F.plainAttrs_list PySem.F.slot_list_pop PySem.F.type_list_pop fm_pop (me_var 0) (ma_cons (me_int) (ma_nil))))) (ms_nil)) (ms_cons (ms_if (mt_cmp om_gt (me_ix (me_var 0) (me_int)) (me_int)) (ms_cons (ms_set 2 nd (me_op om_mod (me_ix (me_var 0) (me_int)) (me_var 1))) (ms_cons (ms_ixset (me_var 0) (me_int) (me_op om_fdiv (me_ix (me_var 0) (me_int)) (me_var 1))) (ms_one (ms_ret (me_var 2))))) (ms_nil)) (ms_cons (ms_ixset (me_var 0) (me_int) (me_op om_mod (me_op om_add (me_op om_mul (me_ix (me_var 0) (me_int)) (me_int)) (me_int)) (me_int))) (ms_one (ms_ret (me_op om_mod (me_op om_fdiv (me_ix (me_var 0) (me_int)) (me_int)) (me_var 1)))))))
theorem sc_l_trip : FnScope N_l_trip ["_law_d", "_law_top", "_law_length"] (defScope (top 34)) := ⟨rfl, rfl, rfl, by decide +kernel, rfl, by decide +kernel, by decide +kernel⟩
theorem ok_l_trip {P : Program} {w : World} {K : PySem.W.Frag} {mg : PySem.Str → Option Value} {base : Heap} {lam : Lm} (Z : Sy FS DS K mg) : FnAt P w K mg base (caL K lam) "_law_trip" 2 m_l_trip := by
  exact Z.fn (N := N_l_trip) (ps := ["_law_d", "_law_top", "_law_length"]) 2 6 rfl rfl sc_l_trip rfl rfl (fun _ _ _ _ _ _ us hl => match us, hl with | [_, _, _], _ => rfl) (fun f cdv A outer s H E b => by
    have nd := sc_l_trip.nd
    exact ms_cons (ms_set 3 nd (me_fn (ok_l_below Z) b (ma_cons (me_var 0) (ma_cons (me_op om_add (me_var 1) (me_int)) (ma_nil))))) (ms_cons (ms_set 4 nd (me_op om_mod (me_op om_add (me_op om_add (me_var 3) (me_int)) (me_fn (ok_l_below Z) b (ma_cons (me_var 0) (ma_cons (me_var 1) (ma_nil))))) (me_op om_add (me_var 1) (me_int)))) (ms_cons (ms_set 5 nd (me_ix (me_lst (ma_cons (me_str) (ma_cons (me_str) (ma_cons (me_str) (ma_cons (me_str) (ma_nil)))))) (me_fn (ok_l_below Z) b (ma_cons (me_var 0) (ma_cons (me_int) (ma_nil)))))) (ms_one (ms_ret (me_tup (ma_cons (me_fn (ok_l_below Z) b (ma_cons (me_var 0) (ma_cons (me_var 2) (ma_nil)))) (ma_cons (me_var 3) (ma_cons (me_var 4) (ma_cons (me_op om_add (me_int) (me_fn (ok_l_below Z) b (ma_cons (me_var 0) (ma_cons (me_ix (me_lst (ma_cons (me_int) (ma_cons (me_int) (ma_nil)))) (me_fn (ok_l_below Z) b (ma_cons (me_var 0) (ma_cons (me_int) (ma_nil))))) (ma_nil))))) (ma_cons (me_var 5) (ma_nil))))))))))))
theorem sc_l_parts : FnScope N_l_parts ["_law_d", "_law_most"] (defScope (top 35)) := ⟨rfl, rfl, rfl, by decide +kernel, rfl, by decide +kernel, by decide +kernel⟩
theorem ok_l_parts {P : Program} {w : World} {K : PySem.W.Frag} {mg : PySem.Str → Option Value} {base : Heap} {lam : Lm} (Z : Sy FS DS K mg) : FnAt P w K mg base (caL K lam) "_law_parts" 3 m_l_parts := by
  exact Z.fn (N := N_l_parts) (ps := ["_law_d", "_law_most"]) 3 8 rfl rfl sc_l_parts rfl rfl (fun _ _ _ _ _ _ us hl => match us, hl with | [_, _], _ => rfl) (fun f cdv A outer s H E b => by
    have nd := sc_l_parts.nd
    exact ms_cons (ms_tg (.t [2, 3]) (mg_tup b.calm (mgs_cons (mg_name 2 nd) (mgs_cons (mg_name 3 nd) (mgs_nil)))) (me_tup (ma_cons (me_op om_add (me_int) (me_fn (ok_l_below Z) b (ma_cons (me_var 0) (ma_cons (me_ix (me_lst (ma_cons (me_int) (ma_cons (me_int) (ma_nil)))) (me_fn (ok_l_below Z) b (ma_cons (me_var 0) (ma_cons (me_int) (ma_nil))))) (ma_nil))))) (ma_cons (me_op om_add (me_int) (me_fn (ok_l_below Z) b (ma_cons (me_var 0) (ma_cons (me_ix (me_lst (ma_cons (me_int) (ma_cons (me_int) (ma_nil)))) (me_fn (ok_l_below Z) b (ma_cons (me_var 0) (ma_cons (me_int) (ma_nil))))) (ma_nil))))) (ma_nil))))) (ms_cons (ms_set 4 nd (me_op om_add (me_int) (me_fn (ok_l_below Z) b (ma_cons (me_var 0) (ma_cons (me_ix (me_lst (ma_cons (me_int) (ma_cons (me_int) (ma_cons (me_int) (ma_nil))))) (me_fn (ok_l_below Z) b (ma_cons (me_var 0) (ma_cons (me_int) (ma_nil))))) (ma_nil)))))) (ms_one (ms_ret (me_tup (ma_cons (me_var 2) (ma_cons (me_var 3) (ma_cons (me_var 4) (ma_cons (me_callTy bm_tuple (Z.free 7) (ma_cons (me_lcB [5] b nd (mi_range1 (Z.free 3) (ma_cons (me_fn (ok_l_below Z) b (ma_cons (me_var 0) (ma_cons (me_op om_add (me_var 1) (me_int)) (ma_nil)))) (ma_nil))) (blkOk_by (own := [("_law_k", 5)]) (N := N_l_parts) (sc := defScope (top 35)) (by decide +kernel)) rfl (fun _ _ _ _ _ b => mg_name 5 nd) (fun _ _ _ _ _ b => mts_nil) (fun _ _ _ _ _ b => me_fn (ok_l_trip Z) b (ma_cons (me_var 0) (ma_cons (me_var 2) (ma_cons (me_var 3) (ma_nil)))))) (ma_nil))) (ma_nil))))))))))
theorem sc_is_int_in : FnScope N_is_int_in ["value", "low", "high"] (defScope (top 16)) := ⟨rfl, rfl, rfl, by decide +kernel, rfl, by decide +kernel, by decide +kernel⟩
theorem ok_is_int_in {P : Program} {w : World} {K : PySem.W.Frag} {mg : PySem.Str → Option Value} {base : Heap} {lam : Lm} (Z : Sy FS DS K mg) : FnAt P w K mg base (caL K lam) "is_int_in" 1 m_is_int_in := by
  exact Z.fn (N := N_is_int_in) (ps := ["value", "low", "high"]) 4 12 rfl rfl sc_is_int_in rfl rfl (fun _ _ _ _ _ _ us hl => match us, hl with | [_, _, _], _ => rfl) (fun f cdv A outer s H E b => by
    have nd := sc_is_int_in.nd
    exact ms_one (ms_ret (me_and (me_callB (bm_isi) (Z.free 10) (ma_cons (me_var 0) (ma_cons (me_bty (Z.free 9) (by decide +kernel)) (ma_nil)))) (me_and (me_not (me_callB (bm_isi) (Z.free 10) (ma_cons (me_var 0) (ma_cons (me_bty (Z.free 11) (by decide +kernel)) (ma_nil))))) (me_one (me_chain om_le om_le (me_var 1) (me_var 0) (me_var 2)))))))
theorem sc_is_trip : FnScope N_is_trip ["value", "top", "length"] (defScope (top 18)) := ⟨rfl, rfl, rfl, by decide +kernel, rfl, by decide +kernel, by decide +kernel⟩
theorem ok_is_trip {P : Program} {w : World} {K : PySem.W.Frag} {mg : PySem.Str → Option Value} {base : Heap} {lam : Lm} (Z : Sy FS DS K mg) : FnAt P w K mg base (caL K lam) "is_trip" 2 m_is_trip := by
  exact Z.fn (N := N_is_trip) (ps := ["value", "top", "length"]) 5 22 rfl rfl sc_is_trip rfl rfl (fun _ _ _ _ _ _ us hl => match us, hl with | [_, _, _], _ => rfl) (fun f cdv A outer s H E b => by
    have nd := sc_is_trip.nd
    exact ms_cons (ms_if (mt_bool (mw_or (mt_not (mt_val (me_callB (bm_isi) (Z.free 10) (ma_cons (me_var 0) (ma_cons (me_bty (Z.free 7) (by decide +kernel)) (ma_nil)))))) (mw_or1 (mt_cmp (om_ne b.hr.units) (me_callB (bm_len) (Z.free 4) (ma_cons (me_var 0) (ma_nil))) (me_int))))) (ms_one (ms_ret (me_bl))) (ms_nil)) (ms_cons (ms_tg (.t [3, 4, 5, 6, 7]) (mg_tup b.calm (mgs_cons (mg_name 3 nd) (mgs_cons (mg_name 4 nd) (mgs_cons (mg_name 5 nd) (mgs_cons (mg_name 6 nd) (mgs_cons (mg_name 7 nd) (mgs_nil))))))) (me_var 0)) (ms_cons (ms_if (mt_bool (mw_or (mt_not (mt_val (me_fn (ok_is_int_in Z) b (ma_cons (me_var 3) (ma_cons (me_int) (ma_cons (me_op om_sub (me_var 2) (me_int)) (ma_nil))))))) (mw_or1 (mt_not (mt_val (me_fn (ok_is_int_in Z) b (ma_cons (me_var 6) (ma_cons (me_int) (ma_cons (me_gint (Z.int 18)) (ma_nil)))))))))) (ms_one (ms_ret (me_bl))) (ms_nil)) (ms_cons (ms_if (mt_bool (mw_or (mt_not (mt_val (me_fn (ok_is_int_in Z) b (ma_cons (me_var 4) (ma_cons (me_int) (ma_cons (me_var 1) (ma_nil))))))) (mw_or (mt_not (mt_val (me_fn (ok_is_int_in Z) b (ma_cons (me_var 5) (ma_cons (me_int) (ma_cons (me_var 1) (ma_nil))))))) (mw_or1 (mt_cmp (om_eq b.hr.units) (me_var 4) (me_var 5)))))) (ms_one (ms_ret (me_bl))) (ms_nil)) (ms_one (ms_ret (me_and (me_callB (bm_isi) (Z.free 10) (ma_cons (me_var 7) (ma_cons (me_bty (Z.free 19) (by decide +kernel)) (ma_nil)))) (me_one (me_cmp om_inQ (me_var 7) (me_tp (zs := ["dark", "always", "never"]) (Z.tp 20) (Z.glo 21)))))))))))
theorem sc_Trip___init__ : FnScope N_Trip___init__ ["self", "start", "source", "target", "pace", "habit"] (defScope (inC (top 17) 0)) := ⟨rfl, rfl, rfl, by decide +kernel, rfl, by decide +kernel, by decide +kernel⟩
theorem ok_Trip___init__ {P : Program} {w : World} {K : PySem.W.Frag} {mg : PySem.Str → Option Value} {base : Heap} {lam : Lm} (Z : Sy FS DS K mg) : NewAt P w K mg base (caL K lam) .Trip "Trip" 1 m_Trip___init__ := by
  exact Z.new (N := N_Trip___init__) (ps := ["self", "start", "source", "target", "pace", "habit"]) 6 33 34 rfl rfl rfl rfl sc_Trip___init__ rfl rfl (fun _ _ _ _ _ _ us hl => match us, hl with | [_, _, _, _, _, _], _ => rfl) (fun f cdv A outer s H E b => by
    have nd := sc_Trip___init__.nd
    exact ms_cons (ms_fldset (c := .Trip) (f := .start) (Z.cls 27) (Z.noat 28) (me_var 0) (me_var 1)) (ms_cons (ms_fldset (c := .Trip) (f := .source) (Z.cls 27) (Z.noat 29) (me_var 0) (me_var 2)) (ms_cons (ms_fldset (c := .Trip) (f := .target) (Z.cls 27) (Z.noat 30) (me_var 0) (me_var 3)) (ms_cons (ms_fldset (c := .Trip) (f := .pace) (Z.cls 27) (Z.noat 31) (me_var 0) (me_var 4)) (ms_one (ms_fldset (c := .Trip) (f := .habit) (Z.cls 27) (Z.noat 32) (me_var 0) (me_var 5)))))))
theorem sc_Stairs___init__ : FnScope N_Stairs___init__ ["self", "top", "length", "time", "trips"] (defScope (inC (top 19) 0)) := ⟨rfl, rfl, rfl, by decide +kernel, rfl, by decide +kernel, by decide +kernel⟩
theorem ok_Stairs___init__ {P : Program} {w : World} {K : PySem.W.Frag} {mg : PySem.Str → Option Value} {base : Heap} {lam : Lm} (Z : Sy FS DS K mg) : NewAt P w K mg base (caL K lam) .Stairs "Stairs" 3 m_Stairs___init__ := by
  exact Z.newS (N := N_Stairs___init__) (ps := ["self", "top", "length", "time"]) 7 36 37 rfl rfl rfl rfl sc_Stairs___init__ rfl rfl (fun _ _ _ _ _ _ us rest hl => match us, rest, hl with | [a0, a1, a2, a3], [], _ => rfl | [a0, a1, a2, a3], _ :: _, _ => rfl) (fun f cdv A outer s H E b => by
    have nd := sc_Stairs___init__.nd
    exact ms_cons (ms_if (mt_not (mt_val (me_fn (ok_is_int_in Z) b (ma_cons (me_var 1) (ma_cons (me_int) (ma_cons (me_gint (Z.int 13)) (ma_nil))))))) (ms_one (ms_never)) (ms_nil)) (ms_cons (ms_if (mt_not (mt_val (me_fn (ok_is_int_in Z) b (ma_cons (me_var 2) (ma_cons (me_int) (ma_cons (me_gint (Z.int 14)) (ma_nil))))))) (ms_one (ms_never)) (ms_nil)) (ms_cons (ms_if (mt_not (mt_val (me_fn (ok_is_int_in Z) b (ma_cons (me_var 3) (ma_cons (me_int) (ma_cons (me_gint (Z.int 15)) (ma_nil))))))) (ms_one (ms_never)) (ms_nil)) (ms_cons (ms_for (passes_of rfl) b.calm (mi_enumT (Z.free 16) (me_var 4)) (mg_tup b.calm (mgs_cons (mg_name 5 nd) (mgs_cons (mg_name 6 nd) (mgs_nil)))) (ms_one (ms_if (mt_bool (mw_or (mt_cmp (om_eq b.hr.units) (me_var 5) (me_gint (Z.int 17))) (mw_or1 (mt_not (mt_val (me_fn (ok_is_trip Z) b (ma_cons (me_var 6) (ma_cons (me_var 1) (ma_cons (me_var 2) (ma_nil)))))))))) (ms_one (ms_never)) (ms_nil)))) (ms_cons (ms_fldset (c := .Stairs) (f := .top) (Z.cls 23) (Z.noat 24) (me_var 0) (me_var 1)) (ms_cons (ms_fldset (c := .Stairs) (f := .length) (Z.cls 23) (Z.noat 25) (me_var 0) (me_var 2)) (ms_cons (ms_fldset (c := .Stairs) (f := .time) (Z.cls 23) (Z.noat 26) (me_var 0) (me_var 3)) (ms_one (ms_fldset (c := .Stairs) (f := .trips) (Z.cls 23) (Z.noat 35) (me_var 0) (me_lcB [6] b nd (mi_tup (me_var 4)) (blkOk_by (own := [("trip", 6)]) (N := N_Stairs___init__) (sc := defScope (inC (top 19) 0)) (by decide +kernel)) rfl (fun _ _ _ _ _ b => mg_name 6 nd) (fun _ _ _ _ _ b => mts_nil) (fun _ _ _ _ _ b => me_nw1 (ok_Trip___init__ Z) b (me_var 6))))))))))))
theorem sc_Stairs_with_trips : FnScope N_Stairs_with_trips ["self", "trips"] (defScope (inC (top 19) 5)) := ⟨rfl, rfl, rfl, by decide +kernel, rfl, by decide +kernel, by decide +kernel⟩
theorem ok_Stairs_with_trips {P : Program} {w : World} {K : PySem.W.Frag} {mg : PySem.Str → Option Value} {base : Heap} {lam : Lm} (Z : Sy FS DS K mg) : MethAt P w K mg base (caL K lam) .Stairs "with_trips" 5 m_Stairs_with_trips := by
  exact Z.meth (N := N_Stairs_with_trips) (ps := ["self", "trips"]) (C := "Stairs") 8 23 38 rfl rfl rfl rfl sc_Stairs_with_trips rfl rfl (fun _ _ _ _ _ _ us hl => match us, hl with | [_, _], _ => rfl) (fun f cdv A outer s H E b => by
    have nd := sc_Stairs_with_trips.nd
    exact ms_one (ms_ret (me_nwS (ok_Stairs___init__ Z) b (ma_cons (me_fld (c := .Stairs) (f := .top) (Z.cls 23) (Z.noat 24) (me_var 0)) (ma_cons (me_fld (c := .Stairs) (f := .length) (Z.cls 23) (Z.noat 25) (me_var 0)) (ma_cons (me_fld (c := .Stairs) (f := .time) (Z.cls 23) (Z.noat 26) (me_var 0)) (ma_star (me_var 1) (ma_nil))))))))
theorem sc_l_made : FnScope N_l_made ["_law_parts_here"] (defScope (top 36)) := ⟨rfl, rfl, rfl, by decide +kernel, rfl, by decide +kernel, by decide +kernel⟩
theorem ok_l_made {P : Program} {w : World} {K : PySem.W.Frag} {mg : PySem.Str → Option Value} {base : Heap} {lam : Lm} (Z : Sy FS DS K mg) : FnAt P w K mg base (caL K lam) "_law_made" 6 m_l_made := by
  exact Z.fn (N := N_l_made) (ps := ["_law_parts_here"]) 9 40 rfl rfl sc_l_made rfl rfl (fun _ _ _ _ _ _ us hl => match us, hl with | [_], _ => rfl) (fun f cdv A outer s H E b => by
    have nd := sc_l_made.nd
    exact ms_one (ms_ret (me_mt (ok_Stairs_with_trips Z) b (me_nw (ok_Stairs___init__ Z) b (ma_cons (me_ix (me_var 0) (me_int)) (ma_cons (me_ix (me_var 0) (me_int)) (ma_cons (me_ix (me_var 0) (me_int)) (ma_nil))))) (ma_cons (me_callTy bm_list (Z.free 39) (ma_cons (me_ix (me_var 0) (me_int)) (ma_nil))) (ma_nil)))))
theorem sc_l_duration : FnScope N_l_duration ["_law_trip_here"] (defScope (top 37)) := ⟨rfl, rfl, rfl, by decide +kernel, rfl, by decide +kernel, by decide +kernel⟩
theorem ok_l_duration {P : Program} {w : World} {K : PySem.W.Frag} {mg : PySem.Str → Option Value} {base : Heap} {lam : Lm} (Z : Sy FS DS K mg) : FnAt P w K mg base (caL K lam) "_law_duration" 1 m_l_duration := by
  exact Z.fn (N := N_l_duration) (ps := ["_law_trip_here"]) 10 41 rfl rfl sc_l_duration rfl rfl (fun _ _ _ _ _ _ us hl => match us, hl with | [_], _ => rfl) (fun f cdv A outer s H E b => by
    have nd := sc_l_duration.nd
    exact ms_one (ms_ret (me_op om_mul (me_callB (bm_abs) (Z.free 1) (ma_cons (me_op om_sub (me_ix (me_var 0) (me_int)) (me_ix (me_var 0) (me_int))) (ma_nil))) (me_ix (me_var 0) (me_int)))))
theorem sc_l_walks : FnScope N_l_walks ["_law_parts_here", "_law_tick_here"] (defScope (top 38)) := ⟨rfl, rfl, rfl, by decide +kernel, rfl, by decide +kernel, by decide +kernel⟩
theorem ok_l_walks {P : Program} {w : World} {K : PySem.W.Frag} {mg : PySem.Str → Option Value} {base : Heap} {lam : Lm} (Z : Sy FS DS K mg) : FnAt P w K mg base (caL K lam) "_law_walks" 2 m_l_walks := by
  exact Z.fn (N := N_l_walks) (ps := ["_law_parts_here", "_law_tick_here"]) 11 44 rfl rfl sc_l_walks rfl rfl (fun _ _ _ _ _ _ us hl => match us, hl with | [_, _], _ => rfl) (fun f cdv A outer s H E b => by
    have nd := sc_l_walks.nd
    exact ms_cons (ms_set 2 nd (me_lstC (ma_nil))) (ms_cons (ms_for (passes_of rfl) b.calm (mi_range1 (Z.free 3) (ma_cons (me_callB (bm_len) (Z.free 4) (ma_cons (me_ix (me_var 0) (me_int)) (ma_nil))) (ma_nil))) (mg_name 3 nd) (ms_cons (ms_set 4 nd (me_ix (me_ix (me_var 0) (me_int)) (me_var 3))) (ms_one (ms_for (passes_of rfl) b.calm (mi_range1 (Z.free 3) (ma_cons (me_callB (bm_min b.calm) (Z.free 43) (ma_cons (me_op om_add (me_var 1) (me_int)) (ma_cons (me_fn (ok_l_duration Z) b (ma_cons (me_var 4) (ma_nil))) (ma_nil)))) (ma_nil))) (mg_name 5 nd) (ms_one (ms_if (mt_cmp (om_eq b.hr.units) (me_op om_mod (me_op om_sub (me_op om_sub (me_var 1) (me_var 5)) (me_ix (me_var 4) (me_int))) (me_ix (me_var 0) (me_int))) (me_int)) (ms_one (ms_expr (me_bm PySem.F.plainAttrs_list PySem.F.slot_list_append PySem.F.type_list_append fm_append (me_var 2) (ma_cons (me_tup (ma_cons (me_var 3) (ma_cons (me_var 5) (ma_nil)))) (ma_nil))))) (ms_nil))))))) (ms_one (ms_ret (me_var 2)))))
theorem sc_l_tick : FnScope N_l_tick ["_law_parts_here", "_law_before", "_law_tick_here"] (defScope (top 39)) := ⟨rfl, rfl, rfl, by decide +kernel, rfl, by decide +kernel, by decide +kernel⟩
theorem ok_l_tick {P : Program} {w : World} {K : PySem.W.Frag} {mg : PySem.Str → Option Value} {base : Heap} {lam : Lm} (Z : Sy FS DS K mg) : FnAt P w K mg base (caL K lam) "_law_tick" 3 m_l_tick := by
  exact Z.fn (N := N_l_tick) (ps := ["_law_parts_here", "_law_before", "_law_tick_here"]) 12 47 rfl rfl sc_l_tick rfl rfl (fun _ _ _ _ _ _ us hl => match us, hl with | [_, _, _], _ => rfl) (fun f cdv A outer s H E b => by
    have nd := sc_l_tick.nd
    exact ms_cons (ms_par3 3 4 5 b.calm nd (ma_cons (me_callB (bm_max b.calm) (Z.free 42) (ma_cons (me_int) (ma_cons (me_op om_sub (me_var 1) (me_int)) (ma_nil)))) (ma_cons (me_lstC (ma_nil)) (ma_cons (me_fn (ok_l_walks Z) b (ma_cons (me_var 0) (ma_cons (me_var 2) (ma_nil)))) (ma_nil))))) (ms_cons (ms_for (passes_of rfl) b.calm (mi_list (me_var 5)) (mg_tup b.calm (mgs_cons (mg_name 6 nd) (mgs_cons (mg_name 7 nd) (mgs_nil)))) (ms_cons (ms_tg (.t [8, 9, 10, 11, 12]) (mg_tup b.calm (mgs_cons (mg_name 8 nd) (mgs_cons (mg_name 9 nd) (mgs_cons (mg_name 10 nd) (mgs_cons (mg_name 11 nd) (mgs_cons (mg_name 12 nd) (mgs_nil))))))) (me_ix (me_ix (me_var 0) (me_int)) (me_var 6))) (ms_cons (ms_set 13 nd (me_cmp (om_eq b.hr.units) (me_op om_mod (me_var 7) (me_var 11)) (me_int))) (ms_one (ms_if (mt_bool (mw_and (mt_val (me_var 13)) (mw_and1 (mt_bool (mw_or (mt_cmp (om_eq b.hr.units) (me_var 12) (me_str)) (mw_or1 (mt_bool (mw_and (mt_cmp (om_eq b.hr.units) (me_var 12) (me_str)) (mw_and1 (mt_cmp (om_eq b.hr.units) (me_var 3) (me_int))))))))))) (ms_cons (ms_set 14 nd (me_if (mt_cmp om_gt (me_var 10) (me_var 9)) (me_op om_add (me_var 9) (me_op om_fdiv (me_var 7) (me_var 11))) (me_op om_sub (me_var 9) (me_op om_fdiv (me_var 7) (me_var 11))))) (ms_cons (ms_expr (me_bm PySem.F.plainAttrs_list PySem.F.slot_list_append PySem.F.type_list_append fm_append (me_var 4) (ma_cons (me_tup (ma_cons (me_var 2) (ma_cons (me_var 6) (ma_cons (me_var 14) (ma_nil))))) (ma_nil)))) (ms_one (ms_set 3 nd (me_ix (me_var 0) (me_int)))))) (ms_nil)))))) (ms_one (ms_ret (me_tup (ma_cons (me_var 3) (ma_cons (me_var 4) (ma_cons (me_if (mt_cmp (om_eq b.hr.units) (me_var 3) (me_int)) (me_sortset b.calm (Z.free 45) (Z.free 46) (me_lcB [15] b nd (mi_list (me_var 5)) (blkOk_by (own := [("_law_walk", 15)]) (N := N_l_tick) (sc := defScope (top 39)) (by decide +kernel)) rfl (fun _ _ _ _ _ b => mg_name 15 nd) (fun _ _ _ _ _ b => mts_nil) (fun _ _ _ _ _ b => me_ix (me_var 15) (me_int)))) (me_lst (ma_nil))) (ma_nil)))))))))
theorem sc_l_cycle : FnScope N_l_cycle ["_law_parts_here"] (defScope (top 40)) := ⟨rfl, rfl, rfl, by decide +kernel, rfl, by decide +kernel, by decide +kernel⟩
theorem ok_l_cycle {P : Program} {w : World} {K : PySem.W.Frag} {mg : PySem.Str → Option Value} {base : Heap} {lam : Lm} (Z : Sy FS DS K mg) : FnAt P w K mg base (caL K lam) "_law_cycle" 4 m_l_cycle := by
  exact Z.fn (N := N_l_cycle) (ps := ["_law_parts_here"]) 13 48 rfl rfl sc_l_cycle rfl rfl (fun _ _ _ _ _ _ us hl => match us, hl with | [_], _ => rfl) (fun f cdv A outer s H E b => by
    have nd := sc_l_cycle.nd
    exact ms_cons (ms_tg (.t [1, 2, 3, 4]) (mg_tup b.calm (mgs_cons (mg_name 1 nd) (mgs_cons (mg_name 2 nd) (mgs_cons (mg_name 3 nd) (mgs_cons (mg_name 4 nd) (mgs_nil)))))) (me_tup (ma_cons (me_callB (bm_max b.calm) (Z.free 42) (ma_cons (me_op om_add (me_lst (ma_cons (me_int) (ma_nil))) (me_lcB [6] b nd (mi_tup (me_ix (me_var 0) (me_int))) (blkOk_by (own := [("_law_trip_here", 6)]) (N := N_l_cycle) (sc := defScope (top 40)) (by decide +kernel)) rfl (fun _ _ _ _ _ b => mg_name 6 nd) (fun _ _ _ _ _ b => mts_nil) (fun _ _ _ _ _ b => me_fn (ok_l_duration Z) b (ma_cons (me_var 6) (ma_nil))))) (ma_nil))) (ma_cons (me_lstC (ma_nil)) (ma_cons (me_int) (ma_cons (me_dnewT) (ma_nil))))))) (ms_one (ms_while (passes_of rfl) (mt_val (me_bl)) (ms_cons (ms_set 5 nd (me_callB (bm_len) (Z.free 4) (ma_cons (me_var 2) (ma_nil)))) (ms_cons (ms_if (mt_cmp om_ge (me_var 5) (me_var 1)) (ms_cons (ms_if (mt_din b.hr.units (me_tup (ma_cons (me_op om_mod (me_var 5) (me_ix (me_var 0) (me_int))) (ma_cons (me_var 3) (ma_nil)))) (me_var 4)) (ms_one (ms_ret (me_tup (ma_cons (me_var 2) (ma_cons (me_dget b.hr.units (me_var 4) (me_tup (ma_cons (me_op om_mod (me_var 5) (me_ix (me_var 0) (me_int))) (ma_cons (me_var 3) (ma_nil))))) (ma_nil)))))) (ms_nil)) (ms_one (ms_dput b.hr.units (me_var 4) (me_tup (ma_cons (me_op om_mod (me_var 5) (me_ix (me_var 0) (me_int))) (ma_cons (me_var 3) (ma_nil)))) (me_var 5)))) (ms_nil)) (ms_cons (ms_expr (me_bm PySem.F.plainAttrs_list PySem.F.slot_list_append PySem.F.type_list_append fm_append (me_var 2) (ma_cons (me_fn (ok_l_tick Z) b (ma_cons (me_var 0) (ma_cons (me_var 3) (ma_cons (me_var 5) (ma_nil))))) (ma_nil)))) (ms_one (ms_set 3 nd (me_ix (me_ix (me_var 2) (me_neg (me_int))) (me_int))))))))))
theorem sc_l_equal : FnScope N_l_equal ["_law_actual", "_law_expected"] (defScope (top 41)) := ⟨rfl, rfl, rfl, by decide +kernel, rfl, by decide +kernel, by decide +kernel⟩
theorem ok_l_equal_at {P : Program} {w : World} {K : PySem.W.Frag} {mg : PySem.Str → Option Value} {base : Heap} {lam : Lm} (Z : Sy FS DS K mg) (j : Nat) : FnAt P w K mg base (caL K lam) "_law_equal" (1 + j) (m_l_equal j) := by
  induction j with
  | zero => exact Z.fn0 14 51 rfl rfl
  | succ j F =>
    exact Z.fn (N := N_l_equal) (ps := ["_law_actual", "_law_expected"]) 14 51 rfl rfl sc_l_equal rfl rfl (fun _ _ _ _ _ _ us hl => match us, hl with | [_, _], _ => rfl) (fun f cdv A outer s H E b => by
      have nd := sc_l_equal.nd
      exact ms_cons (ms_if (mt_cmp om_isN (me_var 1) (me_non)) (ms_one (ms_ret (me_cmp om_isN (me_var 0) (me_non)))) (ms_nil)) (ms_cons (ms_if (mt_val (me_callB (bm_isi) (Z.free 10) (ma_cons (me_var 1) (ma_cons (me_bty (Z.free 11) (by decide +kernel)) (ma_nil))))) (ms_one (ms_ret (me_and (me_callB (bm_isi) (Z.free 10) (ma_cons (me_var 0) (ma_cons (me_bty (Z.free 11) (by decide +kernel)) (ma_nil)))) (me_one (me_cmp (om_eq b.hr.units) (me_var 0) (me_var 1)))))) (ms_nil)) (ms_cons (ms_if (mt_val (me_callB (bm_isi) (Z.free 10) (ma_cons (me_var 1) (ma_cons (me_bty (Z.free 9) (by decide +kernel)) (ma_nil))))) (ms_one (ms_ret (me_and (me_callB (bm_isi) (Z.free 10) (ma_cons (me_var 0) (ma_cons (me_bty (Z.free 9) (by decide +kernel)) (ma_nil)))) (me_and (me_not (me_callB (bm_isi) (Z.free 10) (ma_cons (me_var 0) (ma_cons (me_bty (Z.free 11) (by decide +kernel)) (ma_nil))))) (me_one (me_cmp (om_eq b.hr.units) (me_var 0) (me_var 1))))))) (ms_nil)) (ms_cons (ms_if (mt_val (me_callB (bm_isi) (Z.free 10) (ma_cons (me_var 1) (ma_cons (me_bty (Z.free 19) (by decide +kernel)) (ma_nil))))) (ms_one (ms_ret (me_and (me_callB (bm_isi) (Z.free 10) (ma_cons (me_var 0) (ma_cons (me_bty (Z.free 19) (by decide +kernel)) (ma_nil)))) (me_one (me_cmp (om_eq b.hr.units) (me_var 0) (me_var 1)))))) (ms_nil)) (ms_cons (ms_if (mt_cmp (om_ne b.hr.units) (me_callB (bm_isi) (Z.free 10) (ma_cons (me_var 1) (ma_cons (me_bty (Z.free 7) (by decide +kernel)) (ma_nil)))) (me_callB (bm_isi) (Z.free 10) (ma_cons (me_var 0) (ma_cons (me_bty (Z.free 7) (by decide +kernel)) (ma_nil))))) (ms_one (ms_ret (me_bl))) (ms_nil)) (ms_cons (ms_if (mt_cmp (om_ne b.hr.units) (me_callB (bm_isi) (Z.free 10) (ma_cons (me_var 1) (ma_cons (me_bty (Z.free 39) (by decide +kernel)) (ma_nil)))) (me_callB (bm_isi) (Z.free 10) (ma_cons (me_var 0) (ma_cons (me_bty (Z.free 39) (by decide +kernel)) (ma_nil))))) (ms_one (ms_ret (me_bl))) (ms_nil)) (ms_cons (ms_if (mt_cmp (om_ne b.hr.units) (me_callB (bm_len) (Z.free 4) (ma_cons (me_var 0) (ma_nil))) (me_callB (bm_len) (Z.free 4) (ma_cons (me_var 1) (ma_nil)))) (ms_one (ms_ret (me_bl))) (ms_nil)) (ms_one (ms_ret (me_callB (bm_all b.calm) (Z.free 50) (ma_cons (me_lcB [2] b nd (mi_range1 (Z.free 3) (ma_cons (me_callB (bm_len) (Z.free 4) (ma_cons (me_var 1) (ma_nil))) (ma_nil))) (blkOk_by (own := [("_law_k", 2)]) (N := N_l_equal) (sc := defScope (top 41)) (by decide +kernel)) rfl (fun _ _ _ _ _ b => mg_name 2 nd) (fun _ _ _ _ _ b => mts_nil) (fun _ _ _ _ _ b => me_fn F b (ma_cons (me_ix (me_var 0) (me_var 2)) (ma_cons (me_ix (me_var 1) (me_var 2)) (ma_nil))) (Nat.le_refl _))) (ma_nil))))))))))))
theorem ok_l_equal {P : Program} {w : World} {K : PySem.W.Frag} {mg : PySem.Str → Option Value} {base : Heap} {lam : Lm} (Z : Sy FS DS K mg) : FnAt P w K mg base (caL K lam) "_law_equal" 9 (m_l_equal 8) := ok_l_equal_at Z 8
theorem sc_Trip_duration : FnScope N_Trip_duration ["self"] (defScope (inC (top 17) 2)) := ⟨rfl, rfl, rfl, by decide +kernel, rfl, by decide +kernel, by decide +kernel⟩
theorem ok_Trip_duration {P : Program} {w : World} {K : PySem.W.Frag} {mg : PySem.Str → Option Value} {base : Heap} {lam : Lm} (Z : Sy FS DS K mg) : PropAt P w K mg base (caL K lam) .Trip "duration" 1 m_Trip_duration := by
  exact Z.prop (N := N_Trip_duration) (C := "Trip") 15 27 55 rfl rfl rfl rfl sc_Trip_duration rfl (fun _ _ _ _ _ _ us hl => match us, hl with | [_], _ => rfl) (fun f cdv A outer s H E b => by
    have nd := sc_Trip_duration.nd
    exact ms_one (ms_ret (me_op om_mul (me_callB (bm_abs) (Z.free 1) (ma_cons (me_op om_sub (me_fld (c := .Trip) (f := .target) (Z.cls 27) (Z.noat 30) (me_var 0)) (me_fld (c := .Trip) (f := .source) (Z.cls 27) (Z.noat 29) (me_var 0))) (ma_nil))) (me_fld (c := .Trip) (f := .pace) (Z.cls 27) (Z.noat 31) (me_var 0)))))
theorem sc_Stairs_ages : FnScope N_Stairs_ages ["self", "number", "tick"] (defScope (inC (top 19) 6)) := ⟨rfl, rfl, rfl, by decide +kernel, rfl, by decide +kernel, by decide +kernel⟩
theorem ok_Stairs_ages {P : Program} {w : World} {K : PySem.W.Frag} {mg : PySem.Str → Option Value} {base : Heap} {lam : Lm} (Z : Sy FS DS K mg) : MethAt P w K mg base (caL K lam) .Stairs "ages" 3 m_Stairs_ages := by
  exact Z.meth (N := N_Stairs_ages) (ps := ["self", "number", "tick"]) (C := "Stairs") 16 23 56 rfl rfl rfl rfl sc_Stairs_ages rfl rfl (fun _ _ _ _ _ _ us hl => match us, hl with | [_, _, _], _ => rfl) (fun f cdv A outer s H E b => by
    have nd := sc_Stairs_ages.nd
    exact ms_cons (ms_set 3 nd (me_ix (me_fld (c := .Stairs) (f := .trips) (Z.cls 23) (Z.noat 35) (me_var 0)) (me_var 1))) (ms_cons (ms_set 4 nd (me_op om_mod (me_op om_sub (me_var 2) (me_fld (c := .Trip) (f := .start) (Z.cls 27) (Z.noat 28) (me_var 3))) (me_fld (c := .Stairs) (f := .length) (Z.cls 23) (Z.noat 25) (me_var 0)))) (ms_cons (ms_set 5 nd (me_lstC (ma_nil))) (ms_cons (ms_while (passes_of rfl) (mt_bool (mw_and (mt_cmp (om_lt b.hr.units0) (me_var 4) (me_pr (ok_Trip_duration Z) b (me_var 3))) (mw_and1 (mt_cmp om_le (me_var 4) (me_var 2))))) (ms_cons (ms_expr (me_bm PySem.F.plainAttrs_list PySem.F.slot_list_append PySem.F.type_list_append fm_append (me_var 5) (ma_cons (me_var 4) (ma_nil)))) (ms_one (ms_aug 4 nd (me_fld (c := .Stairs) (f := .length) (Z.cls 23) (Z.noat 25) (me_var 0)))))) (ms_one (ms_ret (me_var 5)))))))
theorem sc_Trip_floor_at : FnScope N_Trip_floor_at ["self", "age"] (defScope (inC (top 17) 3)) := ⟨rfl, rfl, rfl, by decide +kernel, rfl, by decide +kernel, by decide +kernel⟩
theorem ok_Trip_floor_at {P : Program} {w : World} {K : PySem.W.Frag} {mg : PySem.Str → Option Value} {base : Heap} {lam : Lm} (Z : Sy FS DS K mg) : MethAt P w K mg base (caL K lam) .Trip "floor_at" 1 m_Trip_floor_at := by
  exact Z.meth (N := N_Trip_floor_at) (ps := ["self", "age"]) (C := "Trip") 17 27 58 rfl rfl rfl rfl sc_Trip_floor_at rfl rfl (fun _ _ _ _ _ _ us hl => match us, hl with | [_, _], _ => rfl) (fun f cdv A outer s H E b => by
    have nd := sc_Trip_floor_at.nd
    exact ms_cons (ms_tg (.t [2, 3]) (mg_tup b.calm (mgs_cons (mg_name 2 nd) (mgs_cons (mg_name 3 nd) (mgs_nil)))) (me_callB (bm_divmod) (Z.free 57) (ma_cons (me_var 1) (ma_cons (me_fld (c := .Trip) (f := .pace) (Z.cls 27) (Z.noat 31) (me_var 0)) (ma_nil))))) (ms_cons (ms_if (mt_cmp om_gt (me_var 3) (me_int)) (ms_one (ms_ret (me_non))) (ms_nil)) (ms_one (ms_ret (me_if (mt_cmp om_gt (me_fld (c := .Trip) (f := .target) (Z.cls 27) (Z.noat 30) (me_var 0)) (me_fld (c := .Trip) (f := .source) (Z.cls 27) (Z.noat 29) (me_var 0))) (me_op om_add (me_fld (c := .Trip) (f := .source) (Z.cls 27) (Z.noat 29) (me_var 0)) (me_var 2)) (me_op om_sub (me_fld (c := .Trip) (f := .source) (Z.cls 27) (Z.noat 29) (me_var 0)) (me_var 2)))))))
theorem sc_Scene___init__ : FnScope N_Scene___init__ ["self", "light", "presses", "dark"] (defScope (inC (top 23) 0)) := ⟨rfl, rfl, rfl, by decide +kernel, rfl, by decide +kernel, by decide +kernel⟩
theorem ok_Scene___init__ {P : Program} {w : World} {K : PySem.W.Frag} {mg : PySem.Str → Option Value} {base : Heap} {lam : Lm} (Z : Sy FS DS K mg) : NewAt P w K mg base (caL K lam) .Scene "Scene" 1 m_Scene___init__ := by
  exact Z.new (N := N_Scene___init__) (ps := ["self", "light", "presses", "dark"]) 18 65 66 rfl rfl rfl rfl sc_Scene___init__ rfl rfl (fun _ _ _ _ _ _ us hl => match us, hl with | [_, _, _, _], _ => rfl) (fun f cdv A outer s H E b => by
    have nd := sc_Scene___init__.nd
    exact ms_cons (ms_fldset (c := .Scene) (f := .burning) (Z.cls 61) (Z.noat 62) (me_var 0) (me_var 1)) (ms_cons (ms_fldset (c := .Scene) (f := .presses) (Z.cls 61) (Z.noat 63) (me_var 0) (me_var 2)) (ms_one (ms_fldset (c := .Scene) (f := .dark) (Z.cls 61) (Z.noat 64) (me_var 0) (me_var 3)))))
theorem sc_next_scene : FnScope N_next_scene ["stairs", "light", "tick"] (defScope (top 24)) := ⟨rfl, rfl, rfl, by decide +kernel, rfl, by decide +kernel, by decide +kernel⟩
theorem ok_next_scene {P : Program} {w : World} {K : PySem.W.Frag} {mg : PySem.Str → Option Value} {base : Heap} {lam : Lm} (Z : Sy FS DS K mg) : FnAt P w K mg base (caL K lam) "next_scene" 4 m_next_scene := by
  exact Z.fn (N := N_next_scene) (ps := ["stairs", "light", "tick"]) 19 67 rfl rfl sc_next_scene rfl rfl (fun _ _ _ _ _ _ us hl => match us, hl with | [_, _, _], _ => rfl) (fun f cdv A outer s H E b => by
    have nd := sc_next_scene.nd
    exact ms_cons (ms_par3 3 4 5 b.calm nd (ma_cons (me_callB (bm_max b.calm) (Z.free 42) (ma_cons (me_int) (ma_cons (me_op om_sub (me_var 1) (me_int)) (ma_nil)))) (ma_cons (me_lstC (ma_nil)) (ma_cons (me_lstC (ma_nil)) (ma_nil))))) (ms_cons (ms_for (passes_of rfl) b.calm (mi_enum (Z.free 16) (me_fld (c := .Stairs) (f := .trips) (Z.cls 23) (Z.noat 35) (me_var 0))) (mg_tup b.calm (mgs_cons (mg_name 6 nd) (mgs_cons (mg_name 7 nd) (mgs_nil)))) (ms_cons (ms_set 8 nd (me_mt (ok_Stairs_ages Z) b (me_var 0) (ma_cons (me_var 6) (ma_cons (me_var 2) (ma_nil))))) (ms_cons (ms_if (mt_cmp (om_ne b.hr.units) (me_var 8) (me_lst (ma_nil))) (ms_one (ms_expr (me_bm PySem.F.plainAttrs_list PySem.F.slot_list_append PySem.F.type_list_append fm_append (me_var 5) (ma_cons (me_var 6) (ma_nil))))) (ms_nil)) (ms_one (ms_for (passes_of rfl) b.calm (mi_list (me_var 8)) (mg_name 9 nd) (ms_cons (ms_set 10 nd (me_mt (ok_Trip_floor_at Z) b (me_var 7) (ma_cons (me_var 9) (ma_nil)))) (ms_one (ms_if (mt_bool (mw_and (mt_cmp om_notN (me_var 10) (me_non)) (mw_and1 (mt_bool (mw_or (mt_cmp (om_eq b.hr.units) (me_fld (c := .Trip) (f := .habit) (Z.cls 27) (Z.noat 32) (me_var 7)) (me_gstr (Z.str 59))) (mw_or1 (mt_bool (mw_and (mt_cmp (om_eq b.hr.units) (me_fld (c := .Trip) (f := .habit) (Z.cls 27) (Z.noat 32) (me_var 7)) (me_gstr (Z.str 60))) (mw_and1 (mt_cmp (om_eq b.hr.units) (me_var 3) (me_int))))))))))) (ms_cons (ms_expr (me_bm PySem.F.plainAttrs_list PySem.F.slot_list_append PySem.F.type_list_append fm_append (me_var 4) (ma_cons (me_tup (ma_cons (me_var 6) (ma_cons (me_var 10) (ma_nil)))) (ma_nil)))) (ms_one (ms_set 3 nd (me_fld (c := .Stairs) (f := .time) (Z.cls 23) (Z.noat 26) (me_var 0))))) (ms_nil))))))))) (ms_one (ms_ret (me_nw (ok_Scene___init__ Z) b (ma_cons (me_var 3) (ma_cons (me_var 4) (ma_cons (me_if (mt_cmp (om_eq b.hr.units) (me_var 3) (me_int)) (me_var 5) (me_lst (ma_nil))) (ma_nil)))))))))
theorem sc_Story___init__ : FnScope N_Story___init__ ["self", "stairs"] (defScope (inC (top 25) 0)) := ⟨rfl, rfl, rfl, by decide +kernel, rfl, by decide +kernel, by decide +kernel⟩
theorem ok_Story___init__ {P : Program} {w : World} {K : PySem.W.Frag} {mg : PySem.Str → Option Value} {base : Heap} {lam : Lm} (Z : Sy FS DS K mg) : NewAt P w K mg base (caL K lam) .Story "Story" 5 m_Story___init__ := by
  exact Z.new (N := N_Story___init__) (ps := ["self", "stairs"]) 20 68 69 rfl rfl rfl rfl sc_Story___init__ rfl rfl (fun _ _ _ _ _ _ us hl => match us, hl with | [_, _], _ => rfl) (fun f cdv A outer s H E b => by
    have nd := sc_Story___init__.nd
    exact ms_cons (ms_fldset (c := .Story) (f := .scenes) (Z.cls 52) (Z.noat 53) (me_var 0) (me_lstC (ma_nil))) (ms_cons (ms_fldset (c := .Story) (f := .start) (Z.cls 52) (Z.noat 54) (me_var 0) (me_non)) (ms_cons (ms_set 2 nd (me_callB (bm_max b.calm) (Z.free 42) (ma_cons (me_op om_add (me_lst (ma_cons (me_int) (ma_nil))) (me_lcB [7] b nd (mi_list (me_fld (c := .Stairs) (f := .trips) (Z.cls 23) (Z.noat 35) (me_var 1))) (blkOk_by (own := [("trip", 7)]) (N := N_Story___init__) (sc := defScope (inC (top 25) 0)) (by decide +kernel)) rfl (fun _ _ _ _ _ b => mg_name 7 nd) (fun _ _ _ _ _ b => mts_nil) (fun _ _ _ _ _ b => me_pr (ok_Trip_duration Z) b (me_var 7)))) (ma_nil)))) (ms_cons (ms_par2 3 4 b.calm nd (ma_cons (me_int) (ma_cons (me_dnewT) (ma_nil)))) (ms_one (ms_while (passes_of rfl) (mt_cmp om_isN (me_fld (c := .Story) (f := .start) (Z.cls 52) (Z.noat 54) (me_var 0)) (me_non)) (ms_cons (ms_set 5 nd (me_callB (bm_len) (Z.free 4) (ma_cons (me_fld (c := .Story) (f := .scenes) (Z.cls 52) (Z.noat 53) (me_var 0)) (ma_nil)))) (ms_cons (ms_set 6 nd (me_tup (ma_cons (me_op om_mod (me_var 5) (me_fld (c := .Stairs) (f := .length) (Z.cls 23) (Z.noat 25) (me_var 1))) (ma_cons (me_var 3) (ma_nil))))) (ms_one (ms_if (mt_bool (mw_and (mt_cmp om_ge (me_var 5) (me_var 2)) (mw_and1 (mt_din b.hr.units (me_var 6) (me_var 4))))) (ms_one (ms_fldset (c := .Story) (f := .start) (Z.cls 52) (Z.noat 54) (me_var 0) (me_dget b.hr.units (me_var 4) (me_var 6)))) (ms_cons (ms_if (mt_cmp om_ge (me_var 5) (me_var 2)) (ms_one (ms_dput b.hr.units (me_var 4) (me_var 6) (me_var 5))) (ms_nil)) (ms_cons (ms_expr (me_bm PySem.F.plainAttrs_list PySem.F.slot_list_append PySem.F.type_list_append fm_append (me_fld (c := .Story) (f := .scenes) (Z.cls 52) (Z.noat 53) (me_var 0)) (ma_cons (me_fn (ok_next_scene Z) b (ma_cons (me_var 1) (ma_cons (me_var 3) (ma_cons (me_var 5) (ma_nil))))) (ma_nil)))) (ms_one (ms_set 3 nd (me_fld (c := .Scene) (f := .burning) (Z.cls 61) (Z.noat 62) (me_ix (me_fld (c := .Story) (f := .scenes) (Z.cls 52) (Z.noat 53) (me_var 0)) (me_neg (me_int))))))))))))))))))
theorem sc_Story_size : FnScope N_Story_size ["self"] (defScope (inC (top 25) 1)) := ⟨rfl, rfl, rfl, by decide +kernel, rfl, by decide +kernel, by decide +kernel⟩
theorem ok_Story_size {P : Program} {w : World} {K : PySem.W.Frag} {mg : PySem.Str → Option Value} {base : Heap} {lam : Lm} (Z : Sy FS DS K mg) : PropAt P w K mg base (caL K lam) .Story "size" 1 m_Story_size := by
  exact Z.prop (N := N_Story_size) (C := "Story") 21 52 70 rfl rfl rfl rfl sc_Story_size rfl (fun _ _ _ _ _ _ us hl => match us, hl with | [_], _ => rfl) (fun f cdv A outer s H E b => by
    have nd := sc_Story_size.nd
    exact ms_one (ms_ret (me_op om_sub (me_callB (bm_len) (Z.free 4) (ma_cons (me_fld (c := .Story) (f := .scenes) (Z.cls 52) (Z.noat 53) (me_var 0)) (ma_nil))) (me_fld (c := .Story) (f := .start) (Z.cls 52) (Z.noat 54) (me_var 0)))))
theorem sc_find_cycle : FnScope N_find_cycle ["stairs"] (defScope (top 28)) := ⟨rfl, rfl, rfl, by decide +kernel, rfl, by decide +kernel, by decide +kernel⟩
theorem ok_find_cycle {P : Program} {w : World} {K : PySem.W.Frag} {mg : PySem.Str → Option Value} {base : Heap} {lam : Lm} (Z : Sy FS DS K mg) : FnAt P w K mg base (caL K lam) "find_cycle" 7 m_find_cycle := by
  exact Z.fn (N := N_find_cycle) (ps := ["stairs"]) 22 71 rfl rfl sc_find_cycle rfl rfl (fun _ _ _ _ _ _ us hl => match us, hl with | [_], _ => rfl) (fun f cdv A outer s H E b => by
    have nd := sc_find_cycle.nd
    exact ms_cons (ms_set 1 nd (me_nw (ok_Story___init__ Z) b (ma_cons (me_var 0) (ma_nil)))) (ms_cons (ms_set 2 nd (me_cut (me_fld (c := .Story) (f := .scenes) (Z.cls 52) (Z.noat 53) (me_var 1)) (mo_some (me_fld (c := .Story) (f := .start) (Z.cls 52) (Z.noat 54) (me_var 1))) (mo_none))) (ms_cons (ms_set 3 nd (me_callB (bm_sum b.calm) (Z.free 49) (ma_cons (me_lcB [4] b nd (mi_list (me_var 2)) (blkOk_by (own := [("scene", 4)]) (N := N_find_cycle) (sc := defScope (top 28)) (by decide +kernel)) rfl (fun _ _ _ _ _ b => mg_name 4 nd) (fun _ _ _ _ _ b => mts_nil) (fun _ _ _ _ _ b => me_callB (bm_len) (Z.free 4) (ma_cons (me_fld (c := .Scene) (f := .presses) (Z.cls 61) (Z.noat 63) (me_var 4)) (ma_nil)))) (ma_nil)))) (ms_one (ms_ret (me_tup (ma_cons (me_pr (ok_Story_size Z) b (me_var 1)) (ma_cons (me_var 3) (ma_cons (me_callB (bm_len) (Z.free 4) (ma_cons (me_lcB [4] b nd (mi_list (me_var 2)) (blkOk_by (own := [("scene", 4)]) (N := N_find_cycle) (sc := defScope (top 28)) (by decide +kernel)) rfl (fun _ _ _ _ _ b => mg_name 4 nd) (fun _ _ _ _ _ b => mts_one (mt_cmp om_gt (me_fld (c := .Scene) (f := .burning) (Z.cls 61) (Z.noat 62) (me_var 4)) (me_int))) (fun _ _ _ _ _ b => me_var 4)) (ma_nil))) (ma_nil))))))))))
theorem sc_l_place : FnScope N_l_place ["_law_cycle_here", "_law_tick_here"] (defScope (top 42)) := ⟨rfl, rfl, rfl, by decide +kernel, rfl, by decide +kernel, by decide +kernel⟩
theorem ok_l_place {P : Program} {w : World} {K : PySem.W.Frag} {mg : PySem.Str → Option Value} {base : Heap} {lam : Lm} (Z : Sy FS DS K mg) : FnAt P w K mg base (caL K lam) "_law_place" 1 m_l_place := by
  exact Z.fn (N := N_l_place) (ps := ["_law_cycle_here", "_law_tick_here"]) 23 72 rfl rfl sc_l_place rfl rfl (fun _ _ _ _ _ _ us hl => match us, hl with | [_, _], _ => rfl) (fun f cdv A outer s H E b => by
    have nd := sc_l_place.nd
    exact ms_cons (ms_par2 2 3 b.calm nd (ma_cons (me_callB (bm_len) (Z.free 4) (ma_cons (me_ix (me_var 0) (me_int)) (ma_nil))) (ma_cons (me_ix (me_var 0) (me_int)) (ma_nil)))) (ms_one (ms_ret (me_if (mt_cmp (om_lt b.hr.units0) (me_var 1) (me_var 2)) (me_var 1) (me_op om_add (me_var 3) (me_op om_mod (me_op om_sub (me_var 1) (me_var 3)) (me_op om_sub (me_var 2) (me_var 3))))))))
theorem sc_check_tick : FnScope N_check_tick ["tick"] (defScope (top 20)) := ⟨rfl, rfl, rfl, by decide +kernel, rfl, by decide +kernel, by decide +kernel⟩
theorem ok_check_tick {P : Program} {w : World} {K : PySem.W.Frag} {mg : PySem.Str → Option Value} {base : Heap} {lam : Lm} (Z : Sy FS DS K mg) : FnAt P w K mg base (caL K lam) "check_tick" 2 m_check_tick := by
  exact Z.fn (N := N_check_tick) (ps := ["tick"]) 24 74 rfl rfl sc_check_tick rfl rfl (fun _ _ _ _ _ _ us hl => match us, hl with | [_], _ => rfl) (fun f cdv A outer s H E b => by
    have nd := sc_check_tick.nd
    exact ms_one (ms_if (mt_not (mt_val (me_fn (ok_is_int_in Z) b (ma_cons (me_var 0) (ma_cons (me_int) (ma_cons (me_gint (Z.int 73)) (ma_nil))))))) (ms_one (ms_never)) (ms_nil)))
theorem sc_Story_scene : FnScope N_Story_scene ["self", "tick"] (defScope (inC (top 25) 2)) := ⟨rfl, rfl, rfl, by decide +kernel, rfl, by decide +kernel, by decide +kernel⟩
theorem ok_Story_scene {P : Program} {w : World} {K : PySem.W.Frag} {mg : PySem.Str → Option Value} {base : Heap} {lam : Lm} (Z : Sy FS DS K mg) : MethAt P w K mg base (caL K lam) .Story "scene" 3 m_Story_scene := by
  exact Z.meth (N := N_Story_scene) (ps := ["self", "tick"]) (C := "Story") 25 52 75 rfl rfl rfl rfl sc_Story_scene rfl rfl (fun _ _ _ _ _ _ us hl => match us, hl with | [_, _], _ => rfl) (fun f cdv A outer s H E b => by
    have nd := sc_Story_scene.nd
    exact ms_one (ms_ret (me_ix (me_fld (c := .Story) (f := .scenes) (Z.cls 52) (Z.noat 53) (me_var 0)) (me_if (mt_cmp (om_lt b.hr.units0) (me_var 1) (me_callB (bm_len) (Z.free 4) (ma_cons (me_fld (c := .Story) (f := .scenes) (Z.cls 52) (Z.noat 53) (me_var 0)) (ma_nil)))) (me_var 1) (me_op om_add (me_fld (c := .Story) (f := .start) (Z.cls 52) (Z.noat 54) (me_var 0)) (me_op om_mod (me_op om_sub (me_var 1) (me_fld (c := .Story) (f := .start) (Z.cls 52) (Z.noat 54) (me_var 0))) (me_pr (ok_Story_size Z) b (me_var 0))))))))
theorem sc_in_dark : FnScope N_in_dark ["stairs", "tick"] (defScope (top 30)) := ⟨rfl, rfl, rfl, by decide +kernel, rfl, by decide +kernel, by decide +kernel⟩
theorem ok_in_dark {P : Program} {w : World} {K : PySem.W.Frag} {mg : PySem.Str → Option Value} {base : Heap} {lam : Lm} (Z : Sy FS DS K mg) : FnAt P w K mg base (caL K lam) "in_dark" 7 m_in_dark := by
  exact Z.fn (N := N_in_dark) (ps := ["stairs", "tick"]) 26 76 rfl rfl sc_in_dark rfl rfl (fun _ _ _ _ _ _ us hl => match us, hl with | [_, _], _ => rfl) (fun f cdv A outer s H E b => by
    have nd := sc_in_dark.nd
    exact ms_cons (ms_expr (me_fn (ok_check_tick Z) b (ma_cons (me_var 1) (ma_nil)))) (ms_one (ms_ret (me_callTy bm_listC (Z.free 39) (ma_cons (me_fld (c := .Scene) (f := .dark) (Z.cls 61) (Z.noat 64) (me_mt (ok_Story_scene Z) b (me_nw (ok_Story___init__ Z) b (ma_cons (me_var 0) (ma_nil))) (ma_cons (me_var 1) (ma_nil)))) (ma_nil))))))
theorem sc_light : FnScope N_light ["stairs", "tick"] (defScope (top 26)) := ⟨rfl, rfl, rfl, by decide +kernel, rfl, by decide +kernel, by decide +kernel⟩
theorem ok_light {P : Program} {w : World} {K : PySem.W.Frag} {mg : PySem.Str → Option Value} {base : Heap} {lam : Lm} (Z : Sy FS DS K mg) : FnAt P w K mg base (caL K lam) "light" 7 m_light := by
  exact Z.fn (N := N_light) (ps := ["stairs", "tick"]) 27 77 rfl rfl sc_light rfl rfl (fun _ _ _ _ _ _ us hl => match us, hl with | [_, _], _ => rfl) (fun f cdv A outer s H E b => by
    have nd := sc_light.nd
    exact ms_cons (ms_expr (me_fn (ok_check_tick Z) b (ma_cons (me_var 1) (ma_nil)))) (ms_one (ms_ret (me_fld (c := .Scene) (f := .burning) (Z.cls 61) (Z.noat 62) (me_mt (ok_Story_scene Z) b (me_nw (ok_Story___init__ Z) b (ma_cons (me_var 0) (ma_nil))) (ma_cons (me_var 1) (ma_nil)))))))
theorem sc_presses_between : GScope N_presses_between ["stairs", "first", "last"] (defScope (top 27)) := ⟨rfl, rfl, rfl, by decide +kernel, rfl, by decide +kernel, by decide +kernel⟩
theorem ok_presses_between {P : Program} {w : World} {K : PySem.W.Frag} {mg : PySem.Str → Option Value} {base : Heap} {lam : Lm} (Z : Sy FS DS K mg) : GnAt P w K mg base (caL K lam) "presses_between" 7 m_presses_between := by
  exact Z.gn (N := N_presses_between) (ps := ["stairs", "first", "last"]) 28 79 rfl rfl sc_presses_between rfl rfl (fun _ _ _ _ _ _ us hl => match us, hl with | [_, _, _], _ => rfl) (fun f cdv A outer s H E pn b => by
    have nd := sc_presses_between.nd
    exact gm_cons (gm_pl (ms_expr (me_fn (ok_check_tick Z) b (ma_cons (me_var 1) (ma_nil))))) (gm_cons (gm_pl (ms_if (mt_not (mt_val (me_fn (ok_is_int_in Z) b (ma_cons (me_var 2) (ma_cons (me_op om_sub (me_var 1) (me_int)) (ma_cons (me_callB (bm_min b.calm) (Z.free 43) (ma_cons (me_gint (Z.int 73)) (ma_cons (me_op om_sub (me_op om_add (me_var 1) (me_gint (Z.int 78))) (me_int)) (ma_nil)))) (ma_nil))))))) (ms_one (ms_never)) (ms_nil))) (gm_cons (gm_pl (ms_set 3 nd (me_nw (ok_Story___init__ Z) b (ma_cons (me_var 0) (ma_nil))))) (gm_one (gm_for owns_gcx b.calm (mi_range2 (Z.free 3) (ma_cons (me_var 1) (ma_cons (me_op om_add (me_var 2) (me_int)) (ma_nil)))) (mg_name 4 nd) (gm_one (gm_for owns_gcx b.calm (mi_list (me_fld (c := .Scene) (f := .presses) (Z.cls 61) (Z.noat 63) (me_mt (ok_Story_scene Z) b (me_var 3) (ma_cons (me_var 4) (ma_nil))))) (mg_tup b.calm (mgs_cons (mg_name 5 nd) (mgs_cons (mg_name 6 nd) (mgs_nil)))) (gm_one (gm_yd (me_tup (ma_cons (me_var 4) (ma_cons (me_var 5) (ma_cons (me_var 6) (ma_nil))))))))))))))
theorem sc_k02_law : FnScope N_k02_law ["_law_script"] (defScope (top 43)) := ⟨rfl, rfl, rfl, by decide +kernel, rfl, by decide +kernel, by decide +kernel⟩
theorem ok_law {P : Program} {w : World} {K : PySem.W.Frag} {mg : PySem.Str → Option Value} (Z : Sy FS DS K mg) : ∃ fd, (∀ (s : Shared) (u : Value), BindsTo s fd ⟨[u], []⟩ [("_law_script", u)]) ∧ ∀ base : Heap, FnOk P w K mg base (L2.CX P w) 11 (He.ga K "law") fd ["_law_script"] (spM K (caK K) m_k02_law) := by
  exact Z.law (N := N_k02_law) 29 rfl sc_k02_law rfl (fun _ _ _ _ _ _ us hl => match us, hl with | [_], _ => rfl) (fun base => fun f cdv A outer s H E b => by
    have nd := sc_k02_law.nd
    exact ms_cons (ms_set 1 nd (me_fnK (ok_l_random Z) b (ma_cons (me_var 0) (ma_cons (me_int) (ma_nil))))) (ms_cons (ms_for (passes_of rfl) b.calm (mi_range1 (Z.free 3) (ma_cons (me_int) (ma_nil))) (mg_name 2 nd) (ms_cons (ms_set 3 nd (me_fn (ok_l_parts Z) b (ma_cons (me_var 1) (ma_cons (me_int) (ma_nil))))) (ms_cons (ms_par2 4 5 b.calm nd (ma_cons (me_fn (ok_l_made Z) b (ma_cons (me_var 3) (ma_nil))) (ma_cons (me_fn (ok_l_cycle Z) b (ma_cons (me_var 3) (ma_nil))) (ma_nil)))) (ms_cons (ms_set 6 nd (me_cut (me_ix (me_var 5) (me_int)) (mo_some (me_ix (me_var 5) (me_int))) (mo_none))) (ms_cons (ms_set 7 nd (me_callB (bm_sum b.calm) (Z.free 49) (ma_cons (me_lcB [9] b nd (mi_list (me_var 6)) (blkOk_by (own := [("_law_one", 9)]) (N := N_k02_law) (sc := defScope (top 43)) (by decide +kernel)) rfl (fun _ _ _ _ _ b => mg_name 9 nd) (fun _ _ _ _ _ b => mts_nil) (fun _ _ _ _ _ b => me_callB (bm_len) (Z.free 4) (ma_cons (me_ix (me_var 9) (me_int)) (ma_nil)))) (ma_nil)))) (ms_cons (ms_if (mt_not (mt_val (me_fn (ok_l_equal Z) b (ma_cons (me_fn (ok_find_cycle Z) b (ma_cons (me_var 4) (ma_nil))) (ma_cons (me_tup (ma_cons (me_callB (bm_len) (Z.free 4) (ma_cons (me_var 6) (ma_nil))) (ma_cons (me_var 7) (ma_cons (me_callB (bm_len) (Z.free 4) (ma_cons (me_lcB [9] b nd (mi_list (me_var 6)) (blkOk_by (own := [("_law_one", 9)]) (N := N_k02_law) (sc := defScope (top 43)) (by decide +kernel)) rfl (fun _ _ _ _ _ b => mg_name 9 nd) (fun _ _ _ _ _ b => mts_one (mt_cmp om_gt (me_ix (me_var 9) (me_int)) (me_int))) (fun _ _ _ _ _ b => me_var 9)) (ma_nil))) (ma_nil))))) (ma_nil)))))) (ms_one (ms_ret (me_bl))) (ms_nil)) (ms_cons (ms_set 8 nd (me_op om_sub (me_op om_pow (me_int) (me_int)) (me_fn (ok_l_below Z) b (ma_cons (me_var 1) (ma_cons (me_op om_pow (me_int) (me_int)) (ma_nil)))))) (ms_cons (ms_set 9 nd (me_ix (me_ix (me_var 5) (me_int)) (me_fn (ok_l_place Z) b (ma_cons (me_var 5) (ma_cons (me_var 8) (ma_nil)))))) (ms_cons (ms_if (mt_not (mt_val (me_fn (ok_l_equal Z) b (ma_cons (me_lst (ma_cons (me_fn (ok_light Z) b (ma_cons (me_var 4) (ma_cons (me_var 8) (ma_nil)))) (ma_cons (me_fn (ok_in_dark Z) b (ma_cons (me_var 4) (ma_cons (me_var 8) (ma_nil)))) (ma_nil)))) (ma_cons (me_lst (ma_cons (me_ix (me_var 9) (me_int)) (ma_cons (me_ix (me_var 9) (me_int)) (ma_nil)))) (ma_nil)))))) (ms_one (ms_ret (me_bl))) (ms_nil)) (ms_cons (ms_setLcB 10 [11, 12, 13] b nd (mi_list (me_ix (me_var 9) (me_int))) (blkOk_by (own := [("_law_before", 11), ("_law_number", 12), ("_law_floor", 13)]) (N := N_k02_law) (sc := defScope (top 43)) (by decide +kernel)) rfl (fun _ _ _ _ _ b => mg_tup b.calm (mgs_cons (mg_name 11 nd) (mgs_cons (mg_name 12 nd) (mgs_cons (mg_name 13 nd) (mgs_nil))))) (fun _ _ _ _ _ b => mts_nil) (fun _ _ _ _ _ b => me_tup (ma_cons (me_var 8) (ma_cons (me_var 12) (ma_cons (me_var 13) (ma_nil)))))) (ms_cons (ms_if (mt_not (mt_val (me_fn (ok_l_equal Z) b (ma_cons (me_listG (ok_presses_between Z) b (Z.free 39) (ma_cons (me_var 4) (ma_cons (me_var 8) (ma_cons (me_var 8) (ma_nil))))) (ma_cons (me_var 10) (ma_nil)))))) (ms_one (ms_ret (me_bl))) (ms_nil)) (ms_one (ms_if (mt_cmp (om_ne b.hr.units) (me_listG (ok_presses_between Z) b (Z.free 39) (ma_cons (me_var 4) (ma_cons (me_var 8) (ma_cons (me_op om_sub (me_var 8) (me_int)) (ma_nil))))) (me_lst (ma_nil))) (ms_one (ms_ret (me_bl))) (ms_nil)))))))))))))) (ms_one (ms_ret (me_bl)))))
end SL

namespace SL
open PySem PySem.Spec PyProof.Rows L2
def nm0 : List PySem.Str := ["_wall", "LightError", "InvalidStairs", "InvalidTick", "MAX_TOP", "MAX_ROUND", "MAX_TIME", "MAX_TRIPS", "MAX_PACE", "MAX_TICK", "DARK", "ALWAYS", "NEVER", "HABITS", "is_int_in", "Trip", "is_trip", "Stairs", "check_tick", "MAX_LISTED", "Scene", "next_scene", "Story", "light", "presses_between", "find_cycle", "in_dark", "_law_random", "_law_below", "_law_trip"]
def nm1 : List PySem.Str := ["_law_parts", "_law_made", "_law_duration", "_law_walks", "_law_tick", "_law_cycle", "_law_equal", "_law_place"]
def names : List PySem.Str := nm0 ++ nm1
abbrev RR : PySem.W.OpenRow := PySem.W.OpenLaw.row PySem.Challenge.rw_stairlights_k02_cycles_and_late_ticks
abbrev hk : PySem.W.Hook := hookP 8 FS DS
def ob (s : PySem.W.SharedT) : AlP := obsP 8 FS DS (HandSHeadRun.getT s)
theorem ob_eq (s : PySem.W.SharedT) : ob s = hk.obs s.abs := obsP_eq (HandSHeadRun.getT_eq s)
theorem run (w : World) : HandSHeadRun.RunEq RR (PySem.W.view RR.prog [43]) hk ob 20000 names w := by
  intro os
  kernel_rfl
end SL
open PySem PySem.W PySem.Calls PyProof.Rows
theorem PySem.Challenge.cw_stairlights_k02_cycles_and_late_ticks_holds : PySem.Challenge.rw_stairlights_k02_cycles_and_late_ticks.Holds := by
  w_on; o_law
  refine HandSHeadRun.head_any (r := OpenLaw.row PySem.Challenge.rw_stairlights_k02_cycles_and_late_ticks) (q := view (OpenLaw.row PySem.Challenge.rw_stairlights_k02_cycles_and_late_ticks).prog [43]) (H := SL.hk) (ob := SL.ob) (M := 20000) (loose := SL.names) (d := HandSHeadRun.topDef (OpenLaw.row PySem.Challenge.rw_stairlights_k02_cycles_and_late_ticks).prog 43) (kwd := []) SL.ob_eq
    (by kernel_rfl) (fun s => by kernel_rfl) SL.run (by kernel_rfl) (by kernel_rfl) (by kernel_rfl) (by rfl) (by first | assumption | decide +kernel) (by decide +kernel) ⟨rfl, rfl, rfl, rfl, rfl, by decide +kernel⟩ ?hw ?hc
  case hw => w_witness2
  case hc =>
    refine SL.walk_sl (l := PySem.Challenge.rw_stairlights_k02_cycles_and_late_ticks) (n := 63) (k := 11) (x := "_law_script") rfl (by decide) (by kernel_rfl) ⟨rfl, by decide, by decide⟩ ?F
    case F =>
      intro w mg fa h Y G hmg0
      obtain ⟨K, KX, c⟩ := Y
      have hmg : mg ("law" : PySem.Str) = some (.ref fa) := by
        have e : (HandSHeadRun.topDef (OpenLaw.row PySem.Challenge.rw_stairlights_k02_cycles_and_late_ticks).prog 43).name = ("law" : PySem.Str) := by kernel_rfl
        rw [← e]
        exact hmg0
      have Z : SL.Sy SL.FS SL.DS K mg := ⟨⟨h, KX, G⟩, c⟩
      have e2 := hmg.symm.trans (Z.glo 0)
      cases e2
      obtain ⟨fd, hb, hF⟩ := SL.ok_law (P := (PySem.Challenge.rw_stairlights_k02_cycles_and_late_ticks).prog) (w := w) Z
      refine ⟨K, fd, _, KX, hb, fun H a ns hl hS => ?_, hF⟩
      obtain ⟨S', e⟩ := SL.k02_law_is ns hl
      exact SL.law_sp hS e

