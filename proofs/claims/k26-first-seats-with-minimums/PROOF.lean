import PyProof.Rows.All
import Wide.All
import OpenK.AllK
import Wide.FinOn
import HandS.ForMost
import HandS.Zip
import HandS.Strs
import HandS.Wide
import HandS.SortInts
import HandS.SortRule
import HandS.Gcd
import HandS.IsInst
import HandS.Conv
import HandS.Flow
import HandS.More
import HandS.Walk
import HandS.Deep
import HandS.TupAny
import HandS.TupLe
import HandS.SetFor
import HandS.Style
import HandS.DictComp
import HandS.Rev
import HandS.RevRange
import HandS.StrMore
import HandS.FStr
import HandS.SortKw
import HandS.Lambda
import KE.DataEq
import KE.KSortedM
import HandS.NamedTupSort
import HandS.TupSets
import KE.DataCmp
import KE.DataMinMax
import KE.SortData
import KE.SortCalls
import HandS.ExcOwn
import HandS.ExcIs
import HandS.TryOnly
import HandS.WordsExc
import PySem.Challenge.RW_seatsbyrule_k26_first_seats_with_minimum
set_option Elab.async false
set_option linter.all false
set_option maxRecDepth 100000
namespace Dn
open PySem PySem.Spec L2
open PyProof.Rows hiding St

/-! ### plain data -/
inductive D where
  | non | bl (b : Bool) | int (i : Int) | str (x : Str)
  | tup (xs : List D) | lst (xs : List D)
  | dk (kvs : List (Key × D)) | dt (kvs : List (List Key × D))
  | st (xs : List Int)
  | scr (ns : List Int)
  deriving Inhabited

structure Gc where
  P : Program
  w : World
  K : PySem.W.Frag
abbrev gX (X : Cx) : Gc := ⟨X.prog, X.w, X.K⟩

mutual
/-- v stands for the plain data d, in the frozen heap F; each list, dict or set in it stands where A holds -/
inductive Rep (g : Gc) (F : Hp) (A : Addr → Prop) : D → V → Prop
  | non : Rep g F A .non .non
  | bl (b : Bool) : Rep g F A (.bl b) (.bl b)
  | int (i : Int) : Rep g F A (.int i) (.int i)
  | str (x : Str) : Rep g F A (.str x) (.str x)
  | tup {a : Addr} {vs : List V} {xs : List D} : SqT g.K F a vs → Reps g F A xs vs → Rep g F A (.tup xs) (.ref a)
  | lst {a : Addr} {vs : List V} {xs : List D} : F a = some (.lst vs) → A a → Reps g F A xs vs → Rep g F A (.lst xs) (.ref a)
  | scr {a : Addr} {ns : List Int} : SqL g.K F a (ns.map V.int) → A a → Rep g F A (.scr ns) (.ref a)
  | dk {a : Addr} {ws : List (Key × V)} {kvs : List (Key × D)} : F a = some (.dK ws) → A a → RepK g F A kvs ws → Rep g F A (.dk kvs) (.ref a)
  | dt {a : Addr} {ws : List (List Key × V)} {kvs : List (List Key × D)} : F a = some (.dT ws) → A a → RepT g F A kvs ws → Rep g F A (.dt kvs) (.ref a)
  | st {a : Addr} {xs : List Int} : F a = some (SetO g.w a (fun k => decide (k ∈ xs)) xs.length) → A a → xs.Pairwise (· < ·) → Rep g F A (.st xs) (.ref a)
inductive Reps (g : Gc) (F : Hp) (A : Addr → Prop) : List D → List V → Prop
  | nil : Reps g F A [] []
  | cons {x : D} {v : V} {xs : List D} {vs : List V} : Rep g F A x v → Reps g F A xs vs → Reps g F A (x :: xs) (v :: vs)
inductive RepK (g : Gc) (F : Hp) (A : Addr → Prop) : List (Key × D) → List (Key × V) → Prop
  | nil : RepK g F A [] []
  | cons {k : Key} {x : D} {v : V} {xs : List (Key × D)} {vs : List (Key × V)} : Rep g F A x v → RepK g F A xs vs → RepK g F A ((k, x) :: xs) ((k, v) :: vs)
inductive RepT (g : Gc) (F : Hp) (A : Addr → Prop) : List (List Key × D) → List (List Key × V) → Prop
  | nil : RepT g F A [] []
  | cons {k : List Key} {x : D} {v : V} {xs : List (List Key × D)} {vs : List (List Key × V)} : Rep g F A x v → RepT g F A xs vs → RepT g F A ((k, x) :: xs) ((k, v) :: vs)
end

theorem sameT {K : PySem.W.Frag} {H H' : Hp} {a : Addr} {xs : List V} (e : Same H H') (h : SqT K H a xs) : SqT K H' a xs := by
  rcases h with (h | ⟨o, h⟩) | h
  · exact .inl (.inl (e _ _ h))
  · exact .inl (.inr ⟨o, e _ _ h⟩)
  · exact .inr h

section mono
variable {g : Gc} {F F' : Hp} {A A' : Addr → Prop}
mutual
theorem Rep.mono (e : Same F F') (q : ∀ a, A a → A' a) : ∀ {d : D} {v : V}, Rep g F A d v → Rep g F' A' d v
  | _, _, .non => .non
  | _, _, .bl b => .bl b
  | _, _, .int i => .int i
  | _, _, .str x => .str x
  | _, _, .tup h r => .tup (sameT e h) (Reps.mono e q r)
  | _, _, .lst h a r => .lst (e _ _ h) (q _ a) (Reps.mono e q r)
  | _, _, .scr h a => .scr (e.seq h) (q _ a)
  | _, _, .dk h a r => .dk (e _ _ h) (q _ a) (RepK.mono e q r)
  | _, _, .dt h a r => .dt (e _ _ h) (q _ a) (RepT.mono e q r)
  | _, _, .st h a p => .st (e _ _ h) (q _ a) p
theorem Reps.mono (e : Same F F') (q : ∀ a, A a → A' a) : ∀ {ds : List D} {vs : List V}, Reps g F A ds vs → Reps g F' A' ds vs
  | _, _, .nil => .nil
  | _, _, .cons h r => .cons (Rep.mono e q h) (Reps.mono e q r)
theorem RepK.mono (e : Same F F') (q : ∀ a, A a → A' a) : ∀ {ds : List (Key × D)} {vs : List (Key × V)}, RepK g F A ds vs → RepK g F' A' ds vs
  | _, _, .nil => .nil
  | _, _, .cons h r => .cons (Rep.mono e q h) (RepK.mono e q r)
theorem RepT.mono (e : Same F F') (q : ∀ a, A a → A' a) : ∀ {ds : List (List Key × D)} {vs : List (List Key × V)}, RepT g F A ds vs → RepT g F' A' ds vs
  | _, _, .nil => .nil
  | _, _, .cons h r => .cons (Rep.mono e q h) (RepT.mono e q r)
end
abbrev noA : Addr → Prop := fun _ => True
theorem Rep.any (e : Same F F') {d : D} {v : V} (h : Rep g F A d v) : Rep g F' noA d v := h.mono e fun _ _ => trivial
theorem Reps.any (e : Same F F') {d : List D} {v : List V} (h : Reps g F A d v) : Reps g F' noA d v := h.mono e fun _ _ => trivial
theorem Reps.length : ∀ {ds : List D} {vs : List V}, Reps g F A ds vs → ds.length = vs.length
  | _, _, .nil => rfl
  | _, _, .cons _ r => by rw [List.length_cons, List.length_cons, Reps.length r]
theorem Reps.app : ∀ {ds es : List D} {vs ws : List V}, Reps g F A ds vs → Reps g F A es ws → Reps g F A (ds ++ es) (vs ++ ws)
  | _, _, _, _, .nil, s => s
  | _, _, _, _, .cons h r, s => .cons h (Reps.app r s)
theorem Reps.get : ∀ {ds : List D} {vs : List V} {i : Nat} {d : D}, Reps g F A ds vs → ds[i]? = some d → ∃ v, vs[i]? = some v ∧ Rep g F A d v
  | _, _, _, _, .nil, e => by simp at e
  | _, _, 0, _, .cons h _, e => by simp at e; subst e; exact ⟨_, rfl, h⟩
  | _, _, i + 1, d, .cons _ r, e => by
    obtain ⟨v, h1, h2⟩ := Reps.get (i := i) (d := d) r (by simpa using e)
    exact ⟨v, by simpa using h1, h2⟩
theorem Reps.getV : ∀ {ds : List D} {vs : List V} {i : Nat} {v : V}, Reps g F A ds vs → vs[i]? = some v → ∃ d, ds[i]? = some d ∧ Rep g F A d v
  | _, _, _, _, .nil, e => by simp at e
  | _, _, 0, _, .cons h _, e => by simp at e; subst e; exact ⟨_, rfl, h⟩
  | _, _, i + 1, d, .cons _ r, e => by
    obtain ⟨v, h1, h2⟩ := Reps.getV (i := i) (v := d) r (by simpa using e)
    exact ⟨v, by simpa using h1, h2⟩
theorem Reps.take : ∀ {ds : List D} {vs : List V} (n : Nat), Reps g F A ds vs → Reps g F A (ds.take n) (vs.take n)
  | _, _, 0, _ => .nil
  | _, _, _ + 1, .nil => .nil
  | _, _, n + 1, .cons h r => .cons h (Reps.take n r)
theorem Reps.drop : ∀ {ds : List D} {vs : List V} (n : Nat), Reps g F A ds vs → Reps g F A (ds.drop n) (vs.drop n)
  | _, _, 0, r => r
  | _, _, _ + 1, .nil => .nil
  | _, _, n + 1, .cons _ r => Reps.drop n r
theorem Reps.set {d : D} {v : V} (q : Rep g F A d v) : ∀ {ds : List D} {vs : List V} (i : Nat), Reps g F A ds vs → Reps g F A (ds.set i d) (vs.set i v)
  | _, _, _, .nil => .nil
  | _, _, 0, .cons _ r => .cons q r
  | _, _, i + 1, .cons h r => .cons h (Reps.set q i r)
theorem Reps.rev : ∀ {ds : List D} {vs : List V}, Reps g F A ds vs → Reps g F A ds.reverse vs.reverse
  | _, _, .nil => .nil
  | _, _, .cons h r => by rw [List.reverse_cons, List.reverse_cons]; exact (Reps.rev r).app (.cons h .nil)
theorem Reps.ints : ∀ {ns : List Int} {vs : List V}, Reps g F A (ns.map D.int) vs → vs = ns.map V.int
  | [], _, h => by cases h; rfl
  | n :: ns, _, h => by
    cases h with
    | cons h r => cases h; rw [Reps.ints r]; rfl
theorem Reps.ofInts : ∀ (ns : List Int), Reps g F A (ns.map D.int) (ns.map V.int)
  | [] => .nil
  | n :: ns => .cons (.int n) (Reps.ofInts ns)
end mono

/-! ### heaps -/
structure Ext (F H F' H' : Hp) : Prop where
  f : Same F F'
  h : Same H H'
  b : Same F' H'
  k : ∀ a, F a = none → H a ≠ none → F' a = none
theorem Ext.refl {F H : Hp} (e : Same F H) : Ext F H F H := ⟨.refl _, .refl _, e, fun _ h _ => h⟩
theorem Ext.trans {F H F1 H1 F2 H2 : Hp} (a : Ext F H F1 H1) (b : Ext F1 H1 F2 H2) : Ext F H F2 H2 :=
  ⟨a.f.trans b.f, a.h.trans b.h, b.b, fun x h1 h2 => b.k x (a.k x h1 h2) fun z => h2 (a.h.free z)⟩
theorem same_upd {H : Hp} {p : Addr} {o : HO} (h : H p = none) : Same H (upd H p o) := fun b x e => by
  rw [upd_ne (ne_of_none e h)]; exact e
theorem upd_sub {F H : Hp} {p : Addr} {o : HO} (s : Same F H) : Same (upd F p o) (upd H p o) := fun b x e => by
  by_cases hb : b = p
  · subst hb; rw [upd_same] at e ⊢; exact e
  · rw [upd_ne hb] at e ⊢; exact s b x e
/-- a new object, at once frozen -/
theorem Ext.both {F H : Hp} {p : Addr} {o : HO} (s : Same F H) (h : H p = none) : Ext F H (upd F p o) (upd H p o) :=
  ⟨same_upd (s.free h), same_upd h, upd_sub s, fun a h1 h2 => by rw [upd_ne (fun z => h2 (by rw [z]; exact h))]; exact h1⟩
/-- a new object, not frozen -/
theorem Ext.hi {F H : Hp} {p : Addr} {o : HO} (s : Same F H) (h : H p = none) : Ext F H F (upd H p o) :=
  ⟨.refl _, same_upd h, s.trans (same_upd h), fun a h1 _ => h1⟩
/-- a thing that was new is frozen -/
theorem Ext.frz {F H F' H' : Hp} {p : Addr} {o : HO} (x : Ext F H F' H') (h : H p = none) (hf : F' p = none) (e : H' p = some o) : Ext F H (upd F' p o) H' :=
  ⟨x.f.trans (same_upd hf), x.h, fun b u q => by
    by_cases hb : b = p
    · subst hb; rw [upd_same] at q; cases q; exact e
    · rw [upd_ne hb] at q; exact x.b b u q, fun a h1 h2 => by rw [upd_ne (fun z => h2 (by rw [z]; exact h))]; exact x.k a h1 h2⟩

/-! ### results, slots -/
def PB (B : Hp) (nw : Bool) : Addr → Prop := fun p => nw = true → B p = none
theorem PB.and {B : Hp} {a b : Bool} {p : Addr} (h : PB B a p) : PB B (a && b) p := fun e => h ((Bool.and_eq_true _ _ ▸ e).1)
theorem PB.and' {B : Hp} {a b : Bool} {p : Addr} (h : PB B b p) : PB B (a && b) p := fun e => h ((Bool.and_eq_true _ _ ▸ e).2)

/-- what is at an address that is not frozen: its parts are -/
inductive OwnO (g : Gc) (F : Hp) (A : Addr → Prop) (p : Addr) : HO → D → Prop
  | lst {vs : List V} {xs : List D} : Reps g F A xs vs → OwnO g F A p (.lst vs) (.lst xs)
  | dk {ws : List (Key × V)} {kvs : List (Key × D)} : RepK g F A kvs ws → OwnO g F A p (.dK ws) (.dk kvs)
  | dt {ws : List (List Key × V)} {kvs : List (List Key × D)} : RepT g F A kvs ws → OwnO g F A p (.dT ws) (.dt kvs)
  | st {xs : List Int} : xs.Pairwise (· < ·) → OwnO g F A p (SetO g.w p (fun k => decide (k ∈ xs)) xs.length) (.st xs)
theorem OwnO.mono {g : Gc} {F F' : Hp} {A A' : Addr → Prop} {p : Addr} {o : HO} {d : D} (e : Same F F') (q : ∀ a, A a → A' a) (h : OwnO g F A p o d) : OwnO g F' A' p o d := by
  cases h with
  | lst r => exact .lst (r.mono e q)
  | dk r => exact .dk (r.mono e q)
  | dt r => exact .dt (r.mono e q)
  | st r => exact .st r
/-- frozen, it is data -/
theorem OwnO.rep {g : Gc} {F : Hp} {A : Addr → Prop} {p : Addr} {o : HO} {d : D} (h : OwnO g F A p o d) (hf : F p = none) (ha : A p) : Rep g (upd F p o) A d (.ref p) := by
  have s : Same F (upd F p o) := same_upd hf
  cases h with
  | lst r => exact .lst upd_same ha (r.mono s fun _ h => h)
  | dk r => exact .dk upd_same ha (r.mono s fun _ h => h)
  | dt r => exact .dt upd_same ha (r.mono s fun _ h => h)
  | st r => exact .st upd_same ha r

inductive Md where
  | frz (nw : Bool) | new (nw : Bool) | bor (nw : Bool)
  deriving DecidableEq
def Md.nw : Md → Bool
  | .frz n => n | .new n => n | .bor n => n

/-- a value of the data d behind an evaluation that began at the heap H -/
inductive Res (g : Gc) (B H F' H' : Hp) (d : D) : V → Md → Prop
  | frz {v : V} {nw : Bool} : Rep g F' (PB B nw) d v → Res g B H F' H' d v (.frz nw)
  | new {p : Addr} {o : HO} {nw : Bool} : F' p = none → H p = none → B p = none → H' p = some o → OwnO g F' (PB B nw) p o d → Res g B H F' H' d (.ref p) (.new nw)
  | bor {p : Addr} {o : HO} {nw : Bool} : F' p = none → B p = none → H' p = some o → OwnO g F' (PB B nw) p o d → Res g B H F' H' d (.ref p) (.bor nw)
theorem Res.ext {g : Gc} {B H F1 H1 F2 H2 : Hp} {d : D} {v : V} {m : Md} (r : Res g B H F1 H1 d v m) (x : Ext F1 H1 F2 H2) : Res g B H F2 H2 d v m := by
  cases r with
  | frz h => exact .frz (h.mono x.f fun _ q => q)
  | new a b c e o => exact .new (x.k _ a (by rw [e]; exact fun z => nomatch z)) b c (x.h _ _ e) (o.mono x.f fun _ q => q)
  | bor a c e o => exact .bor (x.k _ a (by rw [e]; exact fun z => nomatch z)) c (x.h _ _ e) (o.mono x.f fun _ q => q)
theorem Res.old {g : Gc} {B H0 H F1 H1 : Hp} {d : D} {v : V} {m : Md} (r : Res g B H F1 H1 d v m) (x : Same H0 H) : Res g B H0 F1 H1 d v m := by
  cases r with
  | frz h => exact .frz h
  | new a b c e o => exact .new a (x.free b) c e o
  | bor a c e o => exact .bor a c e o

theorem wkP {B : Hp} {n : Bool} : ∀ a, PB B n a → PB B false a := fun _ _ z => nomatch z
def Md.wk : Md → Md
  | .frz _ => .frz false | .new _ => .new false | .bor _ => .bor false
theorem Res.wk {g : Gc} {B H F' H' : Hp} {d : D} {v : V} {m : Md} (r : Res g B H F' H' d v m) : Res g B H F' H' d v m.wk := by
  cases r with
  | frz h => exact .frz (h.mono (.refl _) wkP)
  | new a b c e o => exact .new a b c e (o.mono (.refl _) wkP)
  | bor a c e o => exact .bor a c e (o.mono (.refl _) wkP)
/-- d as it may be read: v is the value, the heap H at hand -/
inductive Vw (g : Gc) (F H : Hp) (A : Addr → Prop) : D → V → Prop
  | non : Vw g F H A .non .non
  | bl (b : Bool) : Vw g F H A (.bl b) (.bl b)
  | int (i : Int) : Vw g F H A (.int i) (.int i)
  | str (x : Str) : Vw g F H A (.str x) (.str x)
  | tup {a : Addr} {vs : List V} {xs : List D} : SqT g.K H a vs → Reps g F A xs vs → Vw g F H A (.tup xs) (.ref a)
  | lst {a : Addr} {vs : List V} {xs : List D} : H a = some (.lst vs) → Reps g F A xs vs → Vw g F H A (.lst xs) (.ref a)
  | scr {a : Addr} {ns : List Int} : SqL g.K H a (ns.map V.int) → Vw g F H A (.scr ns) (.ref a)
  | dk {a : Addr} {ws : List (Key × V)} {kvs : List (Key × D)} : H a = some (.dK ws) → RepK g F A kvs ws → Vw g F H A (.dk kvs) (.ref a)
  | dt {a : Addr} {ws : List (List Key × V)} {kvs : List (List Key × D)} : H a = some (.dT ws) → RepT g F A kvs ws → Vw g F H A (.dt kvs) (.ref a)
  | st {a : Addr} {xs : List Int} : H a = some (SetO g.w a (fun k => decide (k ∈ xs)) xs.length) → xs.Pairwise (· < ·) → Vw g F H A (.st xs) (.ref a)
theorem Rep.vw {g : Gc} {F H : Hp} {A : Addr → Prop} {d : D} {v : V} (r : Rep g F A d v) (s : Same F H) : Vw g F H A d v := by
  cases r with
  | non => exact .non
  | bl b => exact .bl b
  | int i => exact .int i
  | str x => exact .str x
  | tup h r => exact .tup (sameT s h) r
  | lst h a r => exact .lst (s _ _ h) r
  | scr h a => exact .scr (s.seq h)
  | dk h a r => exact .dk (s _ _ h) r
  | dt h a r => exact .dt (s _ _ h) r
  | st h a p => exact .st (s _ _ h) p
theorem Res.vw {g : Gc} {B H0 F H : Hp} {d : D} {v : V} {m : Md} (r : Res g B H0 F H d v m) (s : Same F H) : Vw g F H (PB B m.nw) d v := by
  have own : ∀ {p : Addr} {o : HO} {nw : Bool} {d : D}, H p = some o → OwnO g F (PB B nw) p o d → Vw g F H (PB B nw) d (.ref p) := fun e o => by
    cases o with
    | lst q => exact .lst e q
    | dk q => exact .dk e q
    | dt q => exact .dt e q
    | st q => exact .st e q
  cases r with
  | frz h => exact h.vw s
  | new _ _ _ e o => exact own e o
  | bor _ _ e o => exact own e o
theorem Vw.ext {g : Gc} {F H F' H' : Hp} {A : Addr → Prop} {d : D} {v : V} (r : Vw g F H A d v) (x : Ext F H F' H') : Vw g F' H' A d v := by
  cases r with
  | non => exact .non
  | bl b => exact .bl b
  | int i => exact .int i
  | str x => exact .str x
  | tup h r => exact .tup (sameT x.h h) (r.mono x.f fun _ q => q)
  | lst h r => exact .lst (x.h _ _ h) (r.mono x.f fun _ q => q)
  | scr h => exact .scr (x.h.seq h)
  | dk h r => exact .dk (x.h _ _ h) (r.mono x.f fun _ q => q)
  | dt h r => exact .dt (x.h _ _ h) (r.mono x.f fun _ q => q)
  | st h p => exact .st (x.h _ _ h) p
/-- what is new or frozen goes into another thing: frozen -/
theorem Res.embed {g : Gc} {B F H F' H' : Hp} {d : D} {v : V} {m : Md} (r : Res g B H F' H' d v m) (x : Ext F H F' H') (hm : ∀ n, m ≠ .bor n) : ∃ F'', Ext F H F'' H' ∧ Same F' F'' ∧ Rep g F'' (PB B m.nw) d v := by
  cases r with
  | frz h => exact ⟨F', x, .refl _, h⟩
  | new a b c e o => exact ⟨upd F' _ _, x.frz b a e, same_upd a, o.rep a fun _ => c⟩
  | bor => exact absurd rfl (hm _)
end Dn
namespace Dn
open PySem PySem.Spec L2
open PyProof.Rows hiding St

/-! ### slots -/
inductive Slot where
  | no | val (d : D) (nw : Bool) | own (d : D) (nw : Bool) | deep (d : D)
  /-- like deep, but the lists may have got n more items -/
  | shp (d : D) (n : Nat)
  /-- a list of lists of our own, the inner ones with up to n more items -/
  | shl (ds : List D) (n : Nat)
  /-- the range from 0 on, below n -/
  | rng (n : Int)
  /-- the exception that is in hand -/
  | exc (a : Addr)
  deriving Inhabited
abbrev Ev := List Slot
def join (F G : Hp) : Hp := fun a => match F a with
  | some o => some o
  | none => G a
theorem join_left {F G : Hp} : Same F (join F G) := fun a o e => by unfold join; rw [e]
theorem join_right {F G : Hp} {a : Addr} (h : F a = none) : join F G a = G a := by unfold join; rw [h]
theorem join_none {F G : Hp} {a : Addr} (h : F a = none) (h' : G a = none) : join F G a = none := by rw [join_right h]; exact h'

def D.box : D → Bool
  | .tup _ => true | .lst _ => true | _ => false
/-- the shape of d: lists with up to n more items at their ends -/
inductive Px (g : Gc) (F : Hp) (A : Addr → Prop) (n : Nat) : D → V → Prop
  | tup {a : Addr} {vs : List V} {xs : List D} : SqT g.K F a vs → vs.length = xs.length → (∀ (i : Nat) (d : D) (v : V), xs[i]? = some d → vs[i]? = some v → Px g F A n d v) → Px g F A n (.tup xs) (.ref a)
  | lst {a : Addr} {vs : List V} {xs : List D} : F a = some (.lst vs) → A a → vs.length ≤ xs.length + n → Px g F A n (.lst xs) (.ref a)
  | oth {d : D} {v : V} : d.box = false → Px g F A n d v
theorem Px.mono {g : Gc} {F F' : Hp} {A A' : Addr → Prop} {n n' : Nat} {d : D} {v : V} (h : Px g F A n d v) (e : Same F F') (q : ∀ a, A a → A' a) (hn : n ≤ n') : Px g F' A' n' d v := by
  induction h with
  | tup h1 h2 h3 ih => exact .tup (sameT e h1) h2 ih
  | lst h1 h2 h3 => exact .lst (e _ _ h1) (q _ h2) (by omega)
  | oth h => exact .oth h
def SlotR (g : Gc) (B F R : Hp) : Slot → Option V → Prop
  | .no, _ => True
  | .val d nw, x => ∃ v, x = some v ∧ Rep g F (PB B nw) d v
  | .own d nw, x => ∃ p o, x = some (.ref p) ∧ R p = some o ∧ OwnO g F (PB B nw) p o d
  | .deep d, x => ∃ v, x = some v ∧ Rep g (join F R) (fun a => R a ≠ none) d v
  | .shp d n, x => ∃ v, x = some v ∧ Px g (join F R) (fun a => R a ≠ none) n d v
  | .shl ds n, x => ∃ a vs, x = some (.ref a) ∧ R a = some (.lst vs) ∧ vs.length = ds.length ∧ ∀ (k : Nat) (d : D) (v : V), ds[k]? = some d → vs[k]? = some v → ∃ xs p ws, d = .lst xs ∧ v = .ref p ∧ p ≠ a ∧ R p = some (.lst ws) ∧ ws.length ≤ xs.length + n
  | .rng n, x => ∃ p, x = some (.ref p) ∧ F p = some (.rng 0 n)
  | .exc a, x => x = some (.ref a)
structure Reg (F B H : Hp) (R : Nat → Hp) : Prop where
  hat : ∀ i a o, R i a = some o → F a = none ∧ B a = none ∧ H a = some o
  ne : ∀ i j a, R i a ≠ none → R j a ≠ none → i = j
structure EnvR (g : Gc) (F0 B F H : Hp) (σ : St) (Γ : Ev) : Prop where
  x : Ext F0 B F H
  len : σ.length = Γ.length
  reg : ∃ R : Nat → Hp, Reg F B H R ∧ ∀ (i : Nat) (s : Slot), Γ[i]? = some s → SlotR g B F (R i) s ((σ[i]?).join)
theorem some_ne {α : Type} {x : Option α} {y : α} (h : x = some y) : x ≠ none := by rw [h]; exact fun z => nomatch z
theorem Reg.ext {F B H F' H' : Hp} {R : Nat → Hp} (r : Reg F B H R) (x : Ext F H F' H') : Reg F' B H' R :=
  ⟨fun i a o e => let ⟨h1, h2, h3⟩ := r.hat i a o e; ⟨x.k a h1 (some_ne h3), h2, x.h _ _ h3⟩, r.ne⟩
theorem join_same {F F' H R : Hp} (hr : ∀ a o, R a = some o → F a = none ∧ H a = some o) (f : Same F F') (k : ∀ a, F a = none → H a ≠ none → F' a = none) : Same (join F R) (join F' R) := fun a o e => by
  cases q : F a with
  | some u =>
    rw [join_left a u q] at e
    rw [join_left a u (f a u q)]; exact e
  | none =>
    rw [join_right q] at e
    obtain ⟨h1, h2⟩ := hr a o e
    rw [join_right (k a h1 (some_ne h2))]; exact e
theorem SlotR.ext {g : Gc} {B F H F' H' R : Hp} {s : Slot} {v : Option V} (h : SlotR g B F R s v) (hr : ∀ a o, R a = some o → F a = none ∧ H a = some o) (x : Ext F H F' H') : SlotR g B F' R s v := by
  cases s with
  | no => trivial
  | val d nw => obtain ⟨v, e, r⟩ := h; exact ⟨v, e, r.mono x.f fun _ q => q⟩
  | own d nw => obtain ⟨p, o, e, h1, r⟩ := h; exact ⟨p, o, e, h1, r.mono x.f fun _ q => q⟩
  | deep d => obtain ⟨v, e, r⟩ := h; exact ⟨v, e, r.mono (join_same hr x.f x.k) fun _ q => q⟩
  | shp d n => obtain ⟨v, e, r⟩ := h; exact ⟨v, e, r.mono (join_same hr x.f x.k) (fun _ q => q) (Nat.le_refl _)⟩
  | shl ds n => exact h
  | rng n => obtain ⟨p, e, r⟩ := h; exact ⟨p, e, x.f _ _ r⟩
  | exc a => exact h
theorem EnvR.ext {g : Gc} {F0 B F H F' H' : Hp} {σ : St} {Γ : Ev} (I : EnvR g F0 B F H σ Γ) (x : Ext F H F' H') : EnvR g F0 B F' H' σ Γ := by
  obtain ⟨R, r, s⟩ := I.reg
  exact ⟨I.x.trans x, I.len, R, r.ext x, fun i sl e => (s i sl e).ext (fun a o q => let ⟨h1, _, h3⟩ := r.hat i a o q; ⟨h1, h3⟩) x⟩

/-- set a slot to a frozen thing -/
theorem EnvR.set {g : Gc} {F0 B F H : Hp} {σ : St} {Γ : Ev} {i : Nat} {v : V} {d : D} {nw : Bool} (I : EnvR g F0 B F H σ Γ) (r : Rep g F (PB B nw) d v) : EnvR g F0 B F H (σ.set i (some v)) (Γ.set i (.val d nw)) := by
  obtain ⟨R, q, s⟩ := I.reg
  refine ⟨I.x, by rw [List.length_set, List.length_set]; exact I.len, R, q, fun j sl e => ?_⟩
  by_cases hj : i = j
  · subst hj
    have hl : i < Γ.length := by
      have := List.getElem?_eq_some_iff.mp e
      obtain ⟨z, _⟩ := this
      simpa using z
    rw [List.getElem?_set_self hl] at e
    cases e
    rw [List.getElem?_set_self (by rw [I.len]; exact hl)]
    exact ⟨v, rfl, r⟩
  · rw [List.getElem?_set_ne hj] at e ⊢
    exact s j sl e
/-- .. to a new thing, not frozen -/
theorem EnvR.setNew {g : Gc} {F0 B F H F' H' : Hp} {σ : St} {Γ : Ev} {i : Nat} {v : V} {d : D} {nw : Bool} (I : EnvR g F0 B F H σ Γ) (x : Ext F H F' H') (r : Res g B H F' H' d v (.new nw)) : EnvR g F0 B F' H' (σ.set i (some v)) (Γ.set i (.own d nw)) := by
  obtain ⟨R, q, s⟩ := I.reg
  cases r with
  | @new p o nw h1 h2 h3 h4 h5 =>
  have other : ∀ j, R j p = none := fun j => by
    cases z : R j p with
    | none => rfl
    | some u => have := (q.hat j p u z).2.2; rw [h2] at this; cases this
  refine ⟨I.x.trans x, by rw [List.length_set, List.length_set]; exact I.len, fun j => if j = i then (fun a => if a = p then some o else none) else R j, ⟨fun j a u e => ?_, fun j k a e1 e2 => ?_⟩, fun j sl e => ?_⟩
  · by_cases hj : j = i
    · simp only [hj, if_true] at e
      by_cases ha : a = p
      · subst ha; simp only [if_true] at e; cases e; exact ⟨h1, h3, h4⟩
      · simp only [if_neg ha] at e; cases e
    · simp only [if_neg hj] at e
      exact (q.ext x).hat j a u e
  · by_cases hj : j = i
    · by_cases hk : k = i
      · rw [hj, hk]
      · simp only [hj, if_true] at e1
        simp only [if_neg hk] at e2
        by_cases ha : a = p
        · subst ha; exact absurd (other k) e2
        · simp only [if_neg ha] at e1; exact absurd rfl e1
    · by_cases hk : k = i
      · simp only [if_neg hj] at e1
        simp only [hk, if_true] at e2
        by_cases ha : a = p
        · subst ha; exact absurd (other j) e1
        · simp only [if_neg ha] at e2; exact absurd rfl e2
      · simp only [if_neg hj] at e1
        simp only [if_neg hk] at e2
        exact q.ne j k a e1 e2
  · by_cases hj : i = j
    · subst hj
      have hl : i < Γ.length := by
        obtain ⟨z, _⟩ := List.getElem?_eq_some_iff.mp e
        simpa using z
      rw [List.getElem?_set_self hl] at e
      cases e
      rw [List.getElem?_set_self (by rw [I.len]; exact hl)]
      exact ⟨p, o, rfl, by simp, h5⟩
    · rw [List.getElem?_set_ne hj] at e ⊢
      show SlotR g B F' (if j = i then _ else R j) _ _
      rw [if_neg (Ne.symm hj)]
      exact (s j sl e).ext (fun a o q' => let ⟨h1, _, h3⟩ := q.hat j a o q'; ⟨h1, h3⟩) x
/-- what is known of a slot, less -/
theorem EnvR.weak {g : Gc} {F0 B F H : Hp} {σ : St} {Γ Γ' : Ev} (I : EnvR g F0 B F H σ Γ) (hl : Γ'.length = Γ.length) (h : ∀ (i : Nat) (s : Slot), Γ'[i]? = some s → s = .no ∨ Γ[i]? = some s) : EnvR g F0 B F H σ Γ' := by
  obtain ⟨R, q, s⟩ := I.reg
  exact ⟨I.x, I.len.trans hl.symm, R, q, fun i sl e => by
    rcases h i sl e with z | z
    · subst z; trivial
    · exact s i sl z⟩
/-- the slots at is, forgotten -/
def forget (is : List Nat) (Γ : Ev) : Ev := is.foldl (fun Γ i => Γ.set i .no) Γ
theorem forget_ok : ∀ (is : List Nat) (Γ : Ev), (forget is Γ).length = Γ.length ∧ ∀ (i : Nat) (s : Slot), (forget is Γ)[i]? = some s → s = .no ∨ Γ[i]? = some s
  | [], Γ => ⟨rfl, fun _ _ e => .inr e⟩
  | j :: is, Γ => by
    obtain ⟨h1, h2⟩ := forget_ok is (Γ.set j .no)
    refine ⟨by show (forget is (Γ.set j .no)).length = _; rw [h1, List.length_set], fun i s e => ?_⟩
    rcases h2 i s e with z | z
    · exact .inl z
    · by_cases hj : j = i
      · subst hj
        by_cases hl : j < Γ.length
        · rw [List.getElem?_set_self hl] at z; cases z; exact .inl rfl
        · rw [List.getElem?_eq_none (by simpa using hl)] at z; cases z
      · rw [List.getElem?_set_ne hj] at z; exact .inr z
theorem EnvR.forget {g : Gc} {F0 B F H : Hp} {σ : St} {Γ : Ev} (I : EnvR g F0 B F H σ Γ) (is : List Nat) : EnvR g F0 B F H σ (forget is Γ) := I.weak (forget_ok is Γ).1 (forget_ok is Γ).2

/-- all slots frozen -/
def frzS : Slot → Slot
  | .own d nw => .val d nw
  | .deep d => .val d true
  | .shp _ _ => .no
  | .shl _ _ => .no
  | s => s
@[simp] def frzAll (Γ : Ev) : Ev := Γ.map frzS
theorem EnvR.frzAll {g : Gc} {F0 B F H : Hp} {σ : St} {Γ : Ev} (I : EnvR g F0 B F H σ Γ) : ∃ F1, Same F F1 ∧ EnvR g F0 B F1 H σ (frzAll Γ) := by
  obtain ⟨R, q, s⟩ := I.reg
  let F1 : Hp := fun a => match F a with
    | some o => some o
    | none => open Classical in if ∃ i, R i a ≠ none then H a else none
  have f1 : Same F F1 := fun a o e => by show (match F a with | some o => some o | none => _) = _; rw [e]
  have f2 : ∀ a, F a = none → B a ≠ none → F1 a = none := fun a e hb => by
    show (match F a with | some o => some o | none => open Classical in if ∃ i, R i a ≠ none then H a else none) = _
    rw [e]
    refine if_neg fun ⟨i, hi⟩ => ?_
    cases z : R i a with
    | none => exact hi z
    | some u => exact hb (q.hat i a u z).2.1
  have f3 : ∀ i, Same (R i) F1 := fun i a o e => by
    obtain ⟨h1, h2, h3⟩ := q.hat i a o e
    show (match F a with | some o => some o | none => open Classical in if ∃ i, R i a ≠ none then H a else none) = _
    rw [h1]
    show (open Classical in if ∃ i, R i a ≠ none then H a else none) = _
    rw [if_pos ⟨i, some_ne e⟩]; exact h3
  have f4 : Same F1 H := fun a o e => by
    have e' : (match F a with | some o => some o | none => open Classical in if ∃ i, R i a ≠ none then H a else none) = some o := e
    cases z : F a with
    | some u => rw [z] at e'; cases e'; exact I.x.b _ _ z
    | none =>
      rw [z] at e'
      have e2 : (open Classical in if ∃ i, R i a ≠ none then H a else none) = some o := e'
      by_cases c : ∃ i, R i a ≠ none
      · rw [if_pos c] at e2; exact e2
      · rw [if_neg c] at e2; cases e2
  refine ⟨F1, f1, ⟨⟨I.x.f.trans f1, I.x.h, f4, fun a h1 h2 => f2 a (I.x.k a h1 h2) h2⟩, by unfold Dn.frzAll; rw [List.length_map]; exact I.len, fun _ _ => none, ⟨fun _ _ _ e => (nomatch e), fun _ _ _ e => absurd rfl e⟩, fun i sl e => ?_⟩⟩
  unfold Dn.frzAll at e
  rw [List.getElem?_map] at e
  cases z : Γ[i]? with
  | none => rw [z] at e; cases e
  | some t =>
    rw [z] at e
    cases e
    have h := s i t z
    cases t with
    | no => trivial
    | val d nw => obtain ⟨v, e, r⟩ := h; exact ⟨v, e, r.mono f1 fun _ q => q⟩
    | own d nw =>
      obtain ⟨p, o, e, h1, r⟩ := h
      refine ⟨.ref p, e, ?_⟩
      have hp := q.hat i p o h1
      refine (r.rep hp.1 fun _ => hp.2.1).mono (fun a u e' => ?_) fun _ q => q
      by_cases ha : a = p
      · subst ha; rw [upd_same] at e'; cases e'; exact f3 i _ _ h1
      · rw [upd_ne ha] at e'; exact f1 _ _ e'
    | shp d n => trivial
    | shl ds n => trivial
    | rng n => obtain ⟨p, e, r⟩ := h; exact ⟨p, e, f1 _ _ r⟩
    | exc a => exact h
    | deep d =>
      obtain ⟨v, e, r⟩ := h
      refine ⟨v, e, r.mono (fun a u e' => ?_) fun a ha _ => ?_⟩
      · cases y : F a with
        | some w => rw [join_left a w y] at e'; cases e'; exact f1 _ _ y
        | none => rw [join_right y] at e'; exact f3 i _ _ e'
      · cases y : R i a with
        | none => exact absurd y ha
        | some u => exact (q.hat i a u y).2.1

/-! ### judgements -/
abbrev DenE := Ev → Option (D × Md)
abbrev DenT := Ev → Option Bool
abbrev DenA := Ev → Option (List D × Bool)
inductive Out where
  | nx (Γ : Ev) | bk (Γ : Ev) | ct (Γ : Ev) | rt (d : D) (m : Md) | no
abbrev DenS := Ev → Out

def Ref (g : Gc) (te : TE) (f : DenE) : Prop := ∀ (F0 B F H : Hp) (σ : St) (Γ : Ev) (d : D) (m : Md) (Q : VK), EnvR g F0 B F H σ Γ → f Γ = some (d, m) →
  (∀ v F' H', Ext F H F' H' → Res g B H F' H' d v m → Q v H') → te σ H Q
structure DE (X : Cx) (e : Expr) (f : DenE) : Prop where
  ex : ∃ te, PE X e te ∧ Ref (gX X) te f
def RefT (g : Gc) (tt : TT) (f : DenT) : Prop := ∀ (F0 B F H : Hp) (σ : St) (Γ : Ev) (b : Bool) (Q : Bool → Hp → Prop), EnvR g F0 B F H σ Γ → f Γ = some b →
  (∀ F' H', Ext F H F' H' → Q b H') → tt σ H Q
structure DT (X : Cx) (e : Expr) (f : DenT) : Prop where
  ex : ∃ tt, PT X e tt ∧ RefT (gX X) tt f
structure DW (X : Cx) (e : Expr) (f : DenT) : Prop where
  ex : ∃ tt, PW X e tt ∧ RefT (gX X) tt f
def RefA (g : Gc) (ta : TA) (f : DenA) : Prop := ∀ (F0 B F H : Hp) (σ : St) (Γ : Ev) (ds : List D) (nw : Bool) (Q : List V → Hp → Prop), EnvR g F0 B F H σ Γ → f Γ = some (ds, nw) →
  (∀ vs F' H', Ext F H F' H' → Reps g F' (PB B nw) ds vs → Q vs H') → ta σ H Q
structure DA (X : Cx) (es : List Expr) (f : DenA) : Prop where
  ex : ∃ ta, PA X es ta ∧ RefA (gX X) ta f
def OutQ (g : Gc) (F0 B F : Hp) (E : Ends) : Out → Prop
  | .nx Γ => ∀ σ F' H', EnvR g F0 B F' H' σ Γ → Same F F' → E.nx σ H'
  | .bk Γ => ∀ σ F' H', EnvR g F0 B F' H' σ Γ → Same F F' → E.bk σ H'
  | .ct Γ => ∀ σ F' H', EnvR g F0 B F' H' σ Γ → Same F F' → E.ct σ H'
  | .rt d m => ∀ v F' H', Ext F0 B F' H' → Res g B B F' H' d v m → E.rt v H'
  | .no => False
def RefS (g : Gc) (ts : TS) (f : DenS) : Prop := ∀ (F0 B F H : Hp) (σ : St) (Γ : Ev) (E : Ends), EnvR g F0 B F H σ Γ → OutQ g F0 B F E (f Γ) → ts E σ H
structure DS (X : Cx) (st : Stmt) (f : DenS) : Prop where
  ex : ∃ ts, PS X st ts ∧ RefS (gX X) ts f
structure DSs (X : Cx) (st : List Stmt) (f : DenS) : Prop where
  ex : ∃ ts, PSs X st ts ∧ RefS (gX X) ts f
theorem OutQ.mono {g : Gc} {F0 B F F' : Hp} {E : Ends} {o : Out} (h : OutQ g F0 B F E o) (s : Same F F') : OutQ g F0 B F' E o := by
  cases o with
  | nx Γ => exact fun σ F2 H2 I z => h σ F2 H2 I (s.trans z)
  | bk Γ => exact fun σ F2 H2 I z => h σ F2 H2 I (s.trans z)
  | ct Γ => exact fun σ F2 H2 I z => h σ F2 H2 I (s.trans z)
  | rt d m => exact h
  | no => exact h
end Dn
namespace Dn
open PySem PySem.Spec L2
open PyProof.Rows hiding St

/-! ### data as PyData, ==, truth -/
mutual
def D.py : D → PyData
  | .non => .none | .bl b => .bool b | .int i => .int i | .str x => .str x
  | .tup xs => .tuple (D.pys xs) | .lst xs => .list (D.pys xs)
  | .dk _ => .dict [] | .dt _ => .dict [] | .st _ => .dict [] | .scr ns => .list (ns.map PyData.int)
def D.pys : List D → List PyData
  | [] => []
  | x :: xs => D.py x :: D.pys xs
end
/-- plain data, at most n deep: no dict, no set -/
def D.pl : Nat → D → Bool
  | _, .non => true | _, .bl _ => true | _, .int _ => true | _, .str _ => true
  | n + 1, .tup xs => xs.all (D.pl n) | n + 1, .lst xs => xs.all (D.pl n)
  | n + 1, .scr _ => true
  | _, _ => false
theorem pys_map : ∀ xs : List D, D.pys xs = xs.map D.py
  | [] => by simp [D.pys]
  | x :: xs => by simp [D.pys, pys_map xs]
theorem plainAll_of {n : Nat} (ih : ∀ d : D, d.pl n = true → d.py.plain = true ∧ d.py.depth ≤ n) : ∀ xs : List D, xs.all (D.pl n) = true → PyData.plainAll (D.pys xs) = true ∧ PyData.depthAll (D.pys xs) ≤ n
  | [], _ => by simp [D.pys, PyData.plainAll, PyData.depthAll]
  | x :: xs, h => by
    simp only [List.all_cons, Bool.and_eq_true] at h
    have h1 := ih x h.1
    have h2 := plainAll_of ih xs h.2
    simp only [D.pys, PyData.plainAll, PyData.depthAll, Bool.and_eq_true]
    exact ⟨⟨h1.1, h2.1⟩, Nat.max_le.mpr ⟨h1.2, h2.2⟩⟩
theorem ints_plain : ∀ ns : List Int, PyData.plainAll (ns.map PyData.int) = true ∧ PyData.depthAll (ns.map PyData.int) = 0
  | [] => by simp [PyData.plainAll, PyData.depthAll]
  | n :: ns => by
    have h := ints_plain ns
    simp [PyData.plainAll, PyData.depthAll, PyData.plain, PyData.depth, h.1, h.2]
theorem pl_plain : ∀ (n : Nat) (d : D), d.pl n = true → d.py.plain = true ∧ d.py.depth ≤ n
  | n, .non, _ => by simp [D.py, PyData.plain, PyData.depth]
  | n, .bl _, _ => by simp [D.py, PyData.plain, PyData.depth]
  | n, .int _, _ => by simp [D.py, PyData.plain, PyData.depth]
  | n, .str _, _ => by simp [D.py, PyData.plain, PyData.depth]
  | n + 1, .tup xs, h => by
    have q := plainAll_of (pl_plain n) xs (by simpa [D.pl] using h)
    simp only [D.py, PyData.plain, PyData.depth]
    exact ⟨q.1, by omega⟩
  | n + 1, .lst xs, h => by
    have q := plainAll_of (pl_plain n) xs (by simpa [D.pl] using h)
    simp only [D.py, PyData.plain, PyData.depth]
    exact ⟨q.1, by omega⟩
  | n + 1, .scr ns, _ => by
    have q := ints_plain ns
    simp only [D.py, PyData.plain, PyData.depth]
    exact ⟨q.1, by omega⟩
  | 0, .tup _, h => by simp [D.pl] at h
  | 0, .lst _, h => by simp [D.pl] at h
  | 0, .scr _, h => by simp [D.pl] at h
  | _, .dk _, h => by simp [D.pl] at h
  | _, .dt _, h => by simp [D.pl] at h
  | _, .st _, h => by simp [D.pl] at h

section
variable {g : Gc} {F H : Hp} {A : Addr → Prop}
theorem dpInts : ∀ (ns : List Int), DpAll g.K H (ns.map V.int) (ns.map PyData.int)
  | [] => .nil
  | n :: ns => .cons (.int n) (dpInts ns)
mutual
theorem Rep.dp (s : Same F H) : ∀ {n : Nat} {d : D} {v : V}, Rep g F A d v → d.pl n = true → Dp g.K H v d.py
  | _, _, _, .non, _ => by unfold D.py; exact .non
  | _, _, _, .bl b, _ => by unfold D.py; exact .bl b
  | _, _, _, .int i, _ => by unfold D.py; exact .int i
  | _, _, _, .str x, _ => by unfold D.py; exact .str x
  | n, _, _, .tup h r, p => by
    cases n with
    | zero => simp [D.pl] at p
    | succ n => unfold D.py; exact .tup (sameT s h) (Reps.dp s (n := n) r (by simpa [D.pl] using p))
  | n, _, _, .lst h a r, p => by
    cases n with
    | zero => simp [D.pl] at p
    | succ n => unfold D.py; exact .lst (SqL.of (s _ _ h)) (Reps.dp s (n := n) r (by simpa [D.pl] using p))
  | _, _, _, .scr h _, _ => by unfold D.py; exact .lst (s.seq h) (dpInts _)
  | n, _, _, .dk _ _ _, p => by cases n <;> simp [D.pl] at p
  | n, _, _, .dt _ _ _, p => by cases n <;> simp [D.pl] at p
  | n, _, _, .st _ _ _, p => by cases n <;> simp [D.pl] at p
theorem Reps.dp (s : Same F H) : ∀ {n : Nat} {ds : List D} {vs : List V}, Reps g F A ds vs → ds.all (D.pl n) = true → DpAll g.K H vs (D.pys ds)
  | _, _, _, .nil, _ => by unfold D.pys; exact .nil
  | n, _, _, .cons h r, p => by
    simp only [List.all_cons, Bool.and_eq_true] at p
    unfold D.pys
    exact .cons (Rep.dp s h p.1) (Reps.dp s r p.2)
end
theorem Vw.dp {n : Nat} {d : D} {v : V} (s : Same F H) (h : Vw g F H A d v) (p : d.pl n = true) : Dp g.K H v d.py := by
  cases h with
  | non => unfold D.py; exact .non
  | bl b => unfold D.py; exact .bl b
  | int i => unfold D.py; exact .int i
  | str x => unfold D.py; exact .str x
  | tup h r =>
    cases n with
    | zero => simp [D.pl] at p
    | succ n => unfold D.py; exact .tup h (r.dp s (n := n) (by simpa [D.pl] using p))
  | lst h r =>
    cases n with
    | zero => simp [D.pl] at p
    | succ n => unfold D.py; exact .lst (SqL.of h) (r.dp s (n := n) (by simpa [D.pl] using p))
  | scr h => unfold D.py; exact .lst h (dpInts _)
  | dk _ _ => cases n <;> simp [D.pl] at p
  | dt _ _ => cases n <;> simp [D.pl] at p
  | st _ _ => cases n <;> simp [D.pl] at p
end
def D.truth : D → Option Bool
  | .non => some false | .bl b => some b | .int i => some (i != 0)
  | .str x => if x.length ≤ sizeLine then some ((x.length : Int) != 0) else none
  | .tup xs => some (!xs.isEmpty) | .lst xs => some (!xs.isEmpty) | .scr xs => some (!xs.isEmpty)
  | .dk xs => some (!xs.isEmpty)
  | _ => none
theorem RepK.isEmpty {g : Gc} {F : Hp} {A : Addr → Prop} : ∀ {ds : List (Key × D)} {vs : List (Key × V)}, RepK g F A ds vs → ds.isEmpty = vs.isEmpty
  | _, _, .nil => rfl
  | _, _, .cons _ _ => rfl
theorem Reps.isEmpty {g : Gc} {F : Hp} {A : Addr → Prop} : ∀ {ds : List D} {vs : List V}, Reps g F A ds vs → ds.isEmpty = vs.isEmpty
  | _, _, .nil => rfl
  | _, _, .cons _ _ => rfl
theorem Vw.tru {g : Gc} {F H : Hp} {A : Addr → Prop} {d : D} {v : V} {b : Bool} (h : Vw g F H A d v) (e : d.truth = some b) : TruV g.K v H b := by
  cases h with
  | non => cases e; rfl
  | bl b => cases e; rfl
  | int i => cases e; rfl
  | str x =>
    have e : (if x.length ≤ sizeLine then some ((x.length : Int) != 0) else none) = some b := e
    by_cases c : x.length ≤ sizeLine
    · rw [if_pos c] at e; cases e; exact ⟨c, rfl⟩
    · rw [if_neg c] at e; cases e
  | tup h r => cases e; exact .inr (.inl ⟨_, h, by rw [r.isEmpty]⟩)
  | lst h r => cases e; exact .inl ⟨_, SqL.of h, by rw [r.isEmpty]⟩
  | @scr a ns h => cases e; exact .inl ⟨_, h, by cases ns <;> rfl⟩
  | dk h r => cases e; exact .inr (.inr ⟨_, h, by rw [r.isEmpty]⟩)
  | dt _ _ => cases e
  | st _ _ => cases e

/-! ### expressions -/
@[simp] def dVar (i : Nat) : DenE := fun Γ => match Γ[i]? with
  | some (.val d nw) => some (d, .frz nw)
  | some (.own d nw) => some (d, .bor nw)
  | _ => none
@[simp] def dC (d : D) : DenE := fun _ => some (d, .frz true)
section
variable {g : Gc} {X : Cx} {e a b c : Expr} {pos : Pos}
theorem ref_var (i : Nat) : Ref g (tVar i) (dVar i) := by
  intro F0 B F H σ Γ d m Q I e q
  obtain ⟨R, r, s⟩ := id I.reg
  unfold dVar at e
  cases z : Γ[i]? with
  | none => rw [z] at e; cases e
  | some sl =>
    rw [z] at e
    have h := s i sl z
    cases y : σ[i]? with
    | none =>
      have : i < Γ.length := (List.getElem?_eq_some_iff.mp z).1
      have h2 := List.getElem?_eq_none_iff.mp y
      rw [I.len] at h2
      omega
    | some x =>
    rw [y] at h
    cases sl with
    | no => cases e
    | val d nw =>
      cases e
      obtain ⟨v, e1, r1⟩ := h
      have e2 : x = some v := by simpa using e1
      subst e2
      exact ⟨v, y, q v F H (.refl I.x.b) (.frz r1)⟩
    | own d nw =>
      cases e
      obtain ⟨p, o, e1, h1, r1⟩ := h
      have e2 : x = some (.ref p) := by simpa using e1
      subst e2
      obtain ⟨z1, z2, z3⟩ := r.hat i p o h1
      exact ⟨_, y, q _ F H (.refl I.x.b) (.bor z1 z2 z3 r1)⟩
    | deep d => cases e
    | shp d n => cases e
    | shl ds n => cases e
    | rng n => cases e
    | exc a => cases e
theorem de_var (i : Nat) {x : Str} (hN : X.N[i]? = some x := by rfl) (hv : Vis X.env.scope x := by first | exact Or.inl rfl | exact Or.inr (Or.inl rfl) | exact Or.inr (Or.inr rfl)) (hd : (x == ("__debug__" : Str)) = false := by decide)
    (hcd : (x == ("__classdict__" : Str)) = false := by decide) : DE X (.Name x pos) (dVar i) := ⟨_, pe_var hN hv hd hcd, ref_var i⟩
theorem ref_c {v : V} {d : D} (h : ∀ F B, Rep g F (PB B true) d v) : Ref g (tC v) (dC d) := by
  intro F0 B F H σ Γ d' m Q I e q
  cases e
  exact q v F H (.refl I.x.b) (.frz (h F B))
theorem de_int {i j} : DE X (.Constant (.int i) j pos) (dC (.int i)) := ⟨_, pe_int, ref_c fun _ _ => .int i⟩
theorem de_bl {k j} : DE X (.Constant (.bool k) j pos) (dC (.bl k)) := ⟨_, pe_bl, ref_c fun _ _ => .bl k⟩
theorem de_non {j} : DE X (.Constant .none j pos) (dC .non) := ⟨_, pe_non, ref_c fun _ _ => .non⟩
theorem de_str {x j} : DE X (.Constant (.str x) j pos) (dC (.str x)) := ⟨_, pe_str, ref_c fun _ _ => .str x⟩
/-- a module's constant -/
theorem de_glob {x : Str} {v : V} {u : Value} {d : D} (hg : Gl X x) (hm : X.mg x = some u) (r : RelV v u) (h : ∀ F B, Rep (gX X) F (PB B true) d v) (hd : (x == ("__debug__" : Str)) = false := by decide) : DE X (.Name x pos) (dC d) :=
  ⟨_, pe_glob hg hm r hd, ref_c h⟩

/-! ### operators by values -/
abbrev F2 := D → Bool → D → Bool → Option (D × Md)
def VOp (g : Gc) (r : R2) (f : F2) : Prop := ∀ (B F H : Hp) (dx dy : D) (ax ay : Bool) (x y : V) (d : D) (m : Md) (Q : VK), Same F H → Same B H → Vw g F H (PB B ax) dx x → Vw g F H (PB B ay) dy y → f dx ax dy ay = some (d, m) →
  (∀ v F' H', Ext F H F' H' → Res g B H F' H' d v m → Q v H') → r x y H Q
@[simp] def dOp (f : F2) (fa fb : DenE) : DenE := fun Γ => (fa Γ).bind fun p => (fb Γ).bind fun q => f p.1 p.2.nw q.1 q.2.nw
theorem bind_some {α β : Type} {x : Option α} {f : α → Option β} {y : β} (h : x.bind f = some y) : ∃ a, x = some a ∧ f a = some y := by
  cases x with
  | none => cases h
  | some a => exact ⟨a, rfl, h⟩
theorem EnvR.sb {F0 B F H : Hp} {σ : St} {Γ : Ev} (I : EnvR g F0 B F H σ Γ) : Same B H := I.x.h
theorem ref_op {r : R2} {f : F2} {ta tb : TE} {fa fb : DenE} (hv : VOp g r f) (ha : Ref g ta fa) (hb : Ref g tb fb) : Ref g (tOp r ta tb) (dOp f fa fb) := by
  intro F0 B F H σ Γ d m Q I e q
  obtain ⟨⟨dx, mx⟩, e1, e⟩ := bind_some e
  obtain ⟨⟨dy, my⟩, e2, e⟩ := bind_some e
  refine ha F0 B F H σ Γ dx mx _ I e1 fun x F1 H1 X1 r1 => ?_
  refine hb F0 B F1 H1 σ Γ dy my _ (I.ext X1) e2 fun y F2 H2 X2 r2 => ?_
  exact hv B F2 H2 dx dy mx.nw my.nw x y d m Q X2.b ((I.ext X1).ext X2).sb ((r1.vw X1.b).ext X2) (r2.vw X2.b) e fun v F3 H3 X3 r3 => q v F3 H3 (X1.trans (X2.trans X3)) (r3.old (X1.h.trans X2.h))
theorem VOp.or {r r' : R2} {f f' : F2} (h : VOp g r f) (h' : VOp g r' f') : VOp g (fun x y H Q => r x y H Q ∨ r' x y H Q) (fun a m b n => (f a m b n).orElse fun _ => f' a m b n) := by
  intro B F H dx dy ax ay x y d m Q s sb vx vy e q
  have e : ((f dx ax dy ay).orElse fun _ => f' dx ax dy ay) = some (d, m) := e
  cases z : f dx ax dy ay with
  | some w => rw [z] at e; cases e; exact .inl (h B F H dx dy ax ay x y d m Q s sb vx vy z q)
  | none => rw [z] at e; exact .inr (h' B F H dx dy ax ay x y d m Q s sb vx vy e q)
/-- an operator's rule with its meaning over data -/
structure OpD (X : Cx) (op : Value → Value → Sem Value) (f : F2) : Prop where
  ex : ∃ r, OpR X op r ∧ VOp (gX X) r f
theorem OpD.imp {op : Value → Value → Sem Value} {f f' : F2} (h : OpD X op f) (i : ∀ a m b n r, f' a m b n = some r → f a m b n = some r) : OpD X op f' := by
  obtain ⟨r, h1, h2⟩ := h
  exact ⟨r, h1, fun B F H dx dy ax ay x y d m Q s sb vx vy e q => h2 B F H dx dy ax ay x y d m Q s sb vx vy (i _ _ _ _ _ e) q⟩
theorem OpD.or {op : Value → Value → Sem Value} {f f' : F2} (h : OpD X op f) (h' : OpD X op f') : OpD X op (fun a m b n => (f a m b n).orElse fun _ => f' a m b n) := by
  obtain ⟨r, h1, h2⟩ := h
  obtain ⟨r', h3, h4⟩ := h'
  exact ⟨_, h1.or h3, h2.or h4⟩
theorem de_op {op : Operator} {f : F2} {fa fb : DenE} (ho : OpD X (binaryOp op) f) (ha : DE X a fa) (hb : DE X b fb) : DE X (.BinOp a op b pos) (dOp f fa fb) := by
  obtain ⟨r, h1, h2⟩ := ho
  obtain ⟨ta, a1, a2⟩ := ha
  obtain ⟨tb, b1, b2⟩ := hb
  exact ⟨_, pe_op h1 a1 b1, ref_op h2 a2 b2⟩
theorem de_cmp {op : CmpOp} {f : F2} {fa fb : DenE} (ho : OpD X (compareOp op) f) (ha : DE X a fa) (hb : DE X b fb) (hm : behindInMarks op b = false := by first | exact nomark _ | rfl) : DE X (.Compare a [op] [b] pos) (dOp f fa fb) := by
  obtain ⟨r, h1, h2⟩ := ho
  obtain ⟨ta, a1, a2⟩ := ha
  obtain ⟨tb, b1, b2⟩ := hb
  exact ⟨_, pe_cmpR h1 a1 b1 hm, ref_op h2 a2 b2⟩

/-! ### tests -/
@[simp] def dTru (f : DenE) : DenT := fun Γ => (f Γ).bind fun p => p.1.truth
def D.isBl : D → Option Bool
  | .bl b => some b
  | _ => none
theorem ref_tTest {t : TE} {f : DenE} (h : Ref g t f) : RefT g (tTest t) (fun Γ => (f Γ).bind fun p => p.1.isBl) := by
  intro F0 B F H σ Γ k Q I e q
  obtain ⟨⟨d, m⟩, e1, e2⟩ := bind_some e
  cases d with
  | bl c =>
    cases e2
    refine h F0 B F H σ Γ _ m _ I e1 fun v F' H' X1 r => ?_
    have w := r.vw X1.b
    cases w
    exact ⟨k, rfl, q F' H' X1⟩
  | _ => cases e2
@[simp] def dB (f : DenE) : DenT := fun Γ => (f Γ).bind fun p => p.1.isBl
theorem dt_cmp {op : CmpOp} {f : F2} {fa fb : DenE} (ho : OpD X (compareOp op) f) (ha : DE X a fa) (hb : DE X b fb) (hm : behindInMarks op b = false := by first | exact nomark _ | rfl) : DT X (.Compare a [op] [b] pos) (dB (dOp f fa fb)) := by
  obtain ⟨r, h1, h2⟩ := ho
  obtain ⟨ta, a1, a2⟩ := ha
  obtain ⟨tb, b1, b2⟩ := hb
  exact ⟨_, pt_cmpR h1 a1 b1 hm, ref_tTest (ref_op h2 a2 b2)⟩
theorem dt_val {f : DenE} (h : DE X e f) (he : ∀ whole, isTrue e X.env whole = (do let v ← whole; standAt e.pos; holding [v] (truthy v)) := by intro _; rfl) : DT X e (dTru f) := by
  obtain ⟨te, h1, h2⟩ := h
  refine ⟨_, pt_truth h1 he, ?_⟩
  intro F0 B F H σ Γ k Q I e q
  obtain ⟨⟨d, m⟩, e1, e2⟩ := bind_some e
  exact h2 F0 B F H σ Γ d m _ I e1 fun v F' H' X1 r => ⟨k, (r.vw X1.b).tru e2, q F' H' X1⟩
@[simp] def dNot (f : DenT) : DenT := fun Γ => (f Γ).map not
theorem dt_not {f : DenT} (h : DT X a f) : DT X (.UnaryOp .Not a pos) (dNot f) := by
  obtain ⟨t, h1, h2⟩ := h
  refine ⟨_, pt_not h1, ?_⟩
  intro F0 B F H σ Γ k Q I e q
  unfold dNot at e
  cases z : f Γ with
  | none => rw [z] at e; cases e
  | some c => rw [z] at e; cases e; exact h2 F0 B F H σ Γ c _ I z q
def dAnd (f h : DenT) : DenT := fun Γ => (f Γ).bind fun c => if c = true then h Γ else some false
def dOr (f h : DenT) : DenT := fun Γ => (f Γ).bind fun c => if c = true then some true else h Γ
theorem dw_and1 {f : DenT} (h : DT X a f) : DW X (.BoolOp .And [a] pos) f := let ⟨t, h1, h2⟩ := h; ⟨t, pw_and1 h1, h2⟩
theorem dw_or1 {f : DenT} (h : DT X a f) : DW X (.BoolOp .Or [a] pos) f := let ⟨t, h1, h2⟩ := h; ⟨t, pw_or1 h1, h2⟩
theorem dw_and {f h : DenT} {rest : List Expr} (ha : DT X a f) (hb : DW X (.BoolOp .And (b :: rest) pos) h) : DW X (.BoolOp .And (a :: b :: rest) pos) (dAnd f h) := by
  obtain ⟨t, h1, h2⟩ := ha
  obtain ⟨u, h3, h4⟩ := hb
  refine ⟨_, pw_and h1 h3, ?_⟩
  intro F0 B F H σ Γ k Q I e q
  obtain ⟨c, e1, e2⟩ := bind_some e
  refine h2 F0 B F H σ Γ c _ I e1 fun F1 H1 X1 => ?_
  cases c with
  | true => exact h4 F0 B F1 H1 σ Γ k Q (I.ext X1) e2 fun F2 H2 X2 => q F2 H2 (X1.trans X2)
  | false => cases e2; exact q F1 H1 X1
theorem dw_or {f h : DenT} {rest : List Expr} (ha : DT X a f) (hb : DW X (.BoolOp .Or (b :: rest) pos) h) : DW X (.BoolOp .Or (a :: b :: rest) pos) (dOr f h) := by
  obtain ⟨t, h1, h2⟩ := ha
  obtain ⟨u, h3, h4⟩ := hb
  refine ⟨_, pw_or h1 h3, ?_⟩
  intro F0 B F H σ Γ k Q I e q
  obtain ⟨c, e1, e2⟩ := bind_some e
  refine h2 F0 B F H σ Γ c _ I e1 fun F1 H1 X1 => ?_
  cases c with
  | true => cases e2; exact q F1 H1 X1
  | false => exact h4 F0 B F1 H1 σ Γ k Q (I.ext X1) e2 fun F2 H2 X2 => q F2 H2 (X1.trans X2)
theorem DW.dt {f : DenT} (h : DW X e f) : DT X e f := let ⟨t, h1, h2⟩ := h; ⟨t, h1.pt, h2⟩

/-! ### and, or, not, if as values -/
@[simp] def dAndV (fa fb : DenE) : DenE := fun Γ => (fa Γ).bind fun p => (p.1.truth).bind fun c => if c = true then fb Γ else some p
@[simp] def dOrV (fa fb : DenE) : DenE := fun Γ => (fa Γ).bind fun p => (p.1.truth).bind fun c => if c = true then some p else fb Γ
theorem de_one {op} {f : DenE} (h : DE X a f) : DE X (.BoolOp op [a] pos) f := let ⟨t, h1, h2⟩ := h; ⟨t, pe_one h1, h2⟩
theorem de_and {fa fb : DenE} {rest : List Expr} (ha : DE X a fa) (hb : DE X (.BoolOp .And (b :: rest) pos) fb) : DE X (.BoolOp .And (a :: b :: rest) pos) (dAndV fa fb) := by
  obtain ⟨t, h1, h2⟩ := ha
  obtain ⟨u, h3, h4⟩ := hb
  refine ⟨_, pe_andT h1 h3, ?_⟩
  intro F0 B F H σ Γ d m Q I e q
  obtain ⟨⟨dx, mx⟩, e1, e⟩ := bind_some e
  obtain ⟨c, e2, e3⟩ := bind_some e
  refine h2 F0 B F H σ Γ dx mx _ I e1 fun v F1 H1 X1 r1 => ⟨c, (r1.vw X1.b).tru e2, ?_⟩
  cases c with
  | true => exact h4 F0 B F1 H1 σ Γ d m Q (I.ext X1) e3 fun w F2 H2 X2 r2 => q w F2 H2 (X1.trans X2) (r2.old X1.h)
  | false => cases e3; exact q v F1 H1 X1 r1
theorem de_or {fa fb : DenE} {rest : List Expr} (ha : DE X a fa) (hb : DE X (.BoolOp .Or (b :: rest) pos) fb) : DE X (.BoolOp .Or (a :: b :: rest) pos) (dOrV fa fb) := by
  obtain ⟨t, h1, h2⟩ := ha
  obtain ⟨u, h3, h4⟩ := hb
  refine ⟨_, pe_orT h1 h3, ?_⟩
  intro F0 B F H σ Γ d m Q I e q
  obtain ⟨⟨dx, mx⟩, e1, e⟩ := bind_some e
  obtain ⟨c, e2, e3⟩ := bind_some e
  refine h2 F0 B F H σ Γ dx mx _ I e1 fun v F1 H1 X1 r1 => ⟨c, (r1.vw X1.b).tru e2, ?_⟩
  cases c with
  | true => cases e3; exact q v F1 H1 X1 r1
  | false => exact h4 F0 B F1 H1 σ Γ d m Q (I.ext X1) e3 fun w F2 H2 X2 r2 => q w F2 H2 (X1.trans X2) (r2.old X1.h)
@[simp] def dNotV (f : DenE) : DenE := fun Γ => (f Γ).bind fun p => (p.1.truth).map fun c => (.bl (!c), .frz true)
theorem de_not {f : DenE} (h : DE X a f) : DE X (.UnaryOp .Not a pos) (dNotV f) := by
  obtain ⟨t, h1, h2⟩ := h
  refine ⟨_, pe_notT h1, ?_⟩
  intro F0 B F H σ Γ d m Q I e q
  obtain ⟨⟨dx, mx⟩, e1, e⟩ := bind_some e
  cases z : dx.truth with
  | none => simp only [z] at e; cases e
  | some c =>
    simp only [z] at e
    cases e
    exact h2 F0 B F H σ Γ dx mx _ I e1 fun v F1 H1 X1 r1 => ⟨c, (r1.vw X1.b).tru z, q _ F1 H1 X1 (.frz (.bl _))⟩
def dIfE (t : DenT) (fa fb : DenE) : DenE := fun Γ => (t Γ).bind fun c => if c = true then fa Γ else fb Γ
theorem de_if {t : DenT} {fa fb : DenE} (ht : DT X c t) (ha : DE X a fa) (hb : DE X b fb) : DE X (.IfExp c a b pos) (dIfE t fa fb) := by
  obtain ⟨t, h1, h2⟩ := ht
  obtain ⟨u, h3, h4⟩ := ha
  obtain ⟨w, h5, h6⟩ := hb
  refine ⟨_, pe_ifExp h1 h3 h5, ?_⟩
  intro F0 B F H σ Γ d m Q I e q
  obtain ⟨c, e1, e2⟩ := bind_some e
  refine h2 F0 B F H σ Γ c _ I e1 fun F1 H1 X1 => ?_
  cases c with
  | true => exact h4 F0 B F1 H1 σ Γ d m Q (I.ext X1) e2 fun w F2 H2 X2 r2 => q w F2 H2 (X1.trans X2) (r2.old X1.h)
  | false => exact h6 F0 B F1 H1 σ Γ d m Q (I.ext X1) e2 fun w F2 H2 X2 r2 => q w F2 H2 (X1.trans X2) (r2.old X1.h)

/-! ### a flat answer: meanwhile all slots may be taken as frozen -/
def D.flat : D → Bool
  | .non => true | .bl _ => true | .int _ => true | .str _ => true
  | _ => false
@[simp] def dSc (f : DenE) : DenE := fun Γ => (f (frzAll Γ)).bind fun p => if p.1.flat = true then some (p.1, .frz true) else none
theorem ref_sc {t : TE} {f : DenE} (h : Ref g t f) : Ref g t (dSc f) := by
  intro F0 B F H σ Γ d m Q I e q
  obtain ⟨⟨dx, mx⟩, e1, e⟩ := bind_some e
  by_cases c : dx.flat = true
  · simp only [c, if_true] at e
    cases e
    obtain ⟨F1, s1, I1⟩ := I.frzAll
    refine h F0 B F1 H σ _ _ mx _ I1 e1 fun v F2 H2 X2 r2 => q v F H2 ⟨.refl _, X2.h, I.x.b.trans X2.h, fun a h1 _ => h1⟩ ?_
    have w := r2.vw X2.b
    cases w <;> first | exact .frz .non | exact .frz (.bl _) | exact .frz (.int _) | exact .frz (.str _) | cases c
  · simp only [c] at e
    cases e
theorem de_sc {f : DenE} (h : DE X e f) : DE X e (dSc f) := let ⟨t, h1, h2⟩ := h; ⟨t, h1, ref_sc h2⟩
@[simp] def dScT (f : DenT) : DenT := fun Γ => f (frzAll Γ)
theorem dt_sc {f : DenT} (h : DT X e f) : DT X e (dScT f) := by
  obtain ⟨t, h1, h2⟩ := h
  refine ⟨t, h1, ?_⟩
  intro F0 B F H σ Γ b Q I e q
  obtain ⟨F1, s1, I1⟩ := I.frzAll
  exact h2 F0 B F1 H σ _ b _ I1 e fun F2 H2 X2 => q F H2 ⟨.refl _, X2.h, I.x.b.trans X2.h, fun a h1 _ => h1⟩

/-! ### argument lists: embedded, or viewed -/
@[simp] def dANil : DenA := fun _ => some ([], true)
def emb (p : D × Md) : Option (D × Bool) := match p.2 with
  | .bor _ => none
  | m => some (p.1, m.nw)
@[simp] def dACons (f : DenE) (r : DenA) : DenA := fun Γ => ((f Γ).bind emb).bind fun p => (r Γ).bind fun q => some (p.1 :: q.1, p.2 && q.2)
theorem emb_some {p : D × Md} {q : D × Bool} (h : emb p = some q) : (∀ n, p.2 ≠ .bor n) ∧ q = (p.1, p.2.nw) := by
  obtain ⟨d, m⟩ := p
  cases m with
  | frz n => cases h; exact ⟨fun _ z => (nomatch z), rfl⟩
  | new n => cases h; exact ⟨fun _ z => (nomatch z), rfl⟩
  | bor n => cases h
/-- an embedded evaluation -/
theorem ref_emb {t : TE} {f : DenE} (h : Ref g t f) {F0 B F H : Hp} {σ : St} {Γ : Ev} {d : D} {nw : Bool} {Q : VK} (I : EnvR g F0 B F H σ Γ) (e : (f Γ).bind emb = some (d, nw))
    (q : ∀ v F' H', Ext F H F' H' → Rep g F' (PB B nw) d v → Q v H') : t σ H Q := by
  obtain ⟨⟨dx, mx⟩, e1, e2⟩ := bind_some e
  obtain ⟨hm, e3⟩ := emb_some e2
  cases e3
  refine h F0 B F H σ Γ _ mx _ I e1 fun v F1 H1 X1 r1 => ?_
  obtain ⟨F2, X2, _, r2⟩ := r1.embed X1 hm
  exact q v F2 H1 X2 r2
theorem ref_anil : RefA g tNil dANil := by
  intro F0 B F H σ Γ ds nw Q I e q
  cases e
  exact q [] F H (.refl I.x.b) .nil
theorem ref_acons {t : TE} {u : TA} {f : DenE} {r : DenA} (h : Ref g t f) (h' : RefA g u r) : RefA g (tCons t u) (dACons f r) := by
  intro F0 B F H σ Γ ds nw Q I e q
  obtain ⟨⟨d, n1⟩, e1, e⟩ := bind_some e
  obtain ⟨⟨ds', n2⟩, e2, e3⟩ := bind_some e
  cases e3
  refine ref_emb h I e1 fun v F1 H1 X1 r1 => ?_
  exact h' F0 B F1 H1 σ Γ ds' n2 _ (I.ext X1) e2 fun vs F2 H2 X2 r2 => q (v :: vs) F2 H2 (X1.trans X2) (.cons (r1.mono X2.f fun _ z => z.and) (r2.mono (.refl _) fun _ z => z.and'))
theorem da_nil : DA X [] dANil := ⟨_, pa_nil, ref_anil⟩
theorem da_cons {es : List Expr} {f : DenE} {r : DenA} (h : DE X e f) (h' : DA X es r) (hs : starEach (e :: es) X.env = (false, eval e X.env) :: starEach es X.env := by rfl) : DA X (e :: es) (dACons f r) := by
  obtain ⟨t, h1, h2⟩ := h
  obtain ⟨u, h3, h4⟩ := h'
  exact ⟨_, pa_cons h1 h3 hs, ref_acons h2 h4⟩
inductive Vws (g : Gc) (F H B : Hp) : List (D × Bool) → List V → Prop
  | nil : Vws g F H B [] []
  | cons {d : D} {n : Bool} {v : V} {ds : List (D × Bool)} {vs : List V} : Vw g F H (PB B n) d v → Vws g F H B ds vs → Vws g F H B ((d, n) :: ds) (v :: vs)
abbrev DenV := Ev → Option (List (D × Bool))
def RefV (g : Gc) (ta : TA) (f : DenV) : Prop := ∀ (F0 B F H : Hp) (σ : St) (Γ : Ev) (ds : List (D × Bool)) (Q : List V → Hp → Prop), EnvR g F0 B F H σ Γ → f Γ = some ds →
  (∀ vs F' H', Ext F H F' H' → Vws g F' H' B ds vs → Q vs H') → ta σ H Q
structure DV (X : Cx) (es : List Expr) (f : DenV) : Prop where
  ex : ∃ ta, PA X es ta ∧ RefV (gX X) ta f
@[simp] def dVNil : DenV := fun _ => some []
@[simp] def dVCons (f : DenE) (r : DenV) : DenV := fun Γ => (f Γ).bind fun p => (r Γ).bind fun q => some ((p.1, p.2.nw) :: q)
theorem dv_nil : DV X [] dVNil := ⟨_, pa_nil, by
  intro F0 B F H σ Γ ds Q I e q
  cases e
  exact q [] F H (.refl I.x.b) .nil⟩
theorem dv_cons {es : List Expr} {f : DenE} {r : DenV} (h : DE X e f) (h' : DV X es r) (hs : starEach (e :: es) X.env = (false, eval e X.env) :: starEach es X.env := by rfl) : DV X (e :: es) (dVCons f r) := by
  obtain ⟨t, h1, h2⟩ := h
  obtain ⟨u, h3, h4⟩ := h'
  refine ⟨_, pa_cons h1 h3 hs, ?_⟩
  intro F0 B F H σ Γ ds Q I e q
  obtain ⟨⟨d, m⟩, e1, e⟩ := bind_some e
  obtain ⟨ds', e2, e3⟩ := bind_some e
  cases e3
  refine h2 F0 B F H σ Γ d m _ I e1 fun v F1 H1 X1 r1 => ?_
  exact h4 F0 B F1 H1 σ Γ ds' _ (I.ext X1) e2 fun vs F2 H2 X2 r2 => q (v :: vs) F2 H2 (X1.trans X2) (.cons ((r1.vw X1.b).ext X2) r2)

/-! ### displays -/
@[simp] def dTup (r : DenA) : DenE := fun Γ => (r Γ).bind fun p => if p.1.length ≤ sizeLine then some (.tup p.1, .frz p.2) else none
@[simp] def dLst (r : DenA) : DenE := fun Γ => (r Γ).bind fun p => if p.1.length ≤ sizeLine then some (.lst p.1, .new p.2) else none
theorem de_tup {es : List Expr} {r : DenA} {x1} (h : DA X es r) : DE X (.Tuple es x1 pos) (dTup r) := by
  obtain ⟨t, h1, h2⟩ := h
  refine ⟨_, pe_tup h1, ?_⟩
  intro F0 B F H σ Γ d m Q I e q
  obtain ⟨⟨ds, n⟩, e1, e⟩ := bind_some e
  by_cases c : ds.length ≤ sizeLine
  · simp only [c, if_true] at e
    cases e
    refine h2 F0 B F H σ Γ ds n _ I e1 fun vs F1 H1 X1 r1 => ⟨by rw [← r1.length]; exact c, fun p hp => ?_⟩
    refine q _ _ _ (X1.trans (Ext.both (o := .tup vs) X1.b hp)) (.frz (.tup (.inl (.inl upd_same)) (r1.mono (same_upd (X1.b.free hp)) fun _ z => z)))
  · simp only [c] at e
    cases e
theorem de_lst {es : List Expr} {r : DenA} (h : DA X es r) : DE X (.List es pos) (dLst r) := by
  obtain ⟨t, h1, h2⟩ := h
  refine ⟨_, pe_lst h1, ?_⟩
  intro F0 B F H σ Γ d m Q I e q
  obtain ⟨⟨ds, n⟩, e1, e⟩ := bind_some e
  by_cases c : ds.length ≤ sizeLine
  · simp only [c, if_true] at e
    cases e
    refine h2 F0 B F H σ Γ ds n _ I e1 fun vs F1 H1 X1 r1 => ⟨by rw [← r1.length]; exact c, fun p hp => ?_⟩
    refine q _ _ _ (X1.trans (Ext.hi (o := .lst vs) X1.b hp)) (.new (X1.b.free hp) (X1.h.free hp) ((I.ext X1).sb.free hp) upd_same (.lst r1))
  · simp only [c] at e
    cases e
end
end Dn
namespace Dn
open PySem PySem.Spec L2
open PyProof.Rows hiding St

/-! ### statements -/
section
variable {g : Gc} {X : Cx} {e a b c : Expr} {pos : Pos} {st : Stmt} {rest : List Stmt}
@[simp] def dSkip : DenS := fun Γ => .nx Γ
def dSeq (f h : DenS) : DenS := fun Γ => match f Γ with
  | .nx Γ' => h Γ'
  | o => o
theorem ds_nil : DSs X [] dSkip := ⟨_, pss_nil, fun F0 B F H σ Γ E I q => q σ F H I (.refl _)⟩
theorem ds_cons {f h : DenS} (h1 : DS X st f) (h2 : DSs X rest h) : DSs X (st :: rest) (dSeq f h) := by
  obtain ⟨t, a1, a2⟩ := h1
  obtain ⟨u, b1, b2⟩ := h2
  refine ⟨_, pss_cons a1 b1, ?_⟩
  intro F0 B F H σ Γ E I q
  refine a2 F0 B F H σ Γ _ I ?_
  unfold dSeq at q
  cases z : f Γ with
  | nx Γ' => rw [z] at q; exact fun σ' F' H' I' s => b2 F0 B F' H' σ' Γ' E I' (q.mono s)
  | bk Γ' => rw [z] at q; exact q
  | ct Γ' => rw [z] at q; exact q
  | rt d m => rw [z] at q; exact q
  | no => rw [z] at q; exact q.elim
theorem ds_one {f : DenS} (h1 : DS X st f) : DSs X [st] f := by
  obtain ⟨t, a1, a2⟩ := h1
  exact ⟨_, pss_one a1, a2⟩
@[simp] def dBrk : DenS := fun Γ => .bk Γ
@[simp] def dCnt : DenS := fun Γ => .ct Γ
theorem ds_pass : DS X (.Pass pos) dSkip := ⟨_, ps_pass, fun F0 B F H σ Γ E I q => q σ F H I (.refl _)⟩
theorem ds_break : DS X (.Break pos) dBrk := ⟨_, ps_break, fun F0 B F H σ Γ E I q => q σ F H I (.refl _)⟩
theorem ds_continue : DS X (.Continue pos) dCnt := ⟨_, ps_continue, fun F0 B F H σ Γ E I q => q σ F H I (.refl _)⟩
def dExp (f : DenE) : DenS := fun Γ => match f Γ with
  | some _ => .nx Γ
  | none => .no
theorem ds_expr {f : DenE} (h : DE X e f) (hs : swapsWith e none pos.line X.env = pure false := by rfl) : DS X (.Expr e pos) (dExp f) := by
  obtain ⟨t, h1, h2⟩ := h
  refine ⟨_, ps_expr h1 hs, ?_⟩
  intro F0 B F H σ Γ E I q
  unfold dExp at q
  cases z : f Γ with
  | none => rw [z] at q; exact q.elim
  | some p =>
    rw [z] at q
    exact h2 F0 B F H σ Γ p.1 p.2 _ I z fun v F' H' X1 r => q σ F' H' (I.ext X1) X1.f
def dRet (f : DenE) : DenS := fun Γ => match f Γ with
  | some (d, .bor _) => .rt d (.new false)
  | some (d, m) => .rt d m.wk
  | none => .no
theorem ds_ret {f : DenE} (h : DE X e f) : DS X (.Return (some e) pos) (dRet f) := by
  obtain ⟨t, h1, h2⟩ := h
  refine ⟨_, ps_ret h1, ?_⟩
  intro F0 B F H σ Γ E I q
  unfold dRet at q
  cases z : f Γ with
  | none => rw [z] at q; exact q.elim
  | some p =>
    obtain ⟨d, m⟩ := p
    rw [z] at q
    refine h2 F0 B F H σ Γ d m _ I z fun v F' H' X1 r => ?_
    cases r with
    | frz r => exact q v F' H' (I.x.trans X1) (.frz (r.mono (.refl _) wkP))
    | new z1 z2 z3 z4 z5 => exact q _ F' H' (I.x.trans X1) (.new z1 z3 z3 z4 (z5.mono (.refl _) wkP))
    | bor z1 z3 z4 z5 => exact q _ F' H' (I.x.trans X1) (.new z1 z3 z3 z4 (z5.mono (.refl _) wkP))
def dRetN : DenS := fun _ => .rt .non (.frz false)
theorem ds_retN : DS X (.Return none pos) dRetN := ⟨_, ps_retN, fun F0 B F H σ Γ E I q => q .non F H I.x (.frz .non)⟩
def dIf (t : DenT) (f h : DenS) : DenS := fun Γ => match t Γ with
  | some true => f Γ
  | some false => h Γ
  | none => .no
theorem ds_if {sa sb : List Stmt} {t : DenT} {f h : DenS} (ht : DT X c t) (ha : DSs X sa f) (hb : DSs X sb h) : DS X (.If c sa sb pos) (dIf t f h) := by
  obtain ⟨u, h1, h2⟩ := ht
  obtain ⟨ua, h3, h4⟩ := ha
  obtain ⟨ub, h5, h6⟩ := hb
  refine ⟨_, ps_if h1 h3 h5, ?_⟩
  intro F0 B F H σ Γ E I q
  unfold dIf at q
  cases z : t Γ with
  | none => rw [z] at q; exact q.elim
  | some k =>
    rw [z] at q
    refine h2 F0 B F H σ Γ k _ I z fun F1 H1 X1 => ?_
    cases k with
    | true => exact h4 F0 B F1 H1 σ Γ E (I.ext X1) (q.mono X1.f)
    | false => exact h6 F0 B F1 H1 σ Γ E (I.ext X1) (q.mono X1.f)

/-! ### ghosts: forgetting behind, freezing ahead -/
def dFgt (is : List Nat) (f : DenS) : DenS := fun Γ => match f Γ with
  | .nx Γ' => .nx (forget is Γ')
  | .ct Γ' => .ct (forget is Γ')
  | o => o
theorem refS_fgt {ts : TS} {f : DenS} (is : List Nat) (h : RefS g ts f) : RefS g ts (dFgt is f) := by
  intro F0 B F H σ Γ E I q
  refine h F0 B F H σ Γ E I ?_
  unfold dFgt at q
  cases z : f Γ with
  | nx Γ' => rw [z] at q; exact fun σ' F' H' I' s => q σ' F' H' (I'.forget is) s
  | ct Γ' => rw [z] at q; exact fun σ' F' H' I' s => q σ' F' H' (I'.forget is) s
  | bk Γ' => rw [z] at q; exact q
  | rt d m => rw [z] at q; exact q
  | no => rw [z] at q; exact q.elim
theorem ds_fgt {f : DenS} (is : List Nat) (h : DS X st f) : DS X st (dFgt is f) := let ⟨t, h1, h2⟩ := h; ⟨t, h1, refS_fgt is h2⟩
theorem dss_fgt {sts : List Stmt} {f : DenS} (is : List Nat) (h : DSs X sts f) : DSs X sts (dFgt is f) := let ⟨t, h1, h2⟩ := h; ⟨t, h1, refS_fgt is h2⟩
/-- one slot frozen -/
@[simp] def frzI (i : Nat) (Γ : Ev) : Ev := Γ.modify i frzS
theorem EnvR.frzI {F0 B F H : Hp} {σ : St} {Γ : Ev} (I : EnvR g F0 B F H σ Γ) (i : Nat) : ∃ F1, Same F F1 ∧ EnvR g F0 B F1 H σ (frzI i Γ) := by
  obtain ⟨R, q, s⟩ := I.reg
  have f1 : Same F (join F (R i)) := join_left
  have hb : Same (join F (R i)) H := fun a o e => by
    cases z : F a with
    | some u => rw [join_left a u z] at e; cases e; exact I.x.b _ _ z
    | none => rw [join_right z] at e; exact (q.hat i a o e).2.2
  have hk : ∀ a, F a = none → B a ≠ none → join F (R i) a = none := fun a h1 h2 => by
    refine join_none h1 ?_
    cases z : R i a with
    | none => rfl
    | some u => exact absurd (q.hat i a u z).2.1 h2
  refine ⟨join F (R i), f1, ⟨I.x.f.trans f1, I.x.h, hb, fun a h1 h2 => hk a (I.x.k a h1 h2) h2⟩, by unfold Dn.frzI; rw [List.length_modify]; exact I.len,
    fun j => if j = i then (fun _ => none) else R j, ⟨fun j a o e => ?_, fun j k a e1 e2 => ?_⟩, fun j sl e => ?_⟩
  · by_cases hj : j = i
    · simp only [hj, if_true] at e; cases e
    · simp only [if_neg hj] at e
      obtain ⟨z1, z2, z3⟩ := q.hat j a o e
      refine ⟨join_none z1 ?_, z2, z3⟩
      cases z : R i a with
      | none => rfl
      | some u => exact absurd (q.ne j i a (some_ne e) (some_ne z)) hj
  · by_cases hj : j = i
    · simp only [hj, if_true] at e1; exact absurd rfl e1
    · by_cases hk : k = i
      · simp only [hk, if_true] at e2; exact absurd rfl e2
      · simp only [if_neg hj] at e1
        simp only [if_neg hk] at e2
        exact q.ne j k a e1 e2
  · unfold Dn.frzI at e
    by_cases hj : i = j
    · subst hj
      rw [List.getElem?_modify_eq] at e
      cases z : Γ[i]? with
      | none => rw [z] at e; cases e
      | some t =>
        rw [z] at e
        have e := Option.some.inj e
        subst e
        have h := s i t z
        cases t with
        | no => trivial
        | val d nw => obtain ⟨v, e, r⟩ := h; exact ⟨v, e, r.mono f1 fun _ q => q⟩
        | own d nw =>
          obtain ⟨p, o, e, h1, r⟩ := h
          refine ⟨.ref p, e, ?_⟩
          have hp := q.hat i p o h1
          refine (r.rep hp.1 fun _ => hp.2.1).mono (fun a u e' => ?_) fun _ q => q
          by_cases ha : a = p
          · subst ha; rw [upd_same] at e'; cases e'; rw [join_right hp.1]; exact h1
          · rw [upd_ne ha] at e'; exact f1 _ _ e'
        | shp d n => trivial
        | shl ds n => trivial
        | rng n => obtain ⟨p, e, r⟩ := h; exact ⟨p, e, f1 _ _ r⟩
        | exc a => exact h
        | deep d =>
          obtain ⟨v, e, r⟩ := h
          refine ⟨v, e, r.mono (.refl _) fun a ha _ => ?_⟩
          cases y : R i a with
          | none => exact absurd y ha
          | some u => exact (q.hat i a u y).2.1
    · rw [List.getElem?_modify_ne _ _ hj] at e
      show SlotR g B _ (if j = i then _ else R j) _ _
      rw [if_neg (Ne.symm hj)]
      have h := s j sl e
      cases sl with
      | no => trivial
      | val d nw => obtain ⟨v, e, r⟩ := h; exact ⟨v, e, r.mono f1 fun _ q => q⟩
      | own d nw => obtain ⟨p, o, e, h1, r⟩ := h; exact ⟨p, o, e, h1, r.mono f1 fun _ q => q⟩
      | rng n => obtain ⟨p, e, r⟩ := h; exact ⟨p, e, f1 _ _ r⟩
      | exc a => exact h
      | shl ds n => exact h
      | shp d n =>
        obtain ⟨v, e, r⟩ := h
        refine ⟨v, e, r.mono (fun a o e' => ?_) (fun _ q => q) (Nat.le_refl _)⟩
        cases y : F a with
        | some w => rw [join_left a w y] at e'; rw [join_left a w (f1 a w y)]; exact e'
        | none =>
          rw [join_right y] at e'
          have hn : join F (R i) a = none := join_none y (by
            cases z : R i a with
            | none => rfl
            | some u => exact absurd (q.ne j i a (some_ne e') (some_ne z)) (Ne.symm hj))
          rw [join_right hn]; exact e'
      | deep d =>
        obtain ⟨v, e, r⟩ := h
        refine ⟨v, e, r.mono (fun a o e' => ?_) fun _ q => q⟩
        cases y : F a with
        | some w => rw [join_left a w y] at e'; rw [join_left a w (f1 a w y)]; exact e'
        | none =>
          rw [join_right y] at e'
          have hn : join F (R i) a = none := join_none y (by
            cases z : R i a with
            | none => rfl
            | some u => exact absurd (q.ne j i a (some_ne e') (some_ne z)) (Ne.symm hj))
          rw [join_right hn]; exact e'
@[simp] def dFrz (is : List Nat) (f : DenS) : DenS := fun Γ => f (is.foldl (fun Γ i => frzI i Γ) Γ)
theorem frzI_fold {F0 B : Hp} {σ : St} : ∀ (is : List Nat) {F H : Hp} {Γ : Ev}, EnvR g F0 B F H σ Γ → ∃ F1, Same F F1 ∧ EnvR g F0 B F1 H σ (is.foldl (fun Γ i => Dn.frzI i Γ) Γ)
  | [], F, H, Γ, I => ⟨F, .refl _, I⟩
  | i :: is, F, H, Γ, I => by
    obtain ⟨F1, s1, I1⟩ := I.frzI i
    obtain ⟨F2, s2, I2⟩ := frzI_fold is I1
    exact ⟨F2, s1.trans s2, I2⟩
theorem ds_frz {f : DenS} (is : List Nat) (h : DS X st f) : DS X st (dFrz is f) := by
  obtain ⟨t, h1, h2⟩ := h
  refine ⟨t, h1, fun F0 B F H σ Γ E I q => ?_⟩
  obtain ⟨F1, s1, I1⟩ := frzI_fold is I
  exact h2 F0 B F1 H σ _ E I1 (q.mono s1)

/-! ### targets -/
inductive Tg where
  | nm (i : Nat) | tp (ts : List Tg)
mutual
def Tg.slots : Tg → List Nat
  | .nm i => [i]
  | .tp ts => Tg.slotss ts
def Tg.slotss : List Tg → List Nat
  | [] => []
  | t :: ts => t.slots ++ Tg.slotss ts
end
mutual
def asg : Tg → D → Bool → Ev → Option Ev
  | .nm i, d, n, Γ => some (Γ.set i (.val d n))
  | .tp ts, .tup ds, n, Γ => asgs ts ds n Γ
  | .tp _, _, _, _ => none
def asgs : List Tg → List D → Bool → Ev → Option Ev
  | [], [], _, Γ => some Γ
  | t :: ts, d :: ds, n, Γ => (asg t d n Γ).bind (asgs ts ds n)
  | _, _, _, _ => none
end
def RefG (g : Gc) (tg : TG) (t : Tg) : Prop := ∀ (F0 B F H : Hp) (σ : St) (Γ : Ev) (d : D) (nw : Bool) (v : V) (Γ' : Ev) (Q : St → Hp → Prop), EnvR g F0 B F H σ Γ → Rep g F (PB B nw) d v → asg t d nw Γ = some Γ' →
  (∀ σ', EnvR g F0 B F H σ' Γ' → (∀ j, j ∉ t.slots → σ'[j]? = σ[j]?) → Q σ' H) → tg v σ H Q
def RefGs (g : Gc) (tg : TGs) (ts : List Tg) : Prop := ∀ (F0 B F H : Hp) (σ : St) (Γ : Ev) (ds : List D) (nw : Bool) (vs : List V) (Γ' : Ev) (Q : St → Hp → Prop), EnvR g F0 B F H σ Γ → Reps g F (PB B nw) ds vs → asgs ts ds nw Γ = some Γ' →
  (∀ σ', EnvR g F0 B F H σ' Γ' → (∀ j, j ∉ Tg.slotss ts → σ'[j]? = σ[j]?) → Q σ' H) → tg vs σ H Q
structure DG (X : Cx) (e : Expr) (t : Tg) : Prop where
  ex : ∃ tg, PG X e tg ∧ RefG (gX X) tg t
structure DGs (X : Cx) (es : List Expr) (ts : List Tg) : Prop where
  ex : ∃ tg, PGs X es tg ∧ RefGs (gX X) tg ts
theorem refG_nm (i : Nat) : RefG g (gName i) (.nm i) := by
  intro F0 B F H σ Γ d nw v Γ' Q I r e q
  unfold asg at e
  cases e
  refine q _ (I.set r) fun j hj => ?_
  have : i ≠ j := fun z => hj (by unfold Tg.slots; rw [z]; exact List.mem_singleton.mpr rfl)
  rw [List.getElem?_set_ne this]
theorem dg_nm (i : Nat) {x : Str} (hN : X.N.Nodup) (hi : X.N[i]? = some x := by rfl) (hx : Loc X.env.scope x := by first | exact Or.inl rfl | exact Or.inr rfl) (hf : X.fn x = true ∨ X.env.scope.names.lookup x = some .local := by first | exact .inl rfl | exact .inr rfl) :
    DG X (.Name x pos) (.nm i) := ⟨_, pg_name hN hi hx hf, refG_nm i⟩
theorem dgs_nil : DGs X [] [] := by
  refine ⟨_, pgs_nil, ?_⟩
  intro F0 B F H σ Γ ds nw vs Γ' Q I r e q
  cases r with
  | nil => unfold asgs at e; cases e; exact ⟨rfl, q σ I fun _ _ => rfl⟩
  | cons _ _ => unfold asgs at e; cases e
theorem dgs_cons {es : List Expr} {t : Tg} {ts : List Tg} (h : DG X e t) (h' : DGs X es ts) (hs : (assignEach (e :: es) X.env).map (·.2) = assign e X.env :: (assignEach es X.env).map (·.2) := by rfl) : DGs X (e :: es) (t :: ts) := by
  obtain ⟨u, h1, h2⟩ := h
  obtain ⟨w, h3, h4⟩ := h'
  refine ⟨_, pgs_cons h1 h3 hs, ?_⟩
  intro F0 B F H σ Γ ds nw vs Γ' Q I r e q
  cases r with
  | nil => unfold asgs at e; cases e
  | @cons d v ds vs r1 r2 =>
    unfold asgs at e
    obtain ⟨Γ1, e1, e2⟩ := bind_some e
    refine ⟨v, vs, rfl, h2 F0 B F H σ Γ d nw v Γ1 _ I r1 e1 fun σ1 I1 k1 => ?_⟩
    refine h4 F0 B F H σ1 Γ1 ds nw vs Γ' Q I1 r2 e2 fun σ2 I2 k2 => q σ2 I2 fun j hj => ?_
    unfold Tg.slotss at hj
    rw [k2 j fun z => hj (List.mem_append_right _ z), k1 j fun z => hj (List.mem_append_left _ z)]
theorem asgs_len : ∀ {ts : List Tg} {ds : List D} {n : Bool} {Γ Γ' : Ev}, asgs ts ds n Γ = some Γ' → ds.length = ts.length
  | [], [], _, _, _, _ => rfl
  | _ :: ts, _ :: ds, _, _, _, e => by
    unfold asgs at e
    obtain ⟨_, _, e2⟩ := bind_some e
    rw [List.length_cons, List.length_cons, asgs_len e2]
  | [], _ :: _, _, _, _, e => by unfold asgs at e; cases e
  | _ :: _, [], _, _, _, e => by unfold asgs at e; cases e
theorem dg_tp {es : List Expr} {k : Nat} {ts : List Tg} (hc : X.calm = true) (h : DGs X es ts) (hn : (assignEach es X.env).length = ts.length := by rfl) (hst : (assignEach es X.env).findIdx? (·.1) = none := by rfl) : DG X (.Tuple es k pos) (.tp ts) := by
  obtain ⟨w, h3, h4⟩ := h
  refine ⟨_, pg_tup (n := ts.length) hc h3 hn hst, ?_⟩
  intro F0 B F H σ Γ d nw v Γ' Q I r e q
  cases r with
  | @tup a vs ds hs rs =>
    unfold asg at e
    refine ⟨a, vs, rfl, sameT I.x.b hs, by rw [← rs.length]; exact asgs_len e, ?_⟩
    exact h4 F0 B F H σ Γ ds nw vs Γ' Q I rs e fun σ1 I1 k1 => q σ1 I1 fun j hj => k1 j fun z => hj (by unfold Tg.slots; exact z)
  | _ => unfold asg at e; cases e
end
end Dn
namespace Dn
open PySem PySem.Spec L2
open PyProof.Rows hiding St

section
variable {g : Gc} {X : Cx} {e a b c : Expr} {pos : Pos} {st : Stmt} {rest : List Stmt}

/-! ### assignments -/
def dSet (i : Nat) (f : DenE) : DenS := fun Γ => match f Γ with
  | some (d, .frz _) => .nx (Γ.set i (.val d false))
  | some (d, .new _) => .nx (Γ.set i (.own d false))
  | _ => .no
theorem refS_set {i : Nat} {t : TE} {f : DenE} (h : Ref g t f) : RefS g (tAsg t (gName i)) (dSet i f) := by
  intro F0 B F H σ Γ E I q
  unfold dSet at q
  cases z : f Γ with
  | none => rw [z] at q; exact q.elim
  | some p =>
    obtain ⟨d, m⟩ := p
    rw [z] at q
    refine h F0 B F H σ Γ d m _ I z fun v F1 H1 X1 r1 => ?_
    cases m with
    | frz n =>
      cases r1 with
      | frz r1 => exact q _ F1 H1 ((I.ext X1).set (r1.mono (.refl _) wkP)) X1.f
    | new n => exact q _ F1 H1 (I.setNew X1 r1.wk) X1.f
    | bor n => exact q.elim
theorem ds_set (i : Nat) {x : Str} {pos' : Pos} {f : DenE} (hN : X.N.Nodup) (he : DE X e f) (hi : X.N[i]? = some x := by rfl) (hx : Loc X.env.scope x := by first | exact Or.inl rfl | exact Or.inr rfl) (hs : swapsWith e (some (.Name x pos')) pos.line X.env = pure false := by rfl)
    (hf : X.fn x = true ∨ X.env.scope.names.lookup x = some .local := by first | exact .inl rfl | exact .inr rfl) : DS X (.Assign [.Name x pos'] e pos) (dSet i f) := by
  obtain ⟨t, h1, h2⟩ := he
  exact ⟨_, ps_set hN hi hx h1 hs hf, refS_set h2⟩
def dAsg (t : Tg) (f : DenE) : DenS := fun Γ => match ((f Γ).bind emb).bind fun p => asg t p.1 false Γ with
  | some Γ' => .nx Γ'
  | none => .no
theorem ds_asg {tg : Expr} {t : Tg} {f : DenE} (he : DE X e f) (hg : DG X tg t) (hs : swapsWithSole [tg] e pos.line X.env = pure false := by rfl) (hw : swappedStores [tg] e X.env = pure none := by rfl)
    (h1 : (assignEach [tg] X.env).map (·.2) = [assign tg X.env] := by rfl) : DS X (.Assign [tg] e pos) (dAsg t f) := by
  obtain ⟨u, a1, a2⟩ := he
  obtain ⟨w, b1, b2⟩ := hg
  refine ⟨_, ps_asg a1 b1 hs hw h1, ?_⟩
  intro F0 B F H σ Γ E I q
  unfold dAsg at q
  cases z : (f Γ).bind emb with
  | none => rw [z] at q; exact q.elim
  | some p =>
    obtain ⟨d, n⟩ := p
    rw [z] at q
    have q : OutQ (gX X) F0 B F E (match asg t d false Γ with | some Γ' => .nx Γ' | none => .no) := q
    cases y : asg t d false Γ with
    | none => rw [y] at q; exact q.elim
    | some Γ' =>
      rw [y] at q
      exact ref_emb a2 I z fun v F1 H1 X1 r1 => b2 F0 B F1 H1 σ Γ d false v Γ' _ (I.ext X1) (r1.mono (.refl _) wkP) y fun σ' I' _ => q σ' F1 H1 I' X1.f
/-- a, b = x, y with plain names -/
def dPar (i j : Nat) (r : DenA) : DenS := fun Γ => match r Γ with
  | some ([x, y], _) => .nx ((Γ.set i (.val x false)).set j (.val y false))
  | _ => .no
theorem ds_par (i j : Nat) {x y : Str} {px py pt : Pos} {kt k2 : Nat} {pt2 : Pos} {r : DenA} (hc : X.calm = true) (hN : X.N.Nodup) (ha : DA X [a, b] r) (hi : X.N[i]? = some x := by rfl) (hj : X.N[j]? = some y := by rfl) (hij : i ≠ j := by decide)
    (hx : X.env.scope.names.lookup x = some .local := by rfl) (hy : X.env.scope.names.lookup y = some .local := by rfl)
    (hw : swappedStores [.Tuple [.Name x px, .Name y py] kt pt] (.Tuple [a, b] k2 pt2) X.env = pure (some [x, y]) := by rfl)
    (hs : swapsWithSole [.Tuple [.Name x px, .Name y py] kt pt] (.Tuple [a, b] k2 pt2) pos.line X.env = pure false := by rfl) :
    DS X (.Assign [.Tuple [.Name x px, .Name y py] kt pt] (.Tuple [a, b] k2 pt2) pos) (dPar i j r) := by
  obtain ⟨u, a1, a2⟩ := ha
  refine ⟨_, ps_par hc hN hi hj hij hx hy a1 hw hs, ?_⟩
  intro F0 B F H σ Γ E I q
  unfold dPar at q
  cases z : r Γ with
  | none => rw [z] at q; exact q.elim
  | some p =>
    obtain ⟨ds, n⟩ := p
    rw [z] at q
    match ds, z, q with
    | [], _, q => exact q.elim
    | [_], _, q => exact q.elim
    | _ :: _ :: _ :: _, _, q => exact q.elim
    | [d1, d2], z, q =>
      refine a2 F0 B F H σ Γ _ n _ I z fun vs F1 H1 X1 r1 => ?_
      cases r1 with
      | cons r1 r2 =>
        cases r2 with
        | cons r2 r3 =>
          cases r3
          exact ⟨_, _, rfl, q _ F1 H1 (((I.ext X1).set (r1.mono (.refl _) wkP)).set (r2.mono (.refl _) wkP)) X1.f⟩

/-! ### what is ours is changed -/
theorem EnvR.mut {F0 B F H : Hp} {σ : St} {Γ : Ev} {i : Nat} {d d' : D} {nw nw' : Bool} {p : Addr} {o' : HO} (I : EnvR g F0 B F H σ Γ) (hi : Γ[i]? = some (.own d nw)) (hp : σ[i]? = some (some (.ref p))) (r : OwnO g F (PB B nw') p o' d') :
    EnvR g F0 B F (upd H p o') σ (Γ.set i (.own d' nw')) := by
  obtain ⟨R, q, s⟩ := I.reg
  obtain ⟨p', o, e1, h1, r1⟩ := s i _ hi
  rw [hp] at e1
  obtain rfl : p = p' := by simpa using e1
  obtain ⟨z1, z2, z3⟩ := q.hat i p o h1
  have hl : i < Γ.length := (List.getElem?_eq_some_iff.mp hi).1
  refine ⟨⟨I.x.f, fun a u e => ?_, fun a u e => ?_, I.x.k⟩, by rw [List.length_set]; exact I.len, fun j => if j = i then upd (R i) p o' else R j, ⟨fun j a u e => ?_, fun j k a e1 e2 => ?_⟩, fun j sl e => ?_⟩
  · rw [upd_ne (ne_of_none e z2)]; exact I.x.h _ _ e
  · rw [upd_ne (ne_of_none e z1)]; exact I.x.b _ _ e
  · by_cases hj : j = i
    · simp only [hj, if_true] at e
      by_cases ha : a = p
      · subst ha; rw [upd_same] at e ⊢; exact ⟨z1, z2, e⟩
      · rw [upd_ne ha] at e ⊢; exact q.hat i a u e
    · simp only [if_neg hj] at e
      have ha : a ≠ p := fun z => hj (q.ne j i a (some_ne e) (by rw [z]; exact some_ne h1))
      rw [upd_ne ha]
      exact q.hat j a u e
  · have back : ∀ j, (if j = i then upd (R i) p o' else R j) a ≠ none → R j a ≠ none := fun j h => by
      by_cases hj : j = i
      · simp only [hj, if_true] at h
        rw [hj]
        by_cases ha : a = p
        · rw [ha]; exact some_ne h1
        · rw [upd_ne ha] at h; exact h
      · simp only [if_neg hj] at h; exact h
    exact q.ne j k a (back j e1) (back k e2)
  · by_cases hj : i = j
    · subst hj
      rw [List.getElem?_set_self hl] at e
      cases e
      exact ⟨p, o', by rw [hp]; rfl, by simp [upd_same], r⟩
    · rw [List.getElem?_set_ne hj] at e
      show SlotR g B F (if j = i then _ else R j) _ _
      rw [if_neg (Ne.symm hj)]
      exact s j sl e
theorem EnvR.own {F0 B F H : Hp} {σ : St} {Γ : Ev} {i : Nat} {d : D} {nw : Bool} (I : EnvR g F0 B F H σ Γ) (hi : Γ[i]? = some (.own d nw)) : ∃ p o, σ[i]? = some (some (.ref p)) ∧ H p = some o ∧ F p = none ∧ OwnO g F (PB B nw) p o d := by
  obtain ⟨R, q, s⟩ := I.reg
  obtain ⟨p, o, e1, h1, r1⟩ := s i _ hi
  obtain ⟨z1, z2, z3⟩ := q.hat i p o h1
  refine ⟨p, o, ?_, z3, z1, r1⟩
  cases y : σ[i]? with
  | none => rw [y] at e1; cases e1
  | some x => rw [y] at e1; rw [show x = some (.ref p) by simpa using e1]
/-- x.append(e) -/
def dApp (i : Nat) (f : DenE) : DenS := fun Γ => match (f Γ).bind emb, Γ[i]? with
  | some (d, _), some (.own (.lst xs) _) => if xs.length < sizeLine then .nx (Γ.set i (.own (.lst (xs ++ [d])) false)) else .no
  | _, _ => .no
theorem ds_app (i : Nat) {x : Str} {xp apos cpos : Pos} {f : DenE} (he : DE X e f) (hN : X.N[i]? = some x := by rfl) (hv : Vis X.env.scope x := by first | exact Or.inl rfl | exact Or.inr (Or.inl rfl) | exact Or.inr (Or.inr rfl)) (hd : (x == ("__debug__" : Str)) = false := by decide)
    (hcd : (x == ("__classdict__" : Str)) = false := by decide) (hbase : attributeBase (.Name x xp) "append" X.env (eval (.Name x xp) X.env) = eval (.Name x xp) X.env := by rfl)
    (hfew : ((backTo cpos (starEach [e] X.env)).all (fun x => !x.1) && (backToKw cpos (keywordEach [] X.env)).all (fun x => x.1.isSome)
      && decide (([e] : List Expr).length + ([] : List Keyword).length + (if ([] : List Keyword).isEmpty then 0 else 1) < 30)) = true := by rfl)
    (hline : (apos.endLine == cpos.line) = true := by rfl) (hs : starEach [e] X.env = (false, eval e X.env) :: starEach [] X.env := by rfl) (hplain : (backTo cpos (starEach [] X.env)).any (·.1) = false := by rfl)
    (hsw : swapsWith (.Call (.Attribute (.Name x xp) "append" apos) [e] [] cpos) none pos.line X.env = pure false := by rfl) :
    DS X (.Expr (.Call (.Attribute (.Name x xp) "append" apos) [e] [] cpos) pos) (dApp i f) := by
  obtain ⟨u, a1, a2⟩ := he
  refine ⟨_, ps_expr (pe_bm PySem.F.plainAttrs_list PySem.F.slot_list_append PySem.F.type_list_append mt_append (pe_var hN hv hd hcd) (pa_cons a1 pa_nil hs) hbase hfew hline hs hplain) hsw, ?_⟩
  intro F0 B F H σ Γ E I q
  unfold dApp at q
  cases z : (f Γ).bind emb with
  | none => rw [z] at q; exact q.elim
  | some p =>
    obtain ⟨d, n⟩ := p
    rw [z] at q
    cases y : Γ[i]? with
    | none => rw [y] at q; exact q.elim
    | some sl =>
      rw [y] at q
      match sl, y, q with
      | .no, _, q => exact q.elim
      | .val _ _, _, q => exact q.elim
      | .deep _, _, q => exact q.elim
      | .shp _ _, _, q => exact q.elim
      | .shl _ _, _, q => exact q.elim
      | .own (.lst xs) n0, y, q =>
        have q : OutQ (gX X) F0 B F E (if xs.length < sizeLine then .nx (Γ.set i (.own (.lst (xs ++ [d])) false)) else .no) := q
        by_cases hz : xs.length < sizeLine
        · rw [if_pos hz] at q
          obtain ⟨p, o, hp, hH, hF, r⟩ := I.own y
          cases r with
          | @lst vs _ r =>
          refine ⟨.ref p, hp, .inl ⟨rfl, vs, SqL.of hH⟩, ?_⟩
          refine ref_emb a2 I z fun v F1 H1 X1 r1 => ?_
          have I1 := I.ext X1
          refine ⟨p, vs, v, rfl, rfl, X1.h _ _ hH, by rw [← r.length]; exact hz, ?_⟩
          refine q σ F1 _ (I1.mut y hp (.lst (vs := vs ++ [v]) ?_)) X1.f
          exact Reps.app (r.mono X1.f wkP) (.cons (r1.mono (.refl _) wkP) .nil)
        · rw [if_neg hz] at q; exact q.elim

/-! ### loops -/
def forGo (t : Tg) (body : DenS) : List D → Ev → Out
  | [], Γ => .nx Γ
  | d :: ds, Γ => match asg t d false Γ with
    | none => .no
    | some Γ1 => match body Γ1 with
      | .nx Γ2 => forGo t body ds Γ2
      | .ct Γ2 => forGo t body ds Γ2
      | .bk Γ2 => .nx Γ2
      | .rt d m => .rt d m
      | .no => .no
/-- what is walked: ds, at each turn, as long as F (and, if not fz, H) stays -/
def ItOk (g : Gc) (B F H : Hp) (J : It) (ds : List D) (n fz : Bool) : Prop :=
  ∀ F2 H2, Same F F2 → Same F2 H2 → (fz = false → Same H H2) → (∀ i d, ds[i]? = some d → J.go i H2 ∧ ∀ x H3, J.yld i H2 x H3 → ∃ F3, Ext F2 H2 F3 H3 ∧ Rep g F3 (PB B n) d x) ∧ ∀ i, ds.length ≤ i → J.stop i H2
abbrev DenI := Ev → Option (List D × Bool × Bool)
def RefI (g : Gc) (wi : TI) (f : DenI) : Prop := ∀ (F0 B F H : Hp) (σ : St) (Γ : Ev) (ds : List D) (n fz : Bool) (Q : It → Hp → Prop), EnvR g F0 B F H σ Γ → f Γ = some (ds, n, fz) →
  (∀ J F' H', Ext F H F' H' → ItOk g B F' H' J ds n fz → Q J H') → wi σ H Q
structure DI (X : Cx) (tg e : Expr) (f : DenI) : Prop where
  ex : ∃ wi, PI X tg e wi ∧ RefI (gX X) wi f
def dFor (f : DenI) (t : Tg) (body : DenS) : DenS := fun Γ => match f Γ with
  | some (ds, _, true) => forGo t body ds Γ
  | _ => .no
theorem ds_for {tg : Expr} {body : List Stmt} {f : DenI} {t : Tg} {h : DenS} (hp : PassesOwn (model X.prog X.w) X.A X.env X.xe) (hc : X.calm = true) (hi : DI X tg e f) (hg : DG X tg t) (hb : DSs X body h)
    (hs : ∀ x, foldedSetIterable e X.env x = pure x := by intro _; rfl) : DS X (.For tg e body [] pos) (dFor f t h) := by
  obtain ⟨wi, i1, i2⟩ := hi
  obtain ⟨wg, g1, g2⟩ := hg
  obtain ⟨wb, b1, b2⟩ := hb
  refine ⟨_, ps_for hp hc i1 g1 b1 hs, ?_⟩
  intro F0 B F H σ Γ E I q
  unfold dFor at q
  cases z : f Γ with
  | none => rw [z] at q; exact q.elim
  | some w =>
    obtain ⟨ds, n, fz⟩ := w
    rw [z] at q
    cases fz with
    | false => exact q.elim
    | true =>
    have q : OutQ (gX X) F0 B F E (forGo t h ds Γ) := q
    refine i2 F0 B F H σ Γ ds n true _ I z fun J F1 H1 X1 it => ?_
    refine ⟨fun i m σ' H' => m = ds.length - i ∧ ∃ F' Γ', EnvR (gX X) F0 B F' H' σ' Γ' ∧ Same F1 F' ∧ OutQ (gX X) F0 B F' E (forGo t h (ds.drop i) Γ'), ⟨ds.length, by simp, F1, Γ, I.ext X1, .refl _, q.mono X1.f⟩, ?_⟩
    rintro i m σ' H' ⟨rfl, F', Γ', I', s', q'⟩
    obtain ⟨j1, j2⟩ := it F' H' s' I'.x.b (fun z => nomatch z)
    by_cases hlt : i < ds.length
    · have hd : ds[i]? = some ds[i] := List.getElem?_eq_getElem hlt
      obtain ⟨jg, jy⟩ := j1 i _ hd
      rw [List.drop_eq_getElem_cons hlt] at q'
      unfold forGo at q'
      refine .inr ⟨jg, fun σ2 H2 => ∃ F2 Γ2, EnvR (gX X) F0 B F2 H2 σ2 Γ2 ∧ Same F1 F2 ∧ OutQ (gX X) F0 B F2 E (forGo t h (ds.drop (i + 1)) Γ2), fun σ2 H2 ⟨F2, Γ2, w1, w2, w3⟩ => ⟨ds.length - (i + 1), by omega, rfl, F2, Γ2, w1, w2, w3⟩, fun x H2 y => ?_⟩
      obtain ⟨F2, X2, rx⟩ := jy x H2 y
      cases za : asg t ds[i] false Γ' with
      | none => rw [za] at q'; exact q'.elim
      | some Γ1 =>
      rw [za] at q'
      refine g2 F0 B F2 H2 σ' Γ' _ false x Γ1 _ (I'.ext X2) (rx.mono (.refl _) wkP) za fun σ1 I1 _ => ?_
      have q' : OutQ (gX X) F0 B F' E (match h Γ1 with
        | .nx Γ2 => forGo t h (ds.drop (i + 1)) Γ2
        | .ct Γ2 => forGo t h (ds.drop (i + 1)) Γ2
        | .bk Γ2 => .nx Γ2
        | .rt d m => .rt d m
        | .no => .no) := q'
      refine b2 F0 B F2 H2 σ1 Γ1 _ I1 ?_
      cases zb : h Γ1 with
      | nx Γ2 => rw [zb] at q'; exact fun σ3 F3 H3 I3 s3 => ⟨F3, Γ2, I3, (s'.trans X2.f).trans s3, q'.mono (X2.f.trans s3)⟩
      | ct Γ2 => rw [zb] at q'; exact fun σ3 F3 H3 I3 s3 => ⟨F3, Γ2, I3, (s'.trans X2.f).trans s3, q'.mono (X2.f.trans s3)⟩
      | bk Γ2 => rw [zb] at q'; exact fun σ3 F3 H3 I3 s3 => q' σ3 F3 H3 I3 (X2.f.trans s3)
      | rt d m => rw [zb] at q'; exact q'
      | no => rw [zb] at q'; exact q'.elim
    · have hge : ds.length ≤ i := by omega
      rw [List.drop_eq_nil_of_le hge] at q'
      exact .inl ⟨j2 i hge, q' σ' F' H' I' (.refl _)⟩
def whlGo (t : DenT) (body : DenS) : Nat → Ev → Out
  | 0, _ => .no
  | k + 1, Γ => match t Γ with
    | none => .no
    | some false => .nx Γ
    | some true => match body Γ with
      | .nx Γ2 => whlGo t body k Γ2
      | .ct Γ2 => whlGo t body k Γ2
      | .bk Γ2 => .nx Γ2
      | .rt d m => .rt d m
      | .no => .no
/-- a while of fewer than k turns -/
theorem ds_while (k : Nat) {body : List Stmt} {t : DenT} {h : DenS} (hp : PassesOwn (model X.prog X.w) X.A X.env X.xe) (ht : DT X c t) (hb : DSs X body h) : DS X (.While c body [] pos) (whlGo t h k) := by
  obtain ⟨wt, t1, t2⟩ := ht
  obtain ⟨wb, b1, b2⟩ := hb
  refine ⟨_, ps_while hp t1 b1, ?_⟩
  intro F0 B F H σ Γ E I q
  refine ⟨fun m σ' H' => ∃ F' Γ', EnvR (gX X) F0 B F' H' σ' Γ' ∧ Same F F' ∧ OutQ (gX X) F0 B F' E (whlGo t h m Γ'), ⟨k, F, Γ, I, .refl _, q⟩, ?_⟩
  rintro m σ' H' ⟨F', Γ', I', s', q'⟩
  cases m with
  | zero => exact q'.elim
  | succ m =>
    unfold whlGo at q'
    cases zt : t Γ' with
    | none => rw [zt] at q'; exact q'.elim
    | some r =>
      rw [zt] at q'
      refine t2 F0 B F' H' σ' Γ' r _ I' zt fun F1 H1 X1 => ?_
      cases r with
      | false => exact q' σ' F1 H1 (I'.ext X1) X1.f
      | true =>
        have q' : OutQ (gX X) F0 B F' E (match h Γ' with
          | .nx Γ2 => whlGo t h m Γ2
          | .ct Γ2 => whlGo t h m Γ2
          | .bk Γ2 => .nx Γ2
          | .rt d m => .rt d m
          | .no => .no) := q'
        rw [if_pos rfl]
        refine ⟨fun σ2 H2 => ∃ F2 Γ2, EnvR (gX X) F0 B F2 H2 σ2 Γ2 ∧ Same F F2 ∧ OutQ (gX X) F0 B F2 E (whlGo t h m Γ2), fun σ2 H2 w => ⟨m, Nat.lt_succ_self m, w⟩, ?_⟩
        refine b2 F0 B F1 H1 σ' Γ' _ (I'.ext X1) ?_
        cases zb : h Γ' with
        | nx Γ2 => rw [zb] at q'; exact fun σ3 F3 H3 I3 s3 => ⟨F3, Γ2, I3, (s'.trans X1.f).trans s3, q'.mono (X1.f.trans s3)⟩
        | ct Γ2 => rw [zb] at q'; exact fun σ3 F3 H3 I3 s3 => ⟨F3, Γ2, I3, (s'.trans X1.f).trans s3, q'.mono (X1.f.trans s3)⟩
        | bk Γ2 => rw [zb] at q'; exact fun σ3 F3 H3 I3 s3 => q' σ3 F3 H3 I3 (X1.f.trans s3)
        | rt d m => rw [zb] at q'; exact q'
        | no => rw [zb] at q'; exact q'.elim
end
end Dn
namespace Dn
open PySem PySem.Spec L2
open PyProof.Rows hiding St

/-! ### the weakest readings -/
def teOf (g : Gc) (f : DenE) : TE := fun σ H Q => ∃ F0 B F Γ d m, EnvR g F0 B F H σ Γ ∧ f Γ = some (d, m) ∧ ∀ v F' H', Ext F H F' H' → Res g B H F' H' d v m → Q v H'
def ttOf (g : Gc) (f : DenT) : TT := fun σ H Q => ∃ F0 B F Γ b, EnvR g F0 B F H σ Γ ∧ f Γ = some b ∧ ∀ F' H', Ext F H F' H' → Q b H'
def tgOf (g : Gc) (t : Tg) : TG := fun v σ H Q => ∃ F0 B F Γ d nw Γ', EnvR g F0 B F H σ Γ ∧ Rep g F (PB B nw) d v ∧ asg t d nw Γ = some Γ' ∧ ∀ σ', EnvR g F0 B F H σ' Γ' → (∀ j, j ∉ t.slots → σ'[j]? = σ[j]?) → Q σ' H
section
variable {X : Cx} {e : Expr}
theorem DE.pe {f : DenE} (h : DE X e f) : PE X e (teOf (gX X) f) := by
  obtain ⟨t, h1, h2⟩ := h
  exact ⟨fun pins s σ H Q I ⟨F0, B, F, Γ, d, m, I', e', q⟩ => h1.run pins s σ H Q I (h2 F0 B F H σ Γ d m Q I' e' q)⟩
theorem DT.pt {f : DenT} (h : DT X e f) : PT X e (ttOf (gX X) f) := by
  obtain ⟨t, h1, h2⟩ := h
  exact ⟨fun pins s σ H Q I ⟨F0, B, F, Γ, b, I', e', q⟩ => h1.run pins s σ H Q I (h2 F0 B F H σ Γ b Q I' e' q)⟩
theorem DG.pg {t : Tg} (h : DG X e t) : PG X e (tgOf (gX X) t) := by
  obtain ⟨u, h1, h2⟩ := h
  exact ⟨fun pins s σ H v u' Q I r ⟨F0, B, F, Γ, d, nw, Γ', I', r', e', q⟩ => h1.run pins s σ H v u' Q I r (h2 F0 B F H σ Γ d nw v Γ' Q I' r' e' q)⟩
theorem ref_teOf (g : Gc) (f : DenE) : Ref g (teOf g f) f := fun F0 B F H σ Γ d m Q I e q => ⟨F0, B, F, Γ, d, m, I, e, q⟩
theorem ref_ttOf (g : Gc) (f : DenT) : RefT g (ttOf g f) f := fun F0 B F H σ Γ d Q I e q => ⟨F0, B, F, Γ, d, I, e, q⟩
theorem ref_tgOf (g : Gc) (t : Tg) : RefG g (tgOf g t) t := fun F0 B F H σ Γ d nw v Γ' Q I r e q => ⟨F0, B, F, Γ, d, nw, Γ', I, r, e, q⟩
end

/-! ### what is walked -/
section
variable {g : Gc} {X : Cx} {tg e e2 a b c : Expr} {p pos : Pos}
def iSeq (K : PySem.W.Frag) (tl : TE) : TI := fun σ H R => tl σ H fun x H1 => ∃ a, x = .ref a ∧ (((∃ xs, SqL K H1 a xs) ∧ R (Itl K a) H1) ∨ ((∃ xs, SqT K H1 a xs) ∧ R (Itt K a) H1))
theorem pi_seq {l : Expr} {tl : TE} (hl : PE X l tl) : PI X tg l (iSeq X.K tl) := by
  refine ⟨fun pins s σ H R I h => ?_⟩
  refine thn (hl.run pins s σ H _ I h) fun v s1 ⟨x, H1, I1, r1, q1⟩ => ?_
  obtain ⟨a, e, ⟨⟨xs, hq⟩, q⟩ | ⟨⟨xs, hq⟩, q⟩⟩ := q1
  · subst e
    cases r1
    obtain ⟨its, rv, p, hz⟩ := I1.list hq
    refine wpAny_pyIter_list p.isList ?_
    refine ⟨s1.heap.objs.size, [s1.heap.objs.size], _, _, H1, rfl, I1.kept (t' := s1.toks) fun b o e => Heap.get?_push_of_some _ e, turn_list a _, ⟨_, Heap.get?_push_size _ rfl, rfl, rfl⟩, fun b hb => ?_, q⟩
    have e : b = s1.heap.objs.size := by simpa using hb
    subst e
    exact I1.fpOk (Nat.le_refl _) (I1.hok.fresh (Nat.le_refl _))
  · subst e
    cases r1
    obtain ⟨its, rv, p, hz⟩ := I1.tuple hq
    refine wpAny_pyIter_tuple (show s1.heap.IsTuple a its.toArray from p) ?_
    refine ⟨s1.heap.objs.size, [s1.heap.objs.size], _, _, H1, rfl, I1.kept (t' := s1.toks) fun b o e => Heap.get?_push_of_some _ e, turn_tuple a _, ⟨_, Heap.get?_push_size _ rfl, rfl, rfl⟩, fun b hb => ?_, q⟩
    have e : b = s1.heap.objs.size := by simpa using hb
    subst e
    exact I1.fpOk (Nat.le_refl _) (I1.hok.fresh (Nat.le_refl _))
/-- a sequence's items, do they stand in the frozen heap -/
def D.items : D → Md → Option (List D × Bool × Bool)
  | .lst xs, .bor n => some (xs, n, false)
  | .lst xs, m => some (xs, m.nw, true)
  | .tup xs, m => some (xs, m.nw, true)
  | .scr ns, _ => some (ns.map D.int, true, true)
  | _, _ => none
/-- what a sequence's value gives, behind a freezing -/
inductive SeqOf (g : Gc) (B F H : Hp) (ds : List D) (n fz : Bool) : V → Prop
  | lst {a : Addr} {vs : List V} : F a = some (.lst vs) → Reps g F (PB B n) ds vs → SeqOf g B F H ds n fz (.ref a)
  | bor {a : Addr} {vs : List V} : fz = false → H a = some (.lst vs) → Reps g F (PB B n) ds vs → SeqOf g B F H ds n fz (.ref a)
  | tup {a : Addr} {vs : List V} : SqT g.K F a vs → Reps g F (PB B n) ds vs → SeqOf g B F H ds n fz (.ref a)
  | scr {a : Addr} {ns : List Int} : SqL g.K F a (ns.map V.int) → ds = ns.map D.int → SeqOf g B F H ds n fz (.ref a)
theorem Res.seq {B F H F' H' : Hp} {d : D} {v : V} {m : Md} {ds : List D} {n fz : Bool} (r : Res g B H F' H' d v m) (x : Ext F H F' H') (e : d.items m = some (ds, n, fz)) : ∃ F'', Ext F H F'' H' ∧ SeqOf g B F'' H' ds n fz v := by
  cases r with
  | frz r =>
    cases r with
    | lst h a r => cases e; exact ⟨F', x, .lst h r⟩
    | tup h r => cases e; exact ⟨F', x, .tup h r⟩
    | scr h a => cases e; exact ⟨F', x, .scr h rfl⟩
    | _ => cases e
  | @new p o nw h1 h2 h3 h4 h5 =>
    cases h5 with
    | lst r => cases e; exact ⟨upd F' p _, x.frz h2 h1 h4, .lst upd_same (r.mono (same_upd h1) fun _ z => z)⟩
    | _ => cases e
  | bor h1 h3 h4 h5 =>
    cases h5 with
    | lst r => cases e; exact ⟨F', x, .bor rfl h4 r⟩
    | _ => cases e
@[simp] def dSrc (f : DenE) : DenI := fun Γ => (f Γ).bind fun p => p.1.items p.2
theorem di_seq {f : DenE} (h : DE X e f) : DI X tg e (dSrc f) := by
  obtain ⟨t, h1, h2⟩ := h
  refine ⟨_, pi_seq h1, ?_⟩
  intro F0 B F H σ Γ ds n fz Q I ez q
  obtain ⟨⟨d, m⟩, e1, e2⟩ := bind_some ez
  refine h2 F0 B F H σ Γ d m _ I e1 fun v F1 H1 X1 r1 => ?_
  obtain ⟨F2, X2, sq⟩ := r1.seq X1 e2
  have byL : ∀ {a : Addr} {vs : List V}, (∀ F3 H3, Same F2 F3 → Same F3 H3 → (fz = false → Same H1 H3) → SqL X.K H3 a vs) → Reps (gX X) F2 (PB B n) ds vs → ItOk (gX X) B F2 H1 (Itl X.K a) ds n fz := fun hl r F3 H3 s3 s4 s5 =>
    have sl := hl F3 H3 s3 s4 s5
    ⟨fun i d hd => by
      obtain ⟨v, hv, rv⟩ := r.get hd
      refine ⟨⟨_, v, sl, hv⟩, fun x H4 y => ?_⟩
      obtain ⟨rfl, y2⟩ := y
      have hx := (y2 _ sl).symm.trans hv
      cases hx
      exact ⟨F3, .refl s4, rv.mono s3 fun _ z => z⟩, fun i hi => ⟨_, sl, by rw [← r.length]; exact hi⟩⟩
  cases sq with
  | lst h r => exact ⟨_, rfl, .inl ⟨⟨_, SqL.of (X2.b _ _ h)⟩, q _ F2 H1 X2 (byL (fun F3 H3 s3 s4 _ => SqL.of (s4 _ _ (s3 _ _ h))) r)⟩⟩
  | bor z h r => exact ⟨_, rfl, .inl ⟨⟨_, SqL.of h⟩, q _ F2 H1 X2 (byL (fun F3 H3 s3 s4 s5 => SqL.of (s5 z _ _ h)) r)⟩⟩
  | scr h z => subst z; exact ⟨_, rfl, .inl ⟨⟨_, X2.b.seq h⟩, q _ F2 H1 X2 (byL (fun F3 H3 s3 s4 _ => s4.seq (s3.seq h)) (Reps.ofInts _))⟩⟩
  | tup h r =>
    refine ⟨_, rfl, .inr ⟨⟨_, sameT X2.b h⟩, q _ F2 H1 X2 fun F3 H3 s3 s4 s5 => ?_⟩⟩
    have sl := sameT s4 (sameT s3 h)
    refine ⟨fun i d hd => ?_, fun i hi => ⟨_, sl, by rw [← r.length]; exact hi⟩⟩
    obtain ⟨v, hv, rv⟩ := r.get hd
    refine ⟨⟨_, v, sl, hv⟩, fun x H4 y => ?_⟩
    obtain ⟨rfl, y2⟩ := y
    have hx := (y2 _ sl).symm.trans hv
    cases hx
    exact ⟨F3, .refl s4, rv.mono s3 fun _ z => z⟩
/-- lo, lo + 1, .. -/
def rngD (lo : Int) (n : Nat) : List D := (List.range n).map fun i => .int (lo + (i : Nat))
theorem rng_it {B F H : Hp} {lo : Int} {n : Nat} : ItOk g B F H (Itr lo n) (rngD lo n) true true := fun F2 H2 _ s2 _ =>
  ⟨fun i d hd => by
    unfold rngD at hd
    rw [List.getElem?_map] at hd
    have hi : i < n := by
      cases z : (List.range n)[i]? with
      | none => rw [z] at hd; cases hd
      | some j => simpa using (List.getElem?_eq_some_iff.mp z).1
    rw [List.getElem?_range hi] at hd
    cases hd
    exact ⟨hi, fun x H3 y => by obtain ⟨rfl, rfl⟩ := y; exact ⟨F2, .refl s2, .int _⟩⟩, fun i hi => by
    have : (rngD lo n).length = n := by unfold rngD; simp
    show n ≤ i
    omega⟩
/-- a range's ends that the model walks -/
def rOk (j : Int) : Prop := -(2 ^ 62) ≤ j ∧ j < 2 ^ 62
noncomputable instance (j : Int) : Decidable (rOk j) := Classical.propDecidable _
theorem rOk_of {j : Int} (h : -1000000000000000000 ≤ j ∧ j ≤ 1000000000000000000) : rOk j := by unfold rOk; omega
@[simp] noncomputable def dRng1 (f : DenE) : DenI := fun Γ => (f Γ).bind fun p => match p.1 with
  | .int j => if rOk j then some (rngD 0 j.toNat, true, true) else none
  | _ => none
theorem di_rng1 {f : DenE} (hm : X.mg "range" = none) (h : DE X a f) (hg : Gl X "range" := by rfl) (hs : starEach [a] X.env = [(false, eval a X.env)] := by rfl) : DI X tg (.Call (.Name "range" p) [a] [] pos) (dRng1 f) := by
  obtain ⟨t, h1, h2⟩ := h
  refine ⟨_, pi_range1 hg hm (pa_cons h1 pa_nil hs) hs, ?_⟩
  intro F0 B F H σ Γ ds n fz Q I ez q
  obtain ⟨⟨d, m⟩, e1, e2⟩ := bind_some ez
  cases d with
  | int j =>
    have e2 : (if rOk j then some (rngD 0 j.toNat, true, true) else none) = some (ds, n, fz) := e2
    by_cases c : rOk j
    · rw [if_pos c] at e2
      cases e2
      refine h2 F0 B F H σ Γ _ m _ I e1 fun v F1 H1 X1 r1 => ?_
      have w := r1.vw X1.b
      cases w
      exact ⟨j, rfl, c.1, c.2, q _ F1 H1 X1 rng_it⟩
    · rw [if_neg c] at e2; cases e2
  | _ => cases e2
@[simp] noncomputable def dRng2 (f h : DenE) : DenI := fun Γ => (f Γ).bind fun p => (h Γ).bind fun r => match p.1, r.1 with
  | .int i, .int j => if rOk i ∧ rOk j then some (rngD i (j - i).toNat, true, true) else none
  | _, _ => none
theorem di_rng2 {f h : DenE} (hm : X.mg "range" = none) (h1 : DE X a f) (h2 : DE X b h) (hg : Gl X "range" := by rfl) (hs : starEach [a, b] X.env = [(false, eval a X.env), (false, eval b X.env)] := by rfl) (hs2 : starEach [b] X.env = [(false, eval b X.env)] := by rfl) :
    DI X tg (.Call (.Name "range" p) [a, b] [] pos) (dRng2 f h) := by
  obtain ⟨t, a1, a2⟩ := h1
  obtain ⟨u, b1, b2⟩ := h2
  refine ⟨_, pi_range2 hg hm (pa_cons a1 (pa_cons b1 pa_nil hs2) (by rw [hs, hs2])) hs hs2, ?_⟩
  intro F0 B F H σ Γ ds n fz Q I ez q
  obtain ⟨⟨d, m⟩, e1, e2⟩ := bind_some ez
  obtain ⟨⟨d', m'⟩, e3, e4⟩ := bind_some e2
  cases d with
  | int i =>
    cases d' with
    | int j =>
      have e4 : (if rOk i ∧ rOk j then some (rngD i (j - i).toNat, true, true) else none) = some (ds, n, fz) := e4
      by_cases c : rOk i ∧ rOk j
      · rw [if_pos c] at e4
        cases e4
        refine a2 F0 B F H σ Γ _ m _ I e1 fun v F1 H1 X1 r1 => ?_
        refine b2 F0 B F1 H1 σ Γ _ m' _ (I.ext X1) e3 fun v' F2 H2 X2 r2 => ?_
        have w := r1.vw X1.b
        have w' := r2.vw X2.b
        cases w
        cases w'
        exact ⟨i, j, rfl, ⟨c.1.1, c.1.2, c.2.1, c.2.2⟩, q _ F2 H2 (X1.trans X2) rng_it⟩
      · rw [if_neg c] at e4; cases e4
    | _ => cases e4
  | _ => cases e4
/-! enumerate, zip -/
/-- the items of a list (no tuple) -/
def D.itemsL : D → Md → Option (List D × Bool × Bool)
  | .tup _, _ => none
  | d, m => d.items m
inductive SeqL (g : Gc) (B F H : Hp) (ds : List D) (n fz : Bool) (a : Addr) : Prop
  | mk {vs : List V} : Reps g F (PB B n) ds vs → SqL g.K H a vs → (∀ F3 H3, Same F F3 → Same F3 H3 → (fz = false → Same H H3) → SqL g.K H3 a vs) → SeqL g B F H ds n fz a
theorem Res.seqL {B F H F' H' : Hp} {d : D} {v : V} {m : Md} {ds : List D} {n fz : Bool} (r : Res g B H F' H' d v m) (x : Ext F H F' H') (e : d.itemsL m = some (ds, n, fz)) : ∃ F'' a, Ext F H F'' H' ∧ Same F' F'' ∧ v = .ref a ∧ SeqL g B F'' H' ds n fz a := by
  cases r with
  | frz r =>
    cases r with
    | lst h a r => cases e; exact ⟨F', _, x, .refl _, rfl, .mk r (SqL.of (x.b _ _ h)) fun F3 H3 s3 s4 _ => SqL.of (s4 _ _ (s3 _ _ h))⟩
    | scr h a => cases e; exact ⟨F', _, x, .refl _, rfl, .mk (Reps.ofInts _) (x.b.seq h) fun F3 H3 s3 s4 _ => s4.seq (s3.seq h)⟩
    | _ => cases e
  | @new p o nw h1 h2 h3 h4 h5 =>
    cases h5 with
    | lst r => cases e; exact ⟨upd F' p _, _, x.frz h2 h1 h4, same_upd h1, rfl, .mk (r.mono (same_upd h1) fun _ z => z) (SqL.of h4) fun F3 H3 s3 s4 _ => SqL.of (s4 _ _ (s3 _ _ upd_same))⟩
    | _ => cases e
  | bor h1 h3 h4 h5 =>
    cases h5 with
    | lst r => cases e; exact ⟨F', _, x, .refl _, rfl, .mk r (SqL.of h4) fun F3 H3 s3 s4 s5 => SqL.of (s5 rfl _ _ h4)⟩
    | _ => cases e
def enumD (ds : List D) : List D := (List.range ds.length).zipWith (fun (i : Nat) x => .tup [.int (i : Nat), x]) ds
theorem enumD_at {ds : List D} {i : Nat} {d : D} (h : (enumD ds)[i]? = some d) : ∃ x, ds[i]? = some x ∧ d = .tup [.int (i : Nat), x] := by
  unfold enumD at h
  rw [List.getElem?_zipWith] at h
  cases z : ds[i]? with
  | none => rw [z] at h; cases y : (List.range ds.length)[i]? <;> rw [y] at h <;> cases h
  | some x =>
    have hi : i < ds.length := (List.getElem?_eq_some_iff.mp z).1
    rw [z, List.getElem?_range hi] at h
    cases h
    exact ⟨x, rfl, rfl⟩
theorem enumD_len (ds : List D) : (enumD ds).length = ds.length := by unfold enumD; simp
@[simp] def dEnum (f : DenE) : DenI := fun Γ => (f Γ).bind fun p => (p.1.itemsL p.2).map fun w => (enumD w.1, w.2.1, w.2.2)
theorem new_pair {B F H : Hp} {T : Addr} {x y : V} {dx dy : D} {n : Bool} (s : Same F H) (hT : H T = none) (rx : Rep g F (PB B n) dx x) (ry : Rep g F (PB B n) dy y) :
    Ext F H (upd F T (.tup [x, y])) (upd H T (.tup [x, y])) ∧ Rep g (upd F T (.tup [x, y])) (PB B n) (.tup [dx, dy]) (.ref T) := by
  have s1 : Same F (upd F T (.tup [x, y])) := same_upd (s.free hT)
  exact ⟨Ext.both s hT, .tup (.inl (.inl upd_same)) (.cons (rx.mono s1 fun _ z => z) (.cons (ry.mono s1 fun _ z => z) .nil))⟩
theorem di_enum {f : DenE} {tpos : Pos} {elts : List Expr} {kk : Nat} (hm : X.mg "enumerate" = none) (h : DE X e f) (hg : Gl X "enumerate" := by rfl) (hs : starEach [e] X.env = [(false, eval e X.env)] := by rfl) :
    DI X (.Tuple elts kk tpos) (.Call (.Name "enumerate" p) [e] [] pos) (dEnum f) := by
  obtain ⟨t, h1, h2⟩ := h
  refine ⟨_, pi_enum hg hm (pa_cons h1 pa_nil hs) hs, ?_⟩
  intro F0 B F H σ Γ ds n fz Q I ez q
  obtain ⟨⟨d, m⟩, e1, e2⟩ := bind_some ez
  cases z : d.itemsL m with
  | none => simp only [z] at e2; cases e2
  | some w =>
  obtain ⟨xs, n', fz'⟩ := w
  simp only [z] at e2
  cases e2
  refine h2 F0 B F H σ Γ d m _ I e1 fun v F1 H1 X1 r1 => ?_
  obtain ⟨F2, a, X2, _, rfl, ⟨r, sl, st⟩⟩ := r1.seqL X1 z
  refine ⟨a, _, rfl, sl, q _ F2 H1 X2 fun F3 H3 s3 s4 s5 => ?_⟩
  have sl := st F3 H3 s3 s4 s5
  refine ⟨fun i d hd => ?_, fun i hi => ⟨_, sl, by rw [← r.length, ← enumD_len]; exact hi⟩⟩
  obtain ⟨x, hx, rfl⟩ := enumD_at hd
  obtain ⟨v, hv, rv⟩ := r.get hx
  refine ⟨⟨_, v, sl, hv⟩, fun x' H4 y => ?_⟩
  obtain ⟨T, x2, rfl, hT, rfl, y2⟩ := y
  have hx2 := (y2 _ sl).symm.trans hv
  cases hx2
  obtain ⟨X4, r4⟩ := new_pair (g := gX X) (B := B) s4 hT (.int (i : Nat)) (rv.mono s3 fun _ z => z)
  exact ⟨_, X4, r4⟩
def zipD (xs ys : List D) : List D := xs.zipWith (fun x y => .tup [x, y]) ys
@[simp] def dZip (f h : DenE) : DenI := fun Γ => (f Γ).bind fun p => (p.1.itemsL p.2).bind fun w => (h Γ).bind fun p' => (p'.1.itemsL p'.2).map fun w' => (zipD w.1 w'.1, w.2.1 && w'.2.1, w.2.2 && w'.2.2)
theorem zipD_at {xs ys : List D} {i : Nat} {d : D} (h : (zipD xs ys)[i]? = some d) : ∃ x y, xs[i]? = some x ∧ ys[i]? = some y ∧ d = .tup [x, y] := by
  unfold zipD at h
  rw [List.getElem?_zipWith] at h
  cases z : xs[i]? with
  | none => rw [z] at h; cases h
  | some x =>
    cases y : ys[i]? with
    | none => rw [z, y] at h; cases h
    | some y => rw [z, y] at h; cases h; exact ⟨x, _, rfl, rfl, rfl⟩
theorem SeqL.ext {B F H F' H' : Hp} {ds : List D} {n fz : Bool} {a : Addr} (h : SeqL g B F H ds n fz a) (x : Ext F H F' H') : SeqL g B F' H' ds n fz a := by
  obtain ⟨r, sl, st⟩ := h
  exact .mk (r.mono x.f fun _ z => z) (x.h.seq sl) fun F3 H3 s3 s4 s5 => st F3 H3 (x.f.trans s3) s4 fun z => x.h.trans (s5 z)
theorem di_zip {f h : DenE} {tpos : Pos} {elts : List Expr} {kk : Nat} (hm : X.mg "zip" = none) (ha : DE X e f) (hb : DE X e2 h) (hg : Gl X "zip" := by rfl)
    (hs : starEach [e, e2] X.env = (false, eval e X.env) :: starEach [e2] X.env := by rfl) (hs2 : starEach [e2] X.env = [(false, eval e2 X.env)] := by rfl) (hpl : (backTo pos (starEach [e2] X.env)).any (·.1) = false := by rfl) :
    DI X (.Tuple elts kk tpos) (.Call (.Name "zip" p) [e, e2] [] pos) (dZip f h) := by
  obtain ⟨t, a1, a2⟩ := ha
  obtain ⟨u, b1, b2⟩ := hb
  refine ⟨_, pi_zip hg hm (pa_cons a1 (pa_cons b1 pa_nil hs2) hs) hs hpl, ?_⟩
  intro F0 B F H σ Γ ds n fz Q I ez q
  obtain ⟨⟨d, m⟩, e1, ez⟩ := bind_some ez
  obtain ⟨⟨xs, n1, f1⟩, w1, ez⟩ := bind_some ez
  obtain ⟨⟨d', m'⟩, e1', ez⟩ := bind_some ez
  cases z : d'.itemsL m' with
  | none => simp only [z] at ez; cases ez
  | some w =>
  obtain ⟨ys, n2, f2⟩ := w
  simp only [z] at ez
  cases ez
  refine a2 F0 B F H σ Γ d m _ I e1 fun v F1 H1 X1 r1 => ?_
  obtain ⟨F2, a, X2, _, rfl, sa⟩ := r1.seqL X1 w1
  refine b2 F0 B F2 H1 σ Γ d' m' _ (I.ext X2) e1' fun v' F3 H3 X3 r3 => ?_
  obtain ⟨F4, a', X4, s34, rfl, sb⟩ := r3.seqL X3 z
  have sa := sa.ext X4
  obtain ⟨ra, la, ta⟩ := sa
  obtain ⟨rb, lb, tb⟩ := sb
  refine ⟨a, a', _, _, rfl, la, lb, q _ F4 H3 (X2.trans X4) fun F5 H5 s5 s6 s7 => ?_⟩
  have la := ta F5 H5 s5 s6 fun z => s7 (by rw [z]; rfl)
  have lb := tb F5 H5 s5 s6 fun z => s7 (by rw [z, Bool.and_false])
  refine ⟨fun i d hd => ?_, fun i hi => ⟨_, _, la, lb, ?_⟩⟩
  · obtain ⟨x, y, hx, hy, rfl⟩ := zipD_at hd
    obtain ⟨v1, hv1, rv1⟩ := ra.get hx
    obtain ⟨v2, hv2, rv2⟩ := rb.get hy
    refine ⟨⟨_, _, v1, v2, la, lb, hv1, hv2⟩, fun x' H6 yy => ?_⟩
    obtain ⟨T, x2, y2, rfl, hT, rfl, q1, q2⟩ := yy
    have z1 := (q1 _ la).symm.trans hv1
    have z2 := (q2 _ lb).symm.trans hv2
    cases z1
    cases z2
    obtain ⟨X6, r6⟩ := new_pair (g := gX X) (B := B) (n := n1 && n2) s6 hT (rv1.mono s5 fun _ z => z.and) (rv2.mono s5 fun _ z => z.and')
    exact ⟨_, X6, r6⟩
  · have h1 := ra.length
    have h2 := rb.length
    unfold zipD at hi
    rw [List.length_zipWith] at hi
    have hi : min xs.length ys.length ≤ i := hi
    rw [← h1, ← h2]
    show xs.length ≤ i ∨ ys.length ≤ i
    omega

/-! ### comprehensions -/
def lcGo (t : Tg) (tt : DenT) (el : DenE) (Γ : Ev) : List D → Option (List D)
  | [] => some []
  | d :: ds => (asg t d false Γ).bind fun Γ1 => (tt Γ1).bind fun b => if b = true then ((el Γ1).bind emb).bind fun p => (lcGo t tt el Γ ds).bind fun q => some (p.1 :: q) else lcGo t tt el Γ ds
def dLc (f : DenI) (t : Tg) (tt : DenT) (el : DenE) (vs : List Nat) : DenE := fun Γ => (f Γ).bind fun w => (lcGo t tt el (forget vs Γ) w.1).bind fun q => if q.length ≤ sizeLine then some (.lst q, .new false) else none
theorem forget_get : ∀ (vs : List Nat) (Γ : Ev) (i : Nat) (s : Slot), (forget vs Γ)[i]? = some s → (i ∈ vs ∧ s = .no) ∨ (i ∉ vs ∧ Γ[i]? = some s)
  | [], Γ, i, s, h => .inr ⟨by simp, h⟩
  | v :: vs, Γ, i, s, h => by
    rcases forget_get vs (Γ.set v .no) i s h with ⟨h1, h2⟩ | ⟨h1, h2⟩
    · exact .inl ⟨List.mem_cons_of_mem _ h1, h2⟩
    · by_cases hv : v = i
      · subst hv
        by_cases hl : v < Γ.length
        · rw [List.getElem?_set_self hl] at h2; cases h2; exact .inl ⟨List.mem_cons_self, rfl⟩
        · rw [List.getElem?_eq_none (by simpa using hl)] at h2; cases h2
      · rw [List.getElem?_set_ne hv] at h2
        exact .inr ⟨by simp [h1, Ne.symm hv], h2⟩
theorem EnvR.wipe {F0 B F H : Hp} {σ : St} {Γ : Ev} (I : EnvR g F0 B F H σ Γ) (vs : List Nat) : EnvR g F0 B F H (wipe σ vs) (Dn.forget vs Γ) := by
  obtain ⟨R, q, s⟩ := I.reg
  refine ⟨I.x, by rw [wipe_length, (forget_ok vs Γ).1]; exact I.len, R, q, fun i sl e => ?_⟩
  rcases forget_get vs Γ i sl e with ⟨_, z⟩ | ⟨z1, z2⟩
  · subst z; trivial
  · rw [wipe_out z1]; exact s i sl z2
theorem wipe_in {σ : St} {i : Nat} : ∀ {vs : List Nat}, i ∈ vs → i < σ.length → (wipe σ vs)[i]? = some none
  | [], h, _ => by cases h
  | v :: vs, h, hl => by
    unfold L2.wipe
    by_cases hv : v = i
    · subst hv
      rw [List.getElem?_set_self (by rw [wipe_length]; exact hl)]
    · rw [List.getElem?_set_ne hv]
      rcases List.mem_cons.mp h with z | z
      · exact absurd z.symm hv
      · exact wipe_in z hl
theorem wipe_eq {σ σ2 : St} {vs : List Nat} (hl : σ2.length = σ.length) (h : ∀ j, j ∉ vs → σ2[j]? = (wipe σ vs)[j]?) : wipe σ2 vs = wipe σ vs := by
  refine List.ext_getElem? fun i => ?_
  by_cases hi : i ∈ vs
  · by_cases hz : i < σ.length
    · rw [wipe_in hi (by rw [hl]; exact hz), wipe_in hi hz]
    · rw [List.getElem?_eq_none (by rw [wipe_length, hl]; omega), List.getElem?_eq_none (by rw [wipe_length]; omega)]
  · rw [wipe_out hi, h i hi]
@[simp] def dYes : DenT := fun _ => some true
theorem ref_yes : RefT g tYes dYes := fun F0 B F H σ Γ b Q I e q => by cases e; exact q F H (.refl I.x.b)
mutual
theorem asg_len : ∀ {t : Tg} {d : D} {n : Bool} {Γ Γ' : Ev}, asg t d n Γ = some Γ' → Γ'.length = Γ.length
  | .nm i, d, n, Γ, Γ', h => by unfold asg at h; cases h; rw [List.length_set]
  | .tp ts, .tup ds, n, Γ, Γ', h => by unfold asg at h; exact asgs_len2 h
  | .tp ts, .non, n, Γ, Γ', h => by unfold asg at h; cases h
  | .tp ts, .bl _, n, Γ, Γ', h => by unfold asg at h; cases h
  | .tp ts, .int _, n, Γ, Γ', h => by unfold asg at h; cases h
  | .tp ts, .str _, n, Γ, Γ', h => by unfold asg at h; cases h
  | .tp ts, .lst _, n, Γ, Γ', h => by unfold asg at h; cases h
  | .tp ts, .dk _, n, Γ, Γ', h => by unfold asg at h; cases h
  | .tp ts, .dt _, n, Γ, Γ', h => by unfold asg at h; cases h
  | .tp ts, .st _, n, Γ, Γ', h => by unfold asg at h; cases h
  | .tp ts, .scr _, n, Γ, Γ', h => by unfold asg at h; cases h
theorem asgs_len2 : ∀ {ts : List Tg} {ds : List D} {n : Bool} {Γ Γ' : Ev}, asgs ts ds n Γ = some Γ' → Γ'.length = Γ.length
  | [], [], _, _, _, h => by unfold asgs at h; cases h; rfl
  | t :: ts, d :: ds, _, _, _, h => by
    unfold asgs at h
    obtain ⟨Γ1, h1, h2⟩ := bind_some h
    rw [asgs_len2 h2, asg_len h1]
  | [], _ :: _, _, _, _, h => by unfold asgs at h; cases h
  | _ :: _, [], _, _, _, h => by unfold asgs at h; cases h
end
theorem ref_lc {wi : TI} {tg' : TG} {tt' : TT} {te : TE} {f : DenI} {t : Tg} {tt : DenT} {el : DenE} {vs : List Nat} (hi : RefI g wi f) (hg : RefG g tg' t) (ht : RefT g tt' tt) (he : Ref g te el) (hv : ∀ j, j ∈ t.slots → j ∈ vs) :
    Ref g (tLc wi tg' tt' te vs) (dLc f t tt el vs) := by
  intro F0 B F H σ Γ d m Q I e q
  obtain ⟨⟨ds, n, fz⟩, e1, e⟩ := bind_some e
  obtain ⟨out, e2, e⟩ := bind_some e
  by_cases hz : out.length ≤ sizeLine
  · simp only [hz, if_true] at e
    cases e
    refine hi F0 B F H σ Γ ds n fz _ I e1 fun J F1 H1 X1 it Da hD => ?_
    have I1 := I.ext X1
    refine ⟨fun i mm Hh => mm = ds.length - i ∧ ∃ Fh acc accD restD, Ext F1 H1 Fh Hh ∧ Fh Da = none ∧ Hh Da = some (.lst acc) ∧ Reps g Fh (PB B false) accD acc ∧
      lcGo t tt el (forget vs Γ) (ds.drop i) = some restD ∧ accD ++ restD = out, ⟨ds.length, by simp, F1, [], [], out, Ext.hi X1.b hD, X1.b.free hD, upd_same, .nil, e2, rfl⟩, ?_⟩
    rintro i mm Hh ⟨rfl, Fh, acc, accD, restD, Xh, hF, hH, ra, el', eo⟩
    obtain ⟨j1, j2⟩ := it Fh Hh Xh.f Xh.b fun _ => Xh.h
    by_cases hlt : i < ds.length
    · have hd : ds[i]? = some ds[i] := List.getElem?_eq_getElem hlt
      obtain ⟨jg, jy⟩ := j1 i _ hd
      rw [List.drop_eq_getElem_cons hlt] at el'
      unfold lcGo at el'
      obtain ⟨Γ1, a1, el'⟩ := bind_some el'
      obtain ⟨bb, b1, el'⟩ := bind_some el'
      refine .inr ⟨jg, fun Hn => ∃ Fh acc accD restD, Ext F1 H1 Fh Hn ∧ Fh Da = none ∧ Hn Da = some (.lst acc) ∧ Reps g Fh (PB B false) accD acc ∧
        lcGo t tt el (forget vs Γ) (ds.drop (i + 1)) = some restD ∧ accD ++ restD = out, fun Hn w => ⟨ds.length - (i + 1), by omega, rfl, w⟩, fun x H2 y => ?_⟩
      obtain ⟨F2, X2, rx⟩ := jy x H2 y
      have I2 : EnvR g F0 B F2 H2 (wipe σ vs) (forget vs Γ) := ((I1.ext Xh).ext X2).wipe vs
      refine hg F0 B F2 H2 (wipe σ vs) (forget vs Γ) _ false x Γ1 _ I2 (rx.mono (.refl _) wkP) a1 fun σ3 I3 k3 => ?_
      refine ⟨wipe_eq (by
        have h1 := I3.len
        have h2 := I2.len
        have h3 := asg_len a1
        rw [wipe_length] at h2
        omega) fun j hj => k3 j fun z => hj (hv j z), ?_⟩
      have X12 := Xh.trans X2
      have hF2 : F2 Da = none := X2.k Da hF (some_ne hH)
      refine ht F0 B F2 H2 σ3 Γ1 bb _ I3 b1 fun F3 H3 X3 => ?_
      have hF3 : F3 Da = none := X3.k Da hF2 (some_ne (X2.h _ _ hH))
      cases bb with
      | false =>
        exact ⟨F3, acc, accD, restD, X12.trans X3, hF3, X3.h _ _ (X2.h _ _ hH), ra.mono (X2.f.trans X3.f) fun _ z => z, el', eo⟩
      | true =>
        simp only [if_true] at el' ⊢
        obtain ⟨⟨dv, nv⟩, c1, el'⟩ := bind_some el'
        obtain ⟨restD', c2, el'⟩ := bind_some el'
        cases el'
        refine ref_emb he (I3.ext X3) c1 fun v F4 H4 X4 r4 => ?_
        have hH4 := X4.h _ _ (X3.h _ _ (X2.h _ _ hH))
        have hF4 : F4 Da = none := X4.k Da hF3 (some_ne (X3.h _ _ (X2.h _ _ hH)))
        have hlen : accD.length < out.length := by rw [← eo, List.length_append, List.length_cons]; omega
        refine ⟨acc, hH4, by rw [← ra.length]; omega, F4, acc ++ [v], accD ++ [dv], restD', ?_, hF4, upd_same, ?_, c2, by rw [← eo, List.append_assoc]; rfl⟩
        · have X := (X12.trans X3).trans X4
          exact ⟨X.f, fun a u z => by rw [upd_ne (ne_of_none z hD)]; exact X.h _ _ z, fun a u z => by rw [upd_ne (ne_of_none z hF4)]; exact X.b _ _ z, X.k⟩
        · exact Reps.app (ra.mono ((X2.f.trans X3.f).trans X4.f) wkP) (.cons (r4.mono (.refl _) wkP) .nil)
    · have hge : ds.length ≤ i := by omega
      rw [List.drop_eq_nil_of_le hge] at el'
      unfold lcGo at el'
      cases el'
      rw [List.append_nil] at eo
      subst eo
      exact .inl ⟨j2 i hge, q _ Fh Hh (X1.trans Xh) (.new hF (X1.h.free hD) (I1.sb.free hD) hH (.lst ra))⟩
  · simp only [hz] at e
    cases e

structure DTs (X : Cx) (ifs : List Expr) (f : DenT) : Prop where
  ex : ∃ tt, PTs X ifs tt ∧ RefT (gX X) tt f
theorem dts_nil : DTs X [] dYes := ⟨_, pts_nil, ref_yes⟩
theorem dts_one {f : DenT} (h : DT X c f) : DTs X [c] f := let ⟨t, h1, h2⟩ := h; ⟨t, pts_one h1, h2⟩
theorem DTs.pts {ifs : List Expr} {f : DenT} (h : DTs X ifs f) : PTs X ifs (ttOf (gX X) f) := by
  obtain ⟨t, h1, h2⟩ := h
  exact ⟨fun pins s σ H Q I ⟨F0, B, F, Γ, b, I', e', q⟩ => h1.run pins s σ H Q I (h2 F0 B F H σ Γ b Q I' e' q)⟩
theorem de_lc {elt tg iter : Expr} {ifs : List Expr} {scope : Scope} {own : List (Str × Nat)} {f : DenI} {t : Tg} {tt : DenT} {el : DenE} (hc : X.calm = true) (hN : X.N.Nodup) (hi : DI X tg iter f) (ok : BlkOk X.N X.env.scope scope own)
    (hg : ∀ (s : Shared) (H : Hp) (C : Addr) (cl : List (Str × Addr)) (fp : List Addr), DG (X.blk s H scope (compEnvC scope cl C X.env) fp) tg t) (ht : ∀ (s : Shared) (H : Hp) (C : Addr) (cl : List (Str × Addr)) (fp : List Addr), DTs (X.blk s H scope (compEnvC scope cl C X.env) fp) ifs tt)
    (he : ∀ (s : Shared) (H : Hp) (C : Addr) (cl : List (Str × Addr)) (fp : List Addr), DE (X.blk s H scope (compEnvC scope cl C X.env) fp) elt el) (hv : ∀ j, j ∈ t.slots → j ∈ own.map (·.2)) (hs : ∀ x, foldedSetIterable iter X.env x = pure x := by intro _; rfl) :
    DE X (.ListComp elt [⟨tg, iter, ifs, 0⟩] scope pos) (dLc f t tt el (own.map (·.2))) := by
  obtain ⟨wi, i1, i2⟩ := hi
  exact ⟨_, pe_lc hc hN i1 ok (fun s H C cl fp => (hg s H C cl fp).pg) (fun s H C cl fp => (ht s H C cl fp).pts) (fun s H C cl fp => (he s H C cl fp).pe) hs, ref_lc i2 (ref_tgOf _ _) (ref_ttOf _ _) (ref_teOf _ _) hv⟩
theorem ds_setLc (i : Nat) {y : Str} {py : Pos} {elt tg iter : Expr} {ifs : List Expr} {scope : Scope} {own : List (Str × Nat)} {spos : Pos} {f : DenI} {t : Tg} {tt : DenT} {el : DenE} (hc : X.calm = true) (hN : X.N.Nodup) (hi : DI X tg iter f) (ok : BlkOk X.N X.env.scope scope own)
    (hg : ∀ (s : Shared) (H : Hp) (C : Addr) (cl : List (Str × Addr)) (fp : List Addr), DG (X.blk s H scope (compEnvC scope cl C X.env) fp) tg t) (ht : ∀ (s : Shared) (H : Hp) (C : Addr) (cl : List (Str × Addr)) (fp : List Addr), DTs (X.blk s H scope (compEnvC scope cl C X.env) fp) ifs tt)
    (he : ∀ (s : Shared) (H : Hp) (C : Addr) (cl : List (Str × Addr)) (fp : List Addr), DE (X.blk s H scope (compEnvC scope cl C X.env) fp) elt el) (hv : ∀ j, j ∈ t.slots → j ∈ own.map (·.2))
    (hsw : swapsWith (.ListComp elt [⟨tg, iter, ifs, 0⟩] scope pos) (some (.Name y py)) spos.line X.env = pure true) (hy : X.N[i]? = some y := by rfl) (hyl : X.env.scope.names.lookup y = some .local := by rfl) (hs : ∀ x, foldedSetIterable iter X.env x = pure x := by intro _; rfl) :
    DS X (.Assign [.Name y py] (.ListComp elt [⟨tg, iter, ifs, 0⟩] scope pos) spos) (dSet i (dLc f t tt el (own.map (·.2)))) := by
  obtain ⟨wi, i1, i2⟩ := hi
  exact ⟨_, ps_setLc hc hN hy hyl hsw i1 ok (fun s H C cl fp => (hg s H C cl fp).pg) (fun s H C cl fp => (ht s H C cl fp).pts) (fun s H C cl fp => (he s H C cl fp).pe) hs, refS_set (ref_lc i2 (ref_tgOf _ _) (ref_ttOf _ _) (ref_teOf _ _) hv)⟩

/-! ### calls of the program's own defs -/
abbrev Fn := List D → Option (D × Md)
def spD (g : Gc) (n : Nat) (φ : Fn) : Sp := fun vs H Q _ => vs.length = n ∧ ∃ F ds d m, Same F H ∧ Reps g F noA ds vs ∧ φ ds = some (d, m) ∧ ∀ v F' H', Ext F H F' H' → Res g H H F' H' d v m → Q v H'
@[simp] def dCall (φ : Fn) (r : DenA) : DenE := fun Γ => (r Γ).bind fun p => φ p.1
theorem Res.base {B H F' H' : Hp} {d : D} {v : V} {m : Md} (s : Same B H) (r : Res g H H F' H' d v m) : Res g B H F' H' d v m := by
  have k : ∀ (nw : Bool) (a : Addr), PB H nw a → PB B nw a := fun nw a h e => s.free (h e)
  cases r with
  | frz r => exact .frz (r.mono (.refl _) (k _))
  | new h1 h2 h3 h4 h5 => exact .new h1 h2 (s.free h3) h4 (h5.mono (.refl _) (k _))
  | bor h1 h3 h4 h5 => exact .bor h1 (s.free h3) h4 (h5.mono (.refl _) (k _))
theorem reps_len {F : Hp} {A : Addr → Prop} : ∀ {ds : List D} {vs : List V}, Reps g F A ds vs → vs.length = ds.length := fun h => h.length.symm
theorem ref_call {n : Nat} {φ : Fn} {ta : TA} {r : DenA} {E : XK} (h : RefA g ta r) (hn : ∀ ds x, φ ds = some x → ds.length = n) : Ref g (tCall (spD g n φ) [] E ta) (dCall φ r) := by
  intro F0 B F H σ Γ d m Q I e q
  obtain ⟨⟨ds, nw⟩, e1, e2⟩ := bind_some e
  refine h F0 B F H σ Γ ds nw _ I e1 fun vs F1 H1 X1 r1 => ?_
  rw [List.append_nil]
  refine ⟨by rw [← r1.length]; exact hn _ _ e2, F1, ds, d, m, X1.b, r1.any (.refl _), e2, fun v F2 H2 X2 r2 => ?_⟩
  exact q v F2 H2 (X1.trans X2) ((r2.base (I.ext X1).sb).old X1.h)
theorem de_call {CX : CXT} {k n : Nat} {f : Addr} {fd : FuncData} {ps : List Str} {x : Str} {es : List Expr} {φ : Fn} {r : DenA} {E : XK} (F : FnOk X.prog X.w X.K X.mg X.base CX k f fd ps (spD (gX X) n φ)) (hr : Room k X.A) (hm : X.mg x = some (.ref f)) (hk : PySem.W.keepIn X.K (.ref f) = true)
    (hb : Binds X.K fd ps []) (hx : Passes CX X E) (hn : ∀ ds x, φ ds = some x → ds.length = n) (ha : DA X (e :: es) r) (hg : Gl X x := by rfl) (hs : starEach (e :: es) X.env = (false, eval e X.env) :: starEach es X.env := by rfl) (hpl : (backTo pos (starEach es X.env)).any (·.1) = false := by rfl)
    (hd : (x == ("__debug__" : Str)) = false := by decide) : DE X (.Call (.Name x p) (e :: es) [] pos) (dCall φ r) := by
  obtain ⟨u, a1, a2⟩ := ha
  exact ⟨_, pe_call F hr hg hm hk hb .nil hx a1 hd hs hpl, ref_call a2 hn⟩

/-- a def's meaning: its body from its arguments; n parameters, N names -/
def runB (n N : Nat) (f : DenS) : Fn := fun ds => if ds.length = n then (match f (ds.map (fun d => Slot.val d false) ++ List.replicate (N - n) Slot.no) with
  | .rt d m => some (d, m)
  | .nx _ => some (.non, .frz false)
  | _ => none) else none
theorem runB_len {n N : Nat} {f : DenS} {ds : List D} {x : D × Md} (h : runB n N f ds = some x) : ds.length = n := by
  unfold runB at h
  by_cases c : ds.length = n
  · exact c
  · rw [if_neg c] at h; cases h
theorem start_env {F H : Hp} {ds : List D} {vs : List V} (s : Same F H) (r : Reps g F noA ds vs) (N : List Str) : EnvR g F H F H (L2.start N vs) (ds.map (fun d => Slot.val d false) ++ List.replicate (N.length - ds.length) Slot.no) := by
  refine ⟨Ext.refl s, by unfold L2.start; simp [r.length], fun _ _ => none, ⟨fun _ _ _ e => (nomatch e), fun _ _ _ e => absurd rfl e⟩, fun i sl e => ?_⟩
  by_cases hi : i < ds.length
  · rw [List.getElem?_append_left (by simpa using hi), List.getElem?_map] at e
    cases z : ds[i]? with
    | none => rw [z] at e; cases e
    | some d =>
      rw [z] at e
      cases e
      obtain ⟨v, hv, rv⟩ := r.get z
      refine ⟨v, ?_, rv.mono (.refl _) fun a _ z => nomatch z⟩
      have hv2 : i < vs.length := by rw [← r.length]; exact hi
      unfold L2.start
      rw [List.getElem?_append_left (by simpa using hv2), List.getElem?_map, hv]
      rfl
  · rw [List.getElem?_append_right (by simpa using hi)] at e
    have : sl = .no := by
      rw [List.getElem?_replicate] at e
      split at e
      · cases e; rfl
      · cases e
    subst this
    trivial
theorem fn_ok {P : Program} {w : World} {K : PySem.W.Frag} {mg : Str → Option Value} {base : Heap} {x qual : Str} {st : Stmt} {f : Addr} {fd : FuncData} {N ps : List Str} {k n m : Nat} {h : DenS} (F : Fun K x qual st f fd) (S : FnScope N ps (defScope st)) (hn : ps.length = n) (hm : N.length = m)
    (hb : ∀ (cdv : Value) (A : Around) (outer : List Env) (s : Shared) (H : Hp) (E : XK), Room k (A.deeper (envOfC qual (defScope st) s.heap.objs.size f cdv)) → DSs (cxOf CX0 P w K mg base N qual (defScope st) f cdv A outer s H E).nox (defBody st) h) :
    FnOk P w K mg base CX0 (k + 1) f fd ps (spD ⟨P, w, K⟩ n (runB n m h)) := by
  subst hn hm
  refine F.ok S (fun vs H Q E hsp => hsp.1) (fun cdv A outer s H vs Q E hr hsp => ?_)
  obtain ⟨ts, h1, h2⟩ := hb cdv A outer s H E hr
  refine ⟨ts, h1, ?_⟩
  obtain ⟨hl, F1, ds, d, m, s1, r, e, q⟩ := hsp
  have hd : ds.length = ps.length := by rw [r.length]; exact hl
  refine h2 F1 H F1 H (L2.start N vs) (ds.map (fun d => Slot.val d false) ++ List.replicate (N.length - ds.length) Slot.no) _ (start_env s1 r N) ?_
  unfold runB at e
  rw [if_pos hd] at e
  rw [hd]
  cases z : h (ds.map (fun d => Slot.val d false) ++ List.replicate (N.length - ps.length) Slot.no) with
  | rt d' m' => simp only [z] at e; cases e; exact fun v F' H' X1 r1 => q v F' H' X1 r1
  | nx Γ => simp only [z] at e; cases e; exact fun σ' F' H' I' _ => q .non F' H' I'.x (.frz .non)
  | bk Γ => simp only [z] at e; cases e
  | ct Γ => simp only [z] at e; cases e
  | no => simp only [z] at e; cases e
/-- the law's own promise -/
theorem law_end {w : World} {P : Program} {K : PySem.W.Frag} {φ : Fn} {H : Hp} {a : Addr} {ns : List Int} {m : Md} {E : XK} (hS : SqL K H a (ns.map V.int)) (h : φ [.scr ns] = some (.bl true, m)) : spD ⟨P, w, K⟩ 1 φ [.ref a] H (fun v _ => v = .bl true) E := by
  refine ⟨rfl, H, [.scr ns], .bl true, m, .refl _, .cons (.scr hS trivial) .nil, h, fun v F' H' X1 r => ?_⟩
  have := r.vw X1.b
  cases this
  rfl
end
end Dn
namespace Dn
open PySem PySem.Spec L2
open PyProof.Rows hiding St

section
variable {g : Gc} {X : Cx} {e a b c : Expr} {p pos : Pos}
theorem fin_sc {g : Gc} {B F H : Hp} {d : D} {v : V} {Q : VK} (s : Same F H) (r : Rep g F (PB B true) d v) (q : ∀ v' F' H', Ext F H F' H' → Res g B H F' H' d v' (.frz true) → Q v' H') : Q v H := q v F H (.refl s) (.frz r)
theorem RepT.len {g : Gc} {F : Hp} {A : Addr → Prop} : ∀ {ds : List (List Key × D)} {vs : List (List Key × V)}, RepT g F A ds vs → ds.length = vs.length
  | _, _, .nil => rfl
  | _, _, .cons _ r => by rw [List.length_cons, List.length_cons, RepT.len r]
theorem RepK.len {g : Gc} {F : Hp} {A : Addr → Prop} : ∀ {ds : List (Key × D)} {vs : List (Key × V)}, RepK g F A ds vs → ds.length = vs.length
  | _, _, .nil => rfl
  | _, _, .cons _ r => by rw [List.length_cons, List.length_cons, RepK.len r]

/-! ### arithmetic -/
def addD : F2
  | .int i, _, .int j, _ => some (.int (i + j), .frz true)
  | .str x, _, .str y, _ => if x.length + y.length ≤ sizeLine then some (.str (x ++ y), .frz true) else none
  | .lst xs, m, .lst ys, n => if xs.length + ys.length ≤ sizeLine then some (.lst (xs ++ ys), .new (m && n)) else none
  | .tup xs, m, .tup ys, n => if 0 < xs.length ∧ 0 < ys.length ∧ xs.length + ys.length ≤ sizeLine then some (.tup (xs ++ ys), .frz (m && n)) else none
  | _, _, _, _ => none
theorem od_add : OpD X (binaryOp .Add) addD := by
  refine ⟨_, op_add.or (op_add_str.or (op_cat.or op_catA)), ?_⟩
  intro B F H dx dy ax ay x y d m Q s sb vx vy e q
  cases vx with
  | int i => cases vy with
    | int j => cases e; exact .inl ⟨i, j, rfl, rfl, fin_sc s (.int _) q⟩
    | _ => cases e
  | str i => cases vy with
    | str j =>
      have e : (if i.length + j.length ≤ sizeLine then some (D.str (i ++ j), Md.frz true) else none) = some (d, m) := e
      by_cases c : i.length + j.length ≤ sizeLine
      · rw [if_pos c] at e; cases e; exact .inr (.inl ⟨i, j, rfl, rfl, c, fin_sc s (.str _) q⟩)
      · rw [if_neg c] at e; cases e
    | _ => cases e
  | @lst p vs xs h1 r1 => cases vy with
    | @lst p2 ws ys h2 r2 =>
      have e : (if xs.length + ys.length ≤ sizeLine then some (D.lst (xs ++ ys), Md.new (ax && ay)) else none) = some (d, m) := e
      by_cases c : xs.length + ys.length ≤ sizeLine
      · rw [if_pos c] at e; cases e
        refine .inr (.inr (.inl ⟨_, _, _, _, rfl, rfl, h1, h2, by rw [← r1.length, ← r2.length]; exact c, fun p hp => ?_⟩))
        exact q _ F _ (Ext.hi s hp) (.new (s.free hp) hp (sb.free hp) upd_same (.lst (Reps.app (r1.mono (.refl _) fun _ z => z.and) (r2.mono (.refl _) fun _ z => z.and'))))
      · rw [if_neg c] at e; cases e
    | _ => cases e
  | @tup p vs xs h1 r1 => cases vy with
    | @tup p2 ws ys h2 r2 =>
      have e : (if 0 < xs.length ∧ 0 < ys.length ∧ xs.length + ys.length ≤ sizeLine then some (D.tup (xs ++ ys), Md.frz (ax && ay)) else none) = some (d, m) := e
      by_cases c : 0 < xs.length ∧ 0 < ys.length ∧ xs.length + ys.length ≤ sizeLine
      · rw [if_pos c] at e; cases e
        rw [r1.length, r2.length] at c
        refine .inr (.inr (.inr ⟨_, _, _, _, rfl, rfl, h1, h2, c.2.2, fun z => ?_, fun _ z => ?_, fun _ _ p hp => ?_⟩))
        · subst z; exact absurd c.1 (by simp)
        · subst z; exact absurd c.2.1 (by simp)
        · exact q _ _ _ (Ext.both s hp) (.frz (.tup (.inl (.inl upd_same)) ((Reps.app (r1.mono (.refl _) fun _ z => z.and) (r2.mono (.refl _) fun _ z => z.and')).mono (same_upd (s.free hp)) fun _ z => z)))
      · rw [if_neg c] at e; cases e
    | _ => cases e
  | _ => cases e
def subD : F2
  | .int i, _, .int j, _ => some (.int (i - j), .frz true)
  | _, _, _, _ => none
theorem od_sub : OpD X (binaryOp .Sub) subD := by
  refine ⟨_, op_sub, ?_⟩
  intro B F H dx dy ax ay x y d m Q s sb vx vy e q
  cases vx with
  | int i => cases vy with
    | int j => cases e; exact ⟨i, j, rfl, rfl, fin_sc s (.int _) q⟩
    | _ => cases e
  | _ => cases e
/-- a product that the model takes: one factor within 2^64, or both together below a million bits -/
def mulOk (i j : Int) : Prop := i.natAbs < 2 ^ 64 ∨ j.natAbs < 2 ^ 64 ∨ i.natAbs.log2 + j.natAbs.log2 < 1000000
noncomputable instance (i j : Int) : Decidable (mulOk i j) := Classical.propDecidable _
noncomputable def mulD : F2
  | .int i, _, .int j, _ => if mulOk i j then some (.int (i * j), .frz true) else none
  | .lst xs, m, .int k, _ => if 0 ≤ k ∧ k ≤ 16777216 ∧ xs.length * k.toNat ≤ sizeLine then some (.lst (List.replicate k.toNat xs).flatten, .new m) else none
  | _, _, _, _ => none
theorem Reps.rep {F : Hp} {A : Addr → Prop} {ds : List D} {vs : List V} (r : Reps g F A ds vs) : ∀ n : Nat, Reps g F A (List.replicate n ds).flatten (List.replicate n vs).flatten
  | 0 => .nil
  | n + 1 => by
    rw [List.replicate_succ, List.replicate_succ, List.flatten_cons, List.flatten_cons]
    exact Reps.app r (Reps.rep r n)
theorem od_mul : OpD X (binaryOp .Mult) mulD := by
  refine ⟨_, op_mul.or (op_mulW.or op_rep), ?_⟩
  intro B F H dx dy ax ay x y d m Q s sb vx vy e q
  cases vx with
  | int i => cases vy with
    | int j =>
      have e : (if mulOk i j then some (D.int (i * j), Md.frz true) else none) = some (d, m) := e
      by_cases c : mulOk i j
      · rw [if_pos c] at e; cases e
        rcases c with c | c | c
        · exact .inl ⟨i, j, rfl, rfl, .inl (by omega), fin_sc s (.int _) q⟩
        · exact .inl ⟨i, j, rfl, rfl, .inr (by omega), fin_sc s (.int _) q⟩
        · exact .inr (.inl ⟨i, j, rfl, rfl, c, fin_sc s (.int _) q⟩)
      · rw [if_neg c] at e; cases e
    | _ => cases e
  | @lst p vs xs h1 r1 => cases vy with
    | int k =>
      have e : (if 0 ≤ k ∧ k ≤ 16777216 ∧ xs.length * k.toNat ≤ sizeLine then some (D.lst (List.replicate k.toNat xs).flatten, Md.new ax) else none) = some (d, m) := e
      by_cases c : 0 ≤ k ∧ k ≤ 16777216 ∧ xs.length * k.toNat ≤ sizeLine
      · rw [if_pos c] at e; cases e
        refine .inr (.inr ⟨_, _, _, rfl, rfl, h1, by omega, by omega, by rw [← r1.length]; exact c.2.2, fun p hp => ?_⟩)
        exact q _ F _ (Ext.hi s hp) (.new (s.free hp) hp (sb.free hp) upd_same (.lst (r1.rep _)))
      · rw [if_neg c] at e; cases e
    | _ => cases e
  | _ => cases e
def divOk (j : Int) : Prop := 0 < j ∧ (j < 1073741824 ∨ j.natAbs.log2 < 9000)
noncomputable instance (j : Int) : Decidable (divOk j) := Classical.propDecidable _
noncomputable def fdivD : F2
  | .int i, _, .int j, _ => if divOk j then some (.int (i / j), .frz true) else if j ≠ 0 ∧ j.natAbs < 1073741824 then some (.int (i.fdiv j), .frz true) else none
  | _, _, _, _ => none
theorem od_fdiv : OpD X (binaryOp .FloorDiv) fdivD := by
  refine ⟨_, op_fdiv.or (op_fdivW.or op_fdivN), ?_⟩
  intro B F H dx dy ax ay x y d m Q s sb vx vy e q
  cases vx with
  | int i => cases vy with
    | int j =>
      have e : (if divOk j then some (D.int (i / j), Md.frz true) else if j ≠ 0 ∧ j.natAbs < 1073741824 then some (D.int (i.fdiv j), Md.frz true) else none) = some (d, m) := e
      by_cases c : divOk j
      · rw [if_pos c] at e; cases e
        rcases c with ⟨c0, c | c⟩
        · exact .inl ⟨i, j, rfl, rfl, ⟨c0, c⟩, fin_sc s (.int _) q⟩
        · exact .inr (.inl ⟨i, j, rfl, rfl, ⟨c0, c⟩, fin_sc s (.int _) q⟩)
      · rw [if_neg c] at e
        by_cases c2 : j ≠ 0 ∧ j.natAbs < 1073741824
        · rw [if_pos c2] at e; cases e
          exact .inr (.inr ⟨i, j, rfl, rfl, c2, fin_sc s (.int _) q⟩)
        · rw [if_neg c2] at e; cases e
    | _ => cases e
  | _ => cases e
def modD : F2
  | .int i, _, .int j, _ => if 0 < j then some (.int (i % j), .frz true) else if j ≠ 0 then some (.int (i.fmod j), .frz true) else none
  | _, _, _, _ => none
theorem od_mod : OpD X (binaryOp .Mod) modD := by
  refine ⟨_, op_mod.or op_modN, ?_⟩
  intro B F H dx dy ax ay x y d m Q s sb vx vy e q
  cases vx with
  | int i => cases vy with
    | int j =>
      have e : (if 0 < j then some (D.int (i % j), Md.frz true) else if j ≠ 0 then some (D.int (i.fmod j), Md.frz true) else none) = some (d, m) := e
      by_cases c : 0 < j
      · rw [if_pos c] at e; cases e
        exact .inl ⟨i, j, rfl, rfl, c, fin_sc s (.int _) q⟩
      · rw [if_neg c] at e
        by_cases c2 : j ≠ 0
        · rw [if_pos c2] at e; cases e
          exact .inr ⟨i, j, rfl, rfl, c2, fin_sc s (.int _) q⟩
        · rw [if_neg c2] at e; cases e
    | _ => cases e
  | _ => cases e
def powD : F2
  | .int i, _, .int j, _ => if 0 ≤ j ∧ j ≤ 1000000 ∧ i.natAbs < 2 ^ 64 then some (.int (i ^ j.toNat), .frz true) else none
  | _, _, _, _ => none
theorem od_pow : OpD X (binaryOp .Pow) powD := by
  refine ⟨_, op_pow, ?_⟩
  intro B F H dx dy ax ay x y d m Q s sb vx vy e q
  cases vx with
  | int i => cases vy with
    | int j =>
      have e : (if 0 ≤ j ∧ j ≤ 1000000 ∧ i.natAbs < 2 ^ 64 then some (D.int (i ^ j.toNat), Md.frz true) else none) = some (d, m) := e
      by_cases c : 0 ≤ j ∧ j ≤ 1000000 ∧ i.natAbs < 2 ^ 64
      · rw [if_pos c] at e; cases e
        exact ⟨i, j, rfl, rfl, c, fin_sc s (.int _) q⟩
      · rw [if_neg c] at e; cases e
    | _ => cases e
  | _ => cases e
@[simp] def dUn (f : D → Option D) (h : DenE) : DenE := fun Γ => (h Γ).bind fun q => (f q.1).map fun d => (d, .frz true)
def negD : D → Option D
  | .int i => some (.int (-i))
  | _ => none
theorem de_neg {f : DenE} (h : DE X a f) : DE X (.UnaryOp .USub a pos) (dUn negD f) := by
  obtain ⟨t, h1, h2⟩ := h
  refine ⟨_, pe_un un_neg h1, ?_⟩
  intro F0 B F H σ Γ d m Q I e q
  obtain ⟨⟨dx, mx⟩, e1, e⟩ := bind_some e
  cases dx with
  | int i =>
    cases e
    refine h2 F0 B F H σ Γ _ mx _ I e1 fun v F1 H1 X1 r1 => ?_
    have w := r1.vw X1.b
    cases w
    exact ⟨i, rfl, q _ F1 H1 X1 (.frz (.int _))⟩
  | _ => cases e

/-! ### comparisons -/
def cmpD (h : Int → Int → Bool) : F2
  | .int i, _, .int j, _ => some (.bl (h i j), .frz true)
  | _, _, _, _ => none
theorem od_cmpI {op : CmpOp} {h : Int → Int → Bool} (ho : OpR X (compareOp op) (rI0 fun i j => .bl (h i j))) : OpD X (compareOp op) (cmpD h) := by
  refine ⟨_, ho, ?_⟩
  intro B F H dx dy ax ay x y d m Q s sb vx vy e q
  cases vx with
  | int i => cases vy with
    | int j => cases e; exact ⟨i, j, rfl, rfl, fin_sc s (.bl _) q⟩
    | _ => cases e
  | _ => cases e
abbrev ltI : F2 := cmpD fun i j => decide (i < j)
abbrev leI : F2 := cmpD fun i j => decide (i ≤ j)
abbrev gtI : F2 := cmpD fun i j => decide (j < i)
abbrev geI : F2 := cmpD fun i j => decide (j ≤ i)
theorem od_lt : OpD X (compareOp .Lt) ltI := od_cmpI op_lt
theorem od_le : OpD X (compareOp .LtE) leI := od_cmpI op_le
theorem od_gt : OpD X (compareOp .Gt) gtI := od_cmpI op_gt
theorem od_ge : OpD X (compareOp .GtE) geI := od_cmpI op_ge
def D.eqv (a b : D) : Bool := PyData.eqv a.py b.py
def rEqP (K : PySem.W.Frag) (neg : Bool) : R2 := fun x y H Q => ∃ d e, Dp K H x d ∧ Dp K H y e ∧ d.plain = true ∧ e.plain = true ∧ d.depth ≤ 50 ∧ Q (.bl (if neg then !PyData.eqv d e else PyData.eqv d e)) H
theorem op_eqP (hu : X.A.units + 64 < cLine) : OpR X (compareOp .Eq) (rEqP X.K false) := by
  intro pins s σ H x y v u Q I rx ry h
  obtain ⟨d, e, hd, he, sd, se, dd, q⟩ := h
  obtain ⟨as, r1⟩ := Dp.reads I d x v hd rx
  obtain ⟨bs, r2⟩ := Dp.reads I e y u he ry
  exact SeqAt.eq_plain r1 r2 sd se (by have := Nat.min_le_left d.depth e.depth; omega) ⟨.bl _, H, I, rfl, q⟩
theorem op_neP (hu : X.A.units + 64 < cLine) : OpR X (compareOp .NotEq) (rEqP X.K true) := by
  intro pins s σ H x y v u Q I rx ry h
  obtain ⟨d, e, hd, he, sd, se, dd, q⟩ := h
  obtain ⟨as, r1⟩ := Dp.reads I d x v hd rx
  obtain ⟨bs, r2⟩ := Dp.reads I e y u he ry
  exact SeqAt.ne_plain r1 r2 sd se (by have := Nat.min_le_left d.depth e.depth; omega) ⟨.bl _, H, I, rfl, q⟩
def eqD (neg : Bool) : F2 := fun a _ b _ => if a.pl 50 = true ∧ b.pl 50 = true then some (.bl (if neg then !D.eqv a b else D.eqv a b), .frz true) else none
theorem vop_eq {neg : Bool} : VOp g (rEqP g.K neg) (eqD neg) := by
  intro B F H dx dy ax ay x y d m Q s sb vx vy e q
  unfold eqD at e
  by_cases c : dx.pl 50 = true ∧ dy.pl 50 = true
  · rw [if_pos c] at e
    cases e
    have h1 := pl_plain 50 dx c.1
    have h2 := pl_plain 50 dy c.2
    exact ⟨dx.py, dy.py, vx.dp s c.1, vy.dp s c.2, h1.1, h2.1, h1.2, fin_sc s (.bl _) q⟩
  · rw [if_neg c] at e; cases e
theorem od_eq (hu : X.A.units + 64 < cLine) : OpD X (compareOp .Eq) (eqD false) := ⟨_, op_eqP hu, vop_eq⟩
theorem od_ne (hu : X.A.units + 64 < cLine) : OpD X (compareOp .NotEq) (eqD true) := ⟨_, op_neP hu, vop_eq⟩
/-- is None -/
def D.isNon : D → Bool
  | .non => true
  | _ => false
def D.isB (neg b : Bool) : D → Option (D × Md)
  | .bl a => some (.bl (if neg then !decide (a = b) else decide (a = b)), .frz true)
  | _ => none
def isND (neg : Bool) : F2 := fun x _ y _ => match y with
  | .non => some (.bl (if neg then !x.isNon else x.isNon), .frz true)
  | .bl b => x.isB neg b
  | _ => none
theorem Vw.isNon {F H : Hp} {A : Addr → Prop} {d : D} {v : V} (h : Vw g F H A d v) : decide (v = .non) = d.isNon := by
  cases h <;> rfl
theorem od_isN : OpD X (compareOp .Is) (isND false) := by
  refine ⟨_, op_isN.or op_isBl, ?_⟩
  intro B F H dx dy ax ay x y d m Q s sb vx vy e q
  cases vy with
  | non => cases e; exact .inl ⟨rfl, by rw [vx.isNon]; exact fin_sc s (.bl _) q⟩
  | bl b => cases vx with
    | bl a => cases e; exact .inr ⟨a, b, rfl, rfl, fin_sc s (.bl _) q⟩
    | _ => cases e
  | _ => cases e
theorem od_notN : OpD X (compareOp .IsNot) (isND true) := by
  refine ⟨_, op_notN.or op_notBl, ?_⟩
  intro B F H dx dy ax ay x y d m Q s sb vx vy e q
  cases vy with
  | non => cases e; exact .inl ⟨rfl, by rw [vx.isNon]; exact fin_sc s (.bl _) q⟩
  | bl b => cases vx with
    | bl a => cases e; exact .inr ⟨a, b, rfl, rfl, fin_sc s (.bl _) q⟩
    | _ => cases e
  | _ => cases e
/-! in -/
def rInP (K : PySem.W.Frag) (neg : Bool) : R2 := fun x y H Q => ∃ d e es, Dp K H x d ∧ Dp K H y e ∧ (e = .list es ∨ e = .tuple es) ∧ d.plain = true ∧ PyData.plainAll es = true ∧ d.depth ≤ 50 ∧
  Q (.bl (if neg then !es.any (fun z => PyData.eqv z d) else es.any (fun z => PyData.eqv z d))) H
theorem op_inP (hu : X.A.units + 64 < cLine) : OpR X (compareOp .In) (rInP X.K false) := by
  intro pins s σ H x y v u Q I rx ry h
  obtain ⟨d, e, es, hd, he, hk, sd, se, dd, q⟩ := h
  obtain ⟨as, r1⟩ := Dp.reads I d x v hd rx
  obtain ⟨bs, r2⟩ := Dp.reads I e y u he ry
  have hm := Nat.min_le_right (PyData.depthAll es) d.depth
  rcases hk with rfl | rfl
  · exact SeqAt.in_list_data r2 r1 se sd (by omega) ⟨.bl _, H, I, rfl, q⟩
  · exact SeqAt.in_tuple_data r2 r1 se sd (by omega) ⟨.bl _, H, I, rfl, q⟩
theorem op_notInP (hu : X.A.units + 64 < cLine) : OpR X (compareOp .NotIn) (rInP X.K true) := by
  intro pins s σ H x y v u Q I rx ry h
  obtain ⟨d, e, es, hd, he, hk, sd, se, dd, q⟩ := h
  obtain ⟨as, r1⟩ := Dp.reads I d x v hd rx
  obtain ⟨bs, r2⟩ := Dp.reads I e y u he ry
  have hm := Nat.min_le_right (PyData.depthAll es) d.depth
  rcases hk with rfl | rfl
  · exact SeqAt.notIn_list_data r2 r1 se sd (by omega) ⟨.bl _, H, I, rfl, q⟩
  · exact SeqAt.notIn_tuple_data r2 r1 se sd (by omega) ⟨.bl _, H, I, rfl, q⟩
def D.mem (x : D) (xs : List D) : Bool := xs.any fun y => D.eqv y x
def inSeqD (neg : Bool) : F2
  | x, _, .lst ys, _ => if x.pl 50 = true ∧ ys.all (D.pl 49) = true then some (.bl (if neg then !x.mem ys else x.mem ys), .frz true) else none
  | x, _, .tup ys, _ => if x.pl 50 = true ∧ ys.all (D.pl 49) = true then some (.bl (if neg then !x.mem ys else x.mem ys), .frz true) else none
  | _, _, _, _ => none
theorem any_pys (x : D) : ∀ ys : List D, ((D.pys ys).any fun z => PyData.eqv z x.py) = x.mem ys
  | [] => by unfold D.pys D.mem; rfl
  | y :: ys => by
    have h := any_pys x ys
    unfold D.mem at h ⊢
    unfold D.pys
    rw [List.any_cons, List.any_cons, h]
    rfl
theorem vop_in {neg : Bool} : VOp g (rInP g.K neg) (inSeqD neg) := by
  intro B F H dx dy ax ay x y d m Q s sb vx vy e q
  have both : ∀ {ys : List D}, (dx.pl 50 = true ∧ ys.all (D.pl 49) = true) → Dp g.K H y (.list (D.pys ys)) ∨ Dp g.K H y (.tuple (D.pys ys)) → (d, m) = (D.bl (if neg then !dx.mem ys else dx.mem ys), Md.frz true) → rInP g.K neg x y H Q := fun {ys} c hy e => by
    cases e
    have h1 := pl_plain 50 dx c.1
    have h2 := plainAll_of (pl_plain 49) ys c.2
    rcases hy with hy | hy
    · exact ⟨dx.py, _, _, vx.dp s c.1, hy, .inl rfl, h1.1, h2.1, h1.2, by rw [any_pys]; exact fin_sc s (.bl _) q⟩
    · exact ⟨dx.py, _, _, vx.dp s c.1, hy, .inr rfl, h1.1, h2.1, h1.2, by rw [any_pys]; exact fin_sc s (.bl _) q⟩
  cases vy with
  | @lst _ _ ys h r =>
    have e : (if dx.pl 50 = true ∧ ys.all (D.pl 49) = true then some (D.bl (if neg then !dx.mem ys else dx.mem ys), Md.frz true) else none) = some (d, m) := e
    by_cases c : dx.pl 50 = true ∧ ys.all (D.pl 49) = true
    · rw [if_pos c] at e
      exact both c (.inl (.lst (SqL.of h) (r.dp s c.2))) (Option.some.inj e).symm
    · rw [if_neg c] at e; cases e
  | @tup _ _ ys h r =>
    have e : (if dx.pl 50 = true ∧ ys.all (D.pl 49) = true then some (D.bl (if neg then !dx.mem ys else dx.mem ys), Md.frz true) else none) = some (d, m) := e
    by_cases c : dx.pl 50 = true ∧ ys.all (D.pl 49) = true
    · rw [if_pos c] at e
      exact both c (.inr (.tup h (r.dp s c.2))) (Option.some.inj e).symm
    · rw [if_neg c] at e; cases e
  | _ => cases e
theorem od_in (hu : X.A.units + 64 < cLine) : OpD X (compareOp .In) (inSeqD false) := ⟨_, op_inP hu, vop_in⟩
theorem od_notin (hu : X.A.units + 64 < cLine) : OpD X (compareOp .NotIn) (inSeqD true) := ⟨_, op_notInP hu, vop_in⟩
@[simp] def dChain (f h : F2) (fa fb fc : DenE) : DenE := fun Γ => (fa Γ).bind fun x => (fb Γ).bind fun y => (f x.1 x.2.nw y.1 y.2.nw).bind fun z => z.1.isBl.bind fun k => if k = true then (fc Γ).bind fun w => h y.1 y.2.nw w.1 w.2.nw else some (.bl false, .frz true)
theorem ref_chain {r r' : R2} {f h : F2} {ta tb tc : TE} {fa fb fc : DenE} (hv : VOp g r f) (hv' : VOp g r' h) (ha : Ref g ta fa) (hb : Ref g tb fb) (hc : Ref g tc fc) : Ref g (tChain r r' ta tb tc) (dChain f h fa fb fc) := by
  intro F0 B F H σ Γ d m Q I e q
  obtain ⟨⟨dx, mx⟩, e1, e⟩ := bind_some e
  obtain ⟨⟨dy, my⟩, e2, e⟩ := bind_some e
  obtain ⟨⟨dz, mz⟩, e3, e⟩ := bind_some e
  obtain ⟨k, e4, e⟩ := bind_some e
  refine ha F0 B F H σ Γ dx mx _ I e1 fun x F1 H1 X1 r1 => ?_
  refine hb F0 B F1 H1 σ Γ dy my _ (I.ext X1) e2 fun y F2 H2 X2 r2 => ?_
  have I2 := (I.ext X1).ext X2
  refine hv B F2 H2 dx dy _ _ x y dz mz _ X2.b I2.sb ((r1.vw X1.b).ext X2) (r2.vw X2.b) e3 fun v F3 H3 X3 r3 => ?_
  have w := r3.vw X3.b
  cases w with
  | bl kk =>
    cases e4
    refine ⟨k, rfl, ?_⟩
    have X123 := X1.trans (X2.trans X3)
    cases k with
    | false => cases e; exact q _ F3 H3 X123 (.frz (.bl _))
    | true =>
      have e' : ((fc Γ).bind fun w => h dy my.nw w.1 w.2.nw) = some (d, m) := e
      rw [if_pos rfl]
      obtain ⟨⟨dw, mw⟩, e5, e6⟩ := bind_some e'
      refine hc F0 B F3 H3 σ Γ dw mw _ (I2.ext X3) e5 fun w F4 H4 X4 r4 => ?_
      exact hv' B F4 H4 dy dw _ _ y w d m Q X4.b ((I2.ext X3).ext X4).sb (((r2.vw X2.b).ext X3).ext X4) (r4.vw X4.b) e6 fun v F5 H5 X5 r5 => q v F5 H5 (X123.trans (X4.trans X5)) (r5.old (X123.h.trans X4.h))
  | _ => cases e4
theorem dt_chain {op op' : CmpOp} {f h : F2} {fa fb fc : DenE} (ho : OpD X (compareOp op) f) (ho' : OpD X (compareOp op') h) (ha : DE X a fa) (hb : DE X b fb) (hc : DE X c fc) (hm : lastMarks [op, op'] [b, c] = false := by with_unfolding_all rfl) :
    DT X (.Compare a [op, op'] [b, c] pos) (dB (dChain f h fa fb fc)) := by
  obtain ⟨r, h1, h2⟩ := ho
  obtain ⟨r', h3, h4⟩ := ho'
  obtain ⟨ta, a1, a2⟩ := ha
  obtain ⟨tb, b1, b2⟩ := hb
  obtain ⟨tc, c1, c2⟩ := hc
  exact ⟨_, pt_chain h1 h3 a1 b1 c1 hm, ref_tTest (ref_chain h2 h4 a2 b2 c2)⟩
theorem de_chain {op op' : CmpOp} {f h : F2} {fa fb fc : DenE} (ho : OpD X (compareOp op) f) (ho' : OpD X (compareOp op') h) (ha : DE X a fa) (hb : DE X b fb) (hc : DE X c fc) (hm : lastMarks [op, op'] [b, c] = false := by with_unfolding_all rfl) :
    DE X (.Compare a [op, op'] [b, c] pos) (dChain f h fa fb fc) := by
  obtain ⟨r, h1, h2⟩ := ho
  obtain ⟨r', h3, h4⟩ := ho'
  obtain ⟨ta, a1, a2⟩ := ha
  obtain ⟨tb, b1, b2⟩ := hb
  obtain ⟨tc, c1, c2⟩ := hc
  exact ⟨_, pe_chain h1 h3 a1 b1 c1 hm, ref_chain h2 h4 a2 b2 c2⟩

/-! ### subscripts -/
def atD : F2
  | .lst xs, n, .int i, _ => (atI xs i).map fun d => (d, .frz n)
  | .tup xs, n, .int i, _ => (atI xs i).map fun d => (d, .frz n)
  | .scr ns, _, .int i, _ => (atI ns i).map fun k => (.int k, .frz true)
  | .str x, _, .int i, _ => if x.length ≤ sizeLine then (atI x.cps.toList i).map fun c => (.str ⟨#[c]⟩, .frz true) else none
  | _, _, _, _ => none
theorem Reps.atI {F : Hp} {A : Addr → Prop} {ds : List D} {vs : List V} {i : Int} {d : D} (r : Reps g F A ds vs) (e : L2.atI ds i = some d) : ∃ v, L2.atI vs i = some v ∧ Rep g F A d v := by
  unfold L2.atI at e ⊢
  rw [← r.length]
  cases z : ixN ds.length i with
  | none => rw [z] at e; cases e
  | some j => rw [z] at e; exact r.get e
theorem atI_map {α β : Type} (f : α → β) (xs : List α) (i : Int) : L2.atI (xs.map f) i = (L2.atI xs i).map f := by
  unfold L2.atI
  rw [List.length_map]
  cases ixN xs.length i with
  | none => rfl
  | some j => exact List.getElem?_map ..
theorem vop_at : VOp g (rIx g.K) atD := by
  intro B F H dx dy ax ay x y d m Q s sb vx vy e q
  have ok : ∀ {dd : D} {v : V} {n : Bool}, Rep g F (PB B n) dd v → (dd, Md.frz n) = (d, m) → Q v H := fun r e => by cases e; exact q _ F H (.refl s) (.frz r)
  cases vx with
  | @lst _ vs xs h r => cases vy with
    | int i =>
      have e : (atI xs i).map (fun d => (d, Md.frz ax)) = some (d, m) := e
      cases z : atI xs i with
      | none => rw [z] at e; cases e
      | some dd =>
        rw [z] at e
        obtain ⟨v, h1, h2⟩ := r.atI z
        exact .inl ⟨_, _, _, v, rfl, rfl, SqL.of h, h1, ok h2 (Option.some.inj e)⟩
    | _ => cases e
  | @tup _ vs xs h r => cases vy with
    | int i =>
      have e : (atI xs i).map (fun d => (d, Md.frz ax)) = some (d, m) := e
      cases z : atI xs i with
      | none => rw [z] at e; cases e
      | some dd =>
        rw [z] at e
        obtain ⟨v, h1, h2⟩ := r.atI z
        exact .inr (.inl ⟨_, _, _, v, rfl, rfl, h, h1, ok h2 (Option.some.inj e)⟩)
    | _ => cases e
  | @scr _ ns h => cases vy with
    | int i =>
      have e : (atI ns i).map (fun k => (D.int k, Md.frz true)) = some (d, m) := e
      cases z : atI ns i with
      | none => rw [z] at e; cases e
      | some k =>
        rw [z] at e
        exact .inl ⟨_, _, _, .int k, rfl, rfl, h, by rw [atI_map, z]; rfl, ok (.int k) (Option.some.inj e)⟩
    | _ => cases e
  | str x => cases vy with
    | int i =>
      have e : (if x.length ≤ sizeLine then (atI x.cps.toList i).map (fun c => (D.str ⟨#[c]⟩, Md.frz true)) else none) = some (d, m) := e
      by_cases hz : x.length ≤ sizeLine
      · rw [if_pos hz] at e
        cases z : atI x.cps.toList i with
        | none => rw [z] at e; cases e
        | some k =>
          rw [z] at e
          exact .inr (.inr ⟨x, i, k, rfl, rfl, hz, z, ok (.str _) (Option.some.inj e)⟩)
      · rw [if_neg hz] at e; cases e
    | _ => cases e
  | _ => cases e
theorem de_at {f h : DenE} (ha : DE X a f) (hb : DE X b h) (hs : PlainIx b := by exact fun _ _ => rfl) : DE X (.Subscript a b pos) (dOp atD f h) := by
  obtain ⟨t, a1, a2⟩ := ha
  obtain ⟨u, b1, b2⟩ := hb
  exact ⟨_, pe_ix ix_seq a1 b1 hs, ref_op vop_at a2 b2⟩

/-! ### slices -/
def cutD {α : Type} (xs : List α) (lo hi : Option Int) : List α := (xs.drop (HT.sIx xs.length 0 lo)).take (HT.sIx xs.length xs.length hi - HT.sIx xs.length 0 lo)
@[simp] def dNoP : Ev → Option (Option Int) := fun _ => some none
@[simp] def dSoP (f : DenE) : Ev → Option (Option Int) := fun Γ => (f Γ).bind fun q => match q.1 with
  | .int i => some (some i)
  | _ => none
def RefO (g : Gc) (to : TO) (f : Ev → Option (Option Int)) : Prop := ∀ (F0 B F H : Hp) (σ : St) (Γ : Ev) (o : Option Int) (Q : Option Int → Hp → Prop), EnvR g F0 B F H σ Γ → f Γ = some o → (∀ F' H', Ext F H F' H' → Q o H') → to σ H Q
structure DO (X : Cx) (e : Option Expr) (f : Ev → Option (Option Int)) : Prop where
  ex : ∃ to, PO X e to ∧ RefO (gX X) to f
theorem do_none : DO X none dNoP := ⟨_, po_none, fun F0 B F H σ Γ o Q I e q => by cases e; exact q F H (.refl I.x.b)⟩
theorem do_some {f : DenE} (h : DE X e f) : DO X (some e) (dSoP f) := by
  obtain ⟨t, h1, h2⟩ := h
  refine ⟨_, po_some h1, ?_⟩
  intro F0 B F H σ Γ o Q I e q
  obtain ⟨⟨d, m⟩, e1, e2⟩ := bind_some e
  cases d with
  | int i =>
    cases e2
    refine h2 F0 B F H σ Γ _ m _ I e1 fun v F1 H1 X1 r1 => ?_
    have w := r1.vw X1.b
    cases w
    exact ⟨i, rfl, q F1 H1 X1⟩
  | _ => cases e2
def sliceD : D → Md → Option Int → Option Int → Option (D × Md)
  | .lst xs, m, lo, hi => some (.lst (cutD xs lo hi), .new m.nw)
  | .scr ns, m, lo, hi => some (.lst ((cutD ns lo hi).map D.int), .new true)
  | .tup xs, m, lo, hi => some (.tup (cutD xs lo hi), .frz m.nw)
  | .str x, _, lo, hi => if x.length ≤ sizeLine then some (.str (cutS x lo hi), .frz true) else none
  | _, _, _, _ => none
@[simp] def dSlice (f : DenE) (lo hi : Ev → Option (Option Int)) : DenE := fun Γ => (f Γ).bind fun p => (lo Γ).bind fun l => (hi Γ).bind fun h => sliceD p.1 p.2 l h
theorem cut_reps {F : Hp} {A : Addr → Prop} {ds : List D} {vs : List V} (r : Reps g F A ds vs) (lo hi : Option Int) : Reps g F A (cutD ds lo hi) (cutV vs lo hi) := by
  unfold cutD cutV
  rw [r.length]
  exact (r.drop _).take _
theorem cutD_map {α β : Type} (f : α → β) (xs : List α) (lo hi : Option Int) : cutD (xs.map f) lo hi = (cutD xs lo hi).map f := by
  unfold cutD
  rw [List.length_map, ← List.map_drop, ← List.map_take]
theorem cutD_all {α : Type} {xs : List α} {lo hi : Option Int} (h1 : HT.sIx xs.length 0 lo = 0) (h2 : HT.sIx xs.length xs.length hi = xs.length) : cutD xs lo hi = xs := by
  unfold cutD
  rw [h1, h2]
  simp
theorem de_slice {lo hi : Option Expr} {p2 : Pos} {f : DenE} {fl fh : Ev → Option (Option Int)} (he : DE X e f) (hl : DO X lo fl) (hh : DO X hi fh) : DE X (.Subscript e (.Slice lo hi none p2) pos) (dSlice f fl fh) := by
  obtain ⟨t, a1, a2⟩ := he
  obtain ⟨u, b1, b2⟩ := hl
  obtain ⟨w, c1, c2⟩ := hh
  refine ⟨_, pe_slice (sl_list.or (sl_tupA.or sl_str)) a1 b1 c1, ?_⟩
  intro F0 B F H σ Γ d m Q I e q
  obtain ⟨⟨dx, mx⟩, e1, e⟩ := bind_some e
  obtain ⟨l, e2, e⟩ := bind_some e
  obtain ⟨h, e3, e⟩ := bind_some e
  refine a2 F0 B F H σ Γ dx mx _ I e1 fun v F1 H1 X1 r1 => ?_
  refine b2 F0 B F1 H1 σ Γ l _ (I.ext X1) e2 fun F2 H2 X2 => ?_
  refine c2 F0 B F2 H2 σ Γ h _ ((I.ext X1).ext X2) e3 fun F3 H3 X3 => ?_
  have I3 := ((I.ext X1).ext X2).ext X3
  have w := ((r1.vw X1.b).ext X2).ext X3
  have X123 := X1.trans (X2.trans X3)
  cases w with
  | lst hh r =>
    cases e
    refine .inl ⟨_, _, rfl, SqL.of hh, fun p hp => ?_⟩
    exact q _ F3 _ (X123.trans (Ext.hi X3.b hp)) (.new (X3.b.free hp) (X123.h.free hp) (I3.sb.free hp) upd_same (.lst (cut_reps r l h)))
  | @scr _ ns hh =>
    cases e
    refine .inl ⟨_, _, rfl, hh, fun p hp => ?_⟩
    refine q _ F3 _ (X123.trans (Ext.hi X3.b hp)) (.new (X3.b.free hp) (X123.h.free hp) (I3.sb.free hp) upd_same (.lst ?_))
    have := cut_reps (g := gX X) (F := F3) (A := PB B true) (Reps.ofInts ns) l h
    rw [cutD_map] at this
    exact this
  | @tup _ vs xs hh r =>
    cases e
    refine .inr (.inl ⟨_, _, rfl, hh, fun z => ?_, fun _ p hp => ?_⟩)
    · rw [← r.length] at z
      rw [cutD_all z.1 z.2] at q
      cases r1 with
      | frz r1 => exact q _ F3 H3 X123 (.frz (r1.mono (X2.trans X3).f fun _ z => z))
      | new _ _ _ _ o => cases o
      | bor _ _ _ o => cases o
    · exact q _ _ _ (X123.trans (Ext.both X3.b hp)) (.frz (.tup (.inl (.inl upd_same)) ((cut_reps r l h).mono (same_upd (X3.b.free hp)) fun _ z => z)))
  | str x =>
    have e : (if x.length ≤ sizeLine then some (D.str (cutS x l h), Md.frz true) else none) = some (d, m) := e
    by_cases hz : x.length ≤ sizeLine
    · rw [if_pos hz] at e; cases e
      exact .inr (.inr ⟨x, rfl, hz, q _ F3 H3 X123 (.frz (.str _))⟩)
    · rw [if_neg hz] at e; cases e
  | _ => cases e
end
end Dn
namespace Dn
open PySem PySem.Spec L2
open PyProof.Rows hiding St

section
variable {g : Gc} {X : Cx} {e a b c : Expr} {p pos : Pos}

/-! ### built-in calls by values -/
abbrev Fc := List (D × Bool) → Option (D × Md)
def VCall (g : Gc) (r : List V → Hp → VK → Prop) (k : Fc) : Prop := ∀ (B F H : Hp) (ds : List (D × Bool)) (vs : List V) (d : D) (m : Md) (Q : VK), Same F H → Same B H → Vws g F H B ds vs → k ds = some (d, m) →
  (∀ v F' H', Ext F H F' H' → Res g B H F' H' d v m → Q v H') → r vs H Q
structure CallD (X : Cx) (f : Value) (k : Fc) : Prop where
  ex : ∃ r, CallR X f r ∧ VCall (gX X) r k
theorem CallD.imp {f : Value} {k k' : Fc} (h : CallD X f k) (i : ∀ ds r, k' ds = some r → k ds = some r) : CallD X f k' := by
  obtain ⟨r, h1, h2⟩ := h
  exact ⟨r, h1, fun B F H ds vs d m Q s sb w e q => h2 B F H ds vs d m Q s sb w (i _ _ e) q⟩
theorem CallD.or {f : Value} {k k' : Fc} (h : CallD X f k) (h' : CallD X f k') : CallD X f (fun ds => (k ds).orElse fun _ => k' ds) := by
  obtain ⟨r, h1, h2⟩ := h
  obtain ⟨r', h3, h4⟩ := h'
  refine ⟨_, h1.or h3, fun B F H ds vs d m Q s sb w e q => ?_⟩
  have e : ((k ds).orElse fun _ => k' ds) = some (d, m) := e
  cases z : k ds with
  | some y => rw [z] at e; cases e; exact .inl (h2 B F H ds vs d m Q s sb w z q)
  | none => rw [z] at e; exact .inr (h4 B F H ds vs d m Q s sb w e q)
def fc1 (k : D → Bool → Option (D × Md)) : Fc
  | [p] => k p.1 p.2
  | _ => none
def fc12 (k : D → Bool → Option (D × Md)) (h : F2) : Fc
  | [p] => k p.1 p.2
  | [p, q] => h p.1 p.2 q.1 q.2
  | _ => none
@[simp] def dBlt (k : Fc) (r : DenV) : DenE := fun Γ => (r Γ).bind k
theorem ref_cb {r : List V → Hp → VK → Prop} {k : Fc} {ta : TA} {f : DenV} (hv : VCall g r k) (h : RefV g ta f) : Ref g (tCB r ta) (dBlt k f) := by
  intro F0 B F H σ Γ d m Q I e q
  obtain ⟨ds, e1, e2⟩ := bind_some e
  refine h F0 B F H σ Γ ds _ I e1 fun vs F1 H1 X1 w => ?_
  exact hv B F1 H1 ds vs d m Q X1.b (I.ext X1).sb w e2 fun v F2 H2 X2 r2 => q v F2 H2 (X1.trans X2) (r2.old X1.h)
theorem de_bltB {x : Str} {id : String} {es : List Expr} {k : Fc} {r : DenV} (hc : CallD X (.builtin id) k) (hm : X.mg x = none) (hv : bootBuiltins x = some (.builtin id)) (ha : DV X (e :: es) r) (hg : Gl X x := by rfl) (hn : x ≠ "__name__" := by decide) (hdb : (x == ("__debug__" : Str)) = false := by decide)
    (he : starEach (e :: es) X.env = (false, eval e X.env) :: starEach es X.env := by rfl) (hpl : (backTo pos (starEach es X.env)).any (·.1) = false := by rfl) : DE X (.Call (.Name x p) (e :: es) [] pos) (dBlt k r) := by
  obtain ⟨rr, c1, c2⟩ := hc
  obtain ⟨ta, a1, a2⟩ := ha
  exact ⟨_, pe_callB c1 hg hm hv a1 hn hdb he hpl, ref_cb c2 a2⟩
theorem de_bltT {x : Str} {T : String} {es : List Expr} {k : Fc} {r : DenV} (hc : CallD X (.type T) k) (hm : X.mg x = none) (hv : bootBuiltins x = some (.type T)) (ha : DV X (e :: es) r) (hg : Gl X x := by rfl) (hn : x ≠ "__name__" := by decide) (hdb : (x == ("__debug__" : Str)) = false := by decide)
    (he : starEach (e :: es) X.env = (false, eval e X.env) :: starEach es X.env := by rfl) (hpl : (backTo pos (starEach es X.env)).any (·.1) = false := by rfl) : DE X (.Call (.Name x p) (e :: es) [] pos) (dBlt k r) := by
  obtain ⟨rr, c1, c2⟩ := hc
  obtain ⟨ta, a1, a2⟩ := ha
  exact ⟨_, pe_callTy c1 hg hm hv a1 hn hdb he hpl, ref_cb c2 a2⟩

/-! len -/
def D.len : D → Option Int
  | .lst xs => some xs.length | .tup xs => some xs.length | .scr xs => some xs.length | .dk xs => some xs.length
  | .str x => if x.length ≤ sizeLine then some x.length else none
  | _ => none
def lenF : Fc := fc1 fun d _ => d.len.map fun n => (.int n, .frz true)
theorem cd_len : CallD X (.builtin "len") lenF := by
  refine ⟨_, call_len.or call_lenD, ?_⟩
  intro B F H ds vs d m Q s sb w e q
  match ds, vs, w, e with
  | [], _, _, e => cases e
  | _ :: _ :: _, _, _, e => cases e
  | [(dx, n)], [v], .cons w .nil, e =>
    have ok : ∀ i : Int, some (D.int i, Md.frz true) = some (d, m) → Q (.int i) H := fun i e => by cases e; exact fin_sc s (.int _) q
    cases w with
    | @lst _ vs xs h r => exact .inl ⟨_, vs.length, rfl, .inl ⟨_, SqL.of h, rfl⟩, ok _ (by rw [← r.length]; exact e)⟩
    | @tup _ vs xs h r => exact .inl ⟨_, vs.length, rfl, .inr ⟨_, h, rfl⟩, ok _ (by rw [← r.length]; exact e)⟩
    | @scr _ ns h => exact .inl ⟨_, ns.length, rfl, .inl ⟨_, h, by simp⟩, ok _ e⟩
    | @dk _ ws xs h r => exact .inr ⟨_, ws, rfl, h, ok _ (by rw [← r.len]; exact e)⟩
    | str x =>
      have e : ((if x.length ≤ sizeLine then some (x.length : Int) else none).map fun n => (D.int n, Md.frz true)) = some (d, m) := e
      by_cases hz : x.length ≤ sizeLine
      · rw [if_pos hz] at e; exact .inl ⟨_, x.length, rfl, ⟨hz, rfl⟩, ok _ e⟩
      · rw [if_neg hz] at e; cases e
    | _ => cases e
/-! int, abs, bool -/
def intF : Fc := fc1 fun
  | .int i, _ => some (.int i, .frz true)
  | .bl k, _ => some (.int (if k then 1 else 0), .frz true)
  | _, _ => none
theorem cd_int : CallD X (.type "int") intF := by
  refine ⟨_, call_int1, ?_⟩
  intro B F H ds vs d m Q s sb w e q
  match ds, vs, w, e with
  | [], _, _, e => cases e
  | _ :: _ :: _, _, _, e => cases e
  | [(dx, n)], [v], .cons w .nil, e =>
    cases w with
    | int i => cases e; exact .inl ⟨i, rfl, fin_sc s (.int _) q⟩
    | bl k => cases e; exact .inr ⟨k, rfl, fin_sc s (.int _) q⟩
    | _ => cases e
def absF : Fc := fc1 fun
  | .int i, _ => some (.int (if i < 0 then -i else i), .frz true)
  | _, _ => none
theorem cd_abs : CallD X (.builtin "abs") absF := by
  refine ⟨_, call_abs, ?_⟩
  intro B F H ds vs d m Q s sb w e q
  match ds, vs, w, e with
  | [], _, _, e => cases e
  | _ :: _ :: _, _, _, e => cases e
  | [(dx, n)], [v], .cons w .nil, e =>
    cases w with
    | int i => cases e; exact ⟨i, rfl, fin_sc s (.int _) q⟩
    | _ => cases e
/-! lists of ints -/
def D.asInts : List D → Option (List Int)
  | [] => some []
  | .int i :: r => (D.asInts r).map (i :: ·)
  | _ :: _ => none
theorem asInts_map : ∀ ns : List Int, D.asInts (ns.map D.int) = some ns
  | [] => rfl
  | n :: ns => by show (D.asInts (ns.map D.int)).map (n :: ·) = _; rw [asInts_map ns]; rfl
theorem asInts_eq : ∀ {xs : List D} {ns : List Int}, D.asInts xs = some ns → xs = ns.map D.int
  | [], ns, e => by cases e; rfl
  | .int i :: r, ns, e => by
    have e : (D.asInts r).map (i :: ·) = some ns := e
    cases z : D.asInts r with
    | none => rw [z] at e; cases e
    | some k => rw [z] at e; cases e; rw [asInts_eq z]; rfl
  | .non :: _, _, e => by cases e
  | .bl _ :: _, _, e => by cases e
  | .str _ :: _, _, e => by cases e
  | .tup _ :: _, _, e => by cases e
  | .lst _ :: _, _, e => by cases e
  | .dk _ :: _, _, e => by cases e
  | .dt _ :: _, _, e => by cases e
  | .st _ :: _, _, e => by cases e
  | .scr _ :: _, _, e => by cases e
def D.intsOf : D → Option (List Int)
  | .lst xs => D.asInts xs
  | .scr ns => some ns
  | _ => none
theorem Vw.intsOf {F H : Hp} {A : Addr → Prop} {d : D} {v : V} {ns : List Int} (h : Vw g F H A d v) (e : d.intsOf = some ns) : ∃ a, v = .ref a ∧ SqL g.K H a (ns.map V.int) := by
  cases h with
  | lst h r =>
    have z := asInts_eq (show D.asInts _ = some ns from e)
    subst z
    exact ⟨_, rfl, by rw [← r.ints]; exact SqL.of h⟩
  | scr h => cases e; exact ⟨_, rfl, h⟩
  | _ => cases e
def maxL : List Int → Option Int
  | [] => none
  | x :: xs => some (xs.foldl max x)
def minL : List Int → Option Int
  | [] => none
  | x :: xs => some (xs.foldl min x)
theorem foldl_max : ∀ (xs : List Int) (x : Int), (xs.foldl max x ∈ x :: xs) ∧ ∀ y ∈ x :: xs, y ≤ xs.foldl max x
  | [], x => by simp
  | z :: xs, x => by
    obtain ⟨h1, h2⟩ := foldl_max xs (max x z)
    refine ⟨?_, fun y hy => ?_⟩
    · rcases List.mem_cons.mp h1 with h | h
      · show List.foldl max (max x z) xs ∈ _
        rw [h]
        by_cases c : x ≤ z
        · rw [Int.max_eq_right c]; simp
        · rw [Int.max_eq_left (by omega)]; simp
      · exact List.mem_cons_of_mem _ (List.mem_cons_of_mem _ h)
    · have hm := h2 (max x z) List.mem_cons_self
      show y ≤ List.foldl max (max x z) xs
      rcases List.mem_cons.mp hy with h | h
      · subst h; exact Int.le_trans (Int.le_max_left ..) hm
      · rcases List.mem_cons.mp h with h | h
        · subst h; exact Int.le_trans (Int.le_max_right ..) hm
        · exact h2 y (List.mem_cons_of_mem _ h)
theorem foldl_min : ∀ (xs : List Int) (x : Int), (xs.foldl min x ∈ x :: xs) ∧ ∀ y ∈ x :: xs, xs.foldl min x ≤ y
  | [], x => by simp
  | z :: xs, x => by
    obtain ⟨h1, h2⟩ := foldl_min xs (min x z)
    refine ⟨?_, fun y hy => ?_⟩
    · rcases List.mem_cons.mp h1 with h | h
      · show List.foldl min (min x z) xs ∈ _
        rw [h]
        by_cases c : x ≤ z
        · rw [Int.min_eq_left c]; simp
        · rw [Int.min_eq_right (by omega)]; simp
      · exact List.mem_cons_of_mem _ (List.mem_cons_of_mem _ h)
    · have hm := h2 (min x z) List.mem_cons_self
      show List.foldl min (min x z) xs ≤ y
      rcases List.mem_cons.mp hy with h | h
      · subst h; exact Int.le_trans hm (Int.min_le_left ..)
      · rcases List.mem_cons.mp h with h | h
        · subst h; exact Int.le_trans hm (Int.min_le_right ..)
        · exact h2 y (List.mem_cons_of_mem _ h)
theorem maxL_of {ns : List Int} {m : Int} (h : maxL ns = some m) : m ∈ ns ∧ ∀ y ∈ ns, y ≤ m := by
  cases ns with
  | nil => cases h
  | cons x xs => cases h; exact foldl_max xs x
theorem minL_of {ns : List Int} {m : Int} (h : minL ns = some m) : m ∈ ns ∧ ∀ y ∈ ns, m ≤ y := by
  cases ns with
  | nil => cases h
  | cons x xs => cases h; exact foldl_min xs x
def max2 : F2
  | .int i, _, .int j, _ => some (.int (if j > i then j else i), .frz true)
  | _, _, _, _ => none
def maxF : Fc := fc12 (fun d _ => (d.intsOf.bind maxL).map fun m => (.int m, .frz true)) max2
def min2 : F2
  | .int i, _, .int j, _ => some (.int (if j < i then j else i), .frz true)
  | _, _, _, _ => none
def minIF : Fc := fc12 (fun d _ => (d.intsOf.bind minL).map fun m => (.int m, .frz true)) min2
theorem cd_max (hc : X.calm = true) : CallD X (.builtin "max") maxF := by
  refine ⟨_, (call_max2 hc).or (cr_max hc), ?_⟩
  intro B F H ds vs d m Q s sb w e q
  match ds, vs, w, e with
  | [], _, _, e => cases e
  | _ :: _ :: _ :: _, _, _, e => cases e
  | [(dx, n), (dy, n')], [v, v'], .cons w (.cons w' .nil), e =>
    have e : max2 dx n dy n' = some (d, m) := e
    cases w with
    | int i => cases w' with
      | int j => cases e; exact .inl ⟨i, j, rfl, fin_sc s (.int _) q⟩
      | _ => cases e
    | _ => cases e
  | [(dx, n)], [v], .cons w .nil, e =>
    have e : (dx.intsOf.bind maxL).map (fun m => (D.int m, Md.frz true)) = some (d, m) := e
    cases z : dx.intsOf with
    | none => rw [z] at e; cases e
    | some ns =>
      rw [z] at e
      have e : (maxL ns).map (fun m => (D.int m, Md.frz true)) = some (d, m) := e
      cases y : maxL ns with
      | none => rw [y] at e; cases e
      | some k =>
        rw [y] at e
        cases e
        obtain ⟨a, rfl, hs⟩ := w.intsOf z
        have hk := maxL_of y
        refine .inr ⟨a, ns, rfl, hs, List.length_pos_of_mem hk.1, fun m' h1 h2 => ?_⟩
        rw [Int.le_antisymm (hk.2 m' h1) (h2 k hk.1)]
        exact fin_sc s (.int _) q
theorem cd_minI (hc : X.calm = true) : CallD X (.builtin "min") minIF := by
  refine ⟨_, (call_min2 hc).or (cr_min hc), ?_⟩
  intro B F H ds vs d m Q s sb w e q
  match ds, vs, w, e with
  | [], _, _, e => cases e
  | _ :: _ :: _ :: _, _, _, e => cases e
  | [(dx, n), (dy, n')], [v, v'], .cons w (.cons w' .nil), e =>
    have e : min2 dx n dy n' = some (d, m) := e
    cases w with
    | int i => cases w' with
      | int j => cases e; exact .inl ⟨i, j, rfl, fin_sc s (.int _) q⟩
      | _ => cases e
    | _ => cases e
  | [(dx, n)], [v], .cons w .nil, e =>
    have e : (dx.intsOf.bind minL).map (fun m => (D.int m, Md.frz true)) = some (d, m) := e
    cases z : dx.intsOf with
    | none => rw [z] at e; cases e
    | some ns =>
      rw [z] at e
      have e : (minL ns).map (fun m => (D.int m, Md.frz true)) = some (d, m) := e
      cases y : minL ns with
      | none => rw [y] at e; cases e
      | some k =>
        rw [y] at e
        cases e
        obtain ⟨a, rfl, hs⟩ := w.intsOf z
        have hk := minL_of y
        refine .inr ⟨a, ns, rfl, hs, List.length_pos_of_mem hk.1, fun m' h1 h2 => ?_⟩
        rw [Int.le_antisymm (h2 k hk.1) (hk.2 m' h1)]
        exact fin_sc s (.int _) q
def sumF : Fc := fc1 fun d _ => (d.intsOf).map fun ns => (.int ns.sum, .frz true)
theorem cd_sum (hc : X.calm = true) : CallD X (.builtin "sum") sumF := by
  refine ⟨_, cr_sum hc, ?_⟩
  intro B F H ds vs d m Q s sb w e q
  match ds, vs, w, e with
  | [], _, _, e => cases e
  | _ :: _ :: _, _, _, e => cases e
  | [(dx, n)], [v], .cons w .nil, e =>
    have e : (dx.intsOf).map (fun ns => (D.int ns.sum, Md.frz true)) = some (d, m) := e
    cases z : dx.intsOf with
    | none => rw [z] at e; cases e
    | some ns =>
      rw [z] at e
      cases e
      obtain ⟨a, rfl, hs⟩ := w.intsOf z
      exact ⟨a, ns, rfl, hs, fin_sc s (.int _) q⟩
/-! any, all -/
def D.asBls : List D → Option (List Bool)
  | [] => some []
  | .bl i :: r => (D.asBls r).map (i :: ·)
  | _ :: _ => none
theorem asBls_map : ∀ ns : List Bool, D.asBls (ns.map D.bl) = some ns
  | [] => rfl
  | n :: ns => by show (D.asBls (ns.map D.bl)).map (n :: ·) = _; rw [asBls_map ns]; rfl
theorem asBls_eq : ∀ {xs : List D} {ns : List Bool}, D.asBls xs = some ns → xs = ns.map D.bl
  | [], ns, e => by cases e; rfl
  | .bl i :: r, ns, e => by
    have e : (D.asBls r).map (i :: ·) = some ns := e
    cases z : D.asBls r with
    | none => rw [z] at e; cases e
    | some k => rw [z] at e; cases e; rw [asBls_eq z]; rfl
  | .non :: _, _, e => by cases e
  | .int _ :: _, _, e => by cases e
  | .str _ :: _, _, e => by cases e
  | .tup _ :: _, _, e => by cases e
  | .lst _ :: _, _, e => by cases e
  | .dk _ :: _, _, e => by cases e
  | .dt _ :: _, _, e => by cases e
  | .st _ :: _, _, e => by cases e
  | .scr _ :: _, _, e => by cases e
theorem Reps.bls {F : Hp} {A : Addr → Prop} : ∀ {ns : List Bool} {vs : List V}, Reps g F A (ns.map D.bl) vs → vs = ns.map V.bl
  | [], _, h => by cases h; rfl
  | n :: ns, _, h => by
    cases h with
    | cons h r => cases h; rw [Reps.bls r]; rfl
def anyF : Fc := fc1 fun
  | .lst xs, _ => (D.asBls xs).map fun ns => (.bl (ns.any id), .frz true)
  | _, _ => none
def allF : Fc := fc1 fun
  | .lst xs, _ => (D.asBls xs).map fun ns => (.bl (ns.all id), .frz true)
  | _, _ => none
theorem cd_any (hc : X.calm = true) : CallD X (.builtin "any") anyF := by
  refine ⟨_, cr_any hc, ?_⟩
  intro B F H ds vs d m Q s sb w e q
  match ds, vs, w, e with
  | [], _, _, e => cases e
  | _ :: _ :: _, _, _, e => cases e
  | [(dx, n)], [v], .cons w .nil, e =>
    cases w with
    | @lst _ vs xs h r =>
      have e : (D.asBls xs).map (fun ns => (D.bl (ns.any id), Md.frz true)) = some (d, m) := e
      cases z : D.asBls xs with
      | none => rw [z] at e; cases e
      | some ns =>
        rw [z] at e
        cases e
        rw [asBls_eq z] at r
        exact ⟨_, ns, rfl, by rw [← r.bls]; exact SqL.of h, fin_sc s (.bl _) q⟩
    | _ => cases e
theorem cd_all (hc : X.calm = true) : CallD X (.builtin "all") allF := by
  refine ⟨_, cr_all hc, ?_⟩
  intro B F H ds vs d m Q s sb w e q
  match ds, vs, w, e with
  | [], _, _, e => cases e
  | _ :: _ :: _, _, _, e => cases e
  | [(dx, n)], [v], .cons w .nil, e =>
    cases w with
    | @lst _ vs xs h r =>
      have e : (D.asBls xs).map (fun ns => (D.bl (ns.all id), Md.frz true)) = some (d, m) := e
      cases z : D.asBls xs with
      | none => rw [z] at e; cases e
      | some ns =>
        rw [z] at e
        cases e
        rw [asBls_eq z] at r
        exact ⟨_, ns, rfl, by rw [← r.bls]; exact SqL.of h, fin_sc s (.bl _) q⟩
    | _ => cases e
/-! sorted -/
def sortI (ns : List Int) : List Int := ns.mergeSort fun a b => decide (a ≤ b)
theorem sortI_perm (ns : List Int) : (sortI ns).Perm ns := List.mergeSort_perm ..
theorem sortI_sorted (ns : List Int) : (sortI ns).Pairwise (· ≤ ·) := by
  have h := List.pairwise_mergeSort (le := fun a b : Int => decide (a ≤ b)) (fun a b c h1 h2 => by simp at *; omega) (fun a b => by simp; omega) ns
  exact h.imp fun h => by simpa using h
theorem sortI_uniq {ms ns : List Int} (h1 : ms.Perm ns) (h2 : ms.Pairwise (· ≤ ·)) : ms = sortI ns := PySem.W.ksm_same (h1.trans (sortI_perm ns).symm) h2 (sortI_sorted ns)
def keyInts : List (Key × D) → Option (List Int)
  | [] => some []
  | (.inl i, _) :: r => (keyInts r).map (i :: ·)
  | _ :: _ => none
theorem keyInts_eq {F : Hp} {A : Addr → Prop} : ∀ {kvs : List (Key × D)} {ws : List (Key × V)} {ns : List Int}, RepK g F A kvs ws → keyInts kvs = some ns → ws.map (·.1) = ns.map Sum.inl
  | [], _, ns, .nil, e => by cases e; rfl
  | (.inl i, _) :: r, _, ns, .cons h t, e => by
    have e : (keyInts r).map (i :: ·) = some ns := e
    cases z : keyInts r with
    | none => rw [z] at e; cases e
    | some k => rw [z] at e; cases e; rw [List.map_cons, List.map_cons, keyInts_eq t z]
  | (.inr _, _) :: _, _, _, _, e => by cases e
def sortIF : Fc := fc1 fun
  | .dk kvs, _ => (keyInts kvs).bind fun ns => if ns.length < 64 then some (.lst ((sortI ns).map D.int), .new true) else none
  | d, _ => (d.intsOf).map fun ns => (.lst ((sortI ns).map D.int), .new true)
theorem cd_sortI (hc : X.calm = true) : CallD X (.builtin "sorted") sortIF := by
  refine ⟨_, cr_sortedI.or (call_sortedDI hc), ?_⟩
  intro B F H ds vs d m Q s sb w e q
  match ds, vs, w, e with
  | [], _, _, e => cases e
  | _ :: _ :: _, _, _, e => cases e
  | [(dx, n)], [v], .cons w .nil, e =>
    have fin : ∀ {ns ns' : List Int} {p : Addr}, (D.lst ((sortI ns).map D.int), Md.new true) = (d, m) → ns'.Perm ns → ns'.Pairwise (· ≤ ·) → H p = none → Q (.ref p) (upd H p (.lst (ns'.map V.int))) := fun {ns ns' p} e h1 h2 hp => by
      cases e
      rw [sortI_uniq h1 h2]
      exact q _ F _ (Ext.hi s hp) (.new (s.free hp) hp (sb.free hp) upd_same (.lst (Reps.ofInts _)))
    have gen : (dx.intsOf).map (fun ns => (D.lst ((sortI ns).map D.int), Md.new true)) = some (d, m) → rSortedI (gX X).K [v] H Q := fun e => by
      cases z : dx.intsOf with
      | none => rw [z] at e; cases e
      | some ns =>
        rw [z] at e
        obtain ⟨a, rfl, hs⟩ := w.intsOf z
        exact ⟨a, ns, rfl, hs, fun ns' p h1 h2 hp => fin (Option.some.inj e) h1 h2 hp⟩
    cases w with
    | @dk _ ws kvs h r =>
      have e : ((keyInts kvs).bind fun ns => if ns.length < 64 then some (D.lst ((sortI ns).map D.int), Md.new true) else none) = some (d, m) := e
      obtain ⟨ns, z, e⟩ := bind_some e
      by_cases c : ns.length < 64
      · rw [if_pos c] at e
        exact .inr ⟨_, ws, ns, rfl, .inl h, keyInts_eq r z, c, fun ys p h1 h2 hp => fin (Option.some.inj e) h1 h2 hp⟩
      · rw [if_neg c] at e; cases e
    | _ => exact .inl (gen e)
/-! list -/
def listF : Fc := fc1 fun
  | .lst xs, n => some (.lst xs, .new n)
  | .tup xs, n => some (.lst xs, .new n)
  | .scr ns, _ => some (.lst (ns.map D.int), .new true)
  | .dk kvs, _ => some (.lst (kvs.map fun kv => match kv.1 with | .inl i => .int i | .inr x => .str x), .new true)
  | _, _ => none
theorem keys_reps {F : Hp} {A : Addr → Prop} {A' : Addr → Prop} : ∀ {kvs : List (Key × D)} {ws : List (Key × V)}, RepK g F A kvs ws → Reps g F A' (kvs.map fun kv => match kv.1 with | .inl i => D.int i | .inr x => .str x) (ws.map fun kv => kV kv.1)
  | _, _, .nil => .nil
  | (.inl i, _) :: _, _, .cons h t => .cons (.int i) (keys_reps t)
  | (.inr i, _) :: _, _, .cons h t => .cons (.str i) (keys_reps t)
theorem cd_list (hc : X.calm = true) : CallD X (.type "list") listF := by
  refine ⟨_, call_list_of.or (call_list_dK hc), ?_⟩
  intro B F H ds vs d m Q s sb w e q
  match ds, vs, w, e with
  | [], _, _, e => cases e
  | _ :: _ :: _, _, _, e => cases e
  | [(dx, n)], [v], .cons w .nil, e =>
    cases w with
    | lst h r => cases e; exact .inl ⟨_, _, rfl, .inl (SqL.of h), fun l hl => q _ F _ (Ext.hi s hl) (.new (s.free hl) hl (sb.free hl) upd_same (.lst r))⟩
    | tup h r => cases e; exact .inl ⟨_, _, rfl, .inr h, fun l hl => q _ F _ (Ext.hi s hl) (.new (s.free hl) hl (sb.free hl) upd_same (.lst r))⟩
    | scr h => cases e; exact .inl ⟨_, _, rfl, .inl h, fun l hl => q _ F _ (Ext.hi s hl) (.new (s.free hl) hl (sb.free hl) upd_same (.lst (Reps.ofInts _)))⟩
    | dk h r => cases e; exact .inr ⟨_, _, rfl, h, fun l hl => q _ F _ (Ext.hi s hl) (.new (s.free hl) hl (sb.free hl) upd_same (.lst (keys_reps r)))⟩
    | _ => cases e
/-! list(range(..)) -/
def DenR := Ev → Option (Int × Int)
def RefR (g : Gc) (t : St → Hp → (Int → Int → Hp → Prop) → Prop) (f : DenR) : Prop := ∀ (F0 B F H : Hp) (σ : St) (Γ : Ev) (i j : Int) (Q : Int → Int → Hp → Prop), EnvR g F0 B F H σ Γ → f Γ = some (i, j) → (∀ F' H', Ext F H F' H' → Q i j H') → t σ H Q
structure DR (X : Cx) (e : Expr) (f : DenR) : Prop where
  ex : ∃ t, PRg X e t ∧ RefR (gX X) t f
@[simp] def dR1 (f : DenE) : DenR := fun Γ => (f Γ).bind fun q => match q.1 with
  | .int n => some (0, n)
  | _ => none
@[simp] def dR2 (f h : DenE) : DenR := fun Γ => (f Γ).bind fun q => (h Γ).bind fun r => match q.1, r.1 with
  | .int i, .int j => some (i, j)
  | _, _ => none
theorem dr_1 {f : DenE} (hm : X.mg "range" = none) (h : DE X a f) (hg : Gl X "range" := by rfl) (na : starEach [a] X.env = (false, eval a X.env) :: starEach [] X.env := by rfl) : DR X (.Call (.Name "range" p) [a] [] pos) (dR1 f) := by
  obtain ⟨t, h1, h2⟩ := h
  refine ⟨_, prg_1 hg hm h1 na, ?_⟩
  intro F0 B F H σ Γ i j Q I e q
  obtain ⟨⟨d, m⟩, e1, e2⟩ := bind_some e
  cases d with
  | int n =>
    cases e2
    refine h2 F0 B F H σ Γ _ m _ I e1 fun v F1 H1 X1 r1 => ?_
    have w := r1.vw X1.b
    cases w
    exact ⟨_, rfl, q F1 H1 X1⟩
  | _ => cases e2
theorem dr_2 {f h : DenE} (hm : X.mg "range" = none) (h1 : DE X a f) (h2 : DE X b h) (hg : Gl X "range" := by rfl) (na : starEach [a, b] X.env = (false, eval a X.env) :: starEach [b] X.env := by rfl) (nb : starEach [b] X.env = (false, eval b X.env) :: starEach [] X.env := by rfl)
    (hpl : (backTo pos (starEach [b] X.env)).any (·.1) = false := by rfl) : DR X (.Call (.Name "range" p) [a, b] [] pos) (dR2 f h) := by
  obtain ⟨t, a1, a2⟩ := h1
  obtain ⟨u, b1, b2⟩ := h2
  refine ⟨_, prg_2 hg hm a1 b1 na nb hpl, ?_⟩
  intro F0 B F H σ Γ i j Q I e q
  obtain ⟨⟨d, m⟩, e1, e⟩ := bind_some e
  obtain ⟨⟨d', m'⟩, e2, e3⟩ := bind_some e
  cases d with
  | int n => cases d' with
    | int k =>
      cases e3
      refine a2 F0 B F H σ Γ _ m _ I e1 fun v F1 H1 X1 r1 => ?_
      refine b2 F0 B F1 H1 σ Γ _ m' _ (I.ext X1) e2 fun v' F2 H2 X2 r2 => ?_
      have w := r1.vw X1.b
      have w' := r2.vw X2.b
      cases w
      cases w'
      exact ⟨_, _, rfl, rfl, q F2 H2 (X1.trans X2)⟩
    | _ => cases e3
  | _ => cases e3
@[simp] noncomputable def dListR (f : DenR) : DenE := fun Γ => (f Γ).bind fun q => if (rOk q.1 ∧ rOk q.2) ∧ (q.2 - q.1).toNat ≤ sizeLine then some (.lst (rngD q.1 (q.2 - q.1).toNat), .new true) else none
theorem rng_reps {F : Hp} {A : Addr → Prop} (i j : Int) : Reps g F A (rngD i (j - i).toNat) (rgV i j) := by
  have h := Reps.ofInts (g := g) (F := F) (A := A) ((List.range (j - i).toNat).map fun k => i + (k : Nat))
  rw [List.map_map, List.map_map] at h
  exact h
theorem de_listR {f : DenR} (hc : X.calm = true) (hm : X.mg "list" = none) (h : DR X e f) (hg : Gl X "list" := by rfl) (na : starEach [e] X.env = (false, eval e X.env) :: starEach [] X.env := by rfl) : DE X (.Call (.Name "list" p) [e] [] pos) (dListR f) := by
  obtain ⟨t, h1, h2⟩ := h
  refine ⟨_, pe_listRg hc hg hm h1 na, ?_⟩
  intro F0 B F H σ Γ d m Q I e q
  obtain ⟨⟨i, j⟩, e1, e2⟩ := bind_some e
  by_cases c : (rOk i ∧ rOk j) ∧ (j - i).toNat ≤ sizeLine
  · simp only [c, and_self, if_true] at e2
    cases e2
    refine h2 F0 B F H σ Γ i j _ I e1 fun F1 H1 X1 => ⟨⟨c.1.1.1, c.1.1.2, c.1.2.1, c.1.2.2, c.2⟩, fun p hp => ?_⟩
    exact q _ F1 _ (X1.trans (Ext.hi X1.b hp)) (.new (X1.b.free hp) (X1.h.free hp) ((I.ext X1).sb.free hp) upd_same (.lst (rng_reps i j)))
  · simp only [c, if_false] at e2
    cases e2
/-! isinstance -/
def D.isTy : D → String → Option Bool
  | .lst _, T => kitB "list" T | .tup _, T => kitB "tuple" T | .dk _, T => kitB "dict" T
  | .non, T => kitB "NoneType" T | .bl _, T => kitB "bool" T | .int _, T => kitB "int" T | .str _, T => kitB "str" T
  | _, _ => none
@[simp] def dIsi (f : DenE) (T : String) : DenE := fun Γ => (f Γ).bind fun q => (q.1.isTy T).map fun k => (.bl k, .frz true)
theorem Vw.tyx {F H : Hp} {A : Addr → Prop} {d : D} {v : V} {T : String} {k : Bool} (h : Vw g F H A d v) (e : d.isTy T = some k) : ∃ t, TyX g.K H v (.type t) ∧ kitB t T = some k := by
  cases h with
  | lst h _ => exact ⟨_, .base (.lst h), e⟩
  | tup h _ =>
    rcases h with (h | ⟨o, h⟩) | ⟨o, its, n, hk, hc, _⟩
    · exact ⟨_, .base (.tup h), e⟩
    · exact ⟨_, .fTuple h, e⟩
    · exact ⟨_, .kTuple hk hc, e⟩
  | dk h _ => exact ⟨_, .base (.dK h), e⟩
  | non => exact ⟨_, .base .non, e⟩
  | bl b => exact ⟨_, .base (.bl b), e⟩
  | int i => exact ⟨_, .base (.int i), e⟩
  | str x => exact ⟨_, .base (.str x), e⟩
  | _ => cases e
theorem de_isi {f : DenE} {x : Str} {T : String} {px : Pos} (hm : X.mg "isinstance" = none) (hmx : X.mg x = none) (h : DE X e f) (hv : bootBuiltins x = some (.type T)) (hg : Gl X "isinstance" := by rfl) (hgx : Gl X x := by rfl) (hn : x ≠ "__name__" := by decide) (hd : (x == ("__debug__" : Str)) = false := by decide)
    (he : starEach [e, .Name x px] X.env = (false, eval e X.env) :: starEach [.Name x px] X.env := by rfl) (he2 : starEach [.Name x px] X.env = (false, eval (.Name x px) X.env) :: starEach [] X.env := by rfl) (hpl : (backTo pos (starEach [.Name x px] X.env)).any (·.1) = false := by rfl) :
    DE X (.Call (.Name "isinstance" p) [e, .Name x px] [] pos) (dIsi f T) := by
  obtain ⟨t, h1, h2⟩ := h
  refine ⟨_, pe_callB call_isi hg hm PyProof.Rows.boot_isinstance (pa_cons h1 (pa_cons (pe_bltn (v := .ty T) hgx hmx hv rfl hn hd) pa_nil he2) he) (by decide) (by decide) he hpl, ?_⟩
  intro F0 B F H σ Γ d m Q I e q
  obtain ⟨⟨dx, mx⟩, e1, e2⟩ := bind_some e
  cases z : dx.isTy T with
  | none => simp only [z] at e2; cases e2
  | some k =>
    simp only [z] at e2
    cases e2
    refine h2 F0 B F H σ Γ dx mx _ I e1 fun v F1 H1 X1 r1 => ?_
    obtain ⟨t, ht, hk⟩ := (r1.vw X1.b).tyx z
    exact ⟨v, .ty T, .type t, .type T, k, rfl, .ty T, ht, kit_ty hk, q _ F1 H1 X1 (.frz (.bl _))⟩
end
end Dn
namespace Dn
open PySem PySem.Spec L2
open PyProof.Rows hiding St

/-! ### dicts by ints and texts -/
def D.key : D → Option Key
  | .int i => some (.inl i)
  | .str x => some (.inr x)
  | _ => none
def lookK (kvs : List (Key × D)) (k : Key) : Option D := (kvs.find? fun kv => decide (kv.1 = k)).map (·.2)
def putKD (kvs : List (Key × D)) (k : Key) (v : D) : List (Key × D) :=
  if (kvs.any fun kv => decide (kv.1 = k)) = true then kvs.map (fun kv => if kv.1 = k then (kv.1, v) else kv) else kvs ++ [(k, v)]
section
variable {g : Gc} {F : Hp} {A : Addr → Prop}
theorem Rep.key {d : D} {v : V} {k : Key} (h : Rep g F A d v) (e : d.key = some k) : v = kV k := by
  cases h with
  | int i => cases e; rfl
  | str x => cases e; rfl
  | _ => cases e
theorem Vw.key {H : Hp} {d : D} {v : V} {k : Key} (h : Vw g F H A d v) (e : d.key = some k) : v = kV k := by
  cases h with
  | int i => cases e; rfl
  | str x => cases e; rfl
  | _ => cases e
theorem RepK.look (k : Key) : ∀ {kvs : List (Key × D)} {ws : List (Key × V)}, RepK g F A kvs ws → (lookK kvs k = none ∧ valV ws k = none) ∨ ∃ d v, lookK kvs k = some d ∧ valV ws k = some v ∧ Rep g F A d v
  | _, _, .nil => .inl ⟨rfl, rfl⟩
  | _, _, .cons (k := k') (x := x) (v := v) (xs := xs) (vs := vs) h t => by
    unfold lookK valV
    by_cases e : k' = k
    · refine .inr ⟨x, v, ?_, ?_, h⟩ <;> simp [List.find?_cons, e]
    · rcases RepK.look k t with ⟨h1, h2⟩ | ⟨d, w, h1, h2, h3⟩
      · unfold lookK at h1
        unfold valV at h2
        refine .inl ⟨?_, ?_⟩
        · rw [List.find?_cons]; simp only [decide_eq_false e]; exact h1
        · rw [List.find?_cons]; simp only [decide_eq_false e]; exact h2
      · unfold lookK at h1
        unfold valV at h2
        refine .inr ⟨d, w, ?_, ?_, h3⟩
        · rw [List.find?_cons]; simp only [decide_eq_false e]; exact h1
        · rw [List.find?_cons]; simp only [decide_eq_false e]; exact h2
theorem RepK.any (k : Key) : ∀ {kvs : List (Key × D)} {ws : List (Key × V)}, RepK g F A kvs ws → (kvs.any fun kv => decide (kv.1 = k)) = ws.any fun kv => decide (kv.1 = k)
  | _, _, .nil => rfl
  | _, _, .cons h t => by rw [List.any_cons, List.any_cons, RepK.any k t]
theorem RepK.app : ∀ {a b : List (Key × D)} {ws zs : List (Key × V)}, RepK g F A a ws → RepK g F A b zs → RepK g F A (a ++ b) (ws ++ zs)
  | _, _, _, _, .nil, s => s
  | _, _, _, _, .cons h r, s => .cons h (RepK.app r s)
theorem RepK.repl {d : D} {v : V} (k : Key) (q : Rep g F A d v) : ∀ {kvs : List (Key × D)} {ws : List (Key × V)}, RepK g F A kvs ws → RepK g F A (kvs.map fun kv => if kv.1 = k then (kv.1, d) else kv) (ws.map fun kv => if kv.1 = k then (kv.1, v) else kv)
  | _, _, .nil => .nil
  | _, _, .cons (k := k') h t => by
    rw [List.map_cons, List.map_cons]
    by_cases e : k' = k
    · simp only [e, if_true]; exact .cons q (RepK.repl k q t)
    · simp only [if_neg e]; exact .cons h (RepK.repl k q t)
theorem RepK.put {kvs : List (Key × D)} {ws : List (Key × V)} {d : D} {v : V} (k : Key) (r : RepK g F A kvs ws) (q : Rep g F A d v) : RepK g F A (putKD kvs k d) (putK ws k v) := by
  unfold putKD putK
  rw [r.any k]
  split
  · exact r.repl k q
  · exact r.app (.cons q .nil)
end
section
variable {g : Gc} {X : Cx} {e a b c o f : Expr} {p pos : Pos}
@[simp] def dDict : DenE := fun _ => some (.dk [], .new true)
theorem de_dict : DE X (.Dict [] [] pos) dDict := by
  refine ⟨_, pe_dnewK, ?_⟩
  intro F0 B F H σ Γ d m Q I e q p hp
  cases e
  exact q _ F _ (Ext.hi I.x.b hp) (.new (I.x.b.free hp) hp (I.sb.free hp) upd_same (.dk .nil))
/-- d[k], there -/
def getF : F2
  | .dk kvs, n, x, _ => (x.key.bind (lookK kvs)).map fun d => (d, .frz n)
  | _, _, _, _ => none
@[simp] def dGet (f h : DenE) : DenE := dOp getF f h
theorem ref_dget {td ty : TE} {f h : DenE} (ha : Ref g td f) (hb : Ref g ty h) : Ref g (tDGet td ty) (dGet f h) := by
  intro F0 B F H σ Γ d m Q I e q
  obtain ⟨⟨dx, mx⟩, e1, e⟩ := bind_some e
  obtain ⟨⟨dy, my⟩, e2, e⟩ := bind_some e
  refine ha F0 B F H σ Γ dx mx _ I e1 fun x F1 H1 X1 r1 => ?_
  refine hb F0 B F1 H1 σ Γ dy my _ (I.ext X1) e2 fun y F2 H2 X2 r2 => ?_
  have w := (r1.vw X1.b).ext X2
  cases w with
  | @dk a ws kvs h r =>
    have e : (dy.key.bind (lookK kvs)).map (fun d => (d, Md.frz mx.nw)) = some (d, m) := e
    cases z : dy.key with
    | none => rw [z] at e; cases e
    | some k =>
      rw [z] at e
      have e : (lookK kvs k).map (fun d => (d, Md.frz mx.nw)) = some (d, m) := e
      have hy := (r2.vw X2.b).key z
      rcases r.look k with ⟨h1, h2⟩ | ⟨dd, v, h1, h2, h3⟩
      · rw [h1] at e; cases e
      · rw [h1] at e; cases e
        exact ⟨a, v, rfl, .inl ⟨ws, k, .inl h, hy, h2.symm⟩, q v F2 H2 (X1.trans X2) (.frz h3)⟩
  | _ => cases e
theorem de_get {h f : DenE} (hu : X.A.units + 1 < cLine) (ha : DE X a f) (hb : DE X b h) (hs : NoSl b := by exact fun _ _ => rfl) : DE X (.Subscript a b pos) (dGet f h) := by
  obtain ⟨t, a1, a2⟩ := ha
  obtain ⟨u, b1, b2⟩ := hb
  exact ⟨_, pe_dget hu a1 b1 hs, ref_dget a2 b2⟩
/-- k in d, k not in d -/
def inKF (neg : Bool) : F2
  | x, _, .dk kvs, _ => x.key.map fun k => (.bl (if neg then !(lookK kvs k).isSome else (lookK kvs k).isSome), .frz true)
  | _, _, _, _ => none
theorem ref_din {td ty : TE} {f h : DenE} (ha : Ref g ty f) (hb : Ref g td h) : Ref g (tDIn ty td) (dOp (inKF false) f h) := by
  intro F0 B F H σ Γ d m Q I e q
  obtain ⟨⟨dx, mx⟩, e1, e⟩ := bind_some e
  obtain ⟨⟨dy, my⟩, e2, e⟩ := bind_some e
  refine ha F0 B F H σ Γ dx mx _ I e1 fun x F1 H1 X1 r1 => ?_
  refine hb F0 B F1 H1 σ Γ dy my _ (I.ext X1) e2 fun y F2 H2 X2 r2 => ?_
  have w := r2.vw X2.b
  cases w with
  | @dk a ws kvs h r =>
    have e : dx.key.map (fun k => (D.bl (lookK kvs k).isSome, Md.frz true)) = some (d, m) := e
    cases z : dx.key with
    | none => rw [z] at e; cases e
    | some k =>
      rw [z] at e
      cases e
      have hy := (r1.vw X1.b).key z
      refine ⟨a, valV ws k, rfl, .inl ⟨ws, k, .inl h, hy, rfl⟩, ?_⟩
      have : (valV ws k).isSome = (lookK kvs k).isSome := by rcases r.look k with ⟨h1, h2⟩ | ⟨dd, v, h1, h2, h3⟩ <;> rw [h1, h2] <;> rfl
      rw [this]
      exact q _ F2 H2 (X1.trans X2) (.frz (.bl _))
  | _ => cases e
theorem ref_dnotin {td ty : TE} {f h : DenE} (ha : Ref g ty f) (hb : Ref g td h) : Ref g (tDNotIn ty td) (dOp (inKF true) f h) := by
  intro F0 B F H σ Γ d m Q I e q
  obtain ⟨⟨dx, mx⟩, e1, e⟩ := bind_some e
  obtain ⟨⟨dy, my⟩, e2, e⟩ := bind_some e
  refine ha F0 B F H σ Γ dx mx _ I e1 fun x F1 H1 X1 r1 => ?_
  refine hb F0 B F1 H1 σ Γ dy my _ (I.ext X1) e2 fun y F2 H2 X2 r2 => ?_
  have w := r2.vw X2.b
  cases w with
  | @dk a ws kvs h r =>
    have e : dx.key.map (fun k => (D.bl (!(lookK kvs k).isSome), Md.frz true)) = some (d, m) := e
    cases z : dx.key with
    | none => rw [z] at e; cases e
    | some k =>
      rw [z] at e
      cases e
      have hy := (r1.vw X1.b).key z
      refine ⟨a, valV ws k, rfl, .inl ⟨ws, k, .inl h, hy, rfl⟩, ?_⟩
      have : (valV ws k).isSome = (lookK kvs k).isSome := by rcases r.look k with ⟨h1, h2⟩ | ⟨dd, v, h1, h2, h3⟩ <;> rw [h1, h2] <;> rfl
      rw [this]
      exact q _ F2 H2 (X1.trans X2) (.frz (.bl _))
  | _ => cases e
theorem ref_tB {t : TE} {f : DenE} (h : Ref g t f) : RefT g (tB t) (dB f) := by
  intro F0 B F H σ Γ k Q I e q
  obtain ⟨⟨d, m⟩, e1, e2⟩ := bind_some e
  cases d with
  | bl c =>
    cases e2
    refine h F0 B F H σ Γ _ m _ I e1 fun v F' H' X1 r => ?_
    have w := r.vw X1.b
    cases w
    exact ⟨k, rfl, q F' H' X1⟩
  | _ => cases e2
theorem dt_inK {f h : DenE} (hu : X.A.units + 1 < cLine) (ha : DE X a f) (hb : DE X b h) (hm : behindInMarks .In b = false := by rfl) : DT X (.Compare a [.In] [b] pos) (dB (dOp (inKF false) f h)) := by
  obtain ⟨t, a1, a2⟩ := ha
  obtain ⟨u, b1, b2⟩ := hb
  exact ⟨_, pt_cmp (pc_din hu a1 b1) hm, ref_tB (ref_din a2 b2)⟩
theorem dt_notinK {f h : DenE} (hu : X.A.units + 1 < cLine) (ha : DE X a f) (hb : DE X b h) (hm : behindInMarks .NotIn b = false := by rfl) : DT X (.Compare a [.NotIn] [b] pos) (dB (dOp (inKF true) f h)) := by
  obtain ⟨t, a1, a2⟩ := ha
  obtain ⟨u, b1, b2⟩ := hb
  exact ⟨_, pt_cmp (pc_dnotin hu a1 b1) hm, ref_tB (ref_dnotin a2 b2)⟩
/-- d.get(k, x) -/
@[simp] def dGet2 (f h w : DenE) : DenE := fun Γ => (f Γ).bind fun p => (h Γ).bind fun q => ((w Γ).bind emb).bind fun r => match p.1 with
  | .dk kvs => q.1.key.map fun k => match lookK kvs k with
    | some d => (d, .frz p.2.nw)
    | none => (r.1, .frz r.2)
  | _ => none
theorem ref_dget2 {td ty tx : TE} {f h w : DenE} (ha : Ref g td f) (hb : Ref g ty h) (hc : Ref g tx w) : Ref g (tDGet2 td ty tx) (dGet2 f h w) := by
  intro F0 B F H σ Γ d m Q I e q
  obtain ⟨⟨dx, mx⟩, e1, e⟩ := bind_some e
  obtain ⟨⟨dy, my⟩, e2, e⟩ := bind_some e
  obtain ⟨⟨dz, nz⟩, e3, e⟩ := bind_some e
  refine ha F0 B F H σ Γ dx mx _ I e1 fun x F1 H1 X1 r1 => ?_
  cases dx with
  | dk kvs =>
    have e : dy.key.map (fun k => match lookK kvs k with | some d => (d, Md.frz mx.nw) | none => (dz, .frz nz)) = some (d, m) := e
    have w1 := r1.vw X1.b
    cases w1 with
    | @dk a ws _ hh r =>
    refine ⟨a, rfl, .inl ⟨ws, .inl hh⟩, ?_⟩
    refine hb F0 B F1 H1 σ Γ dy my _ (I.ext X1) e2 fun y F2 H2 X2 r2 => ?_
    refine ref_emb hc ((I.ext X1).ext X2) e3 fun z F3 H3 X3 r3 => ?_
    cases zk : dy.key with
    | none => rw [zk] at e; cases e
    | some k =>
      rw [zk] at e
      have e : (match lookK kvs k with | some d => (d, Md.frz mx.nw) | none => (dz, .frz nz)) = (d, m) := Option.some.inj e
      have hy := (r2.vw X2.b).key zk
      have X123 := X1.trans (X2.trans X3)
      rcases r.look k with ⟨h1, h2⟩ | ⟨dd, v, h1, h2, h3⟩
      · rw [h1] at e
        cases e
        exact ⟨none, .inl ⟨ws, k, .inl (X3.h _ _ (X2.h _ _ hh)), hy, h2.symm⟩, q _ F3 H3 X123 (.frz r3)⟩
      · rw [h1] at e
        cases e
        exact ⟨some v, .inl ⟨ws, k, .inl (X3.h _ _ (X2.h _ _ hh)), hy, h2.symm⟩, q _ F3 H3 X123 (.frz (h3.mono (X2.f.trans X3.f) fun _ z => z))⟩
  | _ => cases e
theorem de_get2 {f h w : DenE} {ee ff oo : Expr} {apos cpos : Pos} (hu : X.A.units + 1 < cLine) (ha : DE X oo f) (hb : DE X ee h) (hc : DE X ff w) (m : M2 X oo "get" apos ee ff cpos := by exact ⟨rfl, rfl, rfl, rfl⟩) : DE X (.Call (.Attribute oo "get" apos) [ee, ff] [] cpos) (dGet2 f h w) := by
  obtain ⟨t, a1, a2⟩ := ha
  obtain ⟨u, b1, b2⟩ := hb
  obtain ⟨v, c1, c2⟩ := hc
  exact ⟨_, pe_dget2 hu a1 b1 c1 m, ref_dget2 a2 b2 c2⟩

/-! ### x[i] = v on a list or dict of our own -/
theorem set_dict (hu : X.A.units + 1 < cLine) : PSet X (fun o i v H Q => ∃ a H4, o = .ref a ∧ DPut H a i v H4 ∧ Q H4) := by
  intro pins s σ H o i v ov iv u Q I ro ri rv h
  obtain ⟨a, H4, e, d, q⟩ := h
  subst e
  obtain rfl : ov = Value.ref a := ro
  exact d_setItem hu I d ri rv fun s4 I4 => ⟨H4, I4, q⟩
theorem pset_or {t t' : TSet} (h : PSet X t) (h' : PSet X t') : PSet X (fun o i v H Q => t o i v H Q ∨ t' o i v H Q) := by
  intro pins s σ H o i v ov iv u Q I ro ri rv q
  rcases q with q | q
  · exact h pins s σ H o i v ov iv u Q I ro ri rv q
  · exact h' pins s σ H o i v ov iv u Q I ro ri rv q
def putItem (s : Slot) (i d : D) : Option Slot := match s, i with
  | .own (.lst xs) _, .int k => (ixN xs.length k).map fun j => .own (.lst (xs.set j d)) false
  | .own (.dk kvs) _, x => x.key.bind fun k => if kvs.length < sizeLine then some (.own (.dk (putKD kvs k d)) false) else none
  | _, _ => none
def dPut (i : Nat) (fi fv : DenE) : DenS := fun Γ => match (((fv Γ).bind emb).bind fun p => (fi Γ).bind fun q => (Γ[i]?).bind fun s => putItem s q.1 p.1) with
  | some s => .nx (Γ.set i s)
  | none => .no
theorem ds_put (i : Nat) {x : Str} {xp tpos : Pos} {ie ve : Expr} {fi fv : DenE} (hu : X.A.units + 1 < cLine) (hi : DE X ie fi) (hv : DE X ve fv) (hN : X.N[i]? = some x := by rfl) (hvis : Vis X.env.scope x := by first | exact Or.inl rfl | exact Or.inr (Or.inl rfl) | exact Or.inr (Or.inr rfl)) (hd : (x == ("__debug__" : Str)) = false := by decide)
    (hcd : (x == ("__classdict__" : Str)) = false := by decide)
    (ha : ∀ v, assign (.Subscript (.Name x xp) ie tpos) X.env v = (do
      let ov ← holding [v] (eval (.Name x xp) X.env)
      let iv ← holding [v, ov] (eval ie X.env)
      standAt tpos
      holding [v, ov, iv] (setItem ov iv v)
      release [v, ov, iv] []) := by intro _; rfl)
    (hs : swapsWithSole [.Subscript (.Name x xp) ie tpos] ve pos.line X.env = pure false := by rfl) (hw : swappedStores [.Subscript (.Name x xp) ie tpos] ve X.env = pure none := by rfl)
    (h1 : (assignEach [.Subscript (.Name x xp) ie tpos] X.env).map (·.2) = [assign (.Subscript (.Name x xp) ie tpos) X.env] := by rfl) :
    DS X (.Assign [.Subscript (.Name x xp) ie tpos] ve pos) (dPut i fi fv) := by
  obtain ⟨ti, i1, i2⟩ := hi
  obtain ⟨tv, v1, v2⟩ := hv
  refine ⟨_, ps_asg v1 (pg_sub (pe_var hN hvis hd hcd) i1 (pset_or set_list (set_dict hu)) ha) hs hw h1, ?_⟩
  intro F0 B F H σ Γ E I q
  unfold dPut at q
  cases z : (((fv Γ).bind emb).bind fun p => (fi Γ).bind fun q => (Γ[i]?).bind fun s => putItem s q.1 p.1) with
  | none => rw [z] at q; exact q.elim
  | some s =>
    rw [z] at q
    obtain ⟨⟨d, n⟩, e1, z⟩ := bind_some z
    obtain ⟨⟨di, mi⟩, e2, z⟩ := bind_some z
    obtain ⟨s0, e3, z⟩ := bind_some z
    refine ref_emb v2 I e1 fun v F1 H1 X1 r1 => ?_
    have hown : ∃ dd n0, s0 = .own dd n0 := by
      cases s0 with
      | own dd n0 => exact ⟨dd, n0, rfl⟩
      | _ => cases z
    obtain ⟨dd, n0, rfl⟩ := hown
    obtain ⟨p, o, hp, hH, hF, r⟩ := I.own e3
    refine ⟨.ref p, hp, ?_⟩
    refine i2 F0 B F1 H1 σ Γ di mi _ (I.ext X1) e2 fun y F2 H2 X2 r2 => ?_
    have hH2 := X2.h _ _ (X1.h _ _ hH)
    have I2 := (I.ext X1).ext X2
    have w := r2.vw X2.b
    cases r with
    | @lst vs xs r =>
      cases w with
      | int k =>
        have z : (ixN xs.length k).map (fun j => Slot.own (.lst (xs.set j d)) false) = some s := z
        cases zj : ixN xs.length k with
        | none => rw [zj] at z; cases z
        | some j =>
          rw [zj] at z
          cases z
          refine .inl ⟨p, vs, k, j, rfl, rfl, hH2, by rw [← r.length]; exact zj, ?_⟩
          refine q σ F2 _ (I2.mut e3 hp (.lst ?_)) (X1.f.trans X2.f)
          exact Reps.set (r1.mono X2.f wkP) j (r.mono (X1.f.trans X2.f) wkP)
      | _ => cases z
    | @dk ws kvs r =>
      have z : (di.key.bind fun k => if kvs.length < sizeLine then some (Slot.own (.dk (putKD kvs k d)) false) else none) = some s := by
        cases di <;> exact z
      obtain ⟨k, zk, z⟩ := bind_some z
      by_cases c : kvs.length < sizeLine
      · rw [if_pos c] at z
        cases z
        have hy := w.key zk
        refine .inr ⟨p, _, rfl, .inl ⟨ws, k, hH2, hy, by rw [← r.len]; exact c, rfl⟩, ?_⟩
        refine q σ F2 _ (I2.mut e3 hp (.dk ?_)) (X1.f.trans X2.f)
        exact RepK.put k (r.mono (X1.f.trans X2.f) wkP) (r1.mono X2.f wkP)
      · rw [if_neg c] at z; cases z
    | dt r => cases di <;> cases z
    | st _ => cases di <;> cases z

/-! ### dict comprehensions -/
def dcGo (t : Tg) (tt : DenT) (ek ev : DenE) (Γ : Ev) : List D → List (Key × D) → Option (List (Key × D))
  | [], acc => some acc
  | d :: ds, acc => (asg t d false Γ).bind fun Γ1 => (tt Γ1).bind fun b => if b = true then ((ek Γ1).bind fun q => q.1.key).bind fun k => ((ev Γ1).bind emb).bind fun p => if acc.length < sizeLine then dcGo t tt ek ev Γ ds (putKD acc k p.1) else none else dcGo t tt ek ev Γ ds acc
def dDc (f : DenI) (t : Tg) (tt : DenT) (ek ev : DenE) (vs : List Nat) : DenE := fun Γ => (f Γ).bind fun w => (dcGo t tt ek ev (forget vs Γ) w.1 []).map fun q => (.dk q, .new false)
theorem ref_dc {wi : TI} {tg' : TG} {tt' : TT} {tk tv : TE} {f : DenI} {t : Tg} {tt : DenT} {ek ev : DenE} {vs : List Nat} (hi : RefI g wi f) (hg : RefG g tg' t) (ht : RefT g tt' tt) (hk : Ref g tk ek) (he : Ref g tv ev) (hv : ∀ j, j ∈ t.slots → j ∈ vs) :
    Ref g (tDc wi tg' tt' tk tv vs) (dDc f t tt ek ev vs) := by
  intro F0 B F H σ Γ d m Q I e q
  obtain ⟨⟨ds, n, fz⟩, e1, e⟩ := bind_some e
  cases zz : dcGo t tt ek ev (forget vs Γ) ds [] with
  | none => simp only [zz] at e; cases e
  | some out =>
  simp only [zz] at e
  cases e
  refine hi F0 B F H σ Γ ds n fz _ I e1 fun J F1 H1 X1 it Da hD => ?_
  have I1 := I.ext X1
  refine ⟨fun i mm Hh => mm = ds.length - i ∧ ∃ Fh acc accD, Ext F1 H1 Fh Hh ∧ Fh Da = none ∧ Hh Da = some (.dK acc) ∧ RepK g Fh (PB B false) accD acc ∧
    dcGo t tt ek ev (forget vs Γ) (ds.drop i) accD = some out, ⟨ds.length, by simp, F1, [], [], Ext.hi X1.b hD, X1.b.free hD, upd_same, .nil, zz⟩, ?_⟩
  rintro i mm Hh ⟨rfl, Fh, acc, accD, Xh, hF, hH, ra, el'⟩
  obtain ⟨j1, j2⟩ := it Fh Hh Xh.f Xh.b fun _ => Xh.h
  by_cases hlt : i < ds.length
  · have hd : ds[i]? = some ds[i] := List.getElem?_eq_getElem hlt
    obtain ⟨jg, jy⟩ := j1 i _ hd
    rw [List.drop_eq_getElem_cons hlt] at el'
    unfold dcGo at el'
    obtain ⟨Γ1, a1, el'⟩ := bind_some el'
    obtain ⟨bb, b1, el'⟩ := bind_some el'
    refine .inr ⟨jg, fun Hn => ∃ Fh acc accD, Ext F1 H1 Fh Hn ∧ Fh Da = none ∧ Hn Da = some (.dK acc) ∧ RepK g Fh (PB B false) accD acc ∧
      dcGo t tt ek ev (forget vs Γ) (ds.drop (i + 1)) accD = some out, fun Hn w => ⟨ds.length - (i + 1), by omega, rfl, w⟩, fun x H2 y => ?_⟩
    obtain ⟨F2, X2, rx⟩ := jy x H2 y
    have I2 : EnvR g F0 B F2 H2 (wipe σ vs) (forget vs Γ) := ((I1.ext Xh).ext X2).wipe vs
    refine hg F0 B F2 H2 (wipe σ vs) (forget vs Γ) _ false x Γ1 _ I2 (rx.mono (.refl _) wkP) a1 fun σ3 I3 k3 => ?_
    refine ⟨wipe_eq (by
      have h1 := I3.len
      have h2 := I2.len
      have h3 := asg_len a1
      rw [wipe_length] at h2
      omega) fun j hj => k3 j fun z => hj (hv j z), ?_⟩
    have X12 := Xh.trans X2
    have hF2 : F2 Da = none := X2.k Da hF (some_ne hH)
    refine ht F0 B F2 H2 σ3 Γ1 bb _ I3 b1 fun F3 H3 X3 => ?_
    have hF3 : F3 Da = none := X3.k Da hF2 (some_ne (X2.h _ _ hH))
    cases bb with
    | false => exact ⟨F3, acc, accD, X12.trans X3, hF3, X3.h _ _ (X2.h _ _ hH), ra.mono (X2.f.trans X3.f) fun _ z => z, el'⟩
    | true =>
      simp only [if_true] at el' ⊢
      obtain ⟨k, c0, el'⟩ := bind_some el'
      obtain ⟨⟨dk, mk⟩, c1, c2⟩ := bind_some c0
      obtain ⟨⟨dv, nv⟩, c3, el'⟩ := bind_some el'
      by_cases hz : accD.length < sizeLine
      · simp only [hz, if_true] at el'
        refine hk F0 B F3 H3 σ3 Γ1 dk mk _ (I3.ext X3) c1 fun vk F4 H4 X4 r4 => ?_
        refine ref_emb he ((I3.ext X3).ext X4) c3 fun v F5 H5 X5 r5 => ?_
        have hH4 := X4.h _ _ (X3.h _ _ (X2.h _ _ hH))
        have hF4 : F4 Da = none := X4.k Da hF3 (some_ne (X3.h _ _ (X2.h _ _ hH)))
        have hH5 := X5.h _ _ hH4
        have hF5 : F5 Da = none := X5.k Da hF4 (some_ne hH4)
        refine ⟨acc, k, (r4.vw X4.b).key c2, hH5, by rw [← ra.len]; exact hz, F5, _, putKD accD k dv, ?_, hF5, upd_same, ?_, el'⟩
        · have X := ((X12.trans X3).trans X4).trans X5
          exact ⟨X.f, fun a u z => by rw [upd_ne (ne_of_none z hD)]; exact X.h _ _ z, fun a u z => by rw [upd_ne (ne_of_none z hF5)]; exact X.b _ _ z, X.k⟩
        · exact RepK.put k (ra.mono (((X2.f.trans X3.f).trans X4.f).trans X5.f) wkP) (r5.mono (.refl _) wkP)
      · simp only [hz, if_false] at el'
        cases el'
  · have hge : ds.length ≤ i := by omega
    rw [List.drop_eq_nil_of_le hge] at el'
    unfold dcGo at el'
    cases el'
    exact .inl ⟨j2 i hge, q _ Fh Hh (X1.trans Xh) (.new hF (X1.h.free hD) (I1.sb.free hD) hH (.dk ra))⟩
theorem de_dc {kx vx tg iter : Expr} {ifs : List Expr} {scope : Scope} {own : List (Str × Nat)} {f : DenI} {t : Tg} {tt : DenT} {ek ev : DenE} (hc : X.calm = true) (hN : X.N.Nodup) (hi : DI X tg iter f) (ok : BlkOk X.N X.env.scope scope own)
    (hg : ∀ (s : Shared) (H : Hp) (C : Addr) (cl : List (Str × Addr)) (fp : List Addr), DG (X.blk s H scope (compEnvC scope cl C X.env) fp) tg t) (ht : ∀ (s : Shared) (H : Hp) (C : Addr) (cl : List (Str × Addr)) (fp : List Addr), DTs (X.blk s H scope (compEnvC scope cl C X.env) fp) ifs tt)
    (hk : ∀ (s : Shared) (H : Hp) (C : Addr) (cl : List (Str × Addr)) (fp : List Addr), DE (X.blk s H scope (compEnvC scope cl C X.env) fp) kx ek)
    (he : ∀ (s : Shared) (H : Hp) (C : Addr) (cl : List (Str × Addr)) (fp : List Addr), DE (X.blk s H scope (compEnvC scope cl C X.env) fp) vx ev) (hv : ∀ j, j ∈ t.slots → j ∈ own.map (·.2)) (hs : ∀ x, foldedSetIterable iter X.env x = pure x := by intro _; rfl) :
    DE X (.DictComp kx vx [⟨tg, iter, ifs, 0⟩] scope pos) (dDc f t tt ek ev (own.map (·.2))) := by
  obtain ⟨wi, i1, i2⟩ := hi
  exact ⟨_, pe_dc hc hN i1 ok (fun s H C cl fp => (hg s H C cl fp).pg) (fun s H C cl fp => (ht s H C cl fp).pts) (fun s H C cl fp => (hk s H C cl fp).pe) (fun s H C cl fp => (he s H C cl fp).pe) hs, ref_dc i2 (ref_tgOf _ _) (ref_ttOf _ _) (ref_teOf _ _) (ref_teOf _ _) hv⟩
/-! ### xs[::-1] -/
def revF : D → Md → Option (D × Md)
  | .lst xs, m => some (.lst xs.reverse, .new m.nw)
  | .scr ns, _ => some (.lst (ns.reverse.map D.int), .new true)
  | _, _ => none
@[simp] def dRev (f : DenE) : DenE := fun Γ => (f Γ).bind fun p => revF p.1 p.2
theorem de_rev {f : DenE} {k : Nat} {p1 p2 p3 : Pos} (h : DE X e f) : DE X (.Subscript e (.Slice none none (some (.UnaryOp .USub (.Constant (.int 1) k p1) p2)) p3) pos) (dRev f) := by
  obtain ⟨t, h1, h2⟩ := h
  refine ⟨_, pe_revL h1, ?_⟩
  intro F0 B F H σ Γ d m Q I e q
  obtain ⟨⟨dx, mx⟩, e1, e⟩ := bind_some e
  refine h2 F0 B F H σ Γ dx mx _ I e1 fun v F1 H1 X1 r1 => ?_
  have w := r1.vw X1.b
  cases w with
  | lst h r => cases e; exact ⟨_, _, rfl, SqL.of h, fun p hp => q _ F1 _ (X1.trans (Ext.hi X1.b hp)) (.new (X1.b.free hp) (X1.h.free hp) ((I.ext X1).sb.free hp) upd_same (.lst r.rev))⟩
  | scr h => cases e; exact ⟨_, _, rfl, h, fun p hp => q _ F1 _ (X1.trans (Ext.hi X1.b hp)) (.new (X1.b.free hp) (X1.h.free hp) ((I.ext X1).sb.free hp) upd_same (.lst (by rw [← List.map_reverse]; exact Reps.ofInts _)))⟩
  | _ => cases e
end
end Dn
namespace Dn
open PySem PySem.Spec L2
open PyProof.Rows hiding St
/-! ### sorted lists of tuples of ints -/
def lexAux (fin : Bool) : List Int → List Int → Bool
  | x :: xs, y :: ys => if x = y then lexAux fin xs ys else decide (x < y)
  | _, _ => fin
theorem lexAux_eq : ∀ xs ys : List Int, lexAux (decide (xs.length < ys.length)) xs ys = HT.lexLt xs ys
  | [], [] => rfl
  | [], _ :: _ => rfl
  | _ :: _, [] => rfl
  | x :: xs, y :: ys => by
    rw [HT.lexLt_cons, ← lexAux_eq xs ys]
    show (if x = y then lexAux _ xs ys else _) = _
    rw [show decide ((x :: xs).length < (y :: ys).length) = decide (xs.length < ys.length) from by simp]
section
variable {prog : Program} {w : World} {A : Around} {s : Shared}
theorem kat_ints {b fin : Bool} {Q : Bool → Shared → Prop} : ∀ {xs ys : List Value} {ms ns : List Int} (i : Nat), IntsAre xs ms → IntsAre ys ns → Q (lexAux fin ms ns) s → PySem.W.KatLex prog w A b fin Q (xs.zip ys) i s
  | [], _, _, _, i, .nil, _, h => by
    refine PySem.W.kat_nil ?_
    exact h
  | _ :: _, [], _, _, i, .cons n t r, .nil, h => PySem.W.kat_nil h
  | _ :: _, _ :: _, _, _, i, .cons n t r, .cons m u r', h => by
    refine PySem.W.kat_cons (SeqAt.EqAt.int_int n t m u prog w _ _ ?_)
    refine PySem.W.kat_go (fun e1 => ?_) (fun e1 => ?_)
    · have ex : n = m := by simpa using e1
      have h : Q (if n = m then lexAux fin _ _ else _) s := h
      rw [if_pos ex] at h
      exact PySem.W.kat_yes (kat_ints (i + 1) r r' h)
    · have ex : ¬ n = m := by simpa using e1
      have h : Q (if n = m then lexAux fin _ _ else decide (n < m)) s := h
      rw [if_neg ex] at h
      refine PySem.W.kat_no ?_
      exact TS.oneLt_ints _ h
theorem tup_cmp {vs : List Value} {k : Value → List Int} (hp : ∀ v ∈ vs, TS.TupInts s.heap v (k v)) : SrtO.Cmp prog w A s (tuples' true) (fun p => p.1 ∈ vs) (SrtO.lt2 fun v u => HT.lexLt (k v) (k u)) := by
  intro p q hm hm'
  obtain ⟨a, xs, e, ⟨o, ho, hc, n, hd⟩, i⟩ := hp _ hm
  obtain ⟨a', xs', e', ⟨o', ho', hc', n', hd'⟩, i'⟩ := hp _ hm'
  show wpAny (model prog w) A (keyLt' (tuples' true) p.1 q.1) (fun r s' => s' = s ∧ r = HT.lexLt (k p.1) (k q.1)) (fun _ _ => False) s
  have l1 : xs.size = (k p.1).length := by have := i.length; simpa using this
  have l2 : xs'.size = (k q.1).length := by have := i'.length; simpa using this
  generalize k p.1 = ms at *
  generalize k q.1 = ns at *
  rw [e, e']
  refine PySem.W.kat_lt ho hd ho' hd' (kat_ints 0 i i' ⟨rfl, ?_⟩)
  rw [l1, l2, lexAux_eq]
theorem firsts_ints {h : Heap} {k : Value → List Int} : ∀ {vs : List Value}, (∀ v ∈ vs, TS.TupInts h v (k v) ∧ k v ≠ []) → ∃ fs, PySem.W.KatTups h vs fs ∧ fs.length = vs.length ∧ ∀ f ∈ fs, ∃ x t, f = Value.int x t
  | [], _ => ⟨[], trivial, rfl, fun _ h => by cases h⟩
  | v :: vs, hv => by
    obtain ⟨fs, h1, h2, h3⟩ := firsts_ints fun u m => hv u (List.mem_cons_of_mem _ m)
    obtain ⟨⟨a, xs, rfl, ⟨o, ho, hc, n, hd⟩, i⟩, hne⟩ := hv v List.mem_cons_self
    generalize k (Value.ref a) = ns at *
    generalize hx : xs.toList = l at i
    cases i with
    | nil => exact absurd rfl hne
    | cons x t r =>
      have hf : xs[0]? = some (Value.int x t) := by
        rw [← Array.getElem?_toList, hx]; rfl
      refine ⟨_ :: fs, PySem.W.KatTups.cons ho hc hd hf h1, by simp [h2], fun f hm => ?_⟩
      rcases List.mem_cons.mp hm with rfl | hm
      · exact ⟨_, _, rfl⟩
      · exact h3 f hm
theorem tups_sortableO {prog : Program} {w : World} {A : Around} {s : Shared} {a : Addr} {vs : List Value} {k : Value → List Int} (h0 : 0 < vs.length) (hp : ∀ v ∈ vs, TS.TupInts s.heap v (k v) ∧ k v ≠ []) (ha : ∀ o, s.heap.get? a = some o → o.cls ≠ .type "tuple") : SrtO.SortableO prog w A s a vs fun v u => HT.lexLt (k v) (k u) := by
  intro h' keep
  have hp' : ∀ v ∈ vs, TS.TupInts h' v (k v) ∧ k v ≠ [] := fun v hm => ⟨(hp v hm).1.keeps fun b o e c => keep b o (fun z => by subst z; exact ha o e c) e, (hp v hm).2⟩
  obtain ⟨fs, h1, h2, h3⟩ := firsts_ints hp'
  refine ⟨tuples' true, fun Q E hq => ?_, tup_cmp fun v hm => (hp' v hm).1⟩
  refine PySem.W.kat_kind (T := .type "int") h1 (by omega) (fun f hm => ?_) (by rfl) ?_
  · obtain ⟨x, t, rfl⟩ := h3 f hm
    exact PySem.W.Looks.now
  · have e : (Value.type "int" != Value.type "tuple") = true := by first | decide +kernel | rfl | decide
    rw [e]
    exact hq
end
section
variable {X : Cx}
theorem back_ints {h : Heap} : ∀ {its : List Value} {L : List (V × List Int)}, L.map (·.1) = its.map backV → (∀ q ∈ L, ∃ t, q.1 = V.ref t ∧ TS.TupInts h (.ref t) q.2) → (∀ u ∈ its, ∃ a, u = Value.ref a) → its.map (fun v => (backV v, TS.intsOf h v)) = L
  | [], [], _, _, _ => rfl
  | [], _ :: _, e, _, _ => by cases e
  | _ :: _, [], e, _, _ => by cases e
  | v :: its, q :: L, e, h1, h2 => by
    rw [List.map_cons, List.map_cons] at e
    have e3 := List.cons.inj e
    rw [List.map_cons, back_ints e3.2 (fun q m => h1 q (List.mem_cons_of_mem _ m)) fun u m => h2 u (List.mem_cons_of_mem _ m)]
    obtain ⟨t, h3, h4⟩ := h1 q List.mem_cons_self
    obtain ⟨a, rfl⟩ := h2 v List.mem_cons_self
    obtain ⟨x, ns⟩ := q
    have h3 : x = V.ref t := h3
    subst h3
    have e4 : V.ref t = V.ref a := e3.1
    cases e4
    rw [show TS.intsOf h (Value.ref t) = ns from h4.ints]
    rfl
/-- sorted(xs), xs a list of tuples of ints that are not empty -/
def rSortedTI (K : PySem.W.Frag) : List V → Hp → VK → Prop := fun vs H Q => ∃ (a : Addr) (L : List (V × List Int)), vs = [V.ref a] ∧ SqL K H a (L.map (·.1)) ∧ (∀ q ∈ L, q.2 ≠ [] ∧ ∃ t, q.1 = V.ref t ∧ SqT K H t (q.2.map V.int)) ∧
  ∀ (L' : List (V × List Int)) p, L'.Perm L → L'.Pairwise (fun x y => HT.lexLt y.2 x.2 = false) → H p = none → Q (.ref p) (upd H p (.lst (L'.map (·.1))))
theorem cr_sortedTI : CallR X (.builtin "sorted") (rSortedTI X.K) := by
  intro pins s σ H vs us Q I r h
  obtain ⟨a, L, rfl, hs, hx, q⟩ := h
  obtain ⟨its, rv, hl, hz⟩ := I.list hs
  obtain ⟨u, rfl, ru⟩ := vals1 r
  obtain rfl : u = Value.ref a := ru
  obtain ⟨e1, e2⟩ := refs_back rv fun x m => by
    obtain ⟨q0, hq, rfl⟩ := List.mem_map.mp m
    obtain ⟨_, t, e, _⟩ := hx q0 hq
    exact ⟨t, e⟩
  have hT : ∀ q0 ∈ L, ∃ t, q0.1 = V.ref t ∧ TS.TupInts s.heap (.ref t) q0.2 := fun q0 hq => by
    obtain ⟨_, t, e, h⟩ := hx q0 hq
    exact ⟨t, e, tupI_raw I h⟩
  have hk : ∀ v ∈ its, TS.TupInts s.heap v (TS.intsOf s.heap v) ∧ TS.intsOf s.heap v ≠ [] := fun v hv => by
    obtain ⟨t, rfl⟩ := e2 v hv
    have hm : V.ref t ∈ L.map (·.1) := by rw [e1]; exact List.mem_map.mpr ⟨_, hv, rfl⟩
    obtain ⟨q0, hq, e⟩ := List.mem_map.mp hm
    obtain ⟨t', e', h'⟩ := hT q0 hq
    rw [e] at e'
    cases e'
    rw [h'.ints]
    exact ⟨h', (hx q0 hq).1⟩
  have hL : its.map (fun v => (backV v, TS.intsOf s.heap v)) = L := by
    exact back_ints e1 hT e2
  refine SrtO.sorted_ord (NtL.swo_lexL (TS.intsOf s.heap)) hl.isList (by rw [← rv.length]; exact hz) (fun h2 h₁ a ha kk => ?_) fun out hs hb => ?_
  · refine tups_sortableO (s := { s with heap := h₁ }) (by omega) (fun v hm => ⟨(hk v hm).1.keeps fun b o e _ => (kk b o e).2, (hk v hm).2⟩) fun o e => ?_
    have e' : some o = some (seqObj "list" its.toArray 0) := e.symm.trans ha
    cases e'
    intro c
    exact absurd (Value.type.inj c) (by decide)
  · have h3 : ∀ u ∈ out, ∃ a, u = Value.ref a := fun u hu => e2 u (hb.perm.mem_iff.mp hu)
    obtain ⟨n, hn⟩ := sortedAll_at s.heap its out.toArray
    have hd : s.heap.objs.size ≤ s.heap.objs.size + 1 := Nat.le_succ _
    refine ⟨.ref _, upd H (s.heap.objs.size + 1) (.lst (out.map backV)), I.laid (t' := s.toks) (fun b o e => sortedAll_old e) hd ⟨?_, out, n, vals_back h3, hn⟩, rfl, ?_⟩
    · rw [List.length_map, hb.perm.length_eq, ← rv.length]; exact hz
    · have := q (out.map fun v => (backV v, TS.intsOf s.heap v)) (s.heap.objs.size + 1) (by rw [← hL]; exact hb.perm.map _) (List.pairwise_map.mpr hs) (I.hok.fresh hd)
      rw [List.map_map] at this
      exact this
end
def eT (ns : List Int) : D := .tup (ns.map D.int)
def asTups : List D → Option (List (List Int))
  | [] => some []
  | .tup xs :: r => (D.asInts xs).bind fun ns => if ns = [] then none else (asTups r).map (ns :: ·)
  | _ :: _ => none
theorem asTups_eq : ∀ {ds : List D} {ts : List (List Int)}, asTups ds = some ts → ds = ts.map eT ∧ ∀ t ∈ ts, t ≠ []
  | [], ts, e => by cases e; exact ⟨rfl, fun _ h => by cases h⟩
  | .tup xs :: r, ts, e => by
    have e : ((D.asInts xs).bind fun ns => if ns = [] then none else (asTups r).map (ns :: ·)) = some ts := e
    obtain ⟨ns, e1, e⟩ := bind_some e
    by_cases h : ns = []
    · rw [if_pos h] at e; cases e
    · rw [if_neg h] at e
      cases z : asTups r with
      | none => rw [z] at e; cases e
      | some q =>
        rw [z] at e; cases e
        obtain ⟨h1, h2⟩ := asTups_eq z
        refine ⟨by rw [List.map_cons, ← h1, asInts_eq e1]; rfl, fun t ht => ?_⟩
        rcases List.mem_cons.mp ht with rfl | ht
        · exact h
        · exact h2 t ht
  | .non :: _, _, e => by cases e
  | .bl _ :: _, _, e => by cases e
  | .int _ :: _, _, e => by cases e
  | .str _ :: _, _, e => by cases e
  | .lst _ :: _, _, e => by cases e
  | .dk _ :: _, _, e => by cases e
  | .dt _ :: _, _, e => by cases e
  | .st _ :: _, _, e => by cases e
  | .scr _ :: _, _, e => by cases e
theorem asTups_map : ∀ {ts : List (List Int)}, (∀ t ∈ ts, t ≠ []) → asTups (ts.map eT) = some ts
  | [], _ => rfl
  | t :: ts, h => by
    show ((D.asInts (t.map D.int)).bind fun ns => if ns = [] then none else (asTups (ts.map eT)).map (ns :: ·)) = _
    rw [asInts_map, asTups_map fun t' m => h t' (List.mem_cons_of_mem _ m)]
    show (if t = [] then none else _) = _
    rw [if_neg (h t List.mem_cons_self)]; rfl
theorem lexLt_antisymm : ∀ {a b : List Int}, HT.lexLt a b = false → HT.lexLt b a = false → a = b
  | [], [], _, _ => rfl
  | [], _ :: _, h, _ => by cases h
  | _ :: _, [], _, h => by cases h
  | x :: xs, y :: ys, h1, h2 => by
    rw [HT.lexLt_cons] at h1 h2
    by_cases e : x = y
    · subst e
      rw [if_pos rfl] at h1 h2
      rw [lexLt_antisymm h1 h2]
    · rw [if_neg e] at h1
      rw [if_neg (Ne.symm e)] at h2
      have h1 := of_decide_eq_false h1
      have h2 := of_decide_eq_false h2
      omega
theorem sorted_uniq {α : Type} {r : α → α → Prop} (anti : ∀ a b, r a b → r b a → a = b) : ∀ {l m : List α}, l.Perm m → l.Pairwise r → m.Pairwise r → (∀ a, r a a) → l = m
  | [], m, p, _, _, _ => (List.nil_perm.mp p).symm
  | a :: l, [], p, _, _, _ => absurd p.length_eq (by simp)
  | a :: l, b :: m, p, h1, h2, rf => by
    have e : a = b := by
      have ha := List.mem_cons.mp (p.mem_iff.mp (List.mem_cons_self (a := a)))
      have hb := List.mem_cons.mp (p.mem_iff.mpr (List.mem_cons_self (a := b)))
      rcases ha with ha | ha
      · exact ha
      · rcases hb with hb | hb
        · exact hb.symm
        · exact anti a b ((List.pairwise_cons.mp h1).1 b hb) ((List.pairwise_cons.mp h2).1 a ha)
    subst e
    rw [sorted_uniq anti (List.Perm.cons_inv p) (List.pairwise_cons.mp h1).2 (List.pairwise_cons.mp h2).2 rf]
def leT (a b : List Int) : Bool := !HT.lexLt b a
def sortT (ts : List (List Int)) : List (List Int) := ts.mergeSort leT
theorem sortT_perm (ts : List (List Int)) : (sortT ts).Perm ts := List.mergeSort_perm ..
theorem sortT_sorted (ts : List (List Int)) : (sortT ts).Pairwise fun a b => HT.lexLt b a = false := by
  have h := List.pairwise_mergeSort (le := leT) (fun a b c h1 h2 => by
    unfold leT at *
    have h1 : HT.lexLt b a = false := by simpa using h1
    have h2 : HT.lexLt c b = false := by simpa using h2
    rw [NtL.lex_tr _ _ _ h1 h2]; rfl) (fun a b => by
    unfold leT
    cases h : HT.lexLt b a with
    | false => rfl
    | true => rw [NtL.lex_asym _ _ h]; rfl) ts
  exact h.imp fun h => by unfold leT at h; simpa using h
theorem sortT_uniq {ms ns : List (List Int)} (h1 : ms.Perm ns) (h2 : ms.Pairwise fun a b => HT.lexLt b a = false) : ms = sortT ns :=
  sorted_uniq (r := fun a b => HT.lexLt b a = false) (fun a b h1 h2 => (lexLt_antisymm h2 h1)) (h1.trans (sortT_perm ns).symm) h2 (sortT_sorted ns) (fun a => by
    cases h : HT.lexLt a a with
    | false => rfl
    | true => exact absurd (NtL.lex_asym _ _ h) (by rw [h]; simp))
theorem Reps.tups {g : Gc} {F : Hp} {A : Addr → Prop} : ∀ {ts : List (List Int)} {vs : List V}, Reps g F A (ts.map eT) vs → ∃ L : List (V × List Int), L.map (·.1) = vs ∧ L.map (·.2) = ts ∧ ∀ q ∈ L, ∃ t, q.1 = V.ref t ∧ SqT g.K F t (q.2.map V.int)
  | [], _, .nil => ⟨[], rfl, rfl, fun _ h => by cases h⟩
  | ts :: tss, v :: vs, .cons h r => by
    obtain ⟨L, h1, h2, h3⟩ := Reps.tups r
    cases h with
    | @tup a ws xs hs hr =>
      have := hr.ints
      subst this
      refine ⟨(_, ts) :: L, by rw [List.map_cons, h1], by rw [List.map_cons, h2], fun q hq => ?_⟩
      rcases List.mem_cons.mp hq with rfl | hq
      · exact ⟨a, rfl, hs⟩
      · exact h3 q hq
theorem Reps.ofTups {g : Gc} {F : Hp} {A : Addr → Prop} : ∀ {L : List (V × List Int)}, (∀ q ∈ L, ∃ t, q.1 = V.ref t ∧ SqT g.K F t (q.2.map V.int)) → Reps g F A ((L.map (·.2)).map eT) (L.map (·.1))
  | [], _ => .nil
  | q :: L, h => by
    obtain ⟨t, e, hs⟩ := h q List.mem_cons_self
    refine .cons ?_ (Reps.ofTups fun q' m => h q' (List.mem_cons_of_mem _ m))
    show Rep g F A (eT q.2) q.1
    rw [e]
    exact .tup hs (Reps.ofInts _)
def sortTF : Fc := fc1 fun
  | .lst xs, _ => (asTups xs).map fun ts => (.lst ((sortT ts).map eT), .new true)
  | _, _ => none
section
variable {X : Cx}
theorem cd_sortT : CallD X (.builtin "sorted") sortTF := by
  refine ⟨_, cr_sortedTI, ?_⟩
  intro B F H ds vs d m Q s sb w e q
  match ds, vs, w, e with
  | [], _, _, e => cases e
  | _ :: _ :: _, _, _, e => cases e
  | [(dx, n)], [v], .cons w .nil, e =>
    cases w with
    | @lst a vs xs h r =>
      have e : (asTups xs).map (fun ts => (D.lst ((sortT ts).map eT), Md.new true)) = some (d, m) := e
      cases z : asTups xs with
      | none => rw [z] at e; cases e
      | some ts =>
        rw [z] at e; cases e
        obtain ⟨h1, h2⟩ := asTups_eq z
        subst h1
        obtain ⟨L, l1, l2, l3⟩ := r.tups
        subst l1
        subst l2
        refine ⟨_, L, rfl, SqL.of h, fun q0 hq => ⟨h2 _ (List.mem_map.mpr ⟨q0, hq, rfl⟩), ?_⟩, fun L' p hp hs hn => ?_⟩
        · obtain ⟨t, e, hs⟩ := l3 q0 hq
          exact ⟨t, e, sameT s hs⟩
        · have e3 : L'.map (·.2) = sortT (L.map (·.2)) := sortT_uniq (hp.map _) (List.pairwise_map.mpr hs)
          rw [← e3] at q
          exact q _ F _ (Ext.hi s hn) (.new (s.free hn) hn (sb.free hn) upd_same (.lst (Reps.ofTups fun q0 hq => l3 q0 (hp.mem_iff.mp hq))))
    | _ => cases e
end
end Dn
namespace Dn
open PySem PySem.Spec L2
open PyProof.Rows hiding St

section
variable {g : Gc} {X : Cx} {e a b c : Expr} {p pos : Pos}
/-! ### one rule for what is asked of several kinds -/
theorem pe_or {t u : TE} (h : PE X e t) (h' : PE X e u) : PE X e (fun σ H Q => t σ H Q ∨ u σ H Q) := ⟨fun pins s σ H Q I q => by
  rcases q with q | q
  · exact h.run pins s σ H Q I q
  · exact h'.run pins s σ H Q I q⟩
theorem pt_or {t u : TT} (h : PT X e t) (h' : PT X e u) : PT X e (fun σ H Q => t σ H Q ∨ u σ H Q) := ⟨fun pins s σ H Q I q => by
  rcases q with q | q
  · exact h.run pins s σ H Q I q
  · exact h'.run pins s σ H Q I q⟩
theorem ref_or {t u : TE} {f f1 f2 : DenE} (h : Ref g t f1) (h' : Ref g u f2) (hk : ∀ Γ r, f Γ = some r → f1 Γ = some r ∨ f2 Γ = some r) : Ref g (fun σ H Q => t σ H Q ∨ u σ H Q) f := fun F0 B F H σ Γ d m Q I e q => by
  rcases hk Γ _ e with k | k
  · exact .inl (h F0 B F H σ Γ d m Q I k q)
  · exact .inr (h' F0 B F H σ Γ d m Q I k q)
theorem refT_or {t u : TT} {f f1 f2 : DenT} (h : RefT g t f1) (h' : RefT g u f2) (hk : ∀ Γ r, f Γ = some r → f1 Γ = some r ∨ f2 Γ = some r) : RefT g (fun σ H Q => t σ H Q ∨ u σ H Q) f := fun F0 B F H σ Γ d Q I e q => by
  rcases hk Γ _ e with k | k
  · exact .inl (h F0 B F H σ Γ d Q I k q)
  · exact .inr (h' F0 B F H σ Γ d Q I k q)
theorem dOp_or {f f1 f2 : F2} (hk : ∀ a m b n r, f a m b n = some r → f1 a m b n = some r ∨ f2 a m b n = some r) {fa fb : DenE} (Γ : Ev) (r : D × Md) (e : dOp f fa fb Γ = some r) : dOp f1 fa fb Γ = some r ∨ dOp f2 fa fb Γ = some r := by
  obtain ⟨x, e1, e⟩ := bind_some e
  obtain ⟨y, e2, e⟩ := bind_some e
  rcases hk _ _ _ _ _ e with k | k
  · left; unfold dOp; rw [e1]; show (fb Γ).bind _ = _; rw [e2]; exact k
  · right; unfold dOp; rw [e1]; show (fb Γ).bind _ = _; rw [e2]; exact k
/-- x[i] of a list, tuple, text, dict -/
def subsD : F2
  | .dk kvs, n, x, k => getF (.dk kvs) n x k
  | a, n, x, k => atD a n x k
theorem subsD_or (a : D) (m : Bool) (b : D) (n : Bool) (r : D × Md) (e : subsD a m b n = some r) : atD a m b n = some r ∨ getF a m b n = some r := by
  cases a <;> first | exact .inl e | exact .inr e
theorem de_subs {f h : DenE} (hu : X.A.units + 1 < cLine) (ha : DE X a f) (hb : DE X b h) (hs : PlainIx b := by exact fun _ _ => rfl) : DE X (.Subscript a b pos) (dOp subsD f h) := by
  obtain ⟨t, a1, a2⟩ := ha
  obtain ⟨u, b1, b2⟩ := hb
  exact ⟨_, pe_or (pe_ix ix_seq a1 b1 hs) (pe_dget hu a1 b1 hs), ref_or (ref_op vop_at a2 b2) (ref_dget a2 b2) (dOp_or subsD_or)⟩
/-- k in x of a list, tuple, dict, text -/
def inStrD (neg : Bool) : F2
  | .str i, _, .str j, _ => some (.bl (if neg then !(!(Builtin.Str.occurrences j i 0 j.length 1).isEmpty) else !(Builtin.Str.occurrences j i 0 j.length 1).isEmpty), .frz true)
  | _, _, _, _ => none
theorem od_inStr : OpD X (compareOp .In) (inStrD false) := by
  refine ⟨_, op_in_str, ?_⟩
  intro B F H dx dy ax ay x y d m Q s sb vx vy e q
  cases vx with
  | str i => cases vy with
    | str j => cases e; exact ⟨i, j, rfl, rfl, fin_sc s (.bl _) q⟩
    | _ => cases e
  | _ => cases e
theorem od_notinStr : OpD X (compareOp .NotIn) (inStrD true) := by
  refine ⟨_, op_notIn_str, ?_⟩
  intro B F H dx dy ax ay x y d m Q s sb vx vy e q
  cases vx with
  | str i => cases vy with
    | str j => cases e; exact ⟨i, j, rfl, rfl, fin_sc s (.bl _) q⟩
    | _ => cases e
  | _ => cases e
def memD (neg : Bool) : F2
  | x, m, .dk kvs, n => inKF neg x m (.dk kvs) n
  | x, m, .str y, n => inStrD neg x m (.str y) n
  | x, m, y, n => inSeqD neg x m y n
theorem memD_or {neg : Bool} (a : D) (m : Bool) (b : D) (n : Bool) (r : D × Md) (e : memD neg a m b n = some r) : ((inSeqD neg a m b n).orElse fun _ => inStrD neg a m b n) = some r ∨ inKF neg a m b n = some r := by
  cases b with
  | dk kvs => exact .inr e
  | str y => exact .inl (by have e : inStrD neg a m (.str y) n = some r := e; rw [e]; cases a <;> rfl)
  | lst ys => exact .inl (by have e : inSeqD neg a m (.lst ys) n = some r := e; rw [e]; rfl)
  | tup ys => exact .inl (by have e : inSeqD neg a m (.tup ys) n = some r := e; rw [e]; rfl)
  | _ => cases e
theorem dt_in {f h : DenE} (hu : X.A.units + 64 < cLine) (ha : DE X a f) (hb : DE X b h) (hm : behindInMarks .In b = false := by rfl) : DT X (.Compare a [.In] [b] pos) (dB (dOp (memD false) f h)) := by
  obtain ⟨r, o1, o2⟩ := (od_in hu).or (od_inStr (X := X))
  obtain ⟨t, a1, a2⟩ := ha
  obtain ⟨u, b1, b2⟩ := hb
  refine ⟨_, pt_or (pt_cmpR o1 a1 b1 hm) (pt_cmp (pc_din (by omega) a1 b1) hm), refT_or (ref_tTest (ref_op o2 a2 b2)) (ref_tB (ref_din a2 b2)) fun Γ r e => ?_⟩
  obtain ⟨x, e1, e2⟩ := bind_some e
  rcases dOp_or memD_or Γ x e1 with k | k
  · left; rw [k]; exact e2
  · right; unfold dB; rw [k]; exact e2
theorem dt_notin {f h : DenE} (hu : X.A.units + 64 < cLine) (ha : DE X a f) (hb : DE X b h) (hm : behindInMarks .NotIn b = false := by rfl) : DT X (.Compare a [.NotIn] [b] pos) (dB (dOp (memD true) f h)) := by
  obtain ⟨r, o1, o2⟩ := (od_notin hu).or (od_notinStr (X := X))
  obtain ⟨t, a1, a2⟩ := ha
  obtain ⟨u, b1, b2⟩ := hb
  refine ⟨_, pt_or (pt_cmpR o1 a1 b1 hm) (pt_cmp (pc_dnotin (by omega) a1 b1) hm), refT_or (ref_tTest (ref_op o2 a2 b2)) (ref_tB (ref_dnotin a2 b2)) fun Γ r e => ?_⟩
  obtain ⟨x, e1, e2⟩ := bind_some e
  rcases dOp_or memD_or Γ x e1 with k | k
  · left; rw [k]; exact e2
  · right; unfold dB; rw [k]; exact e2
theorem de_in {f h : DenE} (hu : X.A.units + 64 < cLine) (ha : DE X a f) (hb : DE X b h) (hm : behindInMarks .In b = false := by rfl) : DE X (.Compare a [.In] [b] pos) (dOp (memD false) f h) := by
  obtain ⟨r, o1, o2⟩ := (od_in hu).or (od_inStr (X := X))
  obtain ⟨t, a1, a2⟩ := ha
  obtain ⟨u, b1, b2⟩ := hb
  exact ⟨_, pe_or (pe_cmpR o1 a1 b1 hm) (pe_cmp (pc_din (by omega) a1 b1) hm), ref_or (ref_op o2 a2 b2) (ref_din a2 b2) (dOp_or memD_or)⟩
theorem de_notin {f h : DenE} (hu : X.A.units + 64 < cLine) (ha : DE X a f) (hb : DE X b h) (hm : behindInMarks .NotIn b = false := by rfl) : DE X (.Compare a [.NotIn] [b] pos) (dOp (memD true) f h) := by
  obtain ⟨r, o1, o2⟩ := (od_notin hu).or (od_notinStr (X := X))
  obtain ⟨t, a1, a2⟩ := ha
  obtain ⟨u, b1, b2⟩ := hb
  exact ⟨_, pe_or (pe_cmpR o1 a1 b1 hm) (pe_cmp (pc_dnotin (by omega) a1 b1) hm), ref_or (ref_op o2 a2 b2) (ref_dnotin a2 b2) (dOp_or memD_or)⟩

/-! ### order: ints, tuples of ints -/
def D.tupInts : D → Option (List Int)
  | .tup xs => D.asInts xs
  | _ => none
theorem Vw.tupInts {F H : Hp} {A : Addr → Prop} {d : D} {v : V} {ns : List Int} (h : Vw g F H A d v) (e : d.tupInts = some ns) : ∃ a, v = .ref a ∧ SqT g.K H a (ns.map V.int) := by
  cases h with
  | tup h r =>
    have z := asInts_eq (show D.asInts _ = some ns from e)
    subst z
    exact ⟨_, rfl, by rw [← r.ints]; exact h⟩
  | _ => cases e
def ltT : F2 := fun a _ b _ => a.tupInts.bind fun x => b.tupInts.map fun y => (.bl (HT.lexLt x y), .frz true)
theorem od_ltT (hu : X.A.units < cLine) : OpD X (compareOp .Lt) ltT := by
  refine ⟨_, op_ltT hu, ?_⟩
  intro B F H dx dy ax ay x y d m Q s sb vx vy e q
  obtain ⟨ns, e1, e⟩ := bind_some e
  cases z : dy.tupInts with
  | none => rw [z] at e; cases e
  | some ms =>
    rw [z] at e
    cases e
    obtain ⟨p1, rfl, h1⟩ := vx.tupInts e1
    obtain ⟨p2, rfl, h2⟩ := vy.tupInts z
    exact ⟨p1, p2, ns, ms, rfl, rfl, h1, h2, fin_sc s (.bl _) q⟩
def ltD : F2
  | .int i, m, b, n => ltI (.int i) m b n
  | a, m, b, n => ltT a m b n
theorem od_ltD (hu : X.A.units < cLine) : OpD X (compareOp .Lt) ltD := (od_lt.or (od_ltT hu)).imp fun a m b n r e => by
  cases a with
  | int i =>
    have e : ltI (.int i) m b n = some r := e
    rw [e]; rfl
  | _ =>
    refine (?_ : (none : Option (D × Md)).orElse _ = some r)
    exact e
def rCmpP (K : PySem.W.Frag) (f : PyData → PyData → Bool) : R2 := fun x y H Q => ∃ d e, Dp K H x d ∧ Dp K H y e ∧ PySem.W.alike d e = true ∧ d ≠ .none ∧ d.depth ≤ 50 ∧ Q (.bl (f d e)) H
theorem op_gtP (hu : X.A.units + 64 < cLine) : OpR X (compareOp .Gt) (rCmpP X.K fun d e => PySem.W.dataLt e d) := by
  intro pins s σ H x y v u Q I rx ry h
  obtain ⟨d, e, hd, he, al, hn, dd, q⟩ := h
  obtain ⟨as, r1⟩ := Dp.reads I d x v hd rx
  obtain ⟨bs, r2⟩ := Dp.reads I e y u he ry
  exact PySem.W.gt_data r1 r2 al hn (by have := Nat.min_le_left d.depth e.depth; omega) ⟨.bl _, H, I, rfl, q⟩
theorem op_leP (hu : X.A.units + 64 < cLine) : OpR X (compareOp .LtE) (rCmpP X.K fun d e => !PySem.W.dataLt e d) := by
  intro pins s σ H x y v u Q I rx ry h
  obtain ⟨d, e, hd, he, al, hn, dd, q⟩ := h
  obtain ⟨as, r1⟩ := Dp.reads I d x v hd rx
  obtain ⟨bs, r2⟩ := Dp.reads I e y u he ry
  exact PySem.W.le_data r1 r2 al hn (by have := Nat.min_le_left d.depth e.depth; omega) ⟨.bl _, H, I, rfl, q⟩
theorem op_geP (hu : X.A.units + 64 < cLine) : OpR X (compareOp .GtE) (rCmpP X.K fun d e => !PySem.W.dataLt d e) := by
  intro pins s σ H x y v u Q I rx ry h
  obtain ⟨d, e, hd, he, al, hn, dd, q⟩ := h
  obtain ⟨as, r1⟩ := Dp.reads I d x v hd rx
  obtain ⟨bs, r2⟩ := Dp.reads I e y u he ry
  exact PySem.W.ge_data r1 r2 al hn (by have := Nat.min_le_left d.depth e.depth; omega) ⟨.bl _, H, I, rfl, q⟩
theorem dataLt_rows : ∀ ns ms : List Int, PyProof.Rows.lexLt itemOrd (PySem.W.keyToksAll (ns.map PyData.int)) (PySem.W.keyToksAll (ms.map PyData.int)) = HT.lexLt ns ms
  | [], [] => by decide
  | [], y :: ys => by
    rw [List.map_nil, List.map_cons, PySem.W.keyToksAll, PySem.W.keyToksAll]
    rfl
  | x :: xs, [] => by
    rw [List.map_nil, List.map_cons, PySem.W.keyToksAll, PySem.W.keyToksAll]
    rfl
  | x :: xs, y :: ys => by
    rw [List.map_cons, List.map_cons, PySem.W.dataLt_cons (by rfl), HT.lexLt_cons, dataLt_rows xs ys, PySem.W.dataLt_int]
    by_cases h : x = y
    · subst h; simp [PyData.eqv]
    · have : PyData.eqv (.int x) (.int y) = false := by simp [PyData.eqv, h]
      rw [this, if_neg h]; simp
theorem dataLt_tupI (ns ms : List Int) : PySem.W.dataLt (.tuple (ns.map PyData.int)) (.tuple (ms.map PyData.int)) = HT.lexLt ns ms := by
  rw [PySem.W.dataLt_tuple, dataLt_rows]
theorem alike_ints : ∀ ns ms : List Int, PySem.W.alikeAll (ns.map PyData.int) (ms.map PyData.int) = true
  | [], [] => by simp [PySem.W.alikeAll]
  | [], _ :: _ => by simp [PySem.W.alikeAll]
  | _ :: _, [] => by simp [PySem.W.alikeAll]
  | x :: xs, y :: ys => by
    rw [List.map_cons, List.map_cons, PySem.W.alikeAll, alike_ints xs ys]; rfl
theorem tup_py {d : D} {ns : List Int} (e : d.tupInts = some ns) : d.py = .tuple (ns.map PyData.int) ∧ d.pl 50 = true := by
  cases d with
  | tup xs =>
    have := asInts_eq (show D.asInts xs = some ns from e)
    subst this
    refine ⟨?_, ?_⟩
    · rw [D.py, pys_map, List.map_map]; congr 1
    · rw [D.pl, List.all_eq_true]
      intro x hx
      obtain ⟨i, _, rfl⟩ := List.mem_map.mp hx
      rfl
  | _ => cases e
def cmpT (f : List Int → List Int → Bool) : F2 := fun a _ b _ => a.tupInts.bind fun x => b.tupInts.map fun y => (.bl (f x y), .frz true)
theorem od_cmpT {co : Value → Value → Sem Value} {f : List Int → List Int → Bool} {h : PyData → PyData → Bool} (o : OpR X co (rCmpP X.K h)) (e : ∀ ns ms, h (.tuple (ns.map PyData.int)) (.tuple (ms.map PyData.int)) = f ns ms) : OpD X co (cmpT f) := by
  refine ⟨_, o, ?_⟩
  intro B F H dx dy ax ay x y d m Q s sb vx vy e' q
  obtain ⟨ns, e1, e'⟩ := bind_some e'
  cases z : dy.tupInts with
  | none => rw [z] at e'; cases e'
  | some ms =>
    rw [z] at e'
    cases e'
    obtain ⟨p1, c1⟩ := tup_py e1
    obtain ⟨p2, c2⟩ := tup_py z
    have h1 := pl_plain 50 dx c1
    refine ⟨dx.py, dy.py, vx.dp s c1, vy.dp s c2, ?_, ?_, h1.2, ?_⟩
    · rw [p1, p2]; exact alike_ints ns ms
    · rw [p1]; simp
    · rw [p1, p2, e]; exact fin_sc s (.bl _) q
def gtD : F2
  | .int i, m, b, n => gtI (.int i) m b n
  | a, m, b, n => cmpT (fun x y => HT.lexLt y x) a m b n
def leD : F2
  | .int i, m, b, n => leI (.int i) m b n
  | a, m, b, n => cmpT (fun x y => !HT.lexLt y x) a m b n
def geD : F2
  | .int i, m, b, n => geI (.int i) m b n
  | a, m, b, n => cmpT (fun x y => !HT.lexLt x y) a m b n
theorem od_gtD (hu : X.A.units + 64 < cLine) : OpD X (compareOp .Gt) gtD := (od_gt.or (od_cmpT (op_gtP hu) fun ns ms => dataLt_tupI ms ns)).imp fun a m b n r e => by
  cases a with
  | int i =>
    have e : gtI (.int i) m b n = some r := e
    rw [e]; rfl
  | _ =>
    refine (?_ : (none : Option (D × Md)).orElse _ = some r)
    exact e
theorem od_leD (hu : X.A.units + 64 < cLine) : OpD X (compareOp .LtE) leD := (od_le.or (od_cmpT (op_leP hu) fun ns ms => by rw [dataLt_tupI ms ns])).imp fun a m b n r e => by
  cases a with
  | int i =>
    have e : leI (.int i) m b n = some r := e
    rw [e]; rfl
  | _ =>
    refine (?_ : (none : Option (D × Md)).orElse _ = some r)
    exact e
theorem od_geD (hu : X.A.units + 64 < cLine) : OpD X (compareOp .GtE) geD := (od_ge.or (od_cmpT (op_geP hu) fun ns ms => by rw [dataLt_tupI ns ms])).imp fun a m b n r e => by
  cases a with
  | int i =>
    have e : geI (.int i) m b n = some r := e
    rw [e]; rfl
  | _ =>
    refine (?_ : (none : Option (D × Md)).orElse _ = some r)
    exact e

/-! ### name op= e, whole numbers -/
structure IpD (X : Cx) (op : Operator) (f : F2) : Prop where
  ex : ∃ r, PIp X op r ∧ VOp (gX X) r f
def dAug (i : Nat) (f : F2) (h : DenE) : DenS := fun Γ => match Γ[i]? with
  | some (.val d n) => match (h Γ).bind fun q => f d n q.1 q.2.nw with
    | some (r, .frz _) => .nx (Γ.set i (.val r false))
    | _ => .no
  | _ => .no
theorem ds_aug (i : Nat) {x : Str} {op : Operator} {f : F2} {h : DenE} {pos' : Pos} (hN : X.N.Nodup) (ho : IpD X op f) (he : DE X e h) (hi : X.N[i]? = some x := by rfl) (hx : Loc X.env.scope x := by first | exact Or.inl rfl | exact Or.inr rfl)
    (hf : X.fn x = true ∨ X.env.scope.names.lookup x = some .local := by first | exact .inl rfl | exact .inr rfl) : DS X (.AugAssign (.Name x pos') op e pos) (dAug i f h) := by
  obtain ⟨r, o1, o2⟩ := ho
  obtain ⟨t, h1, h2⟩ := he
  refine ⟨_, ps_aug hN hi hx h1 o1 hf, ?_⟩
  intro F0 B F H σ Γ E I q
  unfold dAug at q
  cases z : Γ[i]? with
  | none => rw [z] at q; exact q.elim
  | some sl =>
    rw [z] at q
    cases sl with
    | val d n =>
      have q : OutQ (gX X) F0 B F E (match (h Γ).bind fun q => f d n q.1 q.2.nw with
        | some (r, .frz _) => .nx (Γ.set i (.val r false))
        | _ => .no) := q
      cases y : (h Γ).bind fun q => f d n q.1 q.2.nw with
      | none => rw [y] at q; exact q.elim
      | some w =>
        obtain ⟨rd, m⟩ := w
        rw [y] at q
        cases m with
        | frz k =>
          have q : OutQ (gX X) F0 B F E (.nx (Γ.set i (.val rd false))) := q
          obtain ⟨⟨dy, my⟩, e1, e2⟩ := bind_some y
          obtain ⟨R, rg, s⟩ := id I.reg
          obtain ⟨v, hv, rv⟩ := s i _ z
          have hv' : σ[i]? = some (some v) := by
            cases w : σ[i]? with
            | none => rw [w] at hv; cases hv
            | some u => rw [w] at hv; rw [show u = some v by simpa using hv]
          refine ⟨v, hv', ?_⟩
          refine h2 F0 B F H σ Γ dy my _ I e1 fun w F1 H1 X1 r1 => ?_
          have I1 := I.ext X1
          refine o2 B F1 H1 d dy n my.nw v w rd (.frz k) _ X1.b I1.sb ((rv.mono X1.f fun _ z => z).vw X1.b) (r1.vw X1.b) e2 fun z F2 H2 X2 r2 => ?_
          cases r2 with
          | frz r2 => exact q _ F2 H2 ((I1.ext X2).set (r2.mono (.refl _) wkP)) (X1.f.trans X2.f)
        | new k => exact q.elim
        | bor k => exact q.elim
    | _ => exact q.elim
def addI : F2
  | .int i, _, .int j, _ => some (.int (i + j), .frz true)
  | _, _, _, _ => none
theorem ipd_add : IpD X .Add addI := by
  refine ⟨_, ip_add, ?_⟩
  intro B F H dx dy ax ay x y d m Q s sb vx vy e q
  cases vx with
  | int i => cases vy with
    | int j => cases e; exact ⟨i, j, rfl, rfl, fin_sc s (.int _) q⟩
    | _ => cases e
  | _ => cases e
theorem ipd_sub : IpD X .Sub subD := by
  refine ⟨_, ip_sub, ?_⟩
  intro B F H dx dy ax ay x y d m Q s sb vx vy e q
  cases vx with
  | int i => cases vy with
    | int j => cases e; exact ⟨i, j, rfl, rfl, fin_sc s (.int _) q⟩
    | _ => cases e
  | _ => cases e
/-! ### constants of the module -/
def kOk (K : PySem.W.Frag) (d : D) (u : Value) : Prop := ∃ v, RelV v u ∧ ∀ P w F B, Rep ⟨P, w, K⟩ F (PB B true) d v
structure KConst (K : PySem.W.Frag) (u : Value) (d : D) : Prop where
  ok : kOk K d u
theorem de_kc {x : Str} {u : Value} {d : D} (hm : X.mg x = some u) (k : KConst X.K u d) (hg : Gl X x := by rfl) (hd : (x == ("__debug__" : Str)) = false := by decide) : DE X (.Name x pos) (dC d) := by
  obtain ⟨v, r, h⟩ := k.ok
  exact de_glob hg hm r (fun F B => h X.prog X.w F B) hd
/-! ### math.gcd -/
def gcd2 : F2
  | .int i, _, .int j, _ => some (.int ((Nat.gcd i.natAbs j.natAbs : Nat) : Int), .frz true)
  | _, _, _, _ => none
def gcdF : Fc := fc12 (fun _ _ => none) gcd2
theorem cd_gcd : CallD X (.builtin "math.gcd") gcdF := by
  refine ⟨_, cr_gcd, ?_⟩
  intro B F H ds vs d m Q s sb w e q
  match ds, vs, w, e with
  | [], _, _, e => cases e
  | [_], _, _, e => cases e
  | _ :: _ :: _ :: _, _, _, e => cases e
  | [(dx, n), (dy, n')], [v, v'], .cons w (.cons w' .nil), e =>
    have e : gcd2 dx n dy n' = some (d, m) := e
    cases w with
    | int i => cases w' with
      | int j => cases e; exact ⟨i, j, rfl, fin_sc s (.int _) q⟩
      | _ => cases e
    | _ => cases e
theorem de_bltI {x : Str} {id : String} {es : List Expr} {k : Fc} {r : DenV} (hc : CallD X (.builtin id) k) (hm : X.mg x = some (.builtin id)) (ha : DV X (e :: es) r) (hg : Gl X x := by rfl) (hdb : (x == ("__debug__" : Str)) = false := by decide)
    (he : starEach (e :: es) X.env = (false, eval e X.env) :: starEach es X.env := by rfl) (hpl : (backTo pos (starEach es X.env)).any (·.1) = false := by rfl) : DE X (.Call (.Name x p) (e :: es) [] pos) (dBlt k r) := by
  obtain ⟨rr, c1, c2⟩ := hc
  obtain ⟨ta, a1, a2⟩ := ha
  exact ⟨_, pe_callBfun c1 hg hm a1 hdb he hpl, ref_cb c2 a2⟩
theorem de_gcd {x : Str} {es : List Expr} {r : DenV} (hm : X.mg x = some (.builtin "math.gcd")) (ha : DV X (e :: es) r) (hg : Gl X x := by rfl) (hdb : (x == ("__debug__" : Str)) = false := by decide)
    (he : starEach (e :: es) X.env = (false, eval e X.env) :: starEach es X.env := by rfl) (hpl : (backTo pos (starEach es X.env)).any (·.1) = false := by rfl) : DE X (.Call (.Name x p) (e :: es) [] pos) (dBlt gcdF r) := de_bltI cd_gcd hm ha hg hdb he hpl
/-! ### the least of a list of tuples of ints -/
def minT (t : List Int) (ts : List (List Int)) : List Int := ts.foldl (fun a y => if HT.lexLt y a = true then y else a) t
theorem minT_mem : ∀ (ts : List (List Int)) (t : List Int), minT t ts ∈ t :: ts
  | [], t => List.mem_cons_self
  | y :: ts, t => by
    show minT (if HT.lexLt y t = true then y else t) ts ∈ _
    have := minT_mem ts (if HT.lexLt y t = true then y else t)
    rcases List.mem_cons.mp this with e | e
    · rw [e]; split <;> simp
    · simp [e]
theorem minD_tup : ∀ (ts : List (List Int)) (t : List Int), PySem.W.minD (.tuple (t.map PyData.int)) (ts.map fun u => PyData.tuple (u.map PyData.int)) = .tuple ((minT t ts).map PyData.int)
  | [], t => rfl
  | y :: ts, t => by
    have ih := minD_tup ts (if HT.lexLt y t = true then y else t)
    unfold PySem.W.minD at *
    rw [List.map_cons, List.foldl_cons, dataLt_tupI]
    show _ = PyData.tuple ((minT (if HT.lexLt y t = true then y else t) ts).map PyData.int)
    rw [← ih]
    by_cases h : HT.lexLt y t = true
    · rw [if_pos h, if_pos h]
    · rw [if_neg h, if_neg h]
def rMinTI (K : PySem.W.Frag) : List V → Hp → VK → Prop := fun vs H Q => ∃ (a : Addr) (x : V × List Int) (L : List (V × List Int)), vs = [V.ref a] ∧ SqL K H a ((x :: L).map (·.1)) ∧ DpAll K H ((x :: L).map (·.1)) ((x :: L).map fun q => PyData.tuple (q.2.map PyData.int)) ∧ PyData.depthAll ((x :: L).map fun q => PyData.tuple (q.2.map PyData.int)) ≤ 50 ∧
  ∀ q ∈ x :: L, q.2 = minT x.2 (L.map (·.2)) → Q q.1 H
theorem ints_inj : ∀ {a b : List Int}, a.map PyData.int = b.map PyData.int → a = b
  | [], [], _ => rfl
  | [], _ :: _, e => by cases e
  | _ :: _, [], e => by cases e
  | x :: a, y :: b, e => by
    rw [List.map_cons, List.map_cons] at e
    have e := List.cons.inj e
    rw [PyData.int.inj e.1, ints_inj e.2]
theorem cr_minTI (hc : X.calm = true) (hu : X.A.units + 64 < cLine) : CallR X (.builtin "min") (rMinTI X.K) := by
  intro pins s σ H vs us Q I r h
  obtain ⟨a, x, L, rfl, hs, hd, hz, q⟩ := h
  obtain ⟨its, rv, hl, _⟩ := I.list hs
  rw [Vals.ref1 r]
  obtain ⟨as, hr⟩ := Dp.readsAll I _ _ _ hd rv
  refine PySem.W.min_list_data (vs := its.toArray) (I.ok.hd hc) hl.isList (by simpa using hr) ⟨fun d hd e he => ?_, fun d hd => ?_⟩ (by rw [List.map_cons] at hz; omega) fun i v h' tk bs hi r hk => ?_
  · rw [← List.map_cons (f := fun q : V × List Int => PyData.tuple (q.2.map PyData.int))] at hd he
    obtain ⟨p1, _, rfl⟩ := List.mem_map.mp hd
    obtain ⟨p2, _, rfl⟩ := List.mem_map.mp he
    exact alike_ints _ _
  · rw [← List.map_cons (f := fun q : V × List Int => PyData.tuple (q.2.map PyData.int))] at hd
    obtain ⟨p1, _, rfl⟩ := List.mem_map.mp hd
    simp
  · have hi : its[i]? = some v := by simpa using hi
    have hlen := rv.length
    have hii := (List.getElem?_eq_some_iff.mp hi).1
    have hi2 : i < (x :: L).length := by rw [List.length_map] at hlen; omega
    have hv : ((x :: L).map (·.1))[i]? = some (x :: L)[i].1 := by rw [List.getElem?_map, List.getElem?_eq_getElem hi2]; rfl
    obtain ⟨u, hu1, ru⟩ := rv.get hv
    rw [hi] at hu1
    cases hu1
    obtain ⟨bs1, r1, _, _, _⟩ := PySem.W.readsAll_at hr i v (by simpa using hi)
    have hg : ((x :: L).map fun q => PyData.tuple (q.2.map PyData.int)).getD i .none = .tuple ((x :: L)[i].2.map PyData.int) := by
      rw [List.getD_eq_getElem?_getD, List.getElem?_map, List.getElem?_eq_getElem hi2]; rfl
    rw [hg] at r1
    have hdet := (PyProof.Rows.reads_det (fun b o e _ => hk b o e) r1 r).1
    have hL : L.map (fun q : V × List Int => PyData.tuple (q.2.map PyData.int)) = (L.map (·.2)).map fun u => PyData.tuple (u.map PyData.int) := by rw [List.map_map]; rfl
    rw [hL, minD_tup] at hdet
    have e := ints_inj (PyData.tuple.inj hdet)
    exact ⟨(x :: L)[i].1, H, I.kept hk, ru, q _ (List.getElem_mem hi2) e.symm⟩
def minTF : Fc := fc1 fun
  | .lst xs, _ => (asTups xs).bind fun
    | [] => none
    | t :: ts => some (eT (minT t ts), .frz true)
  | _, _ => none
theorem eT_py (ts : List (List Int)) : D.pys (ts.map eT) = ts.map fun t => PyData.tuple (t.map PyData.int) := by
  rw [pys_map, List.map_map]
  refine List.map_congr_left fun t _ => ?_
  exact (tup_py (d := eT t) (ns := t) (asInts_map t)).1
theorem cd_minT (hc : X.calm = true) (hu : X.A.units + 64 < cLine) : CallD X (.builtin "min") minTF := by
  refine ⟨_, cr_minTI hc hu, ?_⟩
  intro B F H ds vs d m Q s sb w e q
  match ds, vs, w, e with
  | [], _, _, e => cases e
  | _ :: _ :: _, _, _, e => cases e
  | [(dx, n)], [v], .cons w .nil, e =>
    cases w with
    | @lst a vs xs h r =>
      have e0 : ((asTups xs).bind fun | [] => none | t :: ts => some (eT (minT t ts), Md.frz true)) = some (d, m) := e
      clear e
      obtain ⟨ts, z, e3⟩ := bind_some e0
      clear e0
      obtain ⟨h1, h2⟩ := asTups_eq z
      subst h1
      cases ts with
      | nil => cases e3
      | cons t ts =>
        cases e3
        have pl1 : ((t :: ts).map eT).all (D.pl 1) = true := by
          rw [List.all_eq_true]
          intro x hx
          obtain ⟨u, _, rfl⟩ := List.mem_map.mp hx
          unfold eT
          rw [D.pl, List.all_eq_true]
          intro y hy
          obtain ⟨i, _, rfl⟩ := List.mem_map.mp hy
          rfl
        have hdp := r.dp s pl1
        have hde := (plainAll_of (pl_plain 1) _ pl1).2
        rw [eT_py] at hdp hde
        obtain ⟨L, l1, l2, l3⟩ := r.tups
        subst l1
        cases L with
        | nil => cases l2
        | cons x L =>
          have l2a : x.2 = t := (List.cons.inj l2).1
          have l2b : L.map (·.2) = ts := (List.cons.inj l2).2
          subst l2a
          subst l2b
          have em : ((x :: L).map fun q : V × List Int => PyData.tuple (q.2.map PyData.int)) = (x.2 :: L.map (·.2)).map fun t => PyData.tuple (t.map PyData.int) := by rw [List.map_cons, List.map_cons, List.map_map]; rfl
          refine ⟨_, x, L, rfl, SqL.of h, by rw [em]; exact hdp, by rw [em]; omega, fun q0 hq e => ?_⟩
          obtain ⟨t, e1, hs⟩ := l3 q0 hq
          rw [e1]
          rw [← e] at q
          exact q _ F H (.refl s) (.frz (.tup hs (Reps.ofInts _)))
    | _ => cases e
def minF : Fc := fun ds => (minIF ds).orElse fun _ => minTF ds
theorem cd_min (hc : X.calm = true) (hu : X.A.units + 64 < cLine) : CallD X (.builtin "min") minF := (cd_minI hc).or (cd_minT hc hu)
def sortF : Fc := fun ds => (sortIF ds).orElse fun _ => sortTF ds
theorem cd_sort (hc : X.calm = true) (hu : X.A.units + 64 < cLine) : CallD X (.builtin "sorted") sortF := (cd_sortI hc).or cd_sortT
end
end Dn
namespace Dn
open PySem PySem.Spec L2
open PyProof.Rows hiding St

section
variable {g : Gc} {X : Cx} {e a b c : Expr} {p pos : Pos}
/-! ### name = {k: v for ..} on one line -/
theorem ps_setDc {i : Nat} {y : Str} {py : Pos} {kx vx tg iter : Expr} {ifs : List Expr} {scope : Scope} {own : List (Str × Nat)} {pos spos : Pos} {wi : TI} {g : TG} {tt : TT} {tk tv : TE} (hc : X.calm = true) (hN : X.N.Nodup) (hy : X.N[i]? = some y) (hyl : X.env.scope.names.lookup y = some .local)
    (hsw : swapsWith (.DictComp kx vx [⟨tg, iter, ifs, 0⟩] scope pos) (some (.Name y py)) spos.line X.env = pure true) (hi : PI X tg iter wi) (ok : BlkOk X.N X.env.scope scope own)
    (hg : ∀ (s : Shared) (H : Hp) (C : Addr) (cl : List (Str × Addr)) (fp : List Addr), PG (X.blk s H scope (compEnvC scope cl C X.env) fp) tg g) (ht : ∀ (s : Shared) (H : Hp) (C : Addr) (cl : List (Str × Addr)) (fp : List Addr), PTs (X.blk s H scope (compEnvC scope cl C X.env) fp) ifs tt)
    (hk : ∀ (s : Shared) (H : Hp) (C : Addr) (cl : List (Str × Addr)) (fp : List Addr), PE (X.blk s H scope (compEnvC scope cl C X.env) fp) kx tk)
    (he : ∀ (s : Shared) (H : Hp) (C : Addr) (cl : List (Str × Addr)) (fp : List Addr), PE (X.blk s H scope (compEnvC scope cl C X.env) fp) vx tv) (hs : ∀ x, foldedSetIterable iter X.env x = pure x := by intro _; rfl) :
    PS X (.Assign [.Name y py] (.DictComp kx vx [⟨tg, iter, ifs, 0⟩] scope pos) spos) (tAsg (tDc wi g tt tk tv (own.map (·.2))) (gName i)) := by
  refine ⟨fun pins s σ H D I h => ?_⟩
  rw [exec_Assign_Name_used _ _ _ _ hsw]
  refine wpAny_bind (wpAny_standAt (wpAny_bind ?_))
  show wpAny _ X.A (do let _ ← comprehension (.DictComp kx vx [⟨tg, iter, ifs, 0⟩] scope pos) scope X.env (firstIterPos [⟨tg, iter, ifs, 0⟩] pos) newDict false (eval iter X.env) (some (assign (.Name y py) X.env))) _ _ s
  have h : tDc wi g tt tk tv (own.map (·.2)) σ H (fun x H1 => gName i x σ H1 D.nx) := h
  refine wpAny_bind (thn (dc_core (Qf := fun _ s' => SP X pins D .next s') hc hN I hi ok hg ht hk he hs h fun L C s' m H' I' q hn f => ?_) fun _ s' hq => wpAny_pure (wpAny_pure hq))
  show wpAny _ _ (assign (.Name y py) X.env (.ref L)) _ _ _
  refine wpAny_assign_Name (store_ok2 (v := V.ref L) I' hN hy (.inl hyl) rfl (fun s2 I2 ⟨a, sb, ha⟩ => ?_) (.inr hyl))
  obtain ⟨f0, f1, f2, f3, f4, f5⟩ := f
  have haC : C ≠ a := by
    rcases ha with z | z
    · rw [z]; exact f1
    · exact fun e => f4 y a z e.symm
  refine ⟨m, hn.sameBut sb haC, fun h3 sb3 => ?_⟩
  exact ⟨_, H', I2.turned (t' := s2.toks) (fun b o hb e => (sb3.2 b hb).trans e) f0 f1 f3 f4 f5, q⟩
theorem sw_trueD {kx vx : Expr} {gs : List Comprehension} {scope : Scope} {pos py : Pos} {y : Str} {l : Nat} {env : Env} (hk : env.scope.kind = .function) (hy : env.scope.names.lookup y = some .local) (hl : (py.line == pos.line) = true)
    (ha : (scope.names.any fun (n, k) => n == y && (k == .local || k == .cell)) = false) : swapsWith (.DictComp kx vx gs scope pos) (some (.Name y py)) l env = pure true := by
  have ky : env.kindOf y = some .local := hy
  have hb : env.blockKind = .function := by unfold Env.blockKind; rw [hk]; rfl
  unfold swapsWith
  simp only [hb, ky, ha, Expr.pos, hl]
  rfl
theorem ds_setDc (i : Nat) {y : Str} {py : Pos} {kx vx tg iter : Expr} {ifs : List Expr} {scope : Scope} {own : List (Str × Nat)} {spos : Pos} {f : DenI} {t : Tg} {tt : DenT} {ek ev : DenE} (hc : X.calm = true) (hN : X.N.Nodup) (hi : DI X tg iter f) (ok : BlkOk X.N X.env.scope scope own)
    (hg : ∀ (s : Shared) (H : Hp) (C : Addr) (cl : List (Str × Addr)) (fp : List Addr), DG (X.blk s H scope (compEnvC scope cl C X.env) fp) tg t) (ht : ∀ (s : Shared) (H : Hp) (C : Addr) (cl : List (Str × Addr)) (fp : List Addr), DTs (X.blk s H scope (compEnvC scope cl C X.env) fp) ifs tt)
    (hk : ∀ (s : Shared) (H : Hp) (C : Addr) (cl : List (Str × Addr)) (fp : List Addr), DE (X.blk s H scope (compEnvC scope cl C X.env) fp) kx ek)
    (he : ∀ (s : Shared) (H : Hp) (C : Addr) (cl : List (Str × Addr)) (fp : List Addr), DE (X.blk s H scope (compEnvC scope cl C X.env) fp) vx ev) (hv : ∀ j, j ∈ t.slots → j ∈ own.map (·.2))
    (hsw : swapsWith (.DictComp kx vx [⟨tg, iter, ifs, 0⟩] scope pos) (some (.Name y py)) spos.line X.env = pure true) (hy : X.N[i]? = some y := by rfl) (hyl : X.env.scope.names.lookup y = some .local := by rfl) (hs : ∀ x, foldedSetIterable iter X.env x = pure x := by intro _; rfl) :
    DS X (.Assign [.Name y py] (.DictComp kx vx [⟨tg, iter, ifs, 0⟩] scope pos) spos) (dSet i (dDc f t tt ek ev (own.map (·.2)))) := by
  obtain ⟨wi, i1, i2⟩ := hi
  exact ⟨_, ps_setDc hc hN hy hyl hsw i1 ok (fun s H C cl fp => (hg s H C cl fp).pg) (fun s H C cl fp => (ht s H C cl fp).pts) (fun s H C cl fp => (hk s H C cl fp).pe) (fun s H C cl fp => (he s H C cl fp).pe) hs, refS_set (ref_dc i2 (ref_tgOf _ _) (ref_ttOf _ _) (ref_teOf _ _) (ref_teOf _ _) hv)⟩
end
end Dn
namespace Dn
open PySem PySem.Spec L2
open PyProof.Rows hiding St
/-! ### evaluation by simp: applied forms -/
section
variable {i j k : Int} {m n : Bool} {x y : Str} {xs ys : List D} {d e : D} {b : Bool} {Γ Γ' : Ev} {f h : DenS} {t u : DenT} {fa fb : DenE} {ns : List Int} {kvs : List (Key × D)} {md : Md}
@[simp] theorem addD_int : addD (.int i) m (.int j) n = some (.int (i + j), .frz true) := rfl
@[simp] theorem addD_str : addD (.str x) m (.str y) n = if x.length + y.length ≤ sizeLine then some (.str (x ++ y), .frz true) else none := rfl
@[simp] theorem addD_lst : addD (.lst xs) m (.lst ys) n = if xs.length + ys.length ≤ sizeLine then some (.lst (xs ++ ys), .new (m && n)) else none := rfl
@[simp] theorem addI_int : addI (.int i) m (.int j) n = some (.int (i + j), .frz true) := rfl
@[simp] theorem subD_int : subD (.int i) m (.int j) n = some (.int (i - j), .frz true) := rfl
@[simp] theorem addD_tup : addD (.tup xs) m (.tup ys) n = if 0 < xs.length ∧ 0 < ys.length ∧ xs.length + ys.length ≤ sizeLine then some (.tup (xs ++ ys), .frz (m && n)) else none := rfl
@[simp] theorem mulD_lst : mulD (.lst xs) m (.int k) n = if 0 ≤ k ∧ k ≤ 16777216 ∧ xs.length * k.toNat ≤ sizeLine then some (.lst (List.replicate k.toNat xs).flatten, .new m) else none := rfl
@[simp] theorem mulD_int : mulD (.int i) m (.int j) n = if mulOk i j then some (.int (i * j), .frz true) else none := rfl
@[simp] theorem fdivD_int : fdivD (.int i) m (.int j) n = if divOk j then some (.int (i / j), .frz true) else if j ≠ 0 ∧ j.natAbs < 1073741824 then some (.int (i.fdiv j), .frz true) else none := rfl
@[simp] theorem modD_int : modD (.int i) m (.int j) n = if 0 < j then some (.int (i % j), .frz true) else if j ≠ 0 then some (.int (i.fmod j), .frz true) else none := rfl
@[simp] theorem powD_int : powD (.int i) m (.int j) n = if 0 ≤ j ∧ j ≤ 1000000 ∧ i.natAbs < 2 ^ 64 then some (.int (i ^ j.toNat), .frz true) else none := rfl
@[simp] theorem negD_int : negD (.int i) = some (.int (-i)) := rfl
@[simp] theorem ltD_int : ltD (.int i) m (.int j) n = some (.bl (decide (i < j)), .frz true) := rfl
@[simp] theorem ltD_tup : ltD (.tup xs) m (.tup ys) n = (D.asInts xs).bind fun x => (D.asInts ys).map fun y => (.bl (HT.lexLt x y), .frz true) := rfl
@[simp] theorem leD_int : leD (.int i) m (.int j) n = some (.bl (decide (i ≤ j)), .frz true) := rfl
@[simp] theorem gtD_int : gtD (.int i) m (.int j) n = some (.bl (decide (j < i)), .frz true) := rfl
@[simp] theorem geD_int : geD (.int i) m (.int j) n = some (.bl (decide (j ≤ i)), .frz true) := rfl
@[simp] theorem eqD_int : eqD b (.int i) m (.int j) n = some (.bl (if b then !decide (i = j) else decide (i = j)), .frz true) := by
  cases b <;> simp [eqD, D.pl, D.eqv, D.py, PyData.eqv] <;> rfl
@[simp] theorem eqD_str : eqD b (.str x) m (.str y) n = some (.bl (if b then !decide (x = y) else decide (x = y)), .frz true) := by
  cases b <;> simp [eqD, D.pl, D.eqv, D.py, PyData.eqv] <;> rfl
@[simp] theorem eqD_bl {p q : Bool} : eqD b (.bl p) m (.bl q) n = some (.bl (if b then !decide (p = q) else decide (p = q)), .frz true) := by
  cases b <;> cases p <;> cases q <;> simp [eqD, D.pl, D.eqv, D.py, PyData.eqv]
@[simp] theorem isND_bl {p q : Bool} : isND b (.bl p) m (.bl q) n = some (.bl (if b then !decide (p = q) else decide (p = q)), .frz true) := rfl
@[simp] theorem isND_non : isND b d m .non n = some (.bl (if b then !d.isNon else d.isNon), .frz true) := rfl
@[simp] theorem isNon_non : D.isNon .non = true := rfl
@[simp] theorem isNon_bl : D.isNon (.bl b) = false := rfl
@[simp] theorem isNon_int : D.isNon (.int i) = false := rfl
@[simp] theorem isNon_str : D.isNon (.str x) = false := rfl
@[simp] theorem isNon_tup : D.isNon (.tup xs) = false := rfl
@[simp] theorem isNon_lst : D.isNon (.lst xs) = false := rfl
@[simp] theorem isBl_bl : D.isBl (.bl b) = some b := rfl
@[simp] theorem flat_non : D.flat .non = true := rfl
@[simp] theorem flat_bl : D.flat (.bl b) = true := rfl
@[simp] theorem flat_int : D.flat (.int i) = true := rfl
@[simp] theorem flat_str : D.flat (.str x) = true := rfl
@[simp] theorem truth_non : D.truth .non = some false := rfl
@[simp] theorem truth_bl : D.truth (.bl b) = some b := rfl
@[simp] theorem truth_int : D.truth (.int i) = some (i != 0) := rfl
@[simp] theorem truth_lst : D.truth (.lst xs) = some (!xs.isEmpty) := rfl
@[simp] theorem truth_tup : D.truth (.tup xs) = some (!xs.isEmpty) := rfl
@[simp] theorem truth_dk : D.truth (.dk kvs) = some (!kvs.isEmpty) := rfl
@[simp] theorem subsD_lst : subsD (.lst xs) m (.int i) n = (atI xs i).map fun d => (d, .frz m) := rfl
@[simp] theorem subsD_tup : subsD (.tup xs) m (.int i) n = (atI xs i).map fun d => (d, .frz m) := rfl
@[simp] theorem subsD_scr : subsD (.scr ns) m (.int i) n = (atI ns i).map fun k => (.int k, .frz true) := rfl
@[simp] theorem subsD_str : subsD (.str x) m (.int i) n = if x.length ≤ sizeLine then (atI x.cps.toList i).map fun c => (.str ⟨#[c]⟩, .frz true) else none := rfl
@[simp] theorem subsD_dk_int : subsD (.dk kvs) m (.int i) n = (lookK kvs (.inl i)).map fun d => (d, .frz m) := rfl
@[simp] theorem subsD_dk_str : subsD (.dk kvs) m (.str x) n = (lookK kvs (.inr x)).map fun d => (d, .frz m) := rfl
@[simp] theorem memD_dk_int : memD b (.int i) m (.dk kvs) n = some (.bl (if b then !(lookK kvs (.inl i)).isSome else (lookK kvs (.inl i)).isSome), .frz true) := rfl
@[simp] theorem memD_dk_str : memD b (.str x) m (.dk kvs) n = some (.bl (if b then !(lookK kvs (.inr x)).isSome else (lookK kvs (.inr x)).isSome), .frz true) := rfl
@[simp] theorem memD_lst : memD b d m (.lst ys) n = if d.pl 50 = true ∧ ys.all (D.pl 49) = true then some (.bl (if b then !d.mem ys else d.mem ys), .frz true) else none := rfl
@[simp] theorem memD_tup : memD b d m (.tup ys) n = if d.pl 50 = true ∧ ys.all (D.pl 49) = true then some (.bl (if b then !d.mem ys else d.mem ys), .frz true) else none := rfl
@[simp] theorem key_int : D.key (.int i) = some (.inl i) := rfl
@[simp] theorem key_str : D.key (.str x) = some (.inr x) := rfl
@[simp] theorem emb_frz : emb (d, .frz n) = some (d, n) := rfl
@[simp] theorem emb_new : emb (d, .new n) = some (d, n) := rfl
@[simp] theorem nw_frz : Md.nw (.frz n) = n := rfl
@[simp] theorem nw_new : Md.nw (.new n) = n := rfl
@[simp] theorem nw_bor : Md.nw (.bor n) = n := rfl
@[simp] theorem wk_frz : Md.wk (.frz n) = .frz false := rfl
@[simp] theorem wk_new : Md.wk (.new n) = .new false := rfl
@[simp] theorem frzS_no : frzS .no = .no := rfl
@[simp] theorem frzS_val : frzS (.val d n) = .val d n := rfl
@[simp] theorem frzS_own : frzS (.own d n) = .val d n := rfl
@[simp] theorem lenF_lst : lenF [(.lst xs, n)] = some (.int xs.length, .frz true) := rfl
@[simp] theorem lenF_tup : lenF [(.tup xs, n)] = some (.int xs.length, .frz true) := rfl
@[simp] theorem lenF_scr : lenF [(.scr ns, n)] = some (.int ns.length, .frz true) := rfl
@[simp] theorem lenF_dk : lenF [(.dk kvs, n)] = some (.int kvs.length, .frz true) := rfl
@[simp] theorem intF_int : intF [(.int i, n)] = some (.int i, .frz true) := rfl
@[simp] theorem intF_bl : intF [(.bl b, n)] = some (.int (if b then 1 else 0), .frz true) := rfl
@[simp] theorem absF_int : absF [(.int i, n)] = some (.int (if i < 0 then -i else i), .frz true) := rfl
@[simp] theorem maxF_2 : maxF [(.int i, m), (.int j, n)] = some (.int (if j > i then j else i), .frz true) := rfl
@[simp] theorem minF_2 : minF [(.int i, m), (.int j, n)] = some (.int (if j < i then j else i), .frz true) := rfl
@[simp] theorem intsOf_lst : D.intsOf (.lst xs) = D.asInts xs := rfl
@[simp] theorem maxF_1 : maxF [(.lst xs, m)] = ((D.asInts xs).bind maxL).map fun m => (.int m, .frz true) := rfl
@[simp] theorem minF_1 : minF [(.lst xs, m)] = (((D.asInts xs).bind minL).map fun m => (D.int m, Md.frz true)).orElse fun _ => minTF [(.lst xs, m)] := rfl
@[simp] theorem orElse_s {α : Type} {x : α} {f : Unit → Option α} : (some x).orElse f = some x := rfl
@[simp] theorem sumF_1 : sumF [(.lst xs, m)] = (D.asInts xs).map fun ns => (.int ns.sum, .frz true) := rfl
@[simp] theorem anyF_1 : anyF [(.lst xs, m)] = (D.asBls xs).map fun ns => (.bl (ns.any id), .frz true) := rfl
@[simp] theorem allF_1 : allF [(.lst xs, m)] = (D.asBls xs).map fun ns => (.bl (ns.all id), .frz true) := rfl
@[simp] theorem sortF_lst : sortF [(.lst xs, m)] = ((D.asInts xs).map fun ns => (D.lst ((sortI ns).map D.int), Md.new true)).orElse fun _ => (asTups xs).map fun ts => (.lst ((sortT ts).map eT), .new true) := rfl
@[simp] theorem sortF_dk : sortF [(.dk kvs, m)] = (keyInts kvs).bind fun ns => if ns.length < 64 then some (.lst ((sortI ns).map D.int), .new true) else none := by
  show Option.orElse _ (fun _ => none) = _
  cases h : (keyInts kvs).bind fun ns => if ns.length < 64 then some (D.lst ((sortI ns).map D.int), Md.new true) else none with
  | none => exact (congrArg (fun x => Option.orElse x fun _ => none) h).trans rfl
  | some _ => exact (congrArg (fun x => Option.orElse x fun _ => none) h).trans rfl
@[simp] theorem gtD_tup : gtD (.tup xs) m (.tup ys) n = (D.asInts xs).bind fun x => (D.asInts ys).map fun y => (.bl (HT.lexLt y x), .frz true) := rfl
@[simp] theorem leD_tup : leD (.tup xs) m (.tup ys) n = (D.asInts xs).bind fun x => (D.asInts ys).map fun y => (.bl (!HT.lexLt y x), .frz true) := rfl
@[simp] theorem geD_tup : geD (.tup xs) m (.tup ys) n = (D.asInts xs).bind fun x => (D.asInts ys).map fun y => (.bl (!HT.lexLt x y), .frz true) := rfl
@[simp] theorem listF_lst : listF [(.lst xs, n)] = some (.lst xs, .new n) := rfl
@[simp] theorem listF_tup : listF [(.tup xs, n)] = some (.lst xs, .new n) := rfl
def keyD : Key → D | .inl i => .int i | .inr x => .str x
@[simp] theorem listF_dk : listF [(.dk kvs, n)] = some (.lst (kvs.map fun kv => keyD kv.1), .new true) := rfl
@[simp] theorem gcdF_2 : gcdF [(.int i, m), (.int j, n)] = some (.int ((Nat.gcd i.natAbs j.natAbs : Nat) : Int), .frz true) := rfl
@[simp] theorem isTy_lst {T : String} : D.isTy (.lst xs) T = kitB "list" T := rfl
@[simp] theorem isTy_tup {T : String} : D.isTy (.tup xs) T = kitB "tuple" T := rfl
@[simp] theorem isTy_non {T : String} : D.isTy .non T = kitB "NoneType" T := rfl
@[simp] theorem isTy_bl {T : String} : D.isTy (.bl b) T = kitB "bool" T := rfl
@[simp] theorem isTy_int {T : String} : D.isTy (.int i) T = kitB "int" T := rfl
@[simp] theorem isTy_str {T : String} : D.isTy (.str x) T = kitB "str" T := rfl
@[simp] theorem items_lst_f : D.items (.lst xs) (.frz n) = some (xs, n, true) := rfl
@[simp] theorem items_lst_n : D.items (.lst xs) (.new n) = some (xs, n, true) := rfl
@[simp] theorem items_lst_b : D.items (.lst xs) (.bor n) = some (xs, n, false) := rfl
@[simp] theorem items_tup : D.items (.tup xs) md = some (xs, md.nw, true) := by cases md <;> rfl
@[simp] theorem itemsL_lst_f : D.itemsL (.lst xs) (.frz n) = some (xs, n, true) := rfl
@[simp] theorem itemsL_lst_n : D.itemsL (.lst xs) (.new n) = some (xs, n, true) := rfl
@[simp] theorem itemsL_lst_b : D.itemsL (.lst xs) (.bor n) = some (xs, n, false) := rfl
@[simp] theorem sliceD_lst {lo hi : Option Int} : sliceD (.lst xs) md lo hi = some (.lst (cutD xs lo hi), .new md.nw) := rfl
@[simp] theorem sliceD_tup {lo hi : Option Int} : sliceD (.tup xs) md lo hi = some (.tup (cutD xs lo hi), .frz md.nw) := rfl
@[simp] theorem revF_lst : revF (.lst xs) md = some (.lst xs.reverse, .new md.nw) := rfl
@[simp] theorem asInts_mp : D.asInts (ns.map D.int) = some ns := asInts_map ns
@[simp] theorem asBls_mp {bs : List Bool} : D.asBls (bs.map D.bl) = some bs := asBls_map bs
@[simp] theorem asInts_nil : D.asInts [] = some [] := rfl
@[simp] theorem asInts_cons : D.asInts (.int i :: xs) = (D.asInts xs).map (i :: ·) := rfl
@[simp] theorem asg_nm {s : Nat} : asg (.nm s) d n Γ = some (Γ.set s (.val d n)) := by unfold asg; rfl
@[simp] theorem asg_tp {ts : List Tg} : asg (.tp ts) (.tup xs) n Γ = asgs ts xs n Γ := by unfold asg; rfl
@[simp] theorem asgs_nil : asgs [] [] n Γ = some Γ := by unfold asgs; rfl
@[simp] theorem asgs_cons {s : Tg} {ts : List Tg} : asgs (s :: ts) (d :: xs) n Γ = (asg s d n Γ).bind (asgs ts xs n) := by rw [asgs]
@[simp] theorem forget_nil : forget [] Γ = Γ := rfl
@[simp] theorem forget_cons {s : Nat} {is : List Nat} : forget (s :: is) Γ = forget is (Γ.set s .no) := rfl
@[simp] theorem putItem_dk_int : putItem (.own (.dk kvs) n) (.int i) d = if kvs.length < sizeLine then some (.own (.dk (putKD kvs (.inl i) d)) false) else none := rfl
@[simp] theorem putItem_dk_str : putItem (.own (.dk kvs) n) (.str x) d = if kvs.length < sizeLine then some (.own (.dk (putKD kvs (.inr x) d)) false) else none := rfl
@[simp] theorem putItem_lst : putItem (.own (.lst xs) n) (.int i) d = (ixN xs.length i).map fun j => .own (.lst (xs.set j d)) false := rfl
/-! strict in what is asked first -/
def andThen : Out → DenS → Out
  | .nx Γ, h => h Γ
  | o, _ => o
@[simp] theorem andThen_nx : andThen (.nx Γ) h = h Γ := rfl
@[simp] theorem andThen_rt : andThen (.rt d md) h = .rt d md := rfl
@[simp] theorem andThen_bk : andThen (.bk Γ) h = .bk Γ := rfl
@[simp] theorem andThen_ct : andThen (.ct Γ) h = .ct Γ := rfl
@[simp] theorem dSeq_eq : dSeq f h Γ = andThen (f Γ) h := by unfold dSeq; cases f Γ <;> rfl
def ifO : Option Bool → DenS → DenS → Ev → Out
  | some true, f, _, Γ => f Γ
  | some false, _, h, Γ => h Γ
  | none, _, _, _ => .no
@[simp] theorem ifO_t : ifO (some true) f h Γ = f Γ := rfl
@[simp] theorem ifO_f : ifO (some false) f h Γ = h Γ := rfl
@[simp] theorem dIf_eq : dIf t f h Γ = ifO (t Γ) f h Γ := by
  unfold dIf; generalize t Γ = z
  cases z with
  | none => rfl
  | some k => cases k <;> rfl
def andO : Option Bool → DenT → Ev → Option Bool
  | some true, h, Γ => h Γ
  | some false, _, _ => some false
  | none, _, _ => none
@[simp] theorem andO_t : andO (some true) t Γ = t Γ := rfl
@[simp] theorem andO_f : andO (some false) t Γ = some false := rfl
@[simp] theorem dAnd_eq : dAnd t u Γ = andO (t Γ) u Γ := by
  unfold dAnd; cases t Γ with
  | none => rfl
  | some k => cases k <;> rfl
def orO : Option Bool → DenT → Ev → Option Bool
  | some true, _, _ => some true
  | some false, h, Γ => h Γ
  | none, _, _ => none
@[simp] theorem orO_t : orO (some true) t Γ = some true := rfl
@[simp] theorem orO_f : orO (some false) t Γ = t Γ := rfl
@[simp] theorem dOr_eq : dOr t u Γ = orO (t Γ) u Γ := by
  unfold dOr; cases t Γ with
  | none => rfl
  | some k => cases k <;> rfl
def ifEO : Option Bool → DenE → DenE → Ev → Option (D × Md)
  | some true, f, _, Γ => f Γ
  | some false, _, h, Γ => h Γ
  | none, _, _, _ => none
@[simp] theorem ifEO_t : ifEO (some true) fa fb Γ = fa Γ := rfl
@[simp] theorem ifEO_f : ifEO (some false) fa fb Γ = fb Γ := rfl
@[simp] theorem dIfE_eq : dIfE t fa fb Γ = ifEO (t Γ) fa fb Γ := by
  unfold dIfE; cases t Γ with
  | none => rfl
  | some k => cases k <;> rfl
def setO (s : Nat) : Option (D × Md) → Ev → Out
  | some (d, .frz _), Γ => .nx (Γ.set s (.val d false))
  | some (d, .new _), Γ => .nx (Γ.set s (.own d false))
  | _, _ => .no
@[simp] theorem setO_f {s : Nat} : setO s (some (d, .frz n)) Γ = .nx (Γ.set s (.val d false)) := rfl
@[simp] theorem setO_n {s : Nat} : setO s (some (d, .new n)) Γ = .nx (Γ.set s (.own d false)) := rfl
@[simp] theorem dSet_eq {s : Nat} : dSet s fa Γ = setO s (fa Γ) Γ := by
  unfold dSet; generalize fa Γ = z
  cases z with
  | none => rfl
  | some k => obtain ⟨d, m⟩ := k; cases m <;> rfl
def retO : Option (D × Md) → Out
  | some (d, .bor _) => .rt d (.new false)
  | some (d, m) => .rt d m.wk
  | none => .no
@[simp] theorem retO_f : retO (some (d, .frz n)) = .rt d (.frz false) := rfl
@[simp] theorem retO_n : retO (some (d, .new n)) = .rt d (.new false) := rfl
@[simp] theorem retO_b : retO (some (d, .bor n)) = .rt d (.new false) := rfl
@[simp] theorem dRet_eq : dRet fa Γ = retO (fa Γ) := by
  unfold dRet; generalize fa Γ = z
  cases z with
  | none => rfl
  | some k => obtain ⟨d, m⟩ := k; cases m <;> rfl
@[simp] theorem dRetN_eq : dRetN Γ = .rt .non (.frz false) := rfl
def expO : Option (D × Md) → Ev → Out
  | some _, Γ => .nx Γ
  | none, _ => .no
@[simp] theorem expO_s {r : D × Md} : expO (some r) Γ = .nx Γ := rfl
@[simp] theorem dExp_eq : dExp fa Γ = expO (fa Γ) Γ := by
  unfold dExp; generalize fa Γ = z
  cases z <;> rfl
def appO (s : Nat) : Option (D × Bool) → Option Slot → Ev → Out
  | some (d, _), some (.own (.lst xs) _), Γ => if xs.length < sizeLine then .nx (Γ.set s (.own (.lst (xs ++ [d])) false)) else .no
  | _, _, _ => .no
@[simp] theorem appO_s {s : Nat} : appO s (some (d, m)) (some (.own (.lst xs) n)) Γ = if xs.length < sizeLine then .nx (Γ.set s (.own (.lst (xs ++ [d])) false)) else .no := rfl
@[simp] theorem dApp_eq {s : Nat} : dApp s fa Γ = appO s ((fa Γ).bind emb) Γ[s]? Γ := by
  unfold dApp; generalize (fa Γ).bind emb = z; generalize Γ[s]? = y
  cases z with
  | none => rfl
  | some k =>
    obtain ⟨d, n⟩ := k
    cases y with
    | none => rfl
    | some sl =>
      cases sl with
      | own d n => cases d <;> rfl
      | _ => rfl
def asgO (s : Tg) : Option (D × Bool) → Ev → Out
  | some (d, _), Γ => match asg s d false Γ with
    | some Γ' => .nx Γ'
    | none => .no
  | none, _ => .no
def nxO : Option Ev → Out
  | some Γ => .nx Γ
  | none => .no
@[simp] theorem nxO_s : nxO (some Γ) = .nx Γ := rfl
@[simp] theorem asgO_s {s : Tg} : asgO s (some (d, m)) Γ = nxO (asg s d false Γ) := by
  show (match asg s d false Γ with | some Γ' => Out.nx Γ' | none => .no) = _
  generalize asg s d false Γ = z
  cases z <;> rfl
@[simp] theorem dAsg_eq {s : Tg} : dAsg s fa Γ = asgO s ((fa Γ).bind emb) Γ := by
  unfold dAsg
  generalize (fa Γ).bind emb = z
  cases z <;> rfl
def parO (s s' : Nat) : Option (List D × Bool) → Ev → Out
  | some ([x, y], _), Γ => .nx ((Γ.set s (.val x false)).set s' (.val y false))
  | _, _ => .no
@[simp] theorem parO_s {s s' : Nat} : parO s s' (some ([d, e], m)) Γ = .nx ((Γ.set s (.val d false)).set s' (.val e false)) := rfl
@[simp] theorem dPar_eq {s s' : Nat} {r : DenA} : dPar s s' r Γ = parO s s' (r Γ) Γ := by
  unfold dPar; generalize r Γ = z
  match z with
  | none => rfl
  | some ([], _) => rfl
  | some ([_], _) => rfl
  | some ([_, _], _) => rfl
  | some (_ :: _ :: _ :: _, _) => rfl
def putO (s : Nat) : Option Slot → Ev → Out
  | some z, Γ => .nx (Γ.set s z)
  | none, _ => .no
@[simp] theorem putO_s {s : Nat} {z : Slot} : putO s (some z) Γ = .nx (Γ.set s z) := rfl
@[simp] theorem dPut_eq {s : Nat} : dPut s fa fb Γ = putO s (((fb Γ).bind emb).bind fun p => (fa Γ).bind fun q => (Γ[s]?).bind fun s => putItem s q.1 p.1) Γ := by
  unfold dPut
  generalize (((fb Γ).bind emb).bind fun p => (fa Γ).bind fun q => (Γ[s]?).bind fun s => putItem s q.1 p.1) = z
  cases z <;> rfl
def augO (s : Nat) : Option (D × Md) → Ev → Out
  | some (r, .frz _), Γ => .nx (Γ.set s (.val r false))
  | _, _ => .no
def augV (w : F2) : Option Slot → Option (D × Md) → Option (D × Md)
  | some (.val d n), some (e, me) => w d n e me.nw
  | _, _ => none
@[simp] theorem augO_s {s : Nat} : augO s (some (d, .frz n)) Γ = .nx (Γ.set s (.val d false)) := rfl
@[simp] theorem augV_s {w : F2} : augV w (some (.val d n)) (some (e, md)) = w d n e md.nw := rfl
@[simp] theorem dAug_eq {s : Nat} {w : F2} : dAug s w fa Γ = augO s (augV w Γ[s]? (fa Γ)) Γ := by
  unfold dAug
  cases Γ[s]? with
  | none => rfl
  | some z =>
    cases z with
    | val d n =>
      cases fa Γ with
      | none => rfl
      | some p =>
        show (match w d n p.1 p.2.nw with | some (r, .frz _) => Out.nx (Γ.set s (.val r false)) | _ => .no) = augO s (w d n p.1 p.2.nw) Γ
        unfold augO
        cases w d n p.1 p.2.nw with
        | none => rfl
        | some z => obtain ⟨r, m⟩ := z; cases m <;> rfl
    | _ => rfl
def fgtO (is : List Nat) : Out → Out
  | .nx Γ => .nx (forget is Γ)
  | .ct Γ => .ct (forget is Γ)
  | o => o
@[simp] theorem fgtO_nx {is : List Nat} : fgtO is (.nx Γ) = .nx (forget is Γ) := rfl
@[simp] theorem fgtO_ct {is : List Nat} : fgtO is (.ct Γ) = .ct (forget is Γ) := rfl
@[simp] theorem fgtO_bk {is : List Nat} : fgtO is (.bk Γ) = .bk Γ := rfl
@[simp] theorem fgtO_rt {is : List Nat} : fgtO is (.rt d md) = .rt d md := rfl
@[simp] theorem dFgt_eq {is : List Nat} : dFgt is f Γ = fgtO is (f Γ) := by unfold dFgt; cases f Γ <;> rfl
def forO (s : Tg) (h : DenS) : Option (List D × Bool × Bool) → Ev → Out
  | some (ds, _, true), Γ => forGo s h ds Γ
  | _, _ => .no
@[simp] theorem forO_s {s : Tg} : forO s h (some (xs, n, true)) Γ = forGo s h xs Γ := rfl
@[simp] theorem dFor_eq {w : DenI} {s : Tg} : dFor w s h Γ = forO s h (w Γ) Γ := by
  unfold dFor; generalize w Γ = z
  match z with
  | none => rfl
  | some (_, _, true) => rfl
  | some (_, _, false) => rfl
def lcO (s : Tg) (t : DenT) (fa : DenE) (Γ : Ev) : Option (List D × Bool × Bool) → Option (List D)
  | some w => lcGo s t fa Γ w.1
  | none => none
def lcR : Option (List D) → Option (D × Md)
  | some q => if q.length ≤ sizeLine then some (.lst q, .new false) else none
  | none => none
@[simp] theorem lcO_s {s : Tg} : lcO s t fa Γ (some (xs, m, n)) = lcGo s t fa Γ xs := rfl
@[simp] theorem lcR_s : lcR (some ys) = if ys.length ≤ sizeLine then some (.lst ys, .new false) else none := rfl
@[simp] theorem dLc_eq {w : DenI} {s : Tg} {vs : List Nat} : dLc w s t fa vs Γ = lcR (lcO s t fa (forget vs Γ) (w Γ)) := by
  unfold dLc
  cases w Γ with
  | none => rfl
  | some z =>
    show (lcGo s t fa (forget vs Γ) z.1).bind _ = _
    unfold lcO
    show (lcGo s t fa (forget vs Γ) z.1).bind _ = lcR (lcGo s t fa (forget vs Γ) z.1)
    cases lcGo s t fa (forget vs Γ) z.1 <;> rfl
def dcO (s : Tg) (t : DenT) (fa fb : DenE) (Γ : Ev) : Option (List D × Bool × Bool) → Option (D × Md)
  | some w => (dcGo s t fa fb Γ w.1 []).map fun q => (.dk q, .new false)
  | none => none
@[simp] theorem dcO_s {s : Tg} : dcO s t fa fb Γ (some (xs, m, n)) = (dcGo s t fa fb Γ xs []).map fun q => (.dk q, .new false) := rfl
@[simp] theorem dDc_eq {w : DenI} {s : Tg} {vs : List Nat} : dDc w s t fa fb vs Γ = dcO s t fa fb (forget vs Γ) (w Γ) := by
  unfold dDc; cases w Γ <;> rfl
theorem runB_rt {p N : Nat} {ds : List D} (hl : ds.length = p) (e : f (ds.map (fun d => Slot.val d false) ++ List.replicate (N - p) Slot.no) = .rt d md) : runB p N f ds = some (d, md) := by
  unfold runB; rw [if_pos hl, e]
theorem atI_nn {α : Type} {l : List α} {i : Int} (h : 0 ≤ i) (h2 : i < l.length) : atI l i = l[i.toNat]? := by
  unfold atI ixN
  rw [if_pos h, if_pos h2]; rfl
theorem atI_of {α : Type} {l : List α} {i : Int} {z : α} (h : 0 ≤ i) (e : l[i.toNat]? = some z) : atI l i = some z := by
  have h2 := (List.getElem?_eq_some_iff.mp e).1
  rw [atI_nn h (by omega)]; exact e
@[simp] theorem atI_0 {α : Type} {z : α} {l : List α} : atI (z :: l) 0 = some z := by rw [atI_of (by omega)]; rfl
@[simp] theorem atI_1 {α : Type} {z y : α} {l : List α} : atI (z :: y :: l) 1 = some y := by rw [atI_of (by omega)]; rfl
@[simp] theorem atI_2 {α : Type} {z y w : α} {l : List α} : atI (z :: y :: w :: l) 2 = some w := by rw [atI_of (by omega)]; rfl
end
@[simp] theorem kitB_list_list : kitB "list" "list" = some true := by decide +kernel
@[simp] theorem kitB_list_tuple : kitB "list" "tuple" = some false := by decide +kernel
@[simp] theorem kitB_list_bool : kitB "list" "bool" = some false := by decide +kernel
@[simp] theorem kitB_list_int : kitB "list" "int" = some false := by decide +kernel
@[simp] theorem kitB_list_str : kitB "list" "str" = some false := by decide +kernel
@[simp] theorem kitB_list_dict : kitB "list" "dict" = some false := by decide +kernel
@[simp] theorem kitB_tuple_list : kitB "tuple" "list" = some false := by decide +kernel
@[simp] theorem kitB_tuple_tuple : kitB "tuple" "tuple" = some true := by decide +kernel
@[simp] theorem kitB_tuple_bool : kitB "tuple" "bool" = some false := by decide +kernel
@[simp] theorem kitB_tuple_int : kitB "tuple" "int" = some false := by decide +kernel
@[simp] theorem kitB_tuple_str : kitB "tuple" "str" = some false := by decide +kernel
@[simp] theorem kitB_tuple_dict : kitB "tuple" "dict" = some false := by decide +kernel
@[simp] theorem kitB_NoneType_list : kitB "NoneType" "list" = some false := by decide +kernel
@[simp] theorem kitB_NoneType_tuple : kitB "NoneType" "tuple" = some false := by decide +kernel
@[simp] theorem kitB_NoneType_bool : kitB "NoneType" "bool" = some false := by decide +kernel
@[simp] theorem kitB_NoneType_int : kitB "NoneType" "int" = some false := by decide +kernel
@[simp] theorem kitB_NoneType_str : kitB "NoneType" "str" = some false := by decide +kernel
@[simp] theorem kitB_NoneType_dict : kitB "NoneType" "dict" = some false := by decide +kernel
@[simp] theorem kitB_bool_list : kitB "bool" "list" = some false := by decide +kernel
@[simp] theorem kitB_bool_tuple : kitB "bool" "tuple" = some false := by decide +kernel
@[simp] theorem kitB_bool_bool : kitB "bool" "bool" = some true := by decide +kernel
@[simp] theorem kitB_bool_int : kitB "bool" "int" = some true := by decide +kernel
@[simp] theorem kitB_bool_str : kitB "bool" "str" = some false := by decide +kernel
@[simp] theorem kitB_bool_dict : kitB "bool" "dict" = some false := by decide +kernel
@[simp] theorem kitB_int_list : kitB "int" "list" = some false := by decide +kernel
@[simp] theorem kitB_int_tuple : kitB "int" "tuple" = some false := by decide +kernel
@[simp] theorem kitB_int_bool : kitB "int" "bool" = some false := by decide +kernel
@[simp] theorem kitB_int_int : kitB "int" "int" = some true := by decide +kernel
@[simp] theorem kitB_int_str : kitB "int" "str" = some false := by decide +kernel
@[simp] theorem kitB_int_dict : kitB "int" "dict" = some false := by decide +kernel
@[simp] theorem kitB_str_list : kitB "str" "list" = some false := by decide +kernel
@[simp] theorem kitB_str_tuple : kitB "str" "tuple" = some false := by decide +kernel
@[simp] theorem kitB_str_bool : kitB "str" "bool" = some false := by decide +kernel
@[simp] theorem kitB_str_int : kitB "str" "int" = some false := by decide +kernel
@[simp] theorem kitB_str_str : kitB "str" "str" = some true := by decide +kernel
@[simp] theorem kitB_str_dict : kitB "str" "dict" = some false := by decide +kernel
@[simp] theorem kitB_dict_list : kitB "dict" "list" = some false := by decide +kernel
@[simp] theorem kitB_dict_tuple : kitB "dict" "tuple" = some false := by decide +kernel
@[simp] theorem kitB_dict_bool : kitB "dict" "bool" = some false := by decide +kernel
@[simp] theorem kitB_dict_int : kitB "dict" "int" = some false := by decide +kernel
@[simp] theorem kitB_dict_str : kitB "dict" "str" = some false := by decide +kernel
@[simp] theorem kitB_dict_dict : kitB "dict" "dict" = some true := by decide +kernel
def fit : Nat → D → Bool
  | _, .non => true | _, .bl _ => true | _, .int _ => true | _, .str _ => true
  | n + 1, .tup xs => decide (xs.length ≤ sizeLine) && xs.all (fit n)
  | n + 1, .lst xs => decide (xs.length ≤ sizeLine) && xs.all (fit n)
  | _, _ => false
@[simp] theorem fit_lst {n : Nat} {xs : List D} : fit (n + 1) (.lst xs) = (decide (xs.length ≤ sizeLine) && xs.all (fit n)) := by rw [fit]
@[simp] theorem fit_tup {n : Nat} {xs : List D} : fit (n + 1) (.tup xs) = (decide (xs.length ≤ sizeLine) && xs.all (fit n)) := by rw [fit]
@[simp] theorem fit_int {n : Nat} {i : Int} : fit n (.int i) = true := by cases n <;> rfl
@[simp] theorem fit_bl {n : Nat} {i : Bool} : fit n (.bl i) = true := by cases n <;> rfl
@[simp] theorem fit_str {n : Nat} {i : Str} : fit n (.str i) = true := by cases n <;> rfl
@[simp] theorem fit_non {n : Nat} : fit n .non = true := by cases n <;> rfl
theorem fit_and {n : Nat} {xs : List D} (h : (decide (xs.length ≤ sizeLine) && xs.all (fit n)) = true) : xs.length ≤ sizeLine ∧ ∀ x ∈ xs, fit n x = true := by
  have h1 := (Bool.and_eq_true _ _).mp h
  exact ⟨of_decide_eq_true h1.1, List.all_eq_true.mp h1.2⟩
theorem fit_of {n : Nat} {xs : List D} (h1 : xs.length ≤ sizeLine) (h2 : ∀ x ∈ xs, fit n x = true) : fit (n + 1) (.lst xs) = true := by
  rw [fit_lst, decide_eq_true h1, List.all_eq_true.mpr h2]; rfl
@[simp] theorem pl_lst {n : Nat} {xs : List D} : D.pl (n + 1) (.lst xs) = xs.all (D.pl n) := by rw [D.pl]
@[simp] theorem pl_tup {n : Nat} {xs : List D} : D.pl (n + 1) (.tup xs) = xs.all (D.pl n) := by rw [D.pl]
@[simp] theorem pl_int {n : Nat} {i : Int} : D.pl n (.int i) = true := by cases n <;> rfl
@[simp] theorem pl_bl {n : Nat} {i : Bool} : D.pl n (.bl i) = true := by cases n <;> rfl
@[simp] theorem pl_str {n : Nat} {i : Str} : D.pl n (.str i) = true := by cases n <;> rfl
@[simp] theorem pl_non {n : Nat} : D.pl n .non = true := by cases n <;> rfl
@[simp] theorem sz_1 : 1 ≤ sizeLine := by decide
@[simp] theorem sz_2 : 2 ≤ sizeLine := by decide
@[simp] theorem sz_3 : 3 ≤ sizeLine := by decide
@[simp] theorem sz_4 : 4 ≤ sizeLine := by decide
@[simp] theorem sz_5 : 5 ≤ sizeLine := by decide
@[simp] theorem sz_6 : 6 ≤ sizeLine := by decide
@[simp] theorem sz_7 : 7 ≤ sizeLine := by decide
@[simp] theorem sz_8 : 8 ≤ sizeLine := by decide
@[simp] theorem sz_9 : 9 ≤ sizeLine := by decide
@[simp] theorem sz_10 : 10 ≤ sizeLine := by decide
@[simp] theorem sz_11 : 11 ≤ sizeLine := by decide
@[simp] theorem sz_12 : 12 ≤ sizeLine := by decide
@[simp] theorem sz_13 : 13 ≤ sizeLine := by decide
@[simp] theorem sz_14 : 14 ≤ sizeLine := by decide
@[simp] theorem sz_15 : 15 ≤ sizeLine := by decide
@[simp] theorem sz_16 : 16 ≤ sizeLine := by decide
@[simp] theorem sz_0 : 0 < sizeLine := by decide
theorem small_le {n : Nat} (h : n ≤ 16777216) : n ≤ sizeLine := h
theorem small_lt {n : Nat} (h : n < 16777216) : n < sizeLine := h
end Dn
namespace Dn
open PySem PySem.Spec L2
open PyProof.Rows hiding St

/-! ### evaluation -/
theorem seq_nx {f h : DenS} {Γ Γ' : Ev} (e : f Γ = .nx Γ') : dSeq f h Γ = h Γ' := by unfold dSeq; rw [e]
theorem seq_rt {f h : DenS} {Γ : Ev} {d : D} {m : Md} (e : f Γ = .rt d m) : dSeq f h Γ = .rt d m := by unfold dSeq; rw [e]
theorem for_src {f : DenI} {t : Tg} {h : DenS} {Γ : Ev} {ds : List D} {n : Bool} (e : f Γ = some (ds, n, true)) : dFor f t h Γ = forGo t h ds Γ := by unfold dFor; rw [e]
/-- a loop whose turns all go on: states st a, items enc b -/
theorem forGo_fold {α β : Type} {t : Tg} {h : DenS} (enc : β → D) (st : α → Ev) (step : α → β → α) (P : α → Prop) : ∀ (xs : List β) (a : α), P a →
    (∀ a b, b ∈ xs → P a → ∃ Γ1, asg t (enc b) false (st a) = some Γ1 ∧ (h Γ1 = .nx (st (step a b)) ∨ h Γ1 = .ct (st (step a b))) ∧ P (step a b)) → forGo t h (xs.map enc) (st a) = .nx (st (xs.foldl step a)) ∧ P (xs.foldl step a)
  | [], a, p, _ => ⟨rfl, p⟩
  | b :: xs, a, p, hs => by
    obtain ⟨Γ1, e1, e2, p'⟩ := hs a b List.mem_cons_self p
    have ih := forGo_fold enc st step P xs (step a b) p' fun a' b' m => hs a' b' (List.mem_cons_of_mem _ m)
    refine ⟨?_, ih.2⟩
    show (match asg t (enc b) false (st a) with | none => Out.no | some Γ1 => _) = _
    rw [e1]
    rcases e2 with e2 | e2
    · simp only [e2]; exact ih.1
    · simp only [e2]; exact ih.1
/-- .. by the turn's number -/
theorem forGo_foldI {α β : Type} {t : Tg} {h : DenS} (enc : β → D) (st : α → Ev) (step : α → β → α) (P : Nat → α → Prop) : ∀ (xs : List β) (k : Nat) (a : α), P k a →
    (∀ i a b, xs[i]? = some b → P (k + i) a → ∃ Γ1, asg t (enc b) false (st a) = some Γ1 ∧ (h Γ1 = .nx (st (step a b)) ∨ h Γ1 = .ct (st (step a b))) ∧ P (k + i + 1) (step a b)) → forGo t h (xs.map enc) (st a) = .nx (st (xs.foldl step a)) ∧ P (k + xs.length) (xs.foldl step a)
  | [], k, a, p, _ => ⟨rfl, p⟩
  | b :: xs, k, a, p, hs => by
    obtain ⟨Γ1, e1, e2, p'⟩ := hs 0 a b rfl p
    have ih := forGo_foldI enc st step P xs (k + 1) (step a b) p' fun i a' b' m pp => by
      have := hs (i + 1) a' b' m (by rw [show k + (i + 1) = k + 1 + i by omega]; exact pp)
      rw [show k + (i + 1) + 1 = k + 1 + i + 1 by omega] at this
      exact this
    rw [show k + (b :: xs).length = k + 1 + xs.length by rw [List.length_cons]; omega]
    refine ⟨?_, ih.2⟩
    show (match asg t (enc b) false (st a) with | none => Out.no | some Γ1 => _) = _
    rw [e1]
    rcases e2 with e2 | e2
    · simp only [e2]; exact ih.1
    · simp only [e2]; exact ih.1
theorem foldl_opt {β γ : Type} (f : β → Option γ) : ∀ (xs : List β) (a : List γ), xs.foldl (fun a b => a ++ (f b).toList) a = a ++ xs.filterMap f
  | [], a => by simp
  | b :: xs, a => by
    rw [List.foldl_cons, foldl_opt f xs, List.filterMap_cons]
    cases f b <;> simp
theorem rngD_map (n : Nat) : rngD 0 n = (List.range n).map fun (i : Nat) => D.int (i : Int) := by
  unfold rngD
  exact List.map_congr_left fun i _ => by rw [Int.zero_add]
/-- .. that leave nothing -/
theorem forGo_const {t : Tg} {h : DenS} {Γ : Ev} : ∀ (ds : List D), (∀ d ∈ ds, ∃ Γ1, asg t d false Γ = some Γ1 ∧ (h Γ1 = .nx Γ ∨ h Γ1 = .ct Γ)) → forGo t h ds Γ = .nx Γ
  | [], _ => rfl
  | d :: ds, hs => by
    obtain ⟨Γ1, e1, e2⟩ := hs d List.mem_cons_self
    have ih := forGo_const (t := t) (h := h) (Γ := Γ) ds fun d' m => hs d' (List.mem_cons_of_mem _ m)
    show (match asg t d false Γ with | none => Out.no | some Γ1 => _) = _
    rw [e1]
    rcases e2 with e2 | e2
    · simp only [e2]; exact ih
    · simp only [e2]; exact ih
/-- a relation kept from turn to turn -/
theorem forGo_rel {t : Tg} {h : DenS} (I : List D → Ev → Prop) : ∀ (ds : List D) (Γ : Ev), I ds Γ →
    (∀ d r Γ, I (d :: r) Γ → ∃ Γ1 Γ2, asg t d false Γ = some Γ1 ∧ (h Γ1 = .nx Γ2 ∨ h Γ1 = .ct Γ2) ∧ I r Γ2) → ∃ Γ', forGo t h ds Γ = .nx Γ' ∧ I [] Γ'
  | [], Γ, i, _ => ⟨Γ, rfl, i⟩
  | d :: ds, Γ, i, hs => by
    obtain ⟨Γ1, Γ2, e1, e2, i2⟩ := hs d ds Γ i
    obtain ⟨Γ', e3, i3⟩ := forGo_rel I ds Γ2 i2 hs
    refine ⟨Γ', ?_, i3⟩
    show (match asg t d false Γ with | none => Out.no | some Γ1 => _) = _
    rw [e1]
    rcases e2 with e2 | e2
    · simp only [e2]; exact e3
    · simp only [e2]; exact e3
/-- a comprehension: items enc b, kept where p, made f -/
theorem lcGo_map {β γ : Type} {t : Tg} {tt : DenT} {el : DenE} {Γ : Ev} (enc : β → D) (p : β → Bool) (f : β → D) : ∀ (xs : List β),
    (∀ b ∈ xs, ∃ Γ1, asg t (enc b) false Γ = some Γ1 ∧ tt Γ1 = some (p b) ∧ (p b = true → ∃ n, (el Γ1).bind emb = some (f b, n))) → lcGo t tt el Γ (xs.map enc) = some ((xs.filter p).map f)
  | [], _ => rfl
  | b :: xs, hs => by
    obtain ⟨Γ1, e1, e2, e3⟩ := hs b List.mem_cons_self
    have ih := lcGo_map (γ := γ) (t := t) (tt := tt) (el := el) (Γ := Γ) enc p f xs fun b' m => hs b' (List.mem_cons_of_mem _ m)
    show ((asg t (enc b) false Γ).bind fun Γ1 => _) = _
    rw [e1]
    show ((tt Γ1).bind fun b => _) = _
    rw [e2]
    cases hp : p b with
    | false =>
      rw [List.filter_cons, hp]
      exact ih
    | true =>
      obtain ⟨n, e3⟩ := e3 hp
      show (((el Γ1).bind emb).bind fun p => _) = _
      rw [e3]
      show ((lcGo t tt el Γ (xs.map enc)).bind fun q => _) = _
      rw [ih, List.filter_cons, hp]
      rfl
theorem lcGo_mapI {β : Type} {t : Tg} {tt : DenT} {el : DenE} {Γ : Ev} (enc : β → D) (p : β → Bool) (f : β → Int) (xs : List β)
    (hs : ∀ b ∈ xs, ∃ Γ1, asg t (enc b) false Γ = some Γ1 ∧ tt Γ1 = some (p b) ∧ (p b = true → ∃ n, (el Γ1).bind emb = some (.int (f b), n))) : lcGo t tt el Γ (xs.map enc) = some (((xs.filter p).map f).map D.int) := by
  rw [List.map_map]; exact lcGo_map (γ := Int) enc p (fun b => .int (f b)) xs hs
/-- .. with the made list by a name -/
theorem lcGo_int {β : Type} {t : Tg} {tt : DenT} {el : DenE} {Γ : Ev} (enc : β → D) (p : β → Bool) (f : β → Int) (xs : List β) (out : List Int) (ho : (xs.filter p).map f = out)
    (hs : ∀ b ∈ xs, ∃ Γ1, asg t (enc b) false Γ = some Γ1 ∧ tt Γ1 = some (p b) ∧ (p b = true → ∃ n, (el Γ1).bind emb = some (.int (f b), n))) : lcGo t tt el Γ (xs.map enc) = some (out.map D.int) := by
  subst ho; exact lcGo_mapI enc p f xs hs
theorem lcGo_enc {β γ : Type} {t : Tg} {tt : DenT} {el : DenE} {Γ : Ev} (enc : β → D) (p : β → Bool) (f : β → γ) (enc2 : γ → D) (xs : List β) (out : List γ) (ho : (xs.filter p).map f = out)
    (hs : ∀ b ∈ xs, ∃ Γ1, asg t (enc b) false Γ = some Γ1 ∧ tt Γ1 = some (p b) ∧ (p b = true → ∃ n, (el Γ1).bind emb = some (enc2 (f b), n))) : lcGo t tt el Γ (xs.map enc) = some (out.map enc2) := by
  subst ho; rw [List.map_map]; exact lcGo_map (γ := γ) enc p (fun b => enc2 (f b)) xs hs
theorem lcGo_all {β : Type} {t : Tg} {el : DenE} {Γ : Ev} (enc : β → D) (f : β → D) (xs : List β)
    (hs : ∀ b ∈ xs, ∃ Γ1, asg t (enc b) false Γ = some Γ1 ∧ ∃ n, (el Γ1).bind emb = some (f b, n)) : lcGo t dYes el Γ (xs.map enc) = some (xs.map f) := by
  have h := lcGo_map (γ := β) (t := t) (tt := dYes) (el := el) (Γ := Γ) enc (fun _ => true) f xs fun b m => let ⟨Γ1, e1, n, e2⟩ := hs b m; ⟨Γ1, e1, rfl, fun _ => ⟨n, e2⟩⟩
  rwa [List.filter_eq_self.mpr (fun _ _ => rfl)] at h
end Dn
namespace Cm
noncomputable section
open PySem PySem.Spec L2 Dn
open PyProof.Rows hiding St

/-! ### the laws' own helpers: _law_cell, _law_numbers, _law_same -/
def b_cell : DenS :=
  (dSeq (dIf (dB (dOp ltD (dVar 1) (dBlt lenF (dVCons (dVar 0) dVNil)))) (dRet (dBlt intF (dVCons (dOp subsD (dVar 0) (dVar 1)) dVNil))) dSkip)
  (dRet (dC (.int 0))))
def φ_cell : Fn := runB 2 2 b_cell
theorem len_cell : ∀ ds x, φ_cell ds = some x → ds.length = 2 := fun _ _ h => runB_len h
def b_numbers : DenS :=
  (dSeq (dSet 3 (dLst dANil))
  (dSeq (dIf (dB (dOp geD (dVar 0) (dOp powD (dC (.int 10)) (dC (.int 18))))) (dSeq (dFor (dRng1 (dVar 1)) (.nm 4) (dFgt [4] (dSeq (dApp 3 (dOp modD (dBlt intF (dVCons (dVar 0) dVNil)) (dVar 2)))
  (dSet 0 (dOp fdivD (dBlt intF (dVCons (dVar 0) dVNil)) (dVar 2))))))
  (dRet (dVar 3))) dSkip)
  (dSeq (dFor (dRng1 (dVar 1)) (.nm 4) (dFgt [4, 5] (dSeq (dSet 5 (dOp modD (dBlt intF (dVCons (dOp addD (dOp addD (dOp mulD (dVar 0) (dC (.int 48271))) (dOp mulD (dVar 4) (dC (.int 69621)))) (dC (.int 7))) dVNil)) (dC (.int 2147483647))))
  (dSeq (dSet 5 (dOp modD (dBlt intF (dVCons (dOp addD (dOp addD (dOp addD (dOp mulD (dVar 5) (dVar 5)) (dOp mulD (dVar 5) (dC (.int 40692)))) (dOp mulD (dVar 4) (dC (.int 16807)))) (dC (.int 11))) dVNil)) (dC (.int 2147483399))))
  (dApp 3 (dOp modD (dBlt intF (dVCons (dOp fdivD (dVar 5) (dC (.int 32))) dVNil)) (dVar 2)))))))
  (dRet (dVar 3)))))
def φ_numbers : Fn := runB 3 6 b_numbers
theorem len_numbers : ∀ ds x, φ_numbers ds = some x → ds.length = 3 := fun _ _ h => runB_len h
def b_same (self : Fn) : DenS :=
  (dSeq (dIf (dTru (dIsi (dVar 1) "list")) (dIf (dOr (dNot (dTru (dIsi (dVar 0) "list"))) (dB (dOp (eqD true) (dBlt lenF (dVCons (dVar 0) dVNil)) (dBlt lenF (dVCons (dVar 1) dVNil))))) (dRet (dC (.bl false))) dSkip) (dIf (dTru (dIsi (dVar 1) "tuple")) (dIf (dOr (dNot (dTru (dIsi (dVar 0) "tuple"))) (dB (dOp (eqD true) (dBlt lenF (dVCons (dVar 0) dVNil)) (dBlt lenF (dVCons (dVar 1) dVNil))))) (dRet (dC (.bl false))) dSkip) (dIf (dB (dOp (isND false) (dVar 1) (dC .non))) (dRet (dOp (isND false) (dVar 0) (dC .non))) (dIf (dTru (dIsi (dVar 1) "bool")) (dRet (dAndV (dIsi (dVar 0) "bool") (dOp (eqD false) (dVar 0) (dVar 1)))) (dIf (dTru (dIsi (dVar 1) "int")) (dRet (dAndV (dIsi (dVar 0) "int") (dAndV (dNotV (dIsi (dVar 0) "bool")) (dOp (eqD false) (dVar 0) (dVar 1))))) (dRet (dAndV (dIsi (dVar 0) "str") (dOp (eqD false) (dVar 0) (dVar 1)))))))))
  (dSeq (dFor (dRng1 (dBlt lenF (dVCons (dVar 1) dVNil))) (.nm 2) (dFgt [2] (dIf (dNot (dTru (dCall self (dACons (dOp subsD (dVar 0) (dVar 2)) (dACons (dOp subsD (dVar 1) (dVar 2)) dANil))))) (dRet (dC (.bl false))) dSkip)))
  (dRet (dC (.bl true)))))
def φ_same : Nat → Fn
  | 0 => fun _ => none
  | k + 1 => runB 2 3 (b_same (φ_same k))
theorem len_same {k : Nat} : ∀ ds x, φ_same k ds = some x → ds.length = 2 := by
  intro ds x h
  cases k with
  | zero => cases h
  | succ k => exact runB_len h

def cellAt (ns : List Int) (k : Int) : Int := if k < ns.length then ns.getD k.toNat 0 else 0
theorem cell_ok (ns : List Int) (k : Int) (hk : 0 ≤ k) : φ_cell [.scr ns, .int k] = some (.int (cellAt ns k), .frz false) := by
  unfold φ_cell
  refine runB_rt rfl ?_
  unfold b_cell cellAt
  by_cases h : k < (ns.length : Int)
  · have hk2 : k.toNat < ns.length := by omega
    simp [h, atI_nn hk h, hk2]
  · simp [h]
theorem mulOk_l {i j : Int} (h : -18446744073709551616 < i ∧ i < 18446744073709551616) : mulOk i j := .inl (by omega)
theorem mulOk_r {i j : Int} (h : -18446744073709551616 < j ∧ j < 18446744073709551616) : mulOk i j := .inr (.inl (by omega))
theorem divOk_s {j : Int} (h : 0 < j ∧ j < 1073741824) : divOk j := ⟨h.1, .inl h.2⟩
theorem rngD_ints (lo : Int) (n : Nat) : ∃ is : List Int, rngD lo n = is.map D.int ∧ is.length = n := by
  refine ⟨(List.range n).map fun i => lo + (i : Nat), ?_, by simp⟩
  unfold rngD
  rw [List.map_map]; rfl
theorem numbers_ok (cell count limit : Int) (h0 : 0 ≤ count) (h1 : count ≤ 1000) (h2 : 0 < limit) (h3 : limit < 1073741824) :
    ∃ ds : List Int, ds.length = count.toNat ∧ (∀ d ∈ ds, 0 ≤ d ∧ d < limit) ∧ φ_numbers [.int cell, .int count, .int limit] = some (.lst (ds.map D.int), .new false) := by
  have hd : divOk limit := divOk_s ⟨h2, h3⟩
  obtain ⟨is, hi, hl⟩ := rngD_ints 0 count.toNat
  have hr : rOk count := rOk_of (by omega)
  by_cases hc : 1000000000000000000 ≤ cell
  · obtain ⟨Γ', e, c', ds, eΓ, hlen, hall⟩ := forGo_rel (t := .nm 4) (h := _) (fun rest Γ => ∃ c ds : _, Γ = [.val (.int c) false, .val (.int count) false, .val (.int limit) false, .own (.lst ((ds : List Int).map D.int)) false, .no, .no] ∧ (∃ is : List Int, rest = is.map D.int ∧ ds.length + is.length = count.toNat) ∧ ∀ d ∈ ds, 0 ≤ d ∧ d < limit)
      (is.map D.int) _ ⟨cell, [], rfl, ⟨is, rfl, by simpa using hl⟩, by simp⟩ (fun d r Γ ⟨c, ds, eΓ, ⟨is, ei, hlen⟩, hall⟩ => by
        subst eΓ
        cases is with
        | nil => cases ei
        | cons i is =>
          simp only [List.map_cons, List.cons.injEq] at ei
          obtain ⟨rfl, rfl⟩ := ei
          have hz : ds.length < sizeLine := small_lt (by simp at hlen; omega)
          refine ⟨_, _, asg_nm, .inl ?_, c / limit, ds ++ [c % limit], rfl, ⟨is, rfl, by simp at hlen ⊢; omega⟩, fun d hd => ?_⟩
          · show (dFgt [4] (dSeq (dApp 3 (dOp modD (dBlt intF (dVCons (dVar 0) dVNil)) (dVar 2))) (dSet 0 (dOp fdivD (dBlt intF (dVCons (dVar 0) dVNil)) (dVar 2))))) _ = _
            simp [h2, hd, hz]
          · rcases List.mem_append.mp hd with h | h
            · exact hall d h
            · have : d = c % limit := by simpa using h
              subst this
              exact ⟨Int.emod_nonneg _ (by omega), Int.emod_lt_of_pos _ h2⟩)
    obtain ⟨is', ei', hlen'⟩ := hlen
    have : is' = [] := by cases is' with
      | nil => rfl
      | cons _ _ => cases ei'
    subst this
    refine ⟨ds, by simpa using hlen', hall, ?_⟩
    unfold φ_numbers
    refine runB_rt rfl ?_
    subst eΓ
    unfold b_numbers
    rw [List.map_nil] at e
    simp [hc, hr, hi, e]
  · obtain ⟨Γ', e, ds, eΓ, hlen, hall⟩ := forGo_rel (t := .nm 4) (h := _) (fun rest Γ => ∃ ds : _, Γ = [.val (.int cell) false, .val (.int count) false, .val (.int limit) false, .own (.lst ((ds : List Int).map D.int)) false, .no, .no] ∧ (∃ is : List Int, rest = is.map D.int ∧ ds.length + is.length = count.toNat) ∧ ∀ d ∈ ds, 0 ≤ d ∧ d < limit)
      (is.map D.int) _ ⟨[], rfl, ⟨is, rfl, by simpa using hl⟩, by simp⟩ (fun d r Γ ⟨ds, eΓ, ⟨is, ei, hlen⟩, hall⟩ => by
        subst eΓ
        cases is with
        | nil => cases ei
        | cons i is =>
          simp only [List.map_cons, List.cons.injEq] at ei
          obtain ⟨rfl, rfl⟩ := ei
          have hz : ds.length < sizeLine := small_lt (by simp at hlen; omega)
          generalize hm1 : (cell * 48271 + i * 69621 + 7) % 2147483647 = m1
          have hb1 : 0 ≤ m1 ∧ m1 < 2147483647 := by subst hm1; exact ⟨Int.emod_nonneg _ (by omega), Int.emod_lt_of_pos _ (by omega)⟩
          generalize hm2 : (m1 * m1 + m1 * 40692 + i * 16807 + 11) % 2147483399 = m2
          refine ⟨_, _, asg_nm, .inl ?_, ds ++ [m2 / 32 % limit], rfl, ⟨is, rfl, by simp at hlen ⊢; omega⟩, fun d hd => ?_⟩
          · show (dFgt [4, 5] (dSeq (dSet 5 (dOp modD (dBlt intF (dVCons (dOp addD (dOp addD (dOp mulD (dVar 0) (dC (.int 48271))) (dOp mulD (dVar 4) (dC (.int 69621)))) (dC (.int 7))) dVNil)) (dC (.int 2147483647))))
              (dSeq (dSet 5 (dOp modD (dBlt intF (dVCons (dOp addD (dOp addD (dOp addD (dOp mulD (dVar 5) (dVar 5)) (dOp mulD (dVar 5) (dC (.int 40692)))) (dOp mulD (dVar 4) (dC (.int 16807)))) (dC (.int 11))) dVNil)) (dC (.int 2147483399))))
              (dApp 3 (dOp modD (dBlt intF (dVCons (dOp fdivD (dVar 5) (dC (.int 32))) dVNil)) (dVar 2)))))) _ = _
            have q1 : mulOk cell 48271 := mulOk_r (by omega)
            have q2 : mulOk i 69621 := mulOk_r (by omega)
            have q3 : mulOk m1 m1 := mulOk_r (by omega)
            have q4 : mulOk m1 40692 := mulOk_r (by omega)
            have q5 : mulOk i 16807 := mulOk_r (by omega)
            have q6 : divOk 32 := divOk_s (by omega)
            simp [h2, hd, hz, q1, q2, q3, q4, q5, q6, hm1, hm2]
          · rcases List.mem_append.mp hd with h | h
            · exact hall d h
            · have : d = m2 / 32 % limit := by simpa using h
              subst this
              exact ⟨Int.emod_nonneg _ (by omega), Int.emod_lt_of_pos _ h2⟩)
    obtain ⟨is', ei', hlen'⟩ := hlen
    have : is' = [] := by cases is' with
      | nil => rfl
      | cons _ _ => cases ei'
    subst this
    refine ⟨ds, by simpa using hlen', hall, ?_⟩
    unfold φ_numbers
    refine runB_rt rfl ?_
    subst eΓ
    unfold b_numbers
    rw [List.map_nil] at e
    simp [hc, hr, hi, e]
/-- _law_same of a thing with itself -/
theorem same_loop {φ : Fn} {a b : D} {xs : List D} (ha : ∀ i : Int, 0 ≤ i → subsD a false (.int i) false = (atI xs i).map fun d => (d, .frz false)) (hb : ∀ i : Int, 0 ≤ i → subsD b false (.int i) false = (atI xs i).map fun d => (d, .frz false)) (hx : ∀ x ∈ xs, φ [x, x] = some (.bl true, .frz false)) :
    forGo (.nm 2) (dFgt [2] (dIf (dNot (dTru (dCall φ (dACons (dOp subsD (dVar 0) (dVar 2)) (dACons (dOp subsD (dVar 1) (dVar 2)) dANil))))) (dRet (dC (.bl false))) dSkip)) (rngD 0 xs.length) [.val a false, .val b false, .no] = .nx [.val a false, .val b false, .no] := by
  refine forGo_const _ fun d hd => ?_
  unfold rngD at hd
  obtain ⟨i, hi, rfl⟩ := List.mem_map.mp hd
  have hi : i < xs.length := by simpa using hi
  have hz : atI xs (0 + (i : Int)) = some xs[i] := atI_of (by omega) (by simp [hi])
  have h1 := hx xs[i] (List.getElem_mem hi)
  have h2 := ha (0 + (i : Int)) (by omega)
  have h3 := hb (0 + (i : Int)) (by omega)
  rw [hz] at h2 h3
  simp only [Int.zero_add] at h2 h3 hz
  refine ⟨_, asg_nm, .inl ?_⟩
  simp [h2, h3, h1]
theorem eqs_refl (x : Str) : (x == x) = true := by simp
theorem len62 {n : Nat} (h : n ≤ sizeLine) : rOk (n : Int) := rOk_of (by have h2 : n ≤ 16777216 := h; omega)
theorem same_refl : ∀ (k : Nat) (d : D), fit k d = true → φ_same (k + 1) [d, d] = some (.bl true, .frz false) := by
  intro k
  induction k with
  | zero =>
    intro d h
    cases d with
    | non => unfold φ_same; refine runB_rt rfl ?_; unfold b_same; simp
    | bl b => unfold φ_same; refine runB_rt rfl ?_; unfold b_same; simp
    | int i => unfold φ_same; refine runB_rt rfl ?_; unfold b_same; simp
    | str x => unfold φ_same; refine runB_rt rfl ?_; unfold b_same; simp
    | _ => cases h
  | succ k ih =>
    intro d h
    cases d with
    | non => unfold φ_same; refine runB_rt rfl ?_; unfold b_same; simp
    | bl b => unfold φ_same; refine runB_rt rfl ?_; unfold b_same; simp
    | int i => unfold φ_same; refine runB_rt rfl ?_; unfold b_same; simp
    | str x => unfold φ_same; refine runB_rt rfl ?_; unfold b_same; simp
    | lst xs =>
      rw [fit_lst] at h
      have h := fit_and h
      have hl := same_loop (φ := φ_same (k + 1)) (a := .lst xs) (b := .lst xs) (xs := xs) (fun _ _ => rfl) (fun _ _ => rfl) fun x hx => ih x (h.2 x hx)
      have hz : rOk (xs.length : Int) := len62 h.1
      rw [φ_same]
      refine runB_rt rfl ?_
      unfold b_same
      simp [hz, hl]
    | tup xs =>
      rw [fit_tup] at h
      have h := fit_and h
      have hl := same_loop (φ := φ_same (k + 1)) (a := .tup xs) (b := .tup xs) (xs := xs) (fun _ _ => rfl) (fun _ _ => rfl) fun x hx => ih x (h.2 x hx)
      have hz : rOk (xs.length : Int) := len62 h.1
      rw [φ_same]
      refine runB_rt rfl ?_
      unfold b_same
      simp [hz, hl]
    | _ => cases h
end
end Cm
namespace Dn
open PySem PySem.Spec L2
open PyProof.Rows hiding St
/-! ### dicts by ints, over plain pairs -/
section
variable {α : Type} (enc : α → D)
def encK (kvs : List (Int × α)) : List (Key × D) := kvs.map fun kv => (Sum.inl kv.1, enc kv.2)
def lookT (kvs : List (Int × α)) (k : Int) : Option α := (kvs.find? fun kv => decide (kv.1 = k)).map (·.2)
def putT (kvs : List (Int × α)) (k : Int) (v : α) : List (Int × α) :=
  if (kvs.any fun kv => decide (kv.1 = k)) = true then kvs.map (fun kv => if kv.1 = k then (kv.1, v) else kv) else kvs ++ [(k, v)]
theorem inl_dec (a b : Int) : decide ((Sum.inl a : Key) = Sum.inl b) = decide (a = b) := by
  by_cases h : a = b
  · subst h; simp
  · have : ¬ (Sum.inl a : Key) = Sum.inl b := fun e => h (Sum.inl.inj e)
    rw [decide_eq_false h, decide_eq_false this]
@[simp] theorem look_enc (k : Int) : ∀ kvs : List (Int × α), lookK (encK enc kvs) (.inl k) = (lookT kvs k).map enc
  | [] => rfl
  | (a, v) :: r => by
    have ih := look_enc k r
    unfold lookK encK lookT at *
    rw [List.map_cons, List.find?_cons, List.find?_cons]
    simp only [inl_dec]
    cases decide (a = k) with
    | true => rfl
    | false => exact ih
theorem any_enc (k : Int) (kvs : List (Int × α)) : ((encK enc kvs).any fun kv => decide (kv.1 = Sum.inl k)) = kvs.any fun kv => decide (kv.1 = k) := by
  unfold encK
  rw [List.any_map]
  congr 1
  funext kv
  exact inl_dec kv.1 k
@[simp] theorem put_enc (kvs : List (Int × α)) (k : Int) (v : α) : putKD (encK enc kvs) (.inl k) (enc v) = encK enc (putT kvs k v) := by
  unfold putKD putT
  rw [any_enc]
  split
  · unfold encK
    rw [List.map_map, List.map_map]
    refine List.map_congr_left fun kv _ => ?_
    show (if (Sum.inl kv.1 : Key) = Sum.inl k then _ else _) = _
    by_cases h : kv.1 = k
    · rw [if_pos (by rw [h])]; simp [h]
    · rw [if_neg (fun e => h (Sum.inl.inj e))]; simp [h]
  · unfold encK; rw [List.map_append]; rfl
@[simp] theorem len_enc (kvs : List (Int × α)) : (encK enc kvs).length = kvs.length := by unfold encK; rw [List.length_map]
@[simp] theorem encK_nil : encK enc [] = [] := rfl
@[simp] theorem keyInts_enc : ∀ kvs : List (Int × α), keyInts (encK enc kvs) = some (kvs.map (·.1))
  | [] => rfl
  | (a, v) :: r => by
    show (keyInts (encK enc r)).map (a :: ·) = _
    rw [keyInts_enc r]; rfl
end
section
variable {α : Type}
theorem lookT_put (kvs : List (Int × α)) (k j : Int) (v : α) : lookT (putT kvs k v) j = if j = k then some v else lookT kvs j := by
  induction kvs with
  | nil =>
    unfold putT lookT
    by_cases h : j = k
    · subst h; simp
    · simp [h, Ne.symm h]
  | cons a r ih =>
    obtain ⟨b, w⟩ := a
    unfold putT lookT at *
    by_cases hb : b = k
    · subst hb
      simp only [List.any_cons, decide_true, Bool.true_or, if_true, List.map_cons, List.find?_cons]
      by_cases hj : j = b
      · subst hj; simp
      · have hj' : ¬ b = j := fun e => hj e.symm
        simp only [decide_eq_false hj', if_neg hj]
        have : ∀ r : List (Int × α), (List.find? (fun kv => decide (kv.1 = j)) (r.map fun kv => if kv.1 = b then (kv.1, v) else kv)).map (·.2) = (List.find? (fun kv => decide (kv.1 = j)) r).map (·.2) := by
          intro r
          induction r with
          | nil => rfl
          | cons c r ih2 =>
            rw [List.map_cons, List.find?_cons, List.find?_cons]
            by_cases hc : c.1 = b
            · rw [if_pos hc]
              have : decide (c.1 = j) = false := decide_eq_false (by rw [hc]; exact hj')
              simp only [this]; exact ih2
            · rw [if_neg hc]
              cases decide (c.1 = j) with
              | true => rfl
              | false => exact ih2
        exact this r
    · by_cases hr : (r.any fun kv => decide (kv.1 = k)) = true
      · rw [if_pos hr] at ih
        have h2 : (((b, w) :: r).any fun kv => decide (kv.1 = k)) = true := by rw [List.any_cons, hr, Bool.or_true]
        rw [if_pos h2, List.map_cons, if_neg hb, List.find?_cons, List.find?_cons]
        by_cases hj : b = j
        · have : j ≠ k := by rw [← hj]; exact hb
          simp [hj, this]
        · simp only [decide_eq_false hj]; exact ih
      · rw [if_neg hr] at ih
        have h2 : ¬ (((b, w) :: r).any fun kv => decide (kv.1 = k)) = true := by rw [List.any_cons, decide_eq_false hb, Bool.false_or]; exact hr
        rw [if_neg h2, List.cons_append, List.find?_cons, List.find?_cons]
        by_cases hj : b = j
        · have : j ≠ k := by rw [← hj]; exact hb
          simp [hj, this]
        · simp only [decide_eq_false hj]; exact ih
theorem mem_any {kvs : List (Int × α)} {k : Int} : (kvs.any fun kv => decide (kv.1 = k)) = true ↔ k ∈ kvs.map (·.1) := by
  rw [List.any_eq_true]
  constructor
  · rintro ⟨x, h1, h2⟩
    exact List.mem_map.mpr ⟨x, h1, of_decide_eq_true h2⟩
  · intro h
    obtain ⟨x, h1, h2⟩ := List.mem_map.mp h
    exact ⟨x, h1, decide_eq_true h2⟩
theorem keys_put (kvs : List (Int × α)) (k : Int) (v : α) : (putT kvs k v).map (·.1) = if k ∈ kvs.map (·.1) then kvs.map (·.1) else kvs.map (·.1) ++ [k] := by
  unfold putT
  by_cases h : (kvs.any fun kv => decide (kv.1 = k)) = true
  · rw [if_pos h, if_pos (mem_any.mp h), List.map_map]
    refine List.map_congr_left fun kv _ => ?_
    show (if kv.1 = k then (kv.1, v) else kv).1 = kv.1
    split <;> rfl
  · rw [if_neg h, if_neg fun e => h (mem_any.mpr e), List.map_append]; rfl
theorem nodup_put {kvs : List (Int × α)} (h : (kvs.map (·.1)).Nodup) (k : Int) (v : α) : ((putT kvs k v).map (·.1)).Nodup := by
  rw [keys_put]
  split
  · exact h
  · rename_i hk
    rw [List.nodup_append]
    refine ⟨h, by simp, fun a ha b hb => ?_⟩
    have : b = k := by simpa using hb
    subst this
    exact fun e => hk (e ▸ ha)
theorem len_put (kvs : List (Int × α)) (k : Int) (v : α) : (putT kvs k v).length ≤ kvs.length + 1 := by
  unfold putT
  split
  · rw [List.length_map]; omega
  · rw [List.length_append]; simp
theorem lookT_none {kvs : List (Int × α)} {k : Int} : lookT kvs k = none ↔ k ∉ kvs.map (·.1) := by
  unfold lookT
  rw [Option.map_eq_none_iff, List.find?_eq_none]
  constructor
  · intro h e
    obtain ⟨x, h1, h2⟩ := List.mem_map.mp e
    exact h x h1 (decide_eq_true h2)
  · intro h x hx e
    exact h (List.mem_map.mpr ⟨x, hx, of_decide_eq_true e⟩)
end
/-- a dict comprehension by ints -/
theorem dcGo_fold {β α : Type} {t : Tg} {tt : DenT} {ek ev : DenE} {Γ : Ev} (enc : β → D) (enc2 : α → D) (p : β → Bool) (k : β → Int) (v : β → α) : ∀ (xs : List β) (acc : List (Int × α)), acc.length + xs.length ≤ sizeLine →
    (∀ b ∈ xs, ∃ Γ1, asg t (enc b) false Γ = some Γ1 ∧ tt Γ1 = some (p b) ∧ (p b = true → (∃ m, ek Γ1 = some (.int (k b), m)) ∧ ∃ n, (ev Γ1).bind emb = some (enc2 (v b), n))) →
    dcGo t tt ek ev Γ (xs.map enc) (encK enc2 acc) = some (encK enc2 ((xs.filter p).foldl (fun a b => putT a (k b) (v b)) acc))
  | [], acc, _, _ => rfl
  | b :: xs, acc, hl, hs => by
    obtain ⟨Γ1, e1, e2, e3⟩ := hs b List.mem_cons_self
    rw [List.map_cons, dcGo, e1]
    show ((tt Γ1).bind fun b => _) = _
    rw [e2]
    rw [List.length_cons] at hl
    cases hp : p b with
    | false =>
      rw [List.filter_cons, hp]
      exact dcGo_fold enc enc2 p k v xs acc (by omega) fun b' m => hs b' (List.mem_cons_of_mem _ m)
    | true =>
      obtain ⟨⟨m, e4⟩, n, e5⟩ := e3 hp
      show (((ek Γ1).bind fun q => q.1.key).bind fun k => _) = _
      rw [e4]
      show (((ev Γ1).bind emb).bind fun p => _) = _
      rw [e5]
      show (if (encK enc2 acc).length < sizeLine then dcGo t tt ek ev Γ (xs.map enc) (putKD (encK enc2 acc) (.inl (k b)) (enc2 (v b))) else none) = _
      rw [if_pos (by rw [len_enc]; omega), put_enc, List.filter_cons, hp]
      exact dcGo_fold enc enc2 p k v xs _ (by have := len_put acc (k b) (v b); omega) fun b' m => hs b' (List.mem_cons_of_mem _ m)
/-! ### least and greatest of a list -/
@[simp] theorem if_min (a b : Int) : (if b < a then b else a) = min a b := by split <;> omega
@[simp] theorem if_max (a b : Int) : (if a < b then b else a) = max a b := by split <;> omega
theorem minL_snoc (xs : List Int) (x : Int) : minL (xs ++ [x]) = some (match minL xs with | none => x | some m => min m x) := by
  cases xs with
  | nil => rfl
  | cons y ys => show some ((ys ++ [x]).foldl min y) = _; rw [List.foldl_append]; rfl
theorem minL_eq {ns : List Int} {m : Int} (h1 : m ∈ ns) (h2 : ∀ y ∈ ns, m ≤ y) : minL ns = some m := by
  cases ns with
  | nil => cases h1
  | cons x xs =>
    have h := foldl_min xs x
    have e1 := h.2 m h1
    have e2 := h2 _ h.1
    show some (xs.foldl min x) = some m
    rw [Int.le_antisymm e1 e2]
theorem maxL_eq {ns : List Int} {m : Int} (h1 : m ∈ ns) (h2 : ∀ y ∈ ns, y ≤ m) : maxL ns = some m := by
  cases ns with
  | nil => cases h1
  | cons x xs =>
    have h := foldl_max xs x
    have e1 := h.2 m h1
    have e2 := h2 _ h.1
    show some (xs.foldl max x) = some m
    rw [Int.le_antisymm e2 e1]
theorem min_none {ns : List Int} : minL ns = none ↔ ns = [] := by cases ns <;> simp [minL]
theorem min_some {ns : List Int} (h : ns ≠ []) : ∃ m, minL ns = some m := by cases ns with
  | nil => exact absurd rfl h
  | cons x xs => exact ⟨_, rfl⟩
theorem max_some {ns : List Int} (h : ns ≠ []) : ∃ m, maxL ns = some m := by cases ns with
  | nil => exact absurd rfl h
  | cons x xs => exact ⟨_, rfl⟩
theorem fl {α : Type} (p : α → Bool) (l : List α) {n : Nat} (h : l.length ≤ n) : (l.filter p).length ≤ n := Nat.le_trans (List.length_filter_le ..) h
/-- the sorted list of some numbers below n -/
theorem sortI_range {ks : List Int} {n : Nat} (hn : ks.Nodup) (hb : ∀ k ∈ ks, 0 ≤ k ∧ k < n) : sortI ks = ((List.range n).map fun (i : Nat) => (i : Int)).filter fun k => decide (k ∈ ks) := by
  symm
  refine sortI_uniq ?_ ?_
  · refine (List.perm_ext_iff_of_nodup ?_ hn).mpr fun a => ?_
    · refine List.Nodup.sublist (List.filter_sublist ..) ?_
      rw [List.nodup_iff_pairwise_ne, List.pairwise_map]
      exact (List.nodup_iff_pairwise_ne.mp List.nodup_range).imp fun h e => h (by exact_mod_cast e)
    · rw [List.mem_filter]
      constructor
      · intro h; exact of_decide_eq_true h.2
      · intro h
        obtain ⟨h1, h2⟩ := hb a h
        exact ⟨List.mem_map.mpr ⟨a.toNat, List.mem_range.mpr (by omega), by omega⟩, decide_eq_true h⟩
  · refine List.Pairwise.filter _ ?_
    rw [List.pairwise_map]
    exact List.pairwise_lt_range.imp fun h => by omega
theorem nodup_len {ks : List Int} {n : Nat} (hn : ks.Nodup) (hb : ∀ k ∈ ks, 0 ≤ k ∧ k < n) : ks.length ≤ n := by
  have h := congrArg List.length (sortI_range hn hb)
  rw [(sortI_perm ks).length_eq] at h
  rw [h]
  refine Nat.le_trans (List.length_filter_le ..) ?_
  simp
theorem filterMap_filter' {α β : Type} (f : α → Option β) (q : α → Bool) (h : ∀ x, q x = false → f x = none) : ∀ xs : List α, (xs.filter q).filterMap f = xs.filterMap f
  | [] => rfl
  | x :: xs => by
    rw [List.filter_cons]
    cases hq : q x with
    | true => simp only [if_true]; rw [List.filterMap_cons, List.filterMap_cons, filterMap_filter' f q h xs]
    | false => simp only [Bool.false_eq_true, if_false]; rw [List.filterMap_cons, h x hq, filterMap_filter' f q h xs]
@[simp] theorem listK_enc {α : Type} (enc : α → D) (kvs : List (Int × α)) : ((encK enc kvs).map fun kv => keyD kv.1) = (kvs.map (·.1)).map D.int := by
  unfold encK; rw [List.map_map, List.map_map]; rfl
theorem keys_step {β α : Type} (f : β → Int) (v : List (Int × α) → β → α) : ∀ (xs : List β) (acc : List (Int × α)), (acc.map (·.1)).Nodup →
    ((xs.foldl (fun a b => putT a (f b) (v a b)) acc).map (·.1)).Nodup ∧ ∀ k, k ∈ (xs.foldl (fun a b => putT a (f b) (v a b)) acc).map (·.1) ↔ k ∈ acc.map (·.1) ∨ k ∈ xs.map f
  | [], acc, h => ⟨h, fun k => by simp⟩
  | b :: xs, acc, h => by
    have := keys_step f v xs _ (nodup_put h (f b) (v acc b))
    refine ⟨this.1, fun k => ?_⟩
    rw [List.foldl_cons, this.2 k, keys_put, List.map_cons, List.mem_cons]
    split
    · rename_i h2
      constructor
      · rintro (a | a)
        · exact .inl a
        · exact .inr (.inr a)
      · rintro (a | a | a)
        · exact .inl a
        · rw [a]; exact .inl h2
        · exact .inr a
    · rw [List.mem_append, List.mem_singleton, or_assoc]
theorem len_step {β α : Type} (f : β → Int) (v : List (Int × α) → β → α) : ∀ (xs : List β) (acc : List (Int × α)), (xs.foldl (fun a b => putT a (f b) (v a b)) acc).length ≤ acc.length + xs.length
  | [], acc => by simp
  | b :: xs, acc => by
    have := len_step f v xs (putT acc (f b) (v acc b))
    have := len_put acc (f b) (v acc b)
    rw [List.foldl_cons, List.length_cons]; omega
/-- distinct numbers, with the same members as a list: one exactly if least and greatest are the same -/
theorem one_key {ks ns : List Int} (hn : ks.Nodup) (hm : ∀ k, k ∈ ks ↔ k ∈ ns) (h0 : ns ≠ []) : (ks.length = 1 ↔ minL ns = maxL ns) ∧ (minL ns = maxL ns → ∃ n, ks = [n] ∧ ns.head? = some n) := by
  obtain ⟨m1, h1⟩ := min_some h0
  obtain ⟨m2, h2⟩ := max_some h0
  have back : minL ns = maxL ns → ∃ n, ks = [n] ∧ ns.head? = some n := by
    intro e
    have e : m1 = m2 := by rw [h1, h2] at e; exact Option.some.inj e
    have all : ∀ k ∈ ns, k = m1 := fun k hk => by
      have a := (minL_of h1).2 k hk
      have b := (maxL_of h2).2 k hk
      omega
    cases ns with
    | nil => exact absurd rfl h0
    | cons x xs =>
      refine ⟨x, ?_, rfl⟩
      have hx : x = m1 := all x List.mem_cons_self
      cases ks with
      | nil => exact absurd ((hm x).mpr List.mem_cons_self) (by simp)
      | cons k ks =>
        have hk : k = m1 := all k ((hm k).mp List.mem_cons_self)
        cases ks with
        | nil => rw [hk, hx]
        | cons j ks =>
          have hj : j = m1 := all j ((hm j).mp (by simp))
          rw [hk, hj] at hn
          simp at hn
  refine ⟨⟨fun e => ?_, fun e => by obtain ⟨n, e2, _⟩ := back e; rw [e2]; rfl⟩, back⟩
  obtain ⟨n, rfl⟩ : ∃ n, ks = [n] := by
    cases ks with
    | nil => cases e
    | cons k ks => cases ks with
      | nil => exact ⟨k, rfl⟩
      | cons _ _ => cases e
  have a := (hm m1).mpr (minL_of h1).1
  have b := (hm m2).mpr (maxL_of h2).1
  rw [h1, h2, List.mem_singleton.mp a, List.mem_singleton.mp b]
end Dn
namespace Dn
open PySem PySem.Spec L2
open PyProof.Rows hiding St
/-! ### == over typed data -/
class EqE {α : Type} [DecidableEq α] (enc : α → D) (k : outParam Nat) : Prop where
  pl : ∀ a, D.pl k (enc a) = true
  eqv : ∀ a b, D.eqv (enc a) (enc b) = decide (a = b)
def eqvs (xs ys : List D) : Bool := PyData.eqvAll (D.pys xs) (D.pys ys)
@[simp] theorem eqvs_nil : eqvs [] [] = true := by simp [eqvs, D.pys, PyData.eqvAll]
@[simp] theorem eqvs_cons {x y : D} {xs ys : List D} : eqvs (x :: xs) (y :: ys) = (D.eqv x y && eqvs xs ys) := by simp [eqvs, D.pys, PyData.eqvAll, D.eqv]
@[simp] theorem eqvs_nc {y : D} {ys : List D} : eqvs [] (y :: ys) = false := by simp [eqvs, D.pys, PyData.eqvAll]
@[simp] theorem eqvs_cn {y : D} {ys : List D} : eqvs (y :: ys) [] = false := by simp [eqvs, D.pys, PyData.eqvAll]
@[simp] theorem eqv_lst {xs ys : List D} : D.eqv (.lst xs) (.lst ys) = eqvs xs ys := by simp [D.eqv, D.py, PyData.eqv, eqvs]
@[simp] theorem eqv_tup {xs ys : List D} : D.eqv (.tup xs) (.tup ys) = eqvs xs ys := by simp [D.eqv, D.py, PyData.eqv, eqvs]
@[simp] theorem eqv_int {i j : Int} : D.eqv (.int i) (.int j) = decide (i = j) := by simp [D.eqv, D.py, PyData.eqv]; rfl
@[simp] theorem eqv_str {i j : Str} : D.eqv (.str i) (.str j) = decide (i = j) := by simp [D.eqv, D.py, PyData.eqv]; rfl
@[simp] theorem eqv_bl {i j : Bool} : D.eqv (.bl i) (.bl j) = decide (i = j) := by cases i <;> cases j <;> simp [D.eqv, D.py, PyData.eqv]
@[simp] theorem eqv_non : D.eqv .non .non = true := by simp [D.eqv, D.py, PyData.eqv]
@[simp] theorem eqv_nt {xs : List D} : D.eqv .non (.tup xs) = false := by simp [D.eqv, D.py, PyData.eqv]
@[simp] theorem eqv_tn {xs : List D} : D.eqv (.tup xs) .non = false := by simp [D.eqv, D.py, PyData.eqv]
@[simp] theorem eqv_nl {xs : List D} : D.eqv .non (.lst xs) = false := by simp [D.eqv, D.py, PyData.eqv]
@[simp] theorem eqv_ln {xs : List D} : D.eqv (.lst xs) .non = false := by simp [D.eqv, D.py, PyData.eqv]
@[simp] theorem eqv_si {x : Str} {i : Int} : D.eqv (.str x) (.int i) = false := by simp [D.eqv, D.py, PyData.eqv]
@[simp] theorem eqv_is {x : Str} {i : Int} : D.eqv (.int i) (.str x) = false := by simp [D.eqv, D.py, PyData.eqv]
@[simp] theorem eqv_ni {i : Int} : D.eqv .non (.int i) = false := by simp [D.eqv, D.py, PyData.eqv]
@[simp] theorem eqv_in {i : Int} : D.eqv (.int i) .non = false := by simp [D.eqv, D.py, PyData.eqv]
@[simp] theorem eqv_ns {i : Str} : D.eqv .non (.str i) = false := by simp [D.eqv, D.py, PyData.eqv]
@[simp] theorem eqv_sn {i : Str} : D.eqv (.str i) .non = false := by simp [D.eqv, D.py, PyData.eqv]
theorem eqvs_map {α : Type} [DecidableEq α] {enc : α → D} (h : ∀ a b, D.eqv (enc a) (enc b) = decide (a = b)) : ∀ xs ys : List α, eqvs (xs.map enc) (ys.map enc) = decide (xs = ys)
  | [], [] => by simp
  | [], y :: ys => by simp
  | x :: xs, [] => by simp
  | x :: xs, y :: ys => by
    rw [List.map_cons, List.map_cons, eqvs_cons, h, eqvs_map h xs ys]
    by_cases h1 : x = y <;> by_cases h2 : xs = ys <;> simp [h1, h2]
theorem pl_map {α : Type} {enc : α → D} {k : Nat} (h : ∀ a, D.pl k (enc a) = true) (xs : List α) : (xs.map enc).all (D.pl k) = true := by
  rw [List.all_eq_true]
  intro x hx
  obtain ⟨a, _, rfl⟩ := List.mem_map.mp hx
  exact h a
theorem pl_up : ∀ {k : Nat} {d : D}, D.pl k d = true → D.pl (k + 1) d = true := by
  intro k
  induction k with
  | zero => intro d h; cases d <;> first | rfl | cases h
  | succ k ih =>
    intro d h
    cases d with
    | lst xs =>
      rw [pl_lst] at h ⊢
      exact List.all_eq_true.mpr fun x hx => ih (List.all_eq_true.mp h x hx)
    | tup xs =>
      rw [pl_tup] at h ⊢
      exact List.all_eq_true.mpr fun x hx => ih (List.all_eq_true.mp h x hx)
    | non => rfl
    | bl _ => rfl
    | int _ => rfl
    | str _ => rfl
    | scr _ => rfl
    | _ => cases h
theorem pl_mono {k n : Nat} {d : D} (h : D.pl k d = true) (hk : k ≤ n) : D.pl n d = true := by
  obtain ⟨j, rfl⟩ := Nat.le.dest hk
  clear hk
  induction j with
  | zero => exact h
  | succ j ih => exact pl_up ih
theorem eqD_of {b : Bool} {d e : D} {m n : Bool} (h1 : D.pl 50 d = true) (h2 : D.pl 50 e = true) : eqD b d m e n = some (.bl (if b then !D.eqv d e else D.eqv d e), .frz true) := by unfold eqD; rw [if_pos ⟨h1, h2⟩]
@[simp] theorem eqD_ns {x : Str} {b m n : Bool} : eqD b (.non) m (.str x) n = some (.bl b, .frz true) := by rw [eqD_of (by simp) (by simp)]; cases b <;> simp
@[simp] theorem eqD_sn {x : Str} {b m n : Bool} : eqD b (.str x) m (.non) n = some (.bl b, .frz true) := by rw [eqD_of (by simp) (by simp)]; cases b <;> simp
@[simp] theorem eqD_ni {x : Int} {b m n : Bool} : eqD b (.non) m (.int x) n = some (.bl b, .frz true) := by rw [eqD_of (by simp) (by simp)]; cases b <;> simp
@[simp] theorem eqD_in {x : Int} {b m n : Bool} : eqD b (.int x) m (.non) n = some (.bl b, .frz true) := by rw [eqD_of (by simp) (by simp)]; cases b <;> simp
@[simp] theorem eqD_si {x : Str} {y : Int} {b m n : Bool} : eqD b (.str x) m (.int y) n = some (.bl b, .frz true) := by rw [eqD_of (by simp) (by simp)]; cases b <;> simp
@[simp] theorem eqD_is {x : Str} {y : Int} {b m n : Bool} : eqD b (.int y) m (.str x) n = some (.bl b, .frz true) := by rw [eqD_of (by simp) (by simp)]; cases b <;> simp
@[simp] theorem eqD_nn {b m n : Bool} : eqD b .non m .non n = some (.bl (!b), .frz true) := by rw [eqD_of (by simp) (by simp)]; cases b <;> simp
instance : EqE D.int 0 := ⟨fun _ => rfl, fun _ _ => eqv_int⟩
instance : EqE D.str 0 := ⟨fun _ => rfl, fun _ _ => eqv_str⟩
instance : EqE D.bl 0 := ⟨fun _ => rfl, fun _ _ => eqv_bl⟩
theorem eqE_lst {α : Type} [DecidableEq α] {enc : α → D} {k : Nat} (E : EqE enc k) : EqE (fun xs : List α => D.lst (xs.map enc)) (k + 1) := ⟨fun xs => by rw [pl_lst]; exact pl_map E.pl xs, fun xs ys => by rw [eqv_lst]; exact eqvs_map E.eqv xs ys⟩
theorem eqE_tup {α : Type} [DecidableEq α] {enc : α → D} {k : Nat} (E : EqE enc k) : EqE (fun xs : List α => D.tup (xs.map enc)) (k + 1) := ⟨fun xs => by rw [pl_tup]; exact pl_map E.pl xs, fun xs ys => by rw [eqv_tup]; exact eqvs_map E.eqv xs ys⟩
theorem eqD_enc {α : Type} [DecidableEq α] {enc : α → D} {k : Nat} (E : EqE enc k) (hk : k ≤ 50) {b : Bool} {m n : Bool} (x y : α) : eqD b (enc x) m (enc y) n = some (.bl (if b then !decide (x = y) else decide (x = y)), .frz true) := by
  rw [eqD_of (pl_mono (E.pl x) hk) (pl_mono (E.pl y) hk), E.eqv]
theorem eqD_lst {α : Type} [DecidableEq α] {enc : α → D} {k : Nat} (E : EqE enc k) (hk : k ≤ 49) {b : Bool} {m n : Bool} (xs ys : List α) : eqD b (.lst (xs.map enc)) m (.lst (ys.map enc)) n = some (.bl (if b then !decide (xs = ys) else decide (xs = ys)), .frz true) := eqD_enc (eqE_lst E) (by omega) xs ys
/-- fit data is alike to itself -/
theorem fit_map {α : Type} {enc : α → D} {k : Nat} (h : ∀ a, fit k (enc a) = true) (xs : List α) (hl : xs.length ≤ sizeLine) : fit (k + 1) (.lst (xs.map enc)) = true := by
  rw [fit_lst, List.length_map, decide_eq_true hl, Bool.true_and, List.all_eq_true]
  intro x hx
  obtain ⟨a, _, rfl⟩ := List.mem_map.mp hx
  exact h a
/-- the draws -/
def dr (ds : List Int) (i : Int) : Int := ds.getD i.toNat 0
theorem atI_dr {ds : List Int} {i : Int} (h : 0 ≤ i) (h2 : i < ds.length) : atI (ds.map D.int) i = some (.int (dr ds i)) := by
  have h3 : i.toNat < ds.length := by omega
  refine atI_of h ?_
  unfold dr
  rw [List.getElem?_map, List.getD_eq_getElem?_getD, List.getElem?_eq_getElem h3]; rfl
theorem dr_in {ds : List Int} {i : Int} {lim : Int} (hb : ∀ d ∈ ds, 0 ≤ d ∧ d < lim) (hz : 0 < lim) : 0 ≤ dr ds i ∧ dr ds i < lim := by
  unfold dr
  rw [List.getD_eq_getElem?_getD]
  cases h : ds[i.toNat]? with
  | none => exact ⟨Int.le_refl _, hz⟩
  | some z => exact hb z (List.mem_of_getElem? h)
theorem emod_in {a b : Int} (h : 0 < b) : 0 ≤ a % b ∧ a % b < b := ⟨Int.emod_nonneg _ (by omega), Int.emod_lt_of_pos _ h⟩
/-- one turn that goes on, one that ends -/
theorem forGo_nx {t : Tg} {h : DenS} {d : D} {ds : List D} {Γ Γ1 Γ2 : Ev} (e1 : asg t d false Γ = some Γ1) (e2 : h Γ1 = .nx Γ2) : forGo t h (d :: ds) Γ = forGo t h ds Γ2 := by
  show (match asg t d false Γ with | none => Out.no | some Γ1 => _) = _
  rw [e1]; show (match h Γ1 with | .nx Γ2 => _ | .ct Γ2 => _ | .bk Γ2 => _ | .rt d m => _ | .no => _) = _; rw [e2]
theorem forGo_rt {t : Tg} {h : DenS} {d x : D} {m : Md} {ds : List D} {Γ Γ1 : Ev} (e1 : asg t d false Γ = some Γ1) (e2 : h Γ1 = .rt x m) : forGo t h (d :: ds) Γ = .rt x m := by
  show (match asg t d false Γ with | none => Out.no | some Γ1 => _) = _
  rw [e1]; show (match h Γ1 with | .nx Γ2 => _ | .ct Γ2 => _ | .bk Γ2 => _ | .rt d m => _ | .no => _) = _; rw [e2]
@[simp] theorem forGo_nil {t : Tg} {h : DenS} {Γ : Ev} : forGo t h [] Γ = .nx Γ := rfl
/-- numbered rows from k on -/
def enumF (k : Nat) : List D → List D
  | [] => []
  | x :: xs => .tup [.int (k : Int), x] :: enumF (k + 1) xs
theorem enumF_len (k : Nat) (xs : List D) : (enumF k xs).length = xs.length := by
  induction xs generalizing k with
  | nil => rfl
  | cons x xs ih => rw [enumF, List.length_cons, ih, List.length_cons]
theorem enumF_at (k i : Nat) (xs : List D) : (enumF k xs)[i]? = (xs[i]?).map fun x => D.tup [.int ((k + i : Nat) : Int), x] := by
  induction xs generalizing k i with
  | nil => simp [enumF]
  | cons x xs ih =>
    cases i with
    | zero => simp [enumF]
    | succ i => rw [enumF, List.getElem?_cons_succ, ih, List.getElem?_cons_succ, show k + 1 + i = k + (i + 1) by omega]
theorem enumD_F (xs : List D) : enumD xs = enumF 0 xs := by
  refine List.ext_getElem? fun i => ?_
  rw [enumF_at]
  unfold enumD
  rw [List.getElem?_zipWith]
  cases h : xs[i]? with
  | none =>
    cases h2 : (List.range xs.length)[i]? <;> simp
  | some x =>
    have hi := (List.getElem?_eq_some_iff.mp h).1
    rw [List.getElem?_range hi]
    simp
theorem atI_m1 {α : Type} (l : List α) : atI l (-1) = l.getLast? := by
  unfold atI
  cases l with
  | nil => rfl
  | cons x xs =>
    rw [List.getLast?_eq_getElem?]
    have : ixN (x :: xs).length (-1) = some ((x :: xs).length - 1) := by
      unfold ixN
      simp; omega
    rw [this]; rfl
theorem cut_from {α : Type} (xs : List α) (k : Nat) : Dn.cutD xs (some ((k : Int) + 1)) none = xs.drop (k + 1) := by
  unfold Dn.cutD
  have h1 : HT.sIx xs.length 0 (some ((k : Int) + 1)) = min (k + 1) xs.length := by
    rw [show (k : Int) + 1 = ((k + 1 : Nat) : Int) by omega]; exact HT.sIx_nat ..
  have h2 : HT.sIx xs.length xs.length none = xs.length := rfl
  rw [h1, h2]
  rcases Nat.le_total (k + 1) xs.length with z | z
  · rw [Nat.min_eq_left z, List.take_of_length_le (by simp)]
  · rw [Nat.min_eq_right z, List.drop_eq_nil_of_le (Nat.le_refl _), List.drop_eq_nil_of_le z, List.take_nil]
theorem mem_enc {α : Type} [DecidableEq α] {enc : α → D} {k : Nat} (E : EqE enc k) (x : α) (xs : List α) : (enc x).mem (xs.map enc) = decide (x ∈ xs) := by
  unfold D.mem
  rw [List.any_map]
  rw [show ((fun y => D.eqv y (enc x)) ∘ enc) = fun y => decide (y = x) from funext fun y => E.eqv y x]
  by_cases h : x ∈ xs
  · rw [decide_eq_true h, List.any_eq_true]; exact ⟨x, h, decide_eq_true rfl⟩
  · rw [decide_eq_false h, List.any_eq_false]
    intro y hy e
    exact h (of_decide_eq_true e ▸ hy)
theorem memD_enc {α : Type} [DecidableEq α] {enc : α → D} {k : Nat} (E : EqE enc k) (hk : k ≤ 49) {b m n : Bool} (x : α) (xs : List α) : memD b (enc x) m (.lst (xs.map enc)) n = some (.bl (if b then !decide (x ∈ xs) else decide (x ∈ xs)), .frz true) := by
  rw [memD_lst, if_pos ⟨pl_mono (E.pl x) (by omega), List.all_eq_true.mpr fun y hy => by
    obtain ⟨a, _, rfl⟩ := List.mem_map.mp hy
    exact pl_mono (E.pl a) hk⟩, mem_enc E]
@[simp] theorem memD_ints {b m n : Bool} (x : Int) (xs : List Int) : memD b (.int x) m (.lst (xs.map D.int)) n = some (.bl (if b then !decide (x ∈ xs) else decide (x ∈ xs)), .frz true) := memD_enc (inferInstance : EqE D.int 0) (by omega) x xs
@[simp] theorem mem_ints (x : Int) (xs : List Int) : (D.int x).mem (xs.map D.int) = decide (x ∈ xs) := mem_enc (inferInstance : EqE D.int 0) x xs
theorem foldl_fst {α β γ : Type} (f : List α × γ → β → List α × γ) (p : β → List α) (h : ∀ q b, (f q b).1 = q.1 ++ p b) : ∀ (xs : List β) (q : List α × γ), (xs.foldl f q).1 = q.1 ++ xs.flatMap p
  | [], q => by simp
  | b :: xs, q => by rw [List.foldl_cons, foldl_fst f p h xs, h, List.flatMap_cons, List.append_assoc]
theorem flatMap_if {α : Type} (p : α → Bool) : ∀ xs : List α, (xs.flatMap fun x => if p x = true then [x] else []) = xs.filter p
  | [] => rfl
  | x :: xs => by
    rw [List.flatMap_cons, List.filter_cons, flatMap_if p xs]
    cases p x <;> simp
end Dn
namespace Dn
open PySem PySem.Spec L2
open PyProof.Rows hiding St
/-! ### constants of the module, read off the kit's heap -/
def katom : D → Value → Bool
  | .int i, .int j _ => decide (i = j)
  | .str x, .str y _ => decide (x = y)
  | .bl b, .bool c => b == c
  | .non, .none => true
  | _, _ => false
def katoms : List D → List Value → Bool
  | [], [] => true
  | d :: ds, u :: us => katom d u && katoms ds us
  | _, _ => false
theorem katom_ok {K : PySem.W.Frag} {d : D} {u : Value} (h : katom d u = true) : kOk K d u := by
  cases d with
  | int i => cases u with
    | int j t => cases of_decide_eq_true (show decide (i = j) = true from h); exact ⟨.int i, ⟨t, rfl⟩, fun _ _ _ _ => .int i⟩
    | _ => cases h
  | str i => cases u with
    | str j t => cases of_decide_eq_true (show decide (i = j) = true from h); exact ⟨.str i, ⟨t, rfl⟩, fun _ _ _ _ => .str i⟩
    | _ => cases h
  | bl i => cases u with
    | bool j =>
      have : i = j := by simpa using (show (i == j) = true from h)
      cases this
      exact ⟨.bl i, rfl, fun _ _ _ _ => .bl i⟩
    | _ => cases h
  | non => cases u with
    | none => exact ⟨.non, rfl, fun _ _ _ _ => .non⟩
    | _ => cases h
  | _ => cases u <;> cases h
theorem katoms_ok {K : PySem.W.Frag} : ∀ {ds : List D} {us : List Value}, katoms ds us = true → ∃ vs, Vals vs us ∧ ∀ P w F B, Reps ⟨P, w, K⟩ F (PB B true) ds vs
  | [], [], _ => ⟨[], .nil, fun _ _ _ _ => .nil⟩
  | d :: ds, u :: us, h => by
    rw [katoms, Bool.and_eq_true] at h
    obtain ⟨v, h1, h2⟩ := katom_ok (K := K) h.1
    obtain ⟨vs, h3, h4⟩ := katoms_ok (K := K) h.2
    exact ⟨v :: vs, .cons h1 h3, fun P w F B => .cons (h2 P w F B) (h4 P w F B)⟩
  | [], _ :: _, h => by cases h
  | _ :: _, [], h => by cases h
theorem kconst_atom {K : PySem.W.Frag} {d : D} {u : Value} (h : katom d u = true) : KConst K u d := ⟨katom_ok h⟩
theorem kconst_tup {K : PySem.W.Frag} {ds : List D} {a : Addr} {o : Obj} {its : Array Value} {n : Nat} (hl : K.lookup a = some o) (hc : o.cls = .type "tuple") (hd : o.data = .seq its n) (hz : its.size ≤ 16777216) (hk : katoms ds its.toList = true) : KConst K (.ref a) (.tup ds) := by
  obtain ⟨vs, hv, hr⟩ := katoms_ok (K := K) hk
  exact ⟨.ref a, rfl, fun P w F B => .tup (.inr ⟨o, its, n, hl, hc, hd, hz, hv⟩) (hr P w F B)⟩
end Dn
namespace Dn
noncomputable section
open PySem PySem.Spec L2
open PyProof.Rows hiding St
/-! ### bits of whole numbers -/
def bandD : F2
  | .int i, _, .int j, _ => some (.int (Builtin.bitAnd i j), .frz true)
  | _, _, _, _ => none
def borD : F2
  | .int i, _, .int j, _ => some (.int (Builtin.bitOr i j), .frz true)
  | _, _, _, _ => none
def shrD : F2
  | .int i, _, .int j, _ => if 0 ≤ j then some (.int (i / 2 ^ j.toNat), .frz true) else none
  | _, _, _, _ => none
instance (i j : Int) : Decidable (CPow i j) := Classical.propDecidable _
def shlD : F2
  | .int i, _, .int j, _ => if CPow i j then some (.int (i * 2 ^ j.toNat), .frz true) else none
  | _, _, _, _ => none
section
variable {X : Cx}
theorem od_band : OpD X (binaryOp .BitAnd) bandD := by
  refine ⟨_, op_and, ?_⟩
  intro B F H dx dy ax ay x y d m Q s sb vx vy e q
  cases vx with
  | int i => cases vy with
    | int j => cases e; exact ⟨i, j, rfl, rfl, fin_sc s (.int _) q⟩
    | _ => cases e
  | _ => cases e
theorem od_bor : OpD X (binaryOp .BitOr) borD := by
  refine ⟨_, op_or, ?_⟩
  intro B F H dx dy ax ay x y d m Q s sb vx vy e q
  cases vx with
  | int i => cases vy with
    | int j => cases e; exact ⟨i, j, rfl, rfl, fin_sc s (.int _) q⟩
    | _ => cases e
  | _ => cases e
theorem od_shr : OpD X (binaryOp .RShift) shrD := by
  refine ⟨_, op_shr, ?_⟩
  intro B F H dx dy ax ay x y d m Q s sb vx vy e q
  cases vx with
  | int i => cases vy with
    | int j =>
      have e : (if 0 ≤ j then some (D.int (i / 2 ^ j.toNat), Md.frz true) else none) = some (d, m) := e
      by_cases c : 0 ≤ j
      · rw [if_pos c] at e; cases e
        exact ⟨i, j, rfl, rfl, c, fin_sc s (.int _) q⟩
      · rw [if_neg c] at e; cases e
    | _ => cases e
  | _ => cases e
theorem od_shl : OpD X (binaryOp .LShift) shlD := by
  refine ⟨_, op_shl, ?_⟩
  intro B F H dx dy ax ay x y d m Q s sb vx vy e q
  cases vx with
  | int i => cases vy with
    | int j =>
      have e : (if CPow i j then some (D.int (i * 2 ^ j.toNat), Md.frz true) else none) = some (d, m) := e
      by_cases c : CPow i j
      · rw [if_pos c] at e; cases e
        exact ⟨i, j, rfl, rfl, c, fin_sc s (.int _) q⟩
      · rw [if_neg c] at e; cases e
    | _ => cases e
  | _ => cases e
end
@[simp] theorem bandD_int {i j : Int} {m n : Bool} : bandD (.int i) m (.int j) n = some (.int (Builtin.bitAnd i j), .frz true) := rfl
@[simp] theorem borD_int {i j : Int} {m n : Bool} : borD (.int i) m (.int j) n = some (.int (Builtin.bitOr i j), .frz true) := rfl
@[simp] theorem shrD_int {i j : Int} {m n : Bool} : shrD (.int i) m (.int j) n = if 0 ≤ j then some (.int (i / 2 ^ j.toNat), .frz true) else none := rfl
theorem shlD_int {i j : Int} {m n : Bool} (h : CPow i j) : shlD (.int i) m (.int j) n = some (.int (i * 2 ^ j.toNat), .frz true) := by
  show (if CPow i j then some (D.int (i * 2 ^ j.toNat), Md.frz true) else none) = _
  rw [if_pos h]
end
end Dn
namespace Dn
open PySem PySem.Spec L2
open PyProof.Rows hiding St

/-! ### a def that is entered where no repr is under way -/
def FnG (P : Program) (w : World) (K : PySem.W.Frag) (mg : Str → Option Value) (base : Heap) (k : Nat) (f : Addr) (fd : FuncData) (ps : List Str) (sp : Sp) : Prop :=
  ∀ (A : Around) (o : List Env) (s : Shared) (H : Hp) (args : Args) (us : List Value) (vs : List V) (Q : VK) (E : XK), A.guards = some [] → Room k A → Env0 P w K mg base A o s H →
    BindsTo s fd args (ps.zip us) → Vals vs us → sp vs H Q E → codeAny (model P w) A (.call (.ref f) args) (CR CX0 o P w H s Q E) s

theorem fn_okG {P : Program} {w : World} {K : PySem.W.Frag} {mg : Str → Option Value} {base : Heap} {x qual : Str} {st : Stmt} {f : Addr} {fd : FuncData} {N ps : List Str} {k n m : Nat} {h : DenS} (F : Fun K x qual st f fd) (S : FnScope N ps (defScope st)) (hn : ps.length = n) (hm : N.length = m)
    (hb : ∀ (cdv : Value) (A : Around) (outer : List Env) (s : Shared) (H : Hp) (E : XK), Room k (A.deeper (envOfC qual (defScope st) s.heap.objs.size f cdv)) → A.guards = some [] →
      DSs (cxOf CX0 P w K mg base N qual (defScope st) f cdv A outer s H E).nox (defBody st) h) :
    FnG P w K mg base (k + 1) f fd ps (spD ⟨P, w, K⟩ n (runB n m h)) := by
  subst hn hm
  obtain ⟨oc, od, kV, doc, pm, an, cdv, ct, osl, rfl, lk, hcd⟩ := F.ex
  intro A o s H args us vs Q E hG hr e0 hbd r hsp
  have hl : vs.length = ps.length := hsp.1
  have up : ∀ (b : Addr) (u : Obj), base.get? b = some u → s.heap.get? b = some u := fun b u z => (e0.bs b u z).1
  have inK : K.In s.heap := e0.mod.kin.keeps up
  refine codeAny_call_function hr.depth (inK _ _ lk) rfl S.co S.gen rfl (PySem.W.codeRec_of inK hcd) (hbd _ _ _ _ ?_)
  have kinds : ∀ y ∈ ps.zip us, (defScope st).names.lookup y.1 = some .local ∨
      ((defScope st).names.lookup y.1 = some .cell ∧ ((cellsFrom (s.heap.objs.size + 1) (defScope st).names []).lookup y.1).isSome = true) := by
    rintro ⟨nm, v⟩ hy
    have hin := (List.of_mem_zip hy).1
    cases S.par nm hin with
    | inl q => exact .inl q
    | inr q => exact .inr ⟨q, PySem.W.cellsFrom_some _ _ _ (.inl q)⟩
  refine wpAny_newFunctionEnv_cells S.kind kinds fun env he s1 xx => ?_
  subst he
  have lim2 := e0.mod.nolimit.keeps up
  refine ⟨lim2.keeps xx.toInCall.keep, codeAny_func ?_⟩
  obtain ⟨ts, h1, h2⟩ := hb cdv A o s H E (hr.deeper _) hG
  have h1' := h1.nox
  have I0 := inv_start (CX := CX0) (E := E) S hr.hd e0 hl r xx
  obtain ⟨_, F1, ds, d, mm, sF, rr, e, q⟩ := hsp
  have hd : ds.length = ps.length := by rw [rr.length]; exact hl
  have run : ts { nx := fun _ H' => Q .non H', rt := Q } (L2.start N vs) H := by
    refine h2 F1 H F1 H (L2.start N vs) (ds.map (fun d => Slot.val d false) ++ List.replicate (N.length - ds.length) Slot.no) _ (start_env sF rr N) ?_
    unfold runB at e
    rw [if_pos hd] at e
    rw [hd]
    cases z : h (ds.map (fun d => Slot.val d false) ++ List.replicate (N.length - ps.length) Slot.no) with
    | rt d' m' => simp only [z] at e; cases e; exact fun v F' H' X1 r1 => q v F' H' X1 r1
    | nx Γ => simp only [z] at e; cases e; exact fun σ' F' H' I' _ => q .non F' H' I'.x (.frz .non)
    | bk Γ => simp only [z] at e; cases e
    | ct Γ => simp only [z] at e; cases e
    | no => simp only [z] at e; cases e
  refine wpAny_mono (h1'.run [] s1 (L2.start N vs) H _ I0 run) (fun fl s' hs => ?_) fun _ _ hs => hs
  cases fl with
  | next =>
    obtain ⟨σ', H', J, qq⟩ := hs
    exact ⟨.non, H', J.os, J.bare, J.base, J.hok, rfl, qq⟩
  | ret u =>
    obtain ⟨v, σ', H', J, rv, qq⟩ := hs
    exact ⟨v, H', J.os, J.bare, J.base, J.hok, rv, qq⟩
  | brk => exact hs.elim fun _ z => z.elim fun _ z => z.2.elim
  | cont => exact hs.elim fun _ z => z.elim fun _ z => z.2.elim

/-! ### the law's call -/
section
variable {P : Program} {w : World} {K : PySem.W.Frag} {mg mb : Str → Option Value} {k : Nat} {fa a : Addr} {fd : FuncData} {x : Str} {sp : Sp} {s : Shared} {vs : List Value} {ns : List Int}
/-- what the heap behind the top tells -/
structure Top (P : Program) (w : World) (K : PySem.W.Frag) (mg mb : Str → Option Value) (s : Shared) (a : Addr) (vs : List Value) : Prop where
  kx : K.In s.heap
  g : s.heap.Ns mainGlobals mg
  b : s.heap.Ns builtinsNs mb
  bb : ∀ x : Str, x ≠ "__name__" → mb x = bootBuiltins x
  lim : s.heap.NoLimit
  gens : s.gens = #[]
  at' : s.heap.get? a = some { cls := .type "list", data := .seq vs.toArray }
/-- the heap that is tracked: nothing, or the script -/
structure Trk (P : Program) (w : World) (K : PySem.W.Frag) (s : Shared) (a : Addr) (H : Hp) : Prop where
  hok : HOk P w H s.heap
  only : Only H
  at' : ∀ b, H b ≠ none → b = a
  out : H a ≠ none → K.lookup a = none
theorem Trk.none_of (T : Trk P w K s a H) {b : Addr} (h : b ≠ a) : H b = none := by
  cases q : H b with
  | none => rfl
  | some u => exact absurd (T.at' b (by rw [q]; exact fun z => nomatch z)) h
theorem Top.dict_none {H : Hp} (t : Top P w K mg mb s a vs) (T : Trk P w K s a H) {b : Addr} {o : Obj} {es : Array DictEntry} {ep : Nat} (e : s.heap.get? b = some o) (d : o.data = .dict es ep) : H b = none := by
  by_cases hb : b = a
  · subst hb
    rw [t.at'] at e
    cases e
    cases d
  · exact T.none_of hb
theorem Top.nms {H : Hp} (t : Top P w K mg mb s a vs) (T : Trk P w K s a H) {b : Addr} {m : Str → Option Value} (h : s.heap.Ns b m) : (hidT s.heap H).Ns b m := by
  obtain ⟨o, es, ep, e, d, r⟩ := h
  exact ⟨o, es, ep, hidT_get e (t.dict_none T e d), d, r⟩
theorem Top.kin {H : Hp} (t : Top P w K mg mb s a vs) (T : Trk P w K s a H) : K.In (hidT s.heap H) := by
  intro b o e
  refine hidT_get (t.kx b o e) ?_
  by_cases hb : b = a
  · subst hb
    cases q : H b with
    | none => rfl
    | some u => rw [T.out (by rw [q]; exact fun z => nomatch z)] at e; cases e
  · exact T.none_of hb
theorem Top.env {H : Hp} (t : Top P w K mg mb s a vs) (T : Trk P w K s a H) : Env0 P w K mg (hidT s.heap H) callerA [] s H where
  frames := rfl
  mod := ⟨t.kin T, t.nms T t.g, ⟨mb, t.nms T t.b, t.bb⟩, by obtain ⟨mc, h1, h2⟩ := t.lim; exact ⟨mc, t.nms T h1, h2⟩⟩
  bs := fun _ _ e => of_hidT e
  bsz := Nat.le_of_eq (hidT_size _ _)
  funs := trivial
  frf := fun _ hb => nomatch hb
  hok := T.hok
  bare := .of_eq t.gens
abbrev Told (s : Shared) : Result → Shared → Prop := fun r s' => r = .ok (.ret (.bool true)) ∧ OldK s.heap s'.heap ∧ s'.os = s.os ∧ AllBare s'.gens
theorem Trk.told {H : Hp} (T : Trk P w K s a H) {r : Result} {s' : Shared} (h : CR CX0 [] P w H s (fun v _ => v = .bl true) (fun _ _ _ => False) r s') (hx : ∀ e s', CX0 [] H s (fun _ _ _ => False) e s' → False) : Told s r s' := by
  match r, h with
  | .error e, h => exact (hx e s' h).elim
  | .ok .next, h => exact False.elim h
  | .ok .brk, h => exact False.elim h
  | .ok .cont, h => exact False.elim h
  | .ok (.ret u), ⟨v, H', os, bare, un, hok', r', q⟩ =>
    have q1 : v = .bl true := q
    subst q1
    have q2 : u = Value.bool true := r'
    subst q2
    refine ⟨rfl, OldK.of_keep fun b o e => ?_, os, bare⟩
    rcases T.only b with z | ⟨ob, xs, z⟩
    · exact un.keep b o e z (fun y => nomatch y) (fun y => nomatch y)
    · have e1 := (T.hok b _ z).1
      have e2 := (hok' b _ (un.frzs b ob _ z)).1
      rw [e] at e1
      cases e1
      exact e2
theorem law_callG (t : Top P w K mg mb s a vs) (hi : IntsAre vs ns) (hl : ns.length ≤ sizeLine) (hr : Room k callerA) (F : ∀ base : Heap, K.In base → base.Ns mainGlobals mg → FnG P w K mg base k fa fd [x] sp)
    (hbind : ∀ (s : Shared) (u : Value), BindsTo s fd ⟨[u], []⟩ [(x, u)])
    (hsp : ∀ H : Hp, SqL K H a (ns.map V.int) → sp [.ref a] H (fun v _ => v = .bl true) fun _ _ _ => False)
    (hx : ∀ H e s', CX0 [] H s (fun _ _ _ => False) e s' → False) : codeAny (model P w) callerA (.call (.ref fa) ⟨[.ref a], []⟩) (Told s) s := by
  have rv := vals_ints hi
  have core : ∀ H : Hp, Trk P w K s a H → SqL K H a (ns.map V.int) → codeAny (model P w) callerA (.call (.ref fa) ⟨[.ref a], []⟩) (Told s) s := fun H T hS =>
    codeAny_mono (F _ (t.kin T) (t.nms T t.g) callerA [] s H ⟨[.ref a], []⟩ [.ref a] [.ref a] _ _ rfl hr (t.env T) (hbind s (.ref a)) (.cons rfl .nil) (hsp H hS)) fun r s' h => T.told h (hx H)
  cases hk : K.lookup a with
  | some o =>
    have e := t.kx a o hk
    rw [t.at'] at e
    cases e
    refine core (fun _ => none) ⟨fun b u z => (nomatch z), fun _ => .inl rfl, fun b z => absurd rfl z, fun z => absurd rfl z⟩ (.inr ⟨_, vs.toArray, _, hk, rfl, rfl, rfl, ?_, by simpa using rv⟩)
    rw [List.size_toArray, hi.length]
    exact hl
  | none =>
    let o : Obj := { cls := .type "list", data := .seq vs.toArray }
    let H : Hp := fun b => if b = a then some (.frz o (.lst (ns.map V.int))) else none
    have h1 : H a = some (.frz o (.lst (ns.map V.int))) := if_pos rfl
    have h2 : ∀ b, b ≠ a → H b = none := fun b hb => if_neg hb
    refine core H ⟨fun b u z => ?_, fun b => ?_, fun b z => ?_, fun _ => hk⟩ (.inl (.inr ⟨o, h1⟩))
    · by_cases hb : b = a
      · subst hb
        rw [h1] at z
        cases z
        exact ⟨t.at', by rw [List.length_map]; exact hl, vs, _, rv, t.at'⟩
      · rw [h2 b hb] at z; cases z
    · by_cases hb : b = a
      · subst hb; exact .inr ⟨_, _, h1⟩
      · exact .inl (h2 b hb)
    · by_cases hb : b = a
      · exact hb
      · exact absurd (h2 b hb) z
end
theorem walk_ofG {l : PySem.W.OpenLaw} {n k : Nat} {q : Program} {loose : List Str} {XP : (Str → Option Value) → Heap → Prop} {YP : World → Heap → Prop} {d : DefRec} {K : Params → PySem.W.Frag} {sp : World → Sp} {x : Str}
    (hn : l.most = some n) (hn2 : n ≤ sizeLine) (hdf : d.params.defaults = []) (hr : Room k callerA) (hY : ∀ (w : World) (h : Heap), YP w h → (K w.params).In h)
    (F : ∀ (w : World) (mg : Str → Option Value) (fa : Addr) (h : Heap), (K w.params).In h → h.Ns mainGlobals mg → mg d.name = some (.ref fa) →
      ∃ fd : FuncData, (∀ (s : Shared) (u : Value), BindsTo s fd ⟨[u], []⟩ [(x, u)]) ∧ ∀ base : Heap, (K w.params).In base → base.Ns mainGlobals mg → FnG l.prog w (K w.params) mg base k fa fd [x] (sp w))
    (hsp : ∀ (w : World) (H : Hp) (a : Addr) (ns : List Int), ns.length ≤ n → SqL (K w.params) H a (ns.map V.int) → sp w [.ref a] H (fun v _ => v = .bl true) fun _ _ _ => False)
    (hx : ∀ (H : Hp) (s : Shared) (e : Value) (s' : Shared), CX0 [] H s (fun _ _ _ => False) e s' → False) :
    PySem.W.WalkO q loose XP YP l.row.toRowW d [] (fun f vs => PySem.call f vs) := by
  refine Att.attach_call hn hdf ?_
  intro w s0 s mg mb fa o pm cd doc a vs ns G Y ho hd hcd hmg hobj hints hlen hg
  have KX := hY w _ Y
  obtain ⟨fd, hb, hF⟩ := F w mg fa _ KX G.T.g hmg
  exact law_callG ⟨KX, G.T.g, G.T.b, G.T.builtins, G.T.nolimit, hg, hobj⟩ hints (Nat.le_trans hlen hn2) hr hF hb (fun H hS => hsp w H a ns hlen hS) fun H e s' => hx H s e s'

theorem hu64 {k : Nat} {A : Around} (hr : Room k A) : A.units + 64 < cLine := by have := hr.un; omega
/-! ### repr -/
def reprOk (d : D) : Prop := d.pl 20 = true ∧ d.py.showable = true ∧ d.py.hasDict = false ∧ d.py.shown.length ≤ sizeLine
noncomputable instance (d : D) : Decidable (reprOk d) := Classical.propDecidable _
section
variable {X : Cx} {pos p : Pos} {e : Expr}
theorem call_repr_dp (hg : X.A.guards = some []) {k : Nat} (hr : Room k X.A) : CallR X (.builtin "repr") (fun xs H Q => ∃ a d, xs = [.ref a] ∧ Dp X.K H (.ref a) d ∧ d.showable = true ∧ d.hasDict = false ∧ d.shown.length ≤ sizeLine ∧ d.depth ≤ 20 ∧ Q (.str d.shown) H) := by
  intro pins s σ H xs us Q I r h
  obtain ⟨a, d, rfl, hd, h1, h2, h3, h4, q⟩ := h
  obtain ⟨u, rfl, r1⟩ := vals1 r
  have r2 : u = .ref a := r1
  subst r2
  obtain ⟨as, rd⟩ := Dp.reads I d _ _ hd rfl
  refine repr_of_reads' rd h1 (fun z => by rw [h2] at z; cases z) hg (by have := hr.un; omega) (fun _ _ z => z) (fun h' u tk hk => ?_) h3
  exact ⟨.str _, H, I.kept (t' := tk) hk, ⟨u, rfl⟩, q⟩
@[simp] noncomputable def reprG (f : DenE) : DenE := fun Γ => (f Γ).bind fun p => match p.1 with
  | .tup _ | .lst _ => if reprOk p.1 then some (.str p.1.py.shown, .frz true) else none
  | _ => none
theorem de_repr {k : Nat} {f : DenE} (hg : X.A.guards = some []) (hr : Room k X.A) (hm : X.mg "repr" = none) (h : DE X e f) (hgl : Gl X "repr" := by rfl) (hs : starEach [e] X.env = [(false, eval e X.env)] := by rfl) :
    DE X (.Call (.Name "repr" p) [e] [] pos) (reprG f) := by
  obtain ⟨t, h1, h2⟩ := h
  refine ⟨_, pe_callB (call_repr_dp hg hr) hgl hm (by decide +kernel) (pa_cons h1 pa_nil (by rw [hs]; rfl)) (by decide) (by decide) (by rw [hs]; rfl) (by rfl), ?_⟩
  intro F0 B F H σ Γ d m Q I e q
  obtain ⟨⟨dx, mx⟩, e1, e2⟩ := bind_some e
  refine h2 F0 B F H σ Γ dx mx _ I e1 fun v F1 H1 X1 r1 => ?_
  have w := r1.vw X1.b
  have key : ∀ {a : Addr}, v = .ref a → (if reprOk dx then some (D.str dx.py.shown, Md.frz true) else none) = some (d, m) → ∃ a d', [v] = [V.ref a] ∧ Dp X.K H1 (.ref a) d' ∧ d'.showable = true ∧ d'.hasDict = false ∧ d'.shown.length ≤ sizeLine ∧ d'.depth ≤ 20 ∧ Q (.str d'.shown) H1 := by
    intro a hv e2
    by_cases c : reprOk dx
    · rw [if_pos c] at e2
      cases e2
      obtain ⟨c1, c2, c3, c4⟩ := c
      subst hv
      exact ⟨a, dx.py, rfl, w.dp X1.b c1, c2, c3, c4, (pl_plain 20 dx c1).2, q _ F1 H1 X1 (.frz (.str _))⟩
    · rw [if_neg c] at e2; cases e2
  cases dx with
  | tup xs => cases w with
    | tup _ _ => exact key rfl e2
  | lst xs => cases w with
    | lst _ _ => exact key rfl e2
  | _ => cases e2
end

/-! ### range(a, b, -1) -/
def rngN (hi : Int) (n : Nat) : List D := (List.range n).map fun i => .int (hi - (i : Nat))
section
variable {g : Gc} {X : Cx} {tg a b c : Expr} {pos p : Pos}
theorem rngN_it {B F H : Hp} {hi : Int} {n : Nat} : ItOk g B F H (Itc hi (-1) n) (rngN hi n) true true := fun F2 H2 _ s2 _ =>
  ⟨fun i d hd => by
    unfold rngN at hd
    rw [List.getElem?_map] at hd
    have hi : i < n := by
      cases z : (List.range n)[i]? with
      | none => rw [z] at hd; cases hd
      | some j => simpa using (List.getElem?_eq_some_iff.mp z).1
    rw [List.getElem?_range hi] at hd
    cases hd
    refine ⟨hi, fun x H3 y => ?_⟩
    obtain ⟨y1, y2⟩ := y
    subst y1
    subst y2
    refine ⟨F2, .refl s2, ?_⟩
    have e : (hi_ : Int) → hi_ + (i : Nat) * (-1) = hi_ - (i : Nat) := fun z => by omega
    rw [e]
    exact .int _, fun i hi => by
    have : (rngN ‹Int› n).length = n := by unfold rngN; simp
    show n ≤ i
    simp only [rngN, List.length_map, List.length_range] at hi
    exact hi⟩
@[simp] noncomputable def dRngN (f h k : DenE) : DenI := fun Γ => (f Γ).bind fun p => (h Γ).bind fun r => (k Γ).bind fun u => match p.1, r.1, u.1 with
  | .int i, .int j, .int c => if rOk i ∧ rOk j ∧ c = -1 then some (rngN i (i - j).toNat, true, true) else none
  | _, _, _ => none
theorem di_rngN {f h k : DenE} (hm : X.mg "range" = none) (h1 : DE X a f) (h2 : DE X b h) (h3 : DE X c k) (hg : Gl X "range" := by rfl) (hs : starEach [a, b, c] X.env = (false, eval a X.env) :: starEach [b, c] X.env := by rfl)
    (hs2 : starEach [b, c] X.env = (false, eval b X.env) :: starEach [c] X.env := by rfl) (hs3 : starEach [c] X.env = (false, eval c X.env) :: starEach [] X.env := by rfl) (hpl : (backTo pos (starEach [b, c] X.env)).any (·.1) = false := by rfl) :
    DI X tg (.Call (.Name "range" p) [a, b, c] [] pos) (dRngN f h k) := by
  obtain ⟨t, a1, a2⟩ := h1
  obtain ⟨u, b1, b2⟩ := h2
  obtain ⟨y, c1, c2⟩ := h3
  refine ⟨_, pi_range3 hg hm (pa_cons a1 (pa_cons b1 (pa_cons c1 pa_nil hs3) hs2) hs) hs hpl, ?_⟩
  intro F0 B F H σ Γ ds n fz Q I ez q
  obtain ⟨⟨d, m⟩, e1, e2⟩ := bind_some ez
  obtain ⟨⟨d', m'⟩, e3, e4⟩ := bind_some e2
  obtain ⟨⟨d'', m''⟩, e5, e6⟩ := bind_some e4
  cases d with
  | int i =>
    cases d' with
    | int j =>
      cases d'' with
      | int cc =>
        have e6 : (if rOk i ∧ rOk j ∧ cc = -1 then some (rngN i (i - j).toNat, true, true) else none) = some (ds, n, fz) := e6
        by_cases z : rOk i ∧ rOk j ∧ cc = -1
        · rw [if_pos z] at e6
          cases e6
          obtain ⟨z1, z2, z3⟩ := z
          subst z3
          refine a2 F0 B F H σ Γ _ m _ I e1 fun v F1 H1 X1 r1 => ?_
          refine b2 F0 B F1 H1 σ Γ _ m' _ (I.ext X1) e3 fun v' F2 H2 X2 r2 => ?_
          refine c2 F0 B F2 H2 σ Γ _ m'' _ ((I.ext X1).ext X2) e5 fun v'' F3 H3 X3 r3 => ?_
          have w := r1.vw X1.b
          have w' := r2.vw X2.b
          have w'' := r3.vw X3.b
          cases w
          cases w'
          cases w''
          exact ⟨i, j, -1, _, rfl, RgC.neg z1.1 z1.2 z2.1 z2.2, q _ F3 H3 ((X1.trans X2).trans X3) rngN_it⟩
        · rw [if_neg z] at e6; cases e6
      | _ => cases e6
    | _ => cases e6
  | _ => cases e6
end

/-! ### sorted(set(xs)), xs a list of tuples of ints -/
def dedT : List (List Int) → List (List Int)
  | [] => []
  | t :: ts => if t ∈ dedT ts then dedT ts else t :: dedT ts
theorem mem_dedT {x : List Int} : ∀ {ts : List (List Int)}, x ∈ dedT ts ↔ x ∈ ts
  | [] => .rfl
  | t :: ts => by
    unfold dedT
    by_cases h : t ∈ dedT ts
    · rw [if_pos h, mem_dedT, List.mem_cons]
      exact ⟨.inr, fun z => z.elim (fun e => by rw [e]; exact mem_dedT.mp h) id⟩
    · rw [if_neg h, List.mem_cons, List.mem_cons, mem_dedT]
theorem nodup_dedT : ∀ ts : List (List Int), (dedT ts).Nodup
  | [] => List.nodup_nil
  | t :: ts => by
    unfold dedT
    by_cases h : t ∈ dedT ts
    · rw [if_pos h]; exact nodup_dedT ts
    · rw [if_neg h]; exact List.nodup_cons.mpr ⟨h, nodup_dedT ts⟩
theorem code_lex {B : Int} : ∀ {a b : List Int}, a.length = b.length → TS.Bd B a → TS.Bd B b → TS.code B a ≤ TS.code B b → HT.lexLt b a = false
  | [], [], _, _, _, _ => rfl
  | [], _ :: _, h, _, _, _ => by cases h
  | _ :: _, [], h, _, _, _ => by cases h
  | d :: r, e :: q, hl, ha, hb, h => by
    have hl' : r.length = q.length := by simpa using hl
    rw [HT.lexLt_cons]
    by_cases z : e = d
    · subst z
      rw [if_pos rfl]
      refine code_lex hl' ha.tail hb.tail ?_
      by_cases y : TS.code B q < TS.code B r
      · exact absurd ((TS.code_same (d := e) hl'.symm).mpr y) (by omega)
      · omega
    · rw [if_neg z]
      refine decide_eq_false fun y => ?_
      have := TS.code_lt hl'.symm hb.tail ha.tail y
      omega
def setOkT (ts : List (List Int)) : Prop := ts.length < 64 ∧ ∃ (d : Nat) (B : Int), 1 ≤ d ∧ ∀ t ∈ ts, t.length = d ∧ TS.Bd B t
noncomputable instance (ts : List (List Int)) : Decidable (setOkT ts) := Classical.propDecidable _
@[simp] noncomputable def dSortSet (f : DenE) : DenE := fun Γ => (f Γ).bind fun p => match p.1 with
  | .lst xs => (asTups xs).bind fun ts => if setOkT ts then some (.lst ((sortT (dedT ts)).map eT), .new true) else none
  | _ => none
theorem Reps.tupsA {g : Gc} {F : Hp} {A : Addr → Prop} : ∀ {ts : List (List Int)} {vs : List V}, Reps g F A (ts.map eT) vs → ∃ L : List (Addr × List Int), (L.map fun q => V.ref q.1) = vs ∧ L.map (·.2) = ts ∧ ∀ q ∈ L, SqT g.K F q.1 (q.2.map V.int)
  | [], _, .nil => ⟨[], rfl, rfl, fun _ h => by cases h⟩
  | ts :: tss, v :: vs, .cons h r => by
    obtain ⟨L, h1, h2, h3⟩ := Reps.tupsA r
    cases h with
    | @tup a ws xs hs hr =>
      have := hr.ints
      subst this
      refine ⟨(a, ts) :: L, by rw [List.map_cons, h1], by rw [List.map_cons, h2], fun q hq => ?_⟩
      rcases List.mem_cons.mp hq with rfl | hq
      · exact hs
      · exact h3 q hq
theorem Reps.ofTupsA {g : Gc} {F : Hp} {A : Addr → Prop} : ∀ {L : List (Addr × List Int)}, (∀ q ∈ L, SqT g.K F q.1 (q.2.map V.int)) → Reps g F A ((L.map (·.2)).map eT) (L.map fun q => V.ref q.1)
  | [], _ => .nil
  | q :: L, h => .cons (.tup (h q List.mem_cons_self) (Reps.ofInts _)) (Reps.ofTupsA fun q' m => h q' (List.mem_cons_of_mem _ m))
section
variable {X : Cx} {e : Expr} {pos p pos2 p2 : Pos}
theorem de_sortSet {f : DenE} (hc : X.calm = true) (hu : X.A.units + 64 < cLine) (hm : X.mg "sorted" = none) (hm2 : X.mg "set" = none) (h : DE X e f) (hgl : Gl X "sorted" := by rfl) (hgl2 : Gl X "set" := by rfl)
    (hs2 : starEach [e] X.env = [(false, eval e X.env)] := by rfl)
    (hs : starEach [.Call (.Name "set" p2) [e] [] pos2] X.env = [(false, eval (.Call (.Name "set" p2) [e] [] pos2) X.env)] := by rfl) :
    DE X (.Call (.Name "sorted" p) [.Call (.Name "set" p2) [e] [] pos2] [] pos) (dSortSet f) := by
  obtain ⟨t, h1, h2⟩ := h
  refine ⟨_, pe_callB (cr_sortedT hc) hgl hm (by decide +kernel) (pa_cons (pe_callTy (cr_setOfT hc hu) hgl2 hm2 (by decide +kernel) (pa_cons h1 pa_nil (by rw [hs2]; rfl)) (by decide) (by decide) (by rw [hs2]; rfl) (by rfl)) pa_nil (by rw [hs]; rfl)) (by decide) (by decide) (by rw [hs]; rfl) (by rfl), ?_⟩
  intro F0 B F H σ Γ d m Q I e q
  obtain ⟨⟨dx, mx⟩, e1, e2⟩ := bind_some e
  refine h2 F0 B F H σ Γ dx mx _ I e1 fun v F1 H1 X1 r1 => ?_
  have w := r1.vw X1.b
  cases dx with
  | lst xs =>
    obtain ⟨ts, z1, e3⟩ := bind_some e2
    by_cases c : setOkT ts
    · rw [if_pos c] at e3
      cases e3
      obtain ⟨hl, dd, BB, hd, hB⟩ := c
      cases w with
      | @lst a vs _ hH r =>
      obtain ⟨q1, q2⟩ := asTups_eq z1
      subst q1
      obtain ⟨L, l1, l2, l3⟩ := r.tupsA
      subst l1
      have hL : L.length = ts.length := by rw [← l2, List.length_map]
      refine ⟨a, L, rfl, SqL.of hH, fun p hp => sameT X1.b (l3 p hp), by omega, fun sa L1 hsa sub all => ?_⟩
      have s1 : Same H1 (upd H1 sa (SetTO X.prog X.w sa L1)) := same_upd hsa
      refine ⟨sa, L1, dd, BB, rfl, upd_same, fun p hp => sameT s1 (sameT X1.b (l3 p (sub p hp))), hd, fun p hp => hB _ (by rw [← l2]; exact List.mem_map.mpr ⟨p, sub p hp, rfl⟩), fun L2 b pm nd few pw hb => ?_⟩
      have mem2 : ∀ x, x ∈ L2.map (·.2) ↔ x ∈ ts := fun x => by
        constructor
        · intro hx
          obtain ⟨p, hp, rfl⟩ := List.mem_map.mp hx
          rw [← l2]
          exact List.mem_map.mpr ⟨p, sub p (pm.mem_iff.mp hp), rfl⟩
        · intro hx
          rw [← l2] at hx
          obtain ⟨p, hp, rfl⟩ := List.mem_map.mp hx
          obtain ⟨p', hp', e'⟩ := List.mem_map.mp (all p hp)
          exact List.mem_map.mpr ⟨p', pm.mem_iff.mpr hp', e'⟩
      have ee : L2.map (·.2) = sortT (dedT ts) := by
        refine sortT_uniq ((List.perm_ext_iff_of_nodup nd (nodup_dedT ts)).mpr fun x => by rw [mem2, mem_dedT]) ?_
        refine List.pairwise_map.mpr (pw.imp_of_mem fun {p r} hp hr h => ?_)
        have i1 := hB p.2 ((mem2 _).mp (List.mem_map.mpr ⟨p, hp, rfl⟩))
        have i2 := hB r.2 ((mem2 _).mp (List.mem_map.mpr ⟨r, hr, rfl⟩))
        exact code_lex (i1.1.trans i2.1.symm) i1.2 i2.2 h
      rw [← ee] at q
      have X2 : Ext F1 H1 F1 (upd H1 sa (SetTO X.prog X.w sa L1)) := Ext.hi X1.b hsa
      have X3 := Ext.hi (o := .lst (L2.map fun q => V.ref q.1)) X2.b hb
      have hb1 : H1 b = none := s1.free hb
      refine q _ F1 _ (X1.trans (X2.trans X3)) (.new (X1.b.free hb1) (X1.h.free hb1) ((I.ext X1).sb.free hb1) upd_same (.lst (Reps.ofTupsA fun p hp => l3 p (sub p (pm.mem_iff.mp hp)))))
    · rw [if_neg c] at e3; cases e3
  | _ => cases e2
end
end Dn
namespace Dn
open PySem PySem.Spec L2
open PyProof.Rows hiding St
/-! ### what repr needs -/
structure Rp (k m : Nat) (d : D) : Prop where
  pl : d.pl k = true
  sh : d.py.showable = true
  nd : d.py.hasDict = false
  len : d.py.shown.length ≤ m
theorem Rp.mono {k m k' m' : Nat} {d : D} (h : Rp k m d) (hk : k ≤ k') (hm : m ≤ m') : Rp k' m' d := ⟨pl_mono h.pl hk, h.sh, h.nd, Nat.le_trans h.len hm⟩
theorem Rp.ok {k m : Nat} {d : D} (h : Rp k m d) (hk : k ≤ 20) (hm : m ≤ 16777216) : reprOk d := ⟨pl_mono h.pl hk, h.sh, h.nd, Nat.le_trans h.len hm⟩
theorem rp_int {i : Int} (h : -999999999999 ≤ i ∧ i ≤ 999999999999) : Rp 0 13 (.int i) := by
  refine ⟨by simp [D.pl], ?_, ?_, ?_⟩
  · show PyData.showable (.int i) = true
    simp only [PyData.showable, decide_eq_true_eq]
    by_cases z : i.natAbs = 0
    · rw [z]; decide
    · refine (Nat.log2_lt z).mpr (Nat.lt_of_lt_of_le (m := 2 ^ 40) ?_ (Nat.pow_le_pow_right (by omega) (by omega)))
      have : i.natAbs ≤ 999999999999 := by omega
      exact Nat.lt_of_le_of_lt this (by decide)
  · show PyData.hasDict (.int i) = false
    simp only [PyData.hasDict]
  · exact PyData.shown_int_le2 h.1 h.2
theorem textFrom_le : ∀ (ts : List Str) (k : Nat) (acc : Str), (textFrom k acc ts).length ≤ acc.length + piled ts
  | [], k, acc => by show acc.length ≤ _; omega
  | t :: ts, k, acc => by
    have ih := textFrom_le ts (k + 1) (acc ++ (if k > 0 then ", " else "" : String) ++ t)
    have e : (acc ++ (if k > 0 then ", " else "" : String) ++ t).length ≤ acc.length + 2 + t.length := by
      rw [strLen_append, strLen_append]
      split
      · exact Nat.le_refl _
      · show acc.length + 0 + t.length ≤ _; omega
    show (textFrom (k + 1) _ ts).length ≤ _
    rw [piled_cons]
    omega
theorem piled_le {m : Nat} : ∀ (ts : List Str), (∀ t ∈ ts, t.length ≤ m) → piled ts ≤ (m + 2) * ts.length
  | [], _ => by rw [piled_nil]; omega
  | t :: ts, h => by
    rw [piled_cons, List.length_cons, Nat.mul_succ]
    have := piled_le ts fun u m => h u (List.mem_cons_of_mem _ m)
    have := h t List.mem_cons_self
    omega
theorem shownAll_map : ∀ xs : List D, PyData.shownAll (D.pys xs) = xs.map fun d => d.py.shown
  | [] => by simp [D.pys, PyData.shownAll]
  | x :: xs => by simp only [D.pys, PyData.shownAll, List.map_cons]; rw [shownAll_map xs]
theorem all_show : ∀ xs : List D, (∀ d ∈ xs, d.py.showable = true) → PyData.showableAll (D.pys xs) = true
  | [], _ => by simp [D.pys, PyData.showableAll]
  | x :: xs, h => by
    simp only [D.pys, PyData.showableAll]
    rw [h x List.mem_cons_self, all_show xs fun d m => h d (List.mem_cons_of_mem _ m)]; rfl
theorem all_nd : ∀ xs : List D, (∀ d ∈ xs, d.py.hasDict = false) → PyData.hasDictAll (D.pys xs) = false
  | [], _ => by simp [D.pys, PyData.hasDictAll]
  | x :: xs, h => by
    simp only [D.pys, PyData.hasDictAll]
    rw [h x List.mem_cons_self, all_nd xs fun d m => h d (List.mem_cons_of_mem _ m)]; rfl
theorem rp_lst {k m : Nat} {xs : List D} (h : ∀ d ∈ xs, Rp k m d) : Rp (k + 1) ((m + 2) * xs.length + 4) (.lst xs) := by
  refine ⟨?_, ?_, ?_, ?_⟩
  · show xs.all (D.pl k) = true
    exact List.all_eq_true.mpr fun d m => (h d m).pl
  · simp only [D.py, PyData.showable]; exact all_show xs fun d m => (h d m).sh
  · simp only [D.py, PyData.hasDict]; exact all_nd xs fun d m => (h d m).nd
  · simp only [D.py, PyData.shown]
    rw [shownAll_map]
    unfold listText
    rw [strLen_append]
    have a := textFrom_le (xs.map fun d => d.py.shown) 0 "["
    have b := piled_le (m := m) (xs.map fun d => d.py.shown) fun t ht => by
      obtain ⟨d, hd, rfl⟩ := List.mem_map.mp ht
      exact (h d hd).len
    rw [List.length_map] at b
    have e1 : ("[" : Str).length = 1 := rfl
    have e2 : ("]" : Str).length = 1 := rfl
    omega
theorem rp_tup {k m : Nat} {xs : List D} (h : ∀ d ∈ xs, Rp k m d) : Rp (k + 1) ((m + 2) * xs.length + 4) (.tup xs) := by
  refine ⟨?_, ?_, ?_, ?_⟩
  · show xs.all (D.pl k) = true
    exact List.all_eq_true.mpr fun d m => (h d m).pl
  · simp only [D.py, PyData.showable]; exact all_show xs fun d m => (h d m).sh
  · simp only [D.py, PyData.hasDict]; exact all_nd xs fun d m => (h d m).nd
  · simp only [D.py, PyData.shown]
    rw [shownAll_map]
    unfold tupleText
    rw [strLen_append, strLen_append]
    have b := piled_le (m := m) (xs.map fun d => d.py.shown) fun t ht => by
      obtain ⟨d, hd, rfl⟩ := List.mem_map.mp ht
      exact (h d hd).len
    rw [List.length_map] at b
    have j : (Str.join ", " (xs.map fun d => d.py.shown)).length ≤ piled (xs.map fun d => d.py.shown) := by
      by_cases z : (xs.map fun d => d.py.shown) = []
      · rw [z]; decide
      · have := join_length_add _ z; omega
    have e1 : ("(" : Str).length = 1 := rfl
    have e2 : ((if (xs.map fun d => d.py.shown).length == 1 then ",)" else ")" : String) : Str).length ≤ 2 := by
      split <;> decide
    omega
end Dn
namespace Dn
open PySem PySem.Spec L2
open PyProof.Rows hiding St

/-! ### what is new through and through -/
section
variable {g : Gc} {X : Cx} {e a b c : Expr} {pos : Pos}
/-- return, the flags kept -/
def dRetS (f : DenE) : DenS := fun Γ => match f Γ with
  | some (d, .bor nw) => .rt d (.new nw)
  | some (d, m) => .rt d m
  | none => .no
theorem ds_retS {f : DenE} (h : DE X e f) : DS X (.Return (some e) pos) (dRetS f) := by
  obtain ⟨t, h1, h2⟩ := h
  refine ⟨_, ps_ret h1, ?_⟩
  intro F0 B F H σ Γ E I q
  unfold dRetS at q
  cases z : f Γ with
  | none => rw [z] at q; exact q.elim
  | some p =>
    obtain ⟨d, m⟩ := p
    rw [z] at q
    refine h2 F0 B F H σ Γ d m _ I z fun v F' H' X1 r => ?_
    cases r with
    | frz r => exact q v F' H' (I.x.trans X1) (.frz r)
    | new z1 z2 z3 z4 z5 => exact q _ F' H' (I.x.trans X1) (.new z1 z3 z3 z4 z5)
    | bor z1 z3 z4 z5 => exact q _ F' H' (I.x.trans X1) (.new z1 z3 z3 z4 z5)
theorem Rep.flat {F F' : Hp} {A A' : Addr → Prop} {d : D} {v : V} (r : Rep g F A d v) (h : d.flat = true) : Rep g F' A' d v := by
  cases r <;> first | exact .non | exact .bl _ | exact .int _ | exact .str _ | cases h
/-- an argument list: what is flat is as good as new -/
@[simp] def dAConsF (f : DenE) (r : DenA) : DenA := fun Γ => ((f Γ).bind emb).bind fun p => (r Γ).bind fun q => some (p.1 :: q.1, (p.2 || p.1.flat) && q.2)
theorem da_consF {es : List Expr} {f : DenE} {r : DenA} (h : DE X e f) (h' : DA X es r) (hs : starEach (e :: es) X.env = (false, eval e X.env) :: starEach es X.env := by rfl) : DA X (e :: es) (dAConsF f r) := by
  obtain ⟨t, h1, h2⟩ := h
  obtain ⟨u, h3, h4⟩ := h'
  refine ⟨_, pa_cons h1 h3 hs, ?_⟩
  intro F0 B F H σ Γ ds nw Q I e q
  obtain ⟨⟨d, n1⟩, e1, e⟩ := bind_some e
  obtain ⟨⟨ds', n2⟩, e2, e3⟩ := bind_some e
  cases e3
  refine ref_emb h2 I e1 fun v F1 H1 X1 r1 => ?_
  refine h4 F0 B F1 H1 σ Γ ds' n2 _ (I.ext X1) e2 fun vs F2 H2 X2 r2 => q (v :: vs) F2 H2 (X1.trans X2) (.cons ?_ (r2.mono (.refl _) fun _ z => z.and'))
  cases n1 with
  | true => exact r1.mono X2.f fun _ z y => z rfl
  | false =>
    cases f : d.flat with
    | true => exact r1.flat f
    | false => exact r1.mono X2.f fun _ z y => by simp at y
/-- a list of flat things is as good as new -/
def upS : Slot → Slot
  | .own (.lst xs) nw => .own (.lst xs) (nw || xs.all D.flat)
  | s => s
theorem Reps.flats {F F' : Hp} {A A' : Addr → Prop} : ∀ {ds : List D} {vs : List V}, Reps g F A ds vs → ds.all D.flat = true → Reps g F' A' ds vs
  | _, _, .nil, _ => .nil
  | _, _, .cons r rs, h => by
    rw [List.all_cons, Bool.and_eq_true] at h
    exact .cons (r.flat h.1) (rs.flats h.2)
theorem EnvR.up {F0 B F H : Hp} {σ : St} {Γ : Ev} (I : EnvR g F0 B F H σ Γ) (i : Nat) : EnvR g F0 B F H σ (Γ.modify i upS) := by
  obtain ⟨R, q, s⟩ := I.reg
  refine ⟨I.x, by rw [List.length_modify]; exact I.len, R, q, fun j sl e => ?_⟩
  by_cases hj : i = j
  · subst hj
    rw [List.getElem?_modify_eq] at e
    cases z : Γ[i]? with
    | none => rw [z] at e; cases e
    | some t =>
      rw [z] at e
      have e := Option.some.inj e
      subst e
      have h := s i t z
      match t, h with
      | .no, h => exact h
      | .val _ _, h => exact h
      | .deep _, h => exact h
      | .shp _ _, h => exact h
      | .shl _ _, h => exact h
      | .rng _, h => exact h
      | .exc _, h => exact h
      | .own (.lst xs) nw, ⟨p, o, e1, e2, r⟩ =>
        refine ⟨p, o, e1, e2, ?_⟩
        cases r with
        | lst r =>
          cases n : nw with
          | true => subst n; exact .lst (r.mono (.refl _) fun _ z y => z rfl)
          | false =>
            cases f : xs.all D.flat with
            | true => exact .lst (r.flats f)
            | false => subst n; exact .lst (r.mono (.refl _) fun _ z y => by simp at y)
      | .own .non nw, h => exact h
      | .own (.bl _) nw, h => exact h
      | .own (.int _) nw, h => exact h
      | .own (.str _) nw, h => exact h
      | .own (.tup _) nw, h => exact h
      | .own (.dk _) nw, h => exact h
      | .own (.dt _) nw, h => exact h
      | .own (.st _) nw, h => exact h
      | .own (.scr _) nw, h => exact h
  · rw [List.getElem?_modify_ne _ _ hj] at e
    exact s j sl e
@[simp] def dUp (is : List Nat) (f : DenS) : DenS := fun Γ => f (is.foldl (fun Γ i => Γ.modify i upS) Γ)
theorem up_fold {F0 B F H : Hp} {σ : St} : ∀ (is : List Nat) {Γ : Ev}, EnvR g F0 B F H σ Γ → EnvR g F0 B F H σ (is.foldl (fun Γ i => Γ.modify i upS) Γ)
  | [], Γ, I => I
  | i :: is, Γ, I => up_fold is (I.up i)
theorem ds_up {st : Stmt} {f : DenS} (is : List Nat) (h : DS X st f) : DS X st (dUp is f) := by
  obtain ⟨t, h1, h2⟩ := h
  exact ⟨t, h1, fun F0 B F H σ Γ E I q => h2 F0 B F H σ _ E (up_fold is I) q⟩

/-! ### a call's answer as a region of our own -/
def D.nsc : Nat → D → Bool
  | _, .non => true | _, .bl _ => true | _, .int _ => true | _, .str _ => true
  | n + 1, .tup xs => xs.all (D.nsc n) | n + 1, .lst xs => xs.all (D.nsc n)
  | _, _ => false
mutual
theorem Rep.deepen {F F' : Hp} {A A' : Addr → Prop} (s : Same F F') (q : ∀ a, F a ≠ none → A a → A' a) : ∀ {n : Nat} {d : D} {v : V}, Rep g F A d v → d.nsc n = true → Rep g F' A' d v
  | _, _, _, .non, _ => .non
  | _, _, _, .bl b, _ => .bl b
  | _, _, _, .int i, _ => .int i
  | _, _, _, .str x, _ => .str x
  | n, _, _, .tup h r, p => by
    cases n with
    | zero => simp [D.nsc] at p
    | succ n => exact .tup (sameT s h) (Reps.deepen s q (n := n) r (by simpa [D.nsc] using p))
  | n, _, _, .lst h a r, p => by
    cases n with
    | zero => simp [D.nsc] at p
    | succ n => exact .lst (s _ _ h) (q _ (some_ne h) a) (Reps.deepen s q (n := n) r (by simpa [D.nsc] using p))
  | n, _, _, .scr _ _, p => by cases n <;> simp [D.nsc] at p
  | n, _, _, .dk _ _ _, p => by cases n <;> simp [D.nsc] at p
  | n, _, _, .dt _ _ _, p => by cases n <;> simp [D.nsc] at p
  | n, _, _, .st _ _ _, p => by cases n <;> simp [D.nsc] at p
theorem Reps.deepen {F F' : Hp} {A A' : Addr → Prop} (s : Same F F') (q : ∀ a, F a ≠ none → A a → A' a) : ∀ {n : Nat} {ds : List D} {vs : List V}, Reps g F A ds vs → ds.all (D.nsc n) = true → Reps g F' A' ds vs
  | _, _, _, .nil, _ => .nil
  | n, _, _, .cons h r, p => by
    simp only [List.all_cons, Bool.and_eq_true] at p
    exact .cons (Rep.deepen s q h p.1) (Reps.deepen s q r p.2)
end
theorem EnvR.setDeep {F0 B F1 H1 F2 H2 : Hp} {σ : St} {Γ : Ev} {i n : Nat} {v : V} {d : D} (I : EnvR g F0 B F1 H1 σ Γ) (x : Ext F1 H1 F2 H2) (r : Rep g F2 (PB H1 true) d v) (hd : d.nsc n = true) : EnvR g F0 B F1 H2 (σ.set i (some v)) (Γ.set i (.deep d)) := by
  have x1 : Ext F1 H1 F1 H2 := ⟨.refl _, x.h, x.f.trans x.b, fun a h _ => h⟩
  have I1 := I.ext x1
  obtain ⟨R, q, s⟩ := I.reg
  let N : Hp := fun a => match F1 a with
    | some _ => none
    | none => F2 a
  have n1 : ∀ a o, N a = some o → F1 a = none ∧ F2 a = some o := fun a o e => by
    have e : (match F1 a with | some _ => none | none => F2 a) = some o := e
    cases z : F1 a with
    | some u => rw [z] at e; cases e
    | none => rw [z] at e; exact ⟨rfl, e⟩
  have n2 : ∀ a o, N a = some o → H1 a = none := fun a o e => by
    obtain ⟨e1, e2⟩ := n1 a o e
    cases z : H1 a with
    | none => rfl
    | some u =>
      have := x.k a e1 (some_ne z)
      rw [this] at e2; cases e2
  have nj : Same F2 (join F1 N) := fun a o e => by
    cases z : F1 a with
    | some u =>
      have := x.f a u z
      rw [this] at e
      cases e
      exact join_left a _ z
    | none =>
      rw [join_right z]
      show (match F1 a with | some _ => none | none => F2 a) = some o
      rw [z]; exact e
  refine ⟨I1.x, by rw [List.length_set, List.length_set]; exact I.len, fun j => if j = i then N else R j, ⟨fun j a o e => ?_, fun j k a e1 e2 => ?_⟩, fun j sl e => ?_⟩
  · by_cases hj : j = i
    · simp only [hj, if_true] at e
      obtain ⟨e1, e2⟩ := n1 a o e
      exact ⟨e1, I.sb.free (n2 a o e), x.b _ _ e2⟩
    · simp only [if_neg hj] at e
      exact (q.ext x1).hat j a o e
  · have old : ∀ j, R j a ≠ none → H1 a ≠ none := fun j h => by
      cases z : R j a with
      | none => exact absurd z h
      | some o => rw [(q.hat j a o z).2.2]; exact fun y => nomatch y
    have new : N a ≠ none → H1 a = none := fun h => by
      cases z : N a with
      | none => exact absurd z h
      | some o => exact n2 a o z
    by_cases hj : j = i
    · by_cases hk : k = i
      · rw [hj, hk]
      · simp only [hj, if_true] at e1
        simp only [if_neg hk] at e2
        exact absurd (new e1) (old k e2)
    · by_cases hk : k = i
      · simp only [if_neg hj] at e1
        simp only [hk, if_true] at e2
        exact absurd (new e2) (old j e1)
      · simp only [if_neg hj] at e1
        simp only [if_neg hk] at e2
        exact q.ne j k a e1 e2
  · by_cases hj : i = j
    · subst hj
      have hl : i < Γ.length := by
        obtain ⟨z, _⟩ := List.getElem?_eq_some_iff.mp e
        simpa using z
      rw [List.getElem?_set_self hl] at e
      cases e
      rw [List.getElem?_set_self (by rw [I.len]; exact hl)]
      refine ⟨v, rfl, ?_⟩
      simp only [if_true]
      refine r.deepen nj (fun a h1 h2 => ?_) hd
      have hh : H1 a = none := h2 rfl
      have hf : F1 a = none := I.x.b.free hh
      show (match F1 a with | some _ => none | none => F2 a) ≠ none
      rw [hf]; exact h1
    · rw [List.getElem?_set_ne hj] at e ⊢
      have hl : j < Γ.length := (List.getElem?_eq_some_iff.mp e).1
      show SlotR g B F1 (if j = i then _ else _) _ _
      rw [if_neg (Ne.symm hj)]
      exact (s j sl e).ext (fun a o q' => let ⟨h1, _, h3⟩ := q.hat j a o q'; ⟨h1, h3⟩) x1
def Md.dp : Md → Bool
  | .frz n => n | .new n => n | .bor _ => false
def dSetD (i : Nat) (φ : Fn) (r : DenA) : DenS := fun Γ => match (r Γ).bind fun p => φ p.1 with
  | some (d, m) => if m.dp = true ∧ d.nsc 9 = true then .nx (Γ.set i (.deep d)) else .no
  | none => .no
theorem ds_setD (i : Nat) {y : Str} {py spos p : Pos} {CX : CXT} {k n : Nat} {f : Addr} {fd : FuncData} {ps : List Str} {x : Str} {es : List Expr} {φ : Fn} {r : DenA} {E : XK} (hN : X.N.Nodup) (F : FnOk X.prog X.w X.K X.mg X.base CX k f fd ps (spD (gX X) n φ)) (hr : Room k X.A) (hm : X.mg x = some (.ref f)) (hk : PySem.W.keepIn X.K (.ref f) = true)
    (hb : Binds X.K fd ps []) (hx : Passes CX X E) (hn : ∀ ds x, φ ds = some x → ds.length = n) (ha : DA X (e :: es) r) (hi : X.N[i]? = some y := by rfl) (hy : Loc X.env.scope y := by first | exact Or.inl rfl | exact Or.inr rfl) (hg : Gl X x := by rfl) (hs : starEach (e :: es) X.env = (false, eval e X.env) :: starEach es X.env := by rfl) (hpl : (backTo pos (starEach es X.env)).any (·.1) = false := by rfl)
    (hd : (x == ("__debug__" : Str)) = false := by decide) (hsw : swapsWith (.Call (.Name x p) (e :: es) [] pos) (some (.Name y py)) spos.line X.env = pure false := by rfl)
    (hf : X.fn y = true ∨ X.env.scope.names.lookup y = some .local := by first | exact .inl rfl | exact .inr rfl) : DS X (.Assign [.Name y py] (.Call (.Name x p) (e :: es) [] pos) spos) (dSetD i φ r) := by
  obtain ⟨u, a1, a2⟩ := ha
  refine ⟨_, ps_set hN hi hy (pe_call F hr hg hm hk hb .nil hx a1 hd hs hpl) hsw hf, ?_⟩
  intro F0 B F H σ Γ E' I q
  unfold dSetD at q
  cases z : r Γ with
  | none => rw [z] at q; exact q.elim
  | some p =>
    obtain ⟨ds, nw⟩ := p
    rw [z] at q
    have q : OutQ (gX X) F0 B F E' (match φ ds with
      | some (d, m) => if m.dp = true ∧ d.nsc 9 = true then .nx (Γ.set i (.deep d)) else .no
      | none => .no) := q
    cases y : φ ds with
    | none => rw [y] at q; exact q.elim
    | some w =>
      obtain ⟨d, m⟩ := w
      rw [y] at q
      by_cases c : m.dp = true ∧ d.nsc 9 = true
      · have q : OutQ (gX X) F0 B F E' (if m.dp = true ∧ d.nsc 9 = true then .nx (Γ.set i (.deep d)) else .no) := q
        rw [if_pos c] at q
        refine a2 F0 B F H σ Γ ds nw _ I z fun vs F1 H1 X1 r1 => ?_
        rw [List.append_nil]
        refine ⟨by rw [← r1.length]; exact hn _ _ y, F1, ds, d, m, X1.b, r1.any (.refl _), y, fun v F2 H2 X2 r2 => ?_⟩
        have go : ∀ F3, Ext F1 H1 F3 H2 → Rep (gX X) F3 (PB H1 true) d v → E'.nx (σ.set i (some v)) H2 := fun F3 X3 r3 => q _ F1 H2 ((I.ext X1).setDeep X3 r3 c.2) X1.f
        cases r2 with
        | @frz v nw r2 =>
          have hnw : nw = true := c.1
          subst hnw
          exact go F2 X2 r2
        | @new p o nw z1 z2 z3 z4 z5 =>
          have hnw : nw = true := c.1
          subst hnw
          exact go _ (X2.frz z2 z1 z4) (z5.rep z1 fun _ => z2)
        | bor z1 z3 z4 z5 => exact absurd c.1 (by intro h; cases h)
      · have q : OutQ (gX X) F0 B F E' (if m.dp = true ∧ d.nsc 9 = true then .nx (Γ.set i (.deep d)) else .no) := q
        rw [if_neg c] at q; exact q.elim
/-! ### x[k].append(e), x a tuple of our own -/
mutual
theorem Rep.px {F : Hp} {A : Addr → Prop} : ∀ {d : D} {v : V}, Rep g F A d v → Px g F A 0 d v
  | _, _, .non => .oth rfl
  | _, _, .bl b => .oth rfl
  | _, _, .int i => .oth rfl
  | _, _, .str x => .oth rfl
  | _, _, .tup h r => .tup h r.length.symm (Reps.pxAt r)
  | _, _, .lst h a r => .lst h a (by rw [r.length]; omega)
  | _, _, .scr _ _ => .oth rfl
  | _, _, .dk _ _ _ => .oth rfl
  | _, _, .dt _ _ _ => .oth rfl
  | _, _, .st _ _ _ => .oth rfl
theorem Reps.pxAt {F : Hp} {A : Addr → Prop} : ∀ {ds : List D} {vs : List V}, Reps g F A ds vs → ∀ (k : Nat) (d : D) (w : V), ds[k]? = some d → vs[k]? = some w → Px g F A 0 d w
  | _, _, .nil, _, _, _, h, _ => by simp at h
  | _, _, .cons h r, 0, d, w, h1, h2 => by
    simp at h1 h2
    subst h1 h2
    exact Rep.px h
  | _, _, .cons h r, k + 1, d, w, h1, h2 => Reps.pxAt r k d w (by simpa using h1) (by simpa using h2)
end
theorem EnvR.toShp {F0 B F H : Hp} {σ : St} {Γ : Ev} {i : Nat} {d : D} (I : EnvR g F0 B F H σ Γ) (h : Γ[i]? = some (.deep d)) : EnvR g F0 B F H σ (Γ.set i (.shp d 0)) := by
  obtain ⟨R, q, s⟩ := I.reg
  have hl : i < Γ.length := (List.getElem?_eq_some_iff.mp h).1
  refine ⟨I.x, by rw [List.length_set]; exact I.len, R, q, fun j sl e => ?_⟩
  by_cases hj : i = j
  · subst hj
    rw [List.getElem?_set_self hl] at e
    cases e
    obtain ⟨v, ev, r⟩ := s i _ h
    exact ⟨v, ev, r.px⟩
  · rw [List.getElem?_set_ne hj] at e
    exact s j sl e
theorem Px.mut {G G' : Hp} {A A' : Addr → Prop} {n : Nat} {p : Addr} {ws : List V} {w : V} (hp : G p = some (.lst ws)) (hp' : G' p = some (.lst (ws ++ [w]))) (ho : ∀ b, b ≠ p → G' b = G b) (q : ∀ a, A a → A' a) {d : D} {v : V} (h : Px g G A n d v) : Px g G' A' (n + 1) d v := by
  induction h with
  | oth h => exact .oth h
  | @tup a vs xs h1 h2 h3 ih =>
    refine .tup ?_ h2 ih
    rcases h1 with (h1 | ⟨o, h1⟩) | h1
    · exact .inl (.inl (by rw [ho a (fun z => by rw [z, hp] at h1; cases h1)]; exact h1))
    · exact .inl (.inr ⟨o, by rw [ho a (fun z => by rw [z, hp] at h1; cases h1)]; exact h1⟩)
    · exact .inr h1
  | @lst a vs xs h1 h2 h3 =>
    by_cases z : a = p
    · subst z
      rw [hp] at h1
      cases h1
      exact .lst hp' (q _ h2) (by simp; omega)
    · exact .lst (by rw [ho a z]; exact h1) (q _ h2) (by omega)
theorem EnvR.shpMut {F0 B F H : Hp} {σ : St} {Γ : Ev} {i k n : Nat} {ds xs : List D} (I : EnvR g F0 B F H σ Γ) (h : Γ[i]? = some (.shp (.tup ds) n)) (hk : ds[k]? = some (.lst xs)) :
    ∃ a vs p ws, σ[i]? = some (some (.ref a)) ∧ SqT g.K H a vs ∧ vs[k]? = some (.ref p) ∧ H p = some (.lst ws) ∧ ws.length ≤ xs.length + n ∧
      ∀ w F' H', Ext F H F' H' → EnvR g F0 B F' (upd H' p (.lst (ws ++ [w]))) σ (Γ.set i (.shp (.tup ds) (n + 1))) := by
  obtain ⟨R, q, s⟩ := I.reg
  have hl : i < Γ.length := (List.getElem?_eq_some_iff.mp h).1
  obtain ⟨v, ev, r⟩ := s i _ h
  have jh : Same (join F (R i)) H := fun a o e => by
    cases z : F a with
    | some u => rw [join_left a u z] at e; cases e; exact I.x.b _ _ z
    | none => rw [join_right z] at e; exact (q.hat i a o e).2.2
  cases r with
  | oth h => cases h
  | @tup a vs _ h1 h2 h3 =>
    have hkl : k < vs.length := by rw [h2]; exact (List.getElem?_eq_some_iff.mp hk).1
    have hv : vs[k]? = some vs[k] := List.getElem?_eq_getElem hkl
    have px := h3 k _ _ hk hv
    generalize hw : vs[k] = wv at *
    cases px with
    | oth h => cases h
    | @lst p ws _ e1 e2 e3 =>
    obtain ⟨o, eo⟩ : ∃ o, R i p = some o := by
      cases z : R i p with
      | none => exact absurd z e2
      | some o => exact ⟨o, rfl⟩
    obtain ⟨f1, f2, f3⟩ := q.hat i p o eo
    rw [join_right f1, eo] at e1
    cases e1
    refine ⟨a, vs, p, ws, ?_, sameT jh h1, hv, f3, e3, fun w F' H' x => ?_⟩
    · cases y : σ[i]? with
      | none => rw [y] at ev; cases ev
      | some z => rw [y] at ev; rw [show z = some (.ref a) by simpa using ev]
    have fp : F' p = none := x.k p f1 (some_ne f3)
    have q' := q.ext x
    refine ⟨⟨I.x.f.trans x.f, fun b u e => ?_, fun b u e => ?_, (I.x.trans x).k⟩, by rw [List.length_set]; exact I.len, fun j => if j = i then upd (R i) p (.lst (ws ++ [w])) else R j, ⟨fun j b u e => ?_, fun j l b g1 g2 => ?_⟩, fun j sl e => ?_⟩
    · rw [upd_ne (ne_of_none e f2)]; exact x.h _ _ (I.x.h _ _ e)
    · rw [upd_ne (ne_of_none e fp)]; exact x.b _ _ e
    · by_cases hj : j = i
      · simp only [hj, if_true] at e
        by_cases hb : b = p
        · subst hb; rw [upd_same] at e ⊢; exact ⟨fp, f2, e⟩
        · rw [upd_ne hb] at e ⊢; exact q'.hat i b u e
      · simp only [if_neg hj] at e
        have hb : b ≠ p := fun z => hj (q.ne j i b (some_ne e) (by rw [z]; exact some_ne eo))
        rw [upd_ne hb]
        exact q'.hat j b u e
    · have back : ∀ j, (if j = i then upd (R i) p (.lst (ws ++ [w])) else R j) b ≠ none → R j b ≠ none := fun j h => by
        by_cases hj : j = i
        · simp only [hj, if_true] at h
          rw [hj]
          by_cases hb : b = p
          · rw [hb]; exact some_ne eo
          · rw [upd_ne hb] at h; exact h
        · simp only [if_neg hj] at h; exact h
      exact q.ne j l b (back j g1) (back l g2)
    · by_cases hj : i = j
      · subst hj
        rw [List.getElem?_set_self hl] at e
        cases e
        refine ⟨.ref a, ev, ?_⟩
        simp only [if_true]
        have b1 : Px g (join F' (R i)) (fun b => R i b ≠ none) n (.tup ds) (.ref a) := (Px.tup h1 h2 h3).mono (join_same (fun b o e => let ⟨z1, _, z3⟩ := q.hat i b o e; ⟨z1, z3⟩) x.f x.k) (fun _ z => z) (Nat.le_refl _)
        refine b1.mut (p := p) (ws := ws) (w := w) ?_ ?_ (fun b hb => ?_) fun b hb => ?_
        · rw [join_right fp]; exact eo
        · rw [join_right fp, upd_same]
        · unfold join
          rw [upd_ne hb]
        · by_cases z : b = p
          · rw [z, upd_same]; exact fun y => nomatch y
          · rw [upd_ne z]; exact hb
      · rw [List.getElem?_set_ne hj] at e
        show SlotR g B F' (if j = i then _ else _) _ _
        rw [if_neg (Ne.symm hj)]
        exact (s j sl e).ext (fun b o e => let ⟨z1, _, z3⟩ := q.hat j b o e; ⟨z1, z3⟩) x
def Slot.asShp : Slot → Option (List D × Nat)
  | .deep (.tup ds) => some (ds, 0)
  | .shp (.tup ds) n => some (ds, n)
  | _ => none
def dAppAt (i k : Nat) (f : DenE) : DenS := fun Γ => match f Γ, (Γ[i]?).bind Slot.asShp with
  | some _, some (ds, n) => match ds[k]? with
    | some (.lst xs) => if xs.length + n < sizeLine then .nx (Γ.set i (.shp (.tup ds) (n + 1))) else .no
    | _ => .no
  | _, _ => .no
theorem ds_appAt (i k : Nat) {x : Str} {xp kp sp apos cpos : Pos} {j : Nat} {f : DenE} (he : DE X e f) (hN : X.N[i]? = some x := by rfl) (hv : Vis X.env.scope x := by first | exact Or.inl rfl | exact Or.inr (Or.inl rfl) | exact Or.inr (Or.inr rfl)) (hd : (x == ("__debug__" : Str)) = false := by decide)
    (hcd : (x == ("__classdict__" : Str)) = false := by decide) (hpx : PlainIx (.Constant (.int (k : Int)) j kp) := by exact fun _ _ => rfl) (hbase : attributeBase (.Subscript (.Name x xp) (.Constant (.int (k : Int)) j kp) sp) "append" X.env (eval (.Subscript (.Name x xp) (.Constant (.int (k : Int)) j kp) sp) X.env) = eval (.Subscript (.Name x xp) (.Constant (.int (k : Int)) j kp) sp) X.env := by rfl)
    (hfew : ((backTo cpos (starEach [e] X.env)).all (fun x => !x.1) && (backToKw cpos (keywordEach [] X.env)).all (fun x => x.1.isSome)
      && decide (([e] : List Expr).length + ([] : List Keyword).length + (if ([] : List Keyword).isEmpty then 0 else 1) < 30)) = true := by rfl)
    (hline : (apos.endLine == cpos.line) = true := by rfl) (hs : starEach [e] X.env = (false, eval e X.env) :: starEach [] X.env := by rfl) (hplain : (backTo cpos (starEach [] X.env)).any (·.1) = false := by rfl)
    (hsw : swapsWith (.Call (.Attribute (.Subscript (.Name x xp) (.Constant (.int (k : Int)) j kp) sp) "append" apos) [e] [] cpos) none pos.line X.env = pure false := by rfl) :
    DS X (.Expr (.Call (.Attribute (.Subscript (.Name x xp) (.Constant (.int (k : Int)) j kp) sp) "append" apos) [e] [] cpos) pos) (dAppAt i k f) := by
  obtain ⟨u, a1, a2⟩ := he
  refine ⟨_, ps_expr (pe_bm PySem.F.plainAttrs_list PySem.F.slot_list_append PySem.F.type_list_append mt_append (pe_ix ix_seq (pe_var hN hv hd hcd) pe_int hpx) (pa_cons a1 pa_nil hs) hbase hfew hline hs hplain) hsw, ?_⟩
  intro F0 B F H σ Γ E I q
  unfold dAppAt at q
  cases z : f Γ with
  | none => rw [z] at q; exact q.elim
  | some p =>
    obtain ⟨d, m⟩ := p
    rw [z] at q
    cases y : (Γ[i]?).bind Slot.asShp with
    | none => rw [y] at q; exact q.elim
    | some w =>
      obtain ⟨ds, n⟩ := w
      rw [y] at q
      have q : OutQ (gX X) F0 B F E (match ds[k]? with
        | some (.lst xs) => if xs.length + n < sizeLine then .nx (Γ.set i (.shp (.tup ds) (n + 1))) else .no
        | _ => .no) := q
      obtain ⟨xs, hk⟩ : ∃ xs, ds[k]? = some (.lst xs) := by
        match t : ds[k]?, q with
        | some (.lst xs), _ => exact ⟨xs, rfl⟩
        | none, q => exact q.elim
        | some .non, q => exact q.elim
        | some (.bl _), q => exact q.elim
        | some (.int _), q => exact q.elim
        | some (.str _), q => exact q.elim
        | some (.tup _), q => exact q.elim
        | some (.dk _), q => exact q.elim
        | some (.dt _), q => exact q.elim
        | some (.st _), q => exact q.elim
        | some (.scr _), q => exact q.elim
      rw [hk] at q
      have q : OutQ (gX X) F0 B F E (if xs.length + n < sizeLine then .nx (Γ.set i (.shp (.tup ds) (n + 1))) else .no) := q
      by_cases hz : xs.length + n < sizeLine
      · rw [if_pos hz] at q
        obtain ⟨Γs, Is, hΓ, hset⟩ : ∃ Γs, EnvR (gX X) F0 B F H σ Γs ∧ Γs[i]? = some (.shp (.tup ds) n) ∧ Γs.set i (.shp (.tup ds) (n + 1)) = Γ.set i (.shp (.tup ds) (n + 1)) := by
          cases t : Γ[i]? with
          | none => rw [t] at y; cases y
          | some sl =>
            rw [t] at y
            have hl : i < Γ.length := (List.getElem?_eq_some_iff.mp t).1
            match sl, t, y with
            | .deep (.tup ds'), t, y => cases y; exact ⟨_, I.toShp t, by rw [List.getElem?_set_self hl], by rw [List.set_set]⟩
            | .shp (.tup ds') n', t, y => cases y; exact ⟨Γ, I, t, rfl⟩
        obtain ⟨a, vs, p, ws, b1, b2, b3, b4, b5, b6⟩ := Is.shpMut hΓ hk
        have hat : atI vs (k : Int) = some (.ref p) := atI_of (by omega) (by simpa using b3)
        refine ⟨.ref a, b1, .inr (.inl ⟨a, vs, (k : Int), .ref p, rfl, rfl, b2, hat, .inl ⟨rfl, ws, SqL.of b4⟩, ?_⟩)⟩
        refine a2 F0 B F H σ Γ d m _ I z fun v F1 H1 X1 r1 => ?_
        refine ⟨p, ws, v, rfl, rfl, X1.h _ _ b4, by omega, ?_⟩
        have := b6 v F1 H1 X1
        rw [hset] at this
        exact q σ F1 _ this X1.f
      · rw [if_neg hz] at q; exact q.elim
end
end Dn
namespace Dn
open PySem PySem.Spec L2
open PyProof.Rows hiding St
/-! ### sorted lists of lists of ints -/
def RdL (h : Heap) (v : Value) (ns : List Int) : Prop := ∃ a xs, v = Value.ref a ∧ h.IsList a xs ∧ IntsAre xs.toList ns
theorem RdL.keeps {h h' : Heap} {v : Value} {ns : List Int} (r : RdL h v ns) (k : ∀ b o, h.get? b = some o → h'.get? b = some o) : RdL h' v ns := by
  obtain ⟨a, xs, e, ⟨o, ho, hr⟩, hi⟩ := r
  exact ⟨a, xs, e, ⟨o, k _ _ ho, hr⟩, hi⟩
theorem readsAll_ints {h : Heap} : ∀ {us : List Value} {ns : List Int}, IntsAre us ns → ∃ as, ReadsAll h us (ns.map PyData.int) as
  | _, _, .nil => ⟨_, .nil⟩
  | _, _, .cons n t r => let ⟨_, q⟩ := readsAll_ints r; ⟨_, .cons (.int n t) q⟩
theorem RdL.reads {h : Heap} {v : Value} {ns : List Int} (r : RdL h v ns) : ∃ as, Reads h v (.list (ns.map PyData.int)) as := by
  obtain ⟨a, xs, rfl, ⟨o, ho, hc, n, hd⟩, hi⟩ := r
  obtain ⟨as, q⟩ := readsAll_ints (h := h) hi
  exact ⟨_, .list ho hc hd q⟩
section
open PySem.W
theorem toks_ints : ∀ xs ys : List Int, PyProof.Rows.lexLt PyProof.Rows.itemOrd (PySem.W.keyToksAll (xs.map PyData.int)) (PySem.W.keyToksAll (ys.map PyData.int)) = HT.lexLt xs ys
  | [], [] => by
    simp only [List.map_nil, PySem.W.keyToksAll]
    rw [lex_self]; rfl
  | [], y :: ys => by
    simp only [List.map_nil, List.map_cons, PySem.W.keyToksAll, PySem.W.keyToks]
    rw [lex_diff (by simp)]; rfl
  | x :: xs, [] => by
    simp only [List.map_nil, List.map_cons, PySem.W.keyToksAll, PySem.W.keyToks]
    rw [lex_diff (by simp)]; rfl
  | x :: xs, y :: ys => by
    simp only [List.map_cons, PySem.W.keyToksAll, PySem.W.keyToks, List.cons_append, List.nil_append]
    rw [lex_self, HT.lexLt_cons]
    by_cases e : x = y
    · subst e
      rw [if_pos rfl, lex_self, toks_ints xs ys]
    · rw [if_neg e, lex_diff (by simpa using e)]; rfl
end
theorem alikeL_ints : ∀ xs ys : List Int, PySem.W.alikeAll (xs.map PyData.int) (ys.map PyData.int) = true
  | [], _ => by simp [PySem.W.alikeAll]
  | _ :: _, [] => by simp [PySem.W.alikeAll]
  | x :: xs, y :: ys => by simp [PySem.W.alikeAll, PySem.W.alike, alikeL_ints xs ys]
theorem depthL_ints : ∀ xs : List Int, PyData.depthAll (xs.map PyData.int) = 0
  | [] => by simp [PyData.depthAll]
  | x :: xs => by simp [PyData.depthAll, PyData.depth, depthL_ints xs]
section
variable {prog : Program} {w : World} {A : Around} {s : Shared}
theorem ls_cmp {vs : List Value} {k : Value → List Int} (hu : A.units + 8 < cLine) (hv : ∀ v ∈ vs, RdL s.heap v (k v)) : SrtO.Cmp prog w A s oneType' (fun p => p.1 ∈ vs) (SrtO.lt2 fun v u => HT.lexLt (k v) (k u)) := by
  intro p q hm hm'
  obtain ⟨as, r1⟩ := (hv _ hm).reads
  obtain ⟨bs, r2⟩ := (hv _ hm').reads
  show wpAny (model prog w) A (keyLt' oneType' p.1 q.1) (fun r s' => s' = s ∧ r = HT.lexLt (k p.1) (k q.1)) (fun _ _ => False) s
  rw [keyLt'_oneType]
  refine PySem.W.oneLt_alike (f := true) (fun _ xs => by simp) r1 r2 (by simpa [PySem.W.alike] using alikeL_ints _ _) (by simp) ?_ ⟨rfl, ?_⟩
  · simp only [PyData.depth, depthL_ints]; omega
  · rw [PySem.W.dataLt_list, toks_ints]
theorem ls_sortableO {a : Addr} {vs : List Value} {k : Value → List Int} (h2 : 2 ≤ vs.length) (hu : A.units + 8 < cLine) {h0 : Heap} (hv : ∀ v ∈ vs, RdL h0 v (k v)) (hk : ∀ b o, h0.get? b = some o → b ≠ a ∧ s.heap.get? b = some o) : SrtO.SortableO prog w A s a vs fun v u => HT.lexLt (k v) (k u) := by
  intro h' keep
  have hv' : ∀ v ∈ vs, RdL h' v (k v) := fun v hm => (hv v hm).keeps fun b o e => let ⟨z1, z2⟩ := hk b o e; keep b o z1 z2
  refine ⟨oneType', fun Q E hq => ?_, ls_cmp (s := { s with heap := h' }) hu hv'⟩
  exact PySem.W.kas_kind (s := { s with heap := h' }) (T := .type "list") h2 (fun v hm => by
    obtain ⟨as, r⟩ := (hv' v hm).reads
    exact PySem.W.looks_reads r) (by rfl) (by rfl) hq
end
section
variable {X : Cx}
theorem lsI_raw {pins : List (Addr × Obj)} {σ : St} {H : Hp} {s : Shared} {t : Addr} {ns : List Int} (I : Inv X pins σ H s) (h : SqL X.K H t (ns.map V.int)) : RdL s.heap (.ref t) ns := by
  obtain ⟨its, rv, hl, hz⟩ := I.list h
  exact ⟨t, its.toArray, rfl, hl.isList, by simpa using rv.ints⟩
noncomputable def lsOf (h : Heap) (v : Value) : List Int := open Classical in if q : ∃ ns, RdL h v ns then q.choose else []
theorem intsV_inj : ∀ {us : List Value} {ns ms : List Int}, IntsAre us ns → IntsAre us ms → ns = ms
  | _, _, _, .nil, h => by cases h; rfl
  | _, _, _, .cons n t r, h => by
    cases h with
    | cons _ _ r' => rw [intsV_inj r r']
theorem RdL.uniq {h : Heap} {v : Value} {ns ms : List Int} (r : RdL h v ns) (r' : RdL h v ms) : ns = ms := by
  obtain ⟨a, xs, rfl, ⟨o, ho, hc, n, hd⟩, hi⟩ := r
  obtain ⟨a', xs', e, ⟨o', ho', hc', n', hd'⟩, hi'⟩ := r'
  cases e
  rw [ho] at ho'
  cases ho'
  rw [hd] at hd'
  cases hd'
  exact intsV_inj hi hi'
theorem RdL.of {h : Heap} {v : Value} {ns : List Int} (r : RdL h v ns) : lsOf h v = ns := by
  have q : ∃ ns, RdL h v ns := ⟨ns, r⟩
  unfold lsOf
  rw [dif_pos q]
  exact q.choose_spec.uniq r
theorem back_ls {h : Heap} : ∀ {its : List Value} {L : List (V × List Int)}, L.map (·.1) = its.map backV → (∀ q ∈ L, ∃ t, q.1 = V.ref t ∧ RdL h (.ref t) q.2) → (∀ u ∈ its, ∃ a, u = Value.ref a) → its.map (fun v => (backV v, lsOf h v)) = L
  | [], [], _, _, _ => rfl
  | [], _ :: _, e, _, _ => by cases e
  | _ :: _, [], e, _, _ => by cases e
  | v :: its, q :: L, e, h1, h2 => by
    rw [List.map_cons, List.map_cons] at e
    have e3 := List.cons.inj e
    rw [List.map_cons, back_ls e3.2 (fun q m => h1 q (List.mem_cons_of_mem _ m)) fun u m => h2 u (List.mem_cons_of_mem _ m)]
    obtain ⟨t, h3, h4⟩ := h1 q List.mem_cons_self
    obtain ⟨a, rfl⟩ := h2 v List.mem_cons_self
    obtain ⟨x, ns⟩ := q
    have h3 : x = V.ref t := h3
    subst h3
    have e4 : V.ref t = V.ref a := e3.1
    cases e4
    rw [show lsOf h (Value.ref t) = ns from h4.of]
    rfl
def rSortedLI (K : PySem.W.Frag) : List V → Hp → VK → Prop := fun vs H Q => ∃ (a : Addr) (L : List (V × List Int)), vs = [V.ref a] ∧ SqL K H a (L.map (·.1)) ∧ (∀ q ∈ L, ∃ t, q.1 = V.ref t ∧ SqL K H t (q.2.map V.int)) ∧
  ∀ (L' : List (V × List Int)) p, L'.Perm L → L'.Pairwise (fun x y => HT.lexLt y.2 x.2 = false) → H p = none → Q (.ref p) (upd H p (.lst (L'.map (·.1))))
theorem cr_sortedLI (hu : X.A.units + 64 < cLine) : CallR X (.builtin "sorted") (rSortedLI X.K) := by
  intro pins s σ H vs us Q I r h
  obtain ⟨a, L, rfl, hs, hx, q⟩ := h
  obtain ⟨its, rv, hl, hz⟩ := I.list hs
  obtain ⟨u, rfl, ru⟩ := vals1 r
  obtain rfl : u = Value.ref a := ru
  obtain ⟨e1, e2⟩ := refs_back rv fun x m => by
    obtain ⟨q0, hq, rfl⟩ := List.mem_map.mp m
    obtain ⟨t, e, _⟩ := hx q0 hq
    exact ⟨t, e⟩
  have hT : ∀ q0 ∈ L, ∃ t, q0.1 = V.ref t ∧ RdL s.heap (.ref t) q0.2 := fun q0 hq => by
    obtain ⟨t, e, h⟩ := hx q0 hq
    exact ⟨t, e, lsI_raw I h⟩
  have hk : ∀ v ∈ its, RdL s.heap v (lsOf s.heap v) := fun v hv => by
    obtain ⟨t, rfl⟩ := e2 v hv
    have hm : V.ref t ∈ L.map (·.1) := by rw [e1]; exact List.mem_map.mpr ⟨_, hv, rfl⟩
    obtain ⟨q0, hq, e⟩ := List.mem_map.mp hm
    obtain ⟨t', e', h'⟩ := hT q0 hq
    rw [e] at e'
    cases e'
    rw [h'.of]
    exact h'
  have hL : its.map (fun v => (backV v, lsOf s.heap v)) = L := back_ls e1 hT e2
  refine SrtO.sorted_ord (NtL.swo_lexL (lsOf s.heap)) hl.isList (by rw [← rv.length]; exact hz) (fun h2 h₁ a ha kk => ?_) fun out hs hb => ?_
  · exact ls_sortableO (s := { s with heap := h₁ }) h2 (by show X.A.units + 1 + 1 + 8 < cLine; omega) hk kk
  · have h3 : ∀ u ∈ out, ∃ a, u = Value.ref a := fun u hu => e2 u (hb.perm.mem_iff.mp hu)
    obtain ⟨n, hn⟩ := sortedAll_at s.heap its out.toArray
    have hd : s.heap.objs.size ≤ s.heap.objs.size + 1 := Nat.le_succ _
    refine ⟨.ref _, upd H (s.heap.objs.size + 1) (.lst (out.map backV)), I.laid (t' := s.toks) (fun b o e => sortedAll_old e) hd ⟨?_, out, n, vals_back h3, hn⟩, rfl, ?_⟩
    · rw [List.length_map, hb.perm.length_eq, ← rv.length]; exact hz
    · have := q (out.map fun v => (backV v, lsOf s.heap v)) (s.heap.objs.size + 1) (by rw [← hL]; exact hb.perm.map _) (List.pairwise_map.mpr hs) (I.hok.fresh hd)
      rw [List.map_map] at this
      exact this
end
def eL (ns : List Int) : D := .lst (ns.map D.int)
def asLsts : List D → Option (List (List Int))
  | [] => some []
  | .lst xs :: r => (D.asInts xs).bind fun ns => (asLsts r).map (ns :: ·)
  | _ :: _ => none
theorem asLsts_eq : ∀ {ds : List D} {ts : List (List Int)}, asLsts ds = some ts → ds = ts.map eL
  | [], ts, e => by cases e; rfl
  | .lst xs :: r, ts, e => by
    have e : ((D.asInts xs).bind fun ns => (asLsts r).map (ns :: ·)) = some ts := e
    obtain ⟨ns, e1, e⟩ := bind_some e
    cases z : asLsts r with
    | none => rw [z] at e; cases e
    | some q =>
      rw [z] at e; cases e
      rw [List.map_cons, ← asLsts_eq z, asInts_eq e1]; rfl
  | .non :: _, _, e => by cases e
  | .bl _ :: _, _, e => by cases e
  | .int _ :: _, _, e => by cases e
  | .str _ :: _, _, e => by cases e
  | .tup _ :: _, _, e => by cases e
  | .dk _ :: _, _, e => by cases e
  | .dt _ :: _, _, e => by cases e
  | .st _ :: _, _, e => by cases e
  | .scr _ :: _, _, e => by cases e
theorem asLsts_map : ∀ ts : List (List Int), asLsts (ts.map eL) = some ts
  | [] => rfl
  | t :: ts => by
    show ((D.asInts (t.map D.int)).bind fun ns => (asLsts (ts.map eL)).map (ns :: ·)) = _
    rw [asInts_map, asLsts_map ts]; rfl
theorem Reps.lsts {g : Gc} {F : Hp} {A : Addr → Prop} : ∀ {ts : List (List Int)} {vs : List V}, Reps g F A (ts.map eL) vs → ∃ L : List (V × List Int), L.map (·.1) = vs ∧ L.map (·.2) = ts ∧ ∀ q ∈ L, ∃ t, q.1 = V.ref t ∧ F t = some (.lst (q.2.map V.int)) ∧ A t
  | [], _, .nil => ⟨[], rfl, rfl, fun _ h => by cases h⟩
  | ts :: tss, v :: vs, .cons h r => by
    obtain ⟨L, h1, h2, h3⟩ := Reps.lsts r
    cases h with
    | @lst a ws xs hs ha hr =>
      have := hr.ints
      subst this
      refine ⟨(_, ts) :: L, by rw [List.map_cons, h1], by rw [List.map_cons, h2], fun q hq => ?_⟩
      rcases List.mem_cons.mp hq with rfl | hq
      · exact ⟨a, rfl, hs, ha⟩
      · exact h3 q hq
theorem Reps.ofLsts {g : Gc} {F : Hp} {A : Addr → Prop} : ∀ {L : List (V × List Int)}, (∀ q ∈ L, ∃ t, q.1 = V.ref t ∧ F t = some (.lst (q.2.map V.int)) ∧ A t) → Reps g F A ((L.map (·.2)).map eL) (L.map (·.1))
  | [], _ => .nil
  | q :: L, h => by
    obtain ⟨t, e, hs, ha⟩ := h q List.mem_cons_self
    refine .cons ?_ (Reps.ofLsts fun q' m => h q' (List.mem_cons_of_mem _ m))
    show Rep g F A (eL q.2) q.1
    rw [e]
    exact .lst hs ha (Reps.ofInts _)
def sortLF : Fc := fc1 fun
  | .lst xs, n => (asLsts xs).map fun ts => (.lst ((sortT ts).map eL), .new n)
  | _, _ => none
section
variable {X : Cx}
theorem cd_sortL (hu : X.A.units + 64 < cLine) : CallD X (.builtin "sorted") sortLF := by
  refine ⟨_, cr_sortedLI hu, ?_⟩
  intro B F H ds vs d m Q s sb w e q
  match ds, vs, w, e with
  | [], _, _, e => cases e
  | _ :: _ :: _, _, _, e => cases e
  | [(dx, n)], [v], .cons w .nil, e =>
    cases w with
    | @lst a vs xs h r =>
      have e : (asLsts xs).map (fun ts => (D.lst ((sortT ts).map eL), Md.new n)) = some (d, m) := e
      cases z : asLsts xs with
      | none => rw [z] at e; cases e
      | some ts =>
        rw [z] at e; cases e
        have h1 := asLsts_eq z
        subst h1
        obtain ⟨L, l1, l2, l3⟩ := r.lsts
        subst l1
        subst l2
        refine ⟨_, L, rfl, SqL.of h, fun q0 hq => ?_, fun L' p hp hs hn => ?_⟩
        · obtain ⟨t, e, hs, _⟩ := l3 q0 hq
          exact ⟨t, e, SqL.of (s _ _ hs)⟩
        · have e3 : L'.map (·.2) = sortT (L.map (·.2)) := sortT_uniq (hp.map _) (List.pairwise_map.mpr hs)
          rw [← e3] at q
          exact q _ F _ (Ext.hi s hn) (.new (s.free hn) hn (sb.free hn) upd_same (.lst (Reps.ofLsts fun q0 hq => l3 q0 (hp.mem_iff.mp hq))))
    | _ => cases e
end
end Dn
namespace Dn
open PySem PySem.Spec L2
open PyProof.Rows hiding St

/-! ### statements that keep what is known to be new -/
section
variable {g : Gc} {X : Cx} {e a b c : Expr} {pos : Pos} {st : Stmt} {rest : List Stmt}
def dSetS (i : Nat) (f : DenE) : DenS := fun Γ => match f Γ with
  | some (d, .frz n) => .nx (Γ.set i (.val d n))
  | some (d, .new n) => .nx (Γ.set i (.own d n))
  | _ => .no
theorem refS_setS {i : Nat} {t : TE} {f : DenE} (h : Ref g t f) : RefS g (tAsg t (gName i)) (dSetS i f) := by
  intro F0 B F H σ Γ E I q
  unfold dSetS at q
  cases z : f Γ with
  | none => rw [z] at q; exact q.elim
  | some p =>
    obtain ⟨d, m⟩ := p
    rw [z] at q
    refine h F0 B F H σ Γ d m _ I z fun v F1 H1 X1 r1 => ?_
    cases m with
    | frz n =>
      cases r1 with
      | frz r1 => exact q _ F1 H1 ((I.ext X1).set r1) X1.f
    | new n => exact q _ F1 H1 (I.setNew X1 r1) X1.f
    | bor n => exact q.elim
theorem ds_setS (i : Nat) {x : Str} {pos' : Pos} {f : DenE} (hN : X.N.Nodup) (he : DE X e f) (hi : X.N[i]? = some x := by rfl) (hx : Loc X.env.scope x := by first | exact Or.inl rfl | exact Or.inr rfl) (hs : swapsWith e (some (.Name x pos')) pos.line X.env = pure false := by rfl)
    (hf : X.fn x = true ∨ X.env.scope.names.lookup x = some .local := by first | exact .inl rfl | exact .inr rfl) : DS X (.Assign [.Name x pos'] e pos) (dSetS i f) := by
  obtain ⟨t, h1, h2⟩ := he
  exact ⟨_, ps_set hN hi hx h1 hs hf, refS_setS h2⟩
/-- x.append(e), the flag kept -/
def dAppS (i : Nat) (f : DenE) : DenS := fun Γ => match (f Γ).bind emb, Γ[i]? with
  | some (d, n), some (.own (.lst xs) m) => if xs.length < sizeLine then .nx (Γ.set i (.own (.lst (xs ++ [d])) (m && (n || d.flat)))) else .no
  | _, _ => .no
theorem ds_appS (i : Nat) {x : Str} {xp apos cpos : Pos} {f : DenE} (he : DE X e f) (hN : X.N[i]? = some x := by rfl) (hv : Vis X.env.scope x := by first | exact Or.inl rfl | exact Or.inr (Or.inl rfl) | exact Or.inr (Or.inr rfl)) (hd : (x == ("__debug__" : Str)) = false := by decide)
    (hcd : (x == ("__classdict__" : Str)) = false := by decide) (hbase : attributeBase (.Name x xp) "append" X.env (eval (.Name x xp) X.env) = eval (.Name x xp) X.env := by rfl)
    (hfew : ((backTo cpos (starEach [e] X.env)).all (fun x => !x.1) && (backToKw cpos (keywordEach [] X.env)).all (fun x => x.1.isSome)
      && decide (([e] : List Expr).length + ([] : List Keyword).length + (if ([] : List Keyword).isEmpty then 0 else 1) < 30)) = true := by rfl)
    (hline : (apos.endLine == cpos.line) = true := by rfl) (hs : starEach [e] X.env = (false, eval e X.env) :: starEach [] X.env := by rfl) (hplain : (backTo cpos (starEach [] X.env)).any (·.1) = false := by rfl)
    (hsw : swapsWith (.Call (.Attribute (.Name x xp) "append" apos) [e] [] cpos) none pos.line X.env = pure false := by rfl) :
    DS X (.Expr (.Call (.Attribute (.Name x xp) "append" apos) [e] [] cpos) pos) (dAppS i f) := by
  obtain ⟨u, a1, a2⟩ := he
  refine ⟨_, ps_expr (pe_bm PySem.F.plainAttrs_list PySem.F.slot_list_append PySem.F.type_list_append mt_append (pe_var hN hv hd hcd) (pa_cons a1 pa_nil hs) hbase hfew hline hs hplain) hsw, ?_⟩
  intro F0 B F H σ Γ E I q
  unfold dAppS at q
  cases z : (f Γ).bind emb with
  | none => rw [z] at q; exact q.elim
  | some p =>
    obtain ⟨d, n⟩ := p
    rw [z] at q
    cases y : Γ[i]? with
    | none => rw [y] at q; exact q.elim
    | some sl =>
      rw [y] at q
      match sl, y, q with
      | .no, _, q => exact q.elim
      | .val _ _, _, q => exact q.elim
      | .deep _, _, q => exact q.elim
      | .shp _ _, _, q => exact q.elim
      | .shl _ _, _, q => exact q.elim
      | .own (.lst xs) n0, y, q =>
        have q : OutQ (gX X) F0 B F E (if xs.length < sizeLine then .nx (Γ.set i (.own (.lst (xs ++ [d])) (n0 && (n || d.flat)))) else .no) := q
        by_cases hz : xs.length < sizeLine
        · rw [if_pos hz] at q
          obtain ⟨p, o, hp, hH, hF, r⟩ := I.own y
          cases r with
          | @lst vs _ r =>
          refine ⟨.ref p, hp, .inl ⟨rfl, vs, SqL.of hH⟩, ?_⟩
          refine ref_emb a2 I z fun v F1 H1 X1 r1 => ?_
          have I1 := I.ext X1
          refine ⟨p, vs, v, rfl, rfl, X1.h _ _ hH, by rw [← r.length]; exact hz, ?_⟩
          refine q σ F1 _ (I1.mut y hp (.lst (vs := vs ++ [v]) ?_)) X1.f
          refine Reps.app (r.mono X1.f fun _ z => z.and) (.cons ?_ .nil)
          cases n with
          | true => exact r1.mono (.refl _) fun _ z y => z rfl
          | false =>
            cases fl : d.flat with
            | true => exact r1.flat fl
            | false => exact r1.mono (.refl _) fun _ z y => by simp at y
        · rw [if_neg hz] at q; exact q.elim

def forGoS (n : Bool) (t : Tg) (body : DenS) : List D → Ev → Out
  | [], Γ => .nx Γ
  | d :: ds, Γ => match asg t d n Γ with
    | none => .no
    | some Γ1 => match body Γ1 with
      | .nx Γ2 => forGoS n t body ds Γ2
      | .ct Γ2 => forGoS n t body ds Γ2
      | .bk Γ2 => .nx Γ2
      | .rt d m => .rt d m
      | .no => .no
def dForS (f : DenI) (t : Tg) (body : DenS) : DenS := fun Γ => match f Γ with
  | some (ds, n, true) => forGoS n t body ds Γ
  | _ => .no
theorem ds_forS {tg : Expr} {body : List Stmt} {f : DenI} {t : Tg} {h : DenS} (hp : PassesOwn (model X.prog X.w) X.A X.env X.xe) (hc : X.calm = true) (hi : DI X tg e f) (hg : DG X tg t) (hb : DSs X body h)
    (hs : ∀ x, foldedSetIterable e X.env x = pure x := by intro _; rfl) : DS X (.For tg e body [] pos) (dForS f t h) := by
  obtain ⟨wi, i1, i2⟩ := hi
  obtain ⟨wg, g1, g2⟩ := hg
  obtain ⟨wb, b1, b2⟩ := hb
  refine ⟨_, ps_for hp hc i1 g1 b1 hs, ?_⟩
  intro F0 B F H σ Γ E I q
  unfold dForS at q
  cases z : f Γ with
  | none => rw [z] at q; exact q.elim
  | some w =>
    obtain ⟨ds, n, fz⟩ := w
    rw [z] at q
    cases fz with
    | false => exact q.elim
    | true =>
    have q : OutQ (gX X) F0 B F E (forGoS n t h ds Γ) := q
    refine i2 F0 B F H σ Γ ds n true _ I z fun J F1 H1 X1 it => ?_
    refine ⟨fun i m σ' H' => m = ds.length - i ∧ ∃ F' Γ', EnvR (gX X) F0 B F' H' σ' Γ' ∧ Same F1 F' ∧ OutQ (gX X) F0 B F' E (forGoS n t h (ds.drop i) Γ'), ⟨ds.length, by simp, F1, Γ, I.ext X1, .refl _, q.mono X1.f⟩, ?_⟩
    rintro i m σ' H' ⟨rfl, F', Γ', I', s', q'⟩
    obtain ⟨j1, j2⟩ := it F' H' s' I'.x.b (fun z => nomatch z)
    by_cases hlt : i < ds.length
    · have hd : ds[i]? = some ds[i] := List.getElem?_eq_getElem hlt
      obtain ⟨jg, jy⟩ := j1 i _ hd
      rw [List.drop_eq_getElem_cons hlt] at q'
      unfold forGoS at q'
      refine .inr ⟨jg, fun σ2 H2 => ∃ F2 Γ2, EnvR (gX X) F0 B F2 H2 σ2 Γ2 ∧ Same F1 F2 ∧ OutQ (gX X) F0 B F2 E (forGoS n t h (ds.drop (i + 1)) Γ2), fun σ2 H2 ⟨F2, Γ2, w1, w2, w3⟩ => ⟨ds.length - (i + 1), by omega, rfl, F2, Γ2, w1, w2, w3⟩, fun x H2 y => ?_⟩
      obtain ⟨F2, X2, rx⟩ := jy x H2 y
      cases za : asg t ds[i] n Γ' with
      | none => rw [za] at q'; exact q'.elim
      | some Γ1 =>
      rw [za] at q'
      refine g2 F0 B F2 H2 σ' Γ' _ n x Γ1 _ (I'.ext X2) rx za fun σ1 I1 _ => ?_
      have q' : OutQ (gX X) F0 B F' E (match h Γ1 with
        | .nx Γ2 => forGoS n t h (ds.drop (i + 1)) Γ2
        | .ct Γ2 => forGoS n t h (ds.drop (i + 1)) Γ2
        | .bk Γ2 => .nx Γ2
        | .rt d m => .rt d m
        | .no => .no) := q'
      refine b2 F0 B F2 H2 σ1 Γ1 _ I1 ?_
      cases zb : h Γ1 with
      | nx Γ2 => rw [zb] at q'; exact fun σ3 F3 H3 I3 s3 => ⟨F3, Γ2, I3, (s'.trans X2.f).trans s3, q'.mono (X2.f.trans s3)⟩
      | ct Γ2 => rw [zb] at q'; exact fun σ3 F3 H3 I3 s3 => ⟨F3, Γ2, I3, (s'.trans X2.f).trans s3, q'.mono (X2.f.trans s3)⟩
      | bk Γ2 => rw [zb] at q'; exact fun σ3 F3 H3 I3 s3 => q' σ3 F3 H3 I3 (X2.f.trans s3)
      | rt d m => rw [zb] at q'; exact q'
      | no => rw [zb] at q'; exact q'.elim
    · have hge : ds.length ≤ i := by omega
      rw [List.drop_eq_nil_of_le hge] at q'
      exact .inl ⟨j2 i hge, q' σ' F' H' I' (.refl _)⟩

def lcGoS (n : Bool) (t : Tg) (tt : DenT) (el : DenE) (Γ : Ev) : List D → Option (List D × Bool)
  | [] => some ([], true)
  | d :: ds => (asg t d n Γ).bind fun Γ1 => (tt Γ1).bind fun b => if b = true then ((el Γ1).bind emb).bind fun p => (lcGoS n t tt el Γ ds).bind fun q => some (p.1 :: q.1, (p.2 || p.1.flat) && q.2) else lcGoS n t tt el Γ ds
def dLcS (f : DenI) (t : Tg) (tt : DenT) (el : DenE) (vs : List Nat) : DenE := fun Γ => (f Γ).bind fun w => (lcGoS w.2.1 t tt el (forget vs Γ) w.1).bind fun q => if q.1.length ≤ sizeLine then some (.lst q.1, .new q.2) else none
theorem ref_lcS {wi : TI} {tg' : TG} {tt' : TT} {te : TE} {f : DenI} {t : Tg} {tt : DenT} {el : DenE} {vs : List Nat} (hi : RefI g wi f) (hg : RefG g tg' t) (ht : RefT g tt' tt) (he : Ref g te el) (hv : ∀ j, j ∈ t.slots → j ∈ vs) :
    Ref g (tLc wi tg' tt' te vs) (dLcS f t tt el vs) := by
  intro F0 B F H σ Γ d m Q I e q
  obtain ⟨⟨ds, n, fz⟩, e1, e⟩ := bind_some e
  obtain ⟨⟨out, nw⟩, e2, e⟩ := bind_some e
  have e2 : lcGoS n t tt el (forget vs Γ) ds = some (out, nw) := e2
  by_cases hz : out.length ≤ sizeLine
  · simp only [hz, if_true] at e
    cases e
    refine hi F0 B F H σ Γ ds n fz _ I e1 fun J F1 H1 X1 it Da hD => ?_
    have I1 := I.ext X1
    refine ⟨fun i mm Hh => mm = ds.length - i ∧ ∃ Fh acc accD restD nr, Ext F1 H1 Fh Hh ∧ Fh Da = none ∧ Hh Da = some (.lst acc) ∧ Reps g Fh (PB B nw) accD acc ∧
      lcGoS n t tt el (forget vs Γ) (ds.drop i) = some (restD, nr) ∧ (nw = true → nr = true) ∧ accD ++ restD = out, ⟨ds.length, by simp, F1, [], [], out, nw, Ext.hi X1.b hD, X1.b.free hD, upd_same, .nil, e2, id, rfl⟩, ?_⟩
    rintro i mm Hh ⟨rfl, Fh, acc, accD, restD, nr, Xh, hF, hH, ra, el', en, eo⟩
    obtain ⟨j1, j2⟩ := it Fh Hh Xh.f Xh.b fun _ => Xh.h
    by_cases hlt : i < ds.length
    · have hd : ds[i]? = some ds[i] := List.getElem?_eq_getElem hlt
      obtain ⟨jg, jy⟩ := j1 i _ hd
      rw [List.drop_eq_getElem_cons hlt] at el'
      unfold lcGoS at el'
      obtain ⟨Γ1, a1, el'⟩ := bind_some el'
      obtain ⟨bb, b1, el'⟩ := bind_some el'
      refine .inr ⟨jg, fun Hn => ∃ Fh acc accD restD nr, Ext F1 H1 Fh Hn ∧ Fh Da = none ∧ Hn Da = some (.lst acc) ∧ Reps g Fh (PB B nw) accD acc ∧
        lcGoS n t tt el (forget vs Γ) (ds.drop (i + 1)) = some (restD, nr) ∧ (nw = true → nr = true) ∧ accD ++ restD = out, fun Hn w => ⟨ds.length - (i + 1), by omega, rfl, w⟩, fun x H2 y => ?_⟩
      obtain ⟨F2, X2, rx⟩ := jy x H2 y
      have I2 : EnvR g F0 B F2 H2 (wipe σ vs) (forget vs Γ) := ((I1.ext Xh).ext X2).wipe vs
      refine hg F0 B F2 H2 (wipe σ vs) (forget vs Γ) _ n x Γ1 _ I2 rx a1 fun σ3 I3 k3 => ?_
      refine ⟨wipe_eq (by
        have h1 := I3.len
        have h2 := I2.len
        have h3 := asg_len a1
        rw [wipe_length] at h2
        omega) fun j hj => k3 j fun z => hj (hv j z), ?_⟩
      have X12 := Xh.trans X2
      have hF2 : F2 Da = none := X2.k Da hF (some_ne hH)
      refine ht F0 B F2 H2 σ3 Γ1 bb _ I3 b1 fun F3 H3 X3 => ?_
      have hF3 : F3 Da = none := X3.k Da hF2 (some_ne (X2.h _ _ hH))
      cases bb with
      | false =>
        exact ⟨F3, acc, accD, restD, nr, X12.trans X3, hF3, X3.h _ _ (X2.h _ _ hH), ra.mono (X2.f.trans X3.f) fun _ z => z, el', en, eo⟩
      | true =>
        simp only [if_true] at el' ⊢
        obtain ⟨⟨dv, nv⟩, c1, el'⟩ := bind_some el'
        obtain ⟨⟨restD', nr'⟩, c2, el'⟩ := bind_some el'
        cases el'
        refine ref_emb he (I3.ext X3) c1 fun v F4 H4 X4 r4 => ?_
        have hH4 := X4.h _ _ (X3.h _ _ (X2.h _ _ hH))
        have hF4 : F4 Da = none := X4.k Da hF3 (some_ne (X3.h _ _ (X2.h _ _ hH)))
        have hlen : accD.length < out.length := by rw [← eo, List.length_append, List.length_cons]; omega
        have en' : nw = true → (nv || dv.flat) = true ∧ nr' = true := fun z => by simpa using en z
        refine ⟨acc, hH4, by rw [← ra.length]; omega, F4, acc ++ [v], accD ++ [dv], restD', nr', ?_, hF4, upd_same, ?_, c2, fun z => (en' z).2, by rw [← eo, List.append_assoc]; rfl⟩
        · have X := (X12.trans X3).trans X4
          exact ⟨X.f, fun a u z => by rw [upd_ne (ne_of_none z hD)]; exact X.h _ _ z, fun a u z => by rw [upd_ne (ne_of_none z hF4)]; exact X.b _ _ z, X.k⟩
        · refine Reps.app (ra.mono ((X2.f.trans X3.f).trans X4.f) fun _ z => z) (.cons ?_ .nil)
          cases nv with
          | true => exact r4.mono (.refl _) fun _ z _ => z rfl
          | false =>
            cases fl : dv.flat with
            | true => exact r4.flat fl
            | false => exact r4.mono (.refl _) fun _ z y => by have := (en' y).1; rw [fl] at this; cases this
    · have hge : ds.length ≤ i := by omega
      rw [List.drop_eq_nil_of_le hge] at el'
      unfold lcGoS at el'
      cases el'
      rw [List.append_nil] at eo
      subst eo
      exact .inl ⟨j2 i hge, q _ Fh Hh (X1.trans Xh) (.new hF (X1.h.free hD) (I1.sb.free hD) hH (.lst ra))⟩
  · simp only [hz] at e
    cases e
theorem de_lcS {elt tg iter : Expr} {ifs : List Expr} {scope : Scope} {own : List (Str × Nat)} {f : DenI} {t : Tg} {tt : DenT} {el : DenE} (hc : X.calm = true) (hN : X.N.Nodup) (hi : DI X tg iter f) (ok : BlkOk X.N X.env.scope scope own)
    (hg : ∀ (s : Shared) (H : Hp) (C : Addr) (cl : List (Str × Addr)) (fp : List Addr), DG (X.blk s H scope (compEnvC scope cl C X.env) fp) tg t) (ht : ∀ (s : Shared) (H : Hp) (C : Addr) (cl : List (Str × Addr)) (fp : List Addr), DTs (X.blk s H scope (compEnvC scope cl C X.env) fp) ifs tt)
    (he : ∀ (s : Shared) (H : Hp) (C : Addr) (cl : List (Str × Addr)) (fp : List Addr), DE (X.blk s H scope (compEnvC scope cl C X.env) fp) elt el) (hv : ∀ j, j ∈ t.slots → j ∈ own.map (·.2)) (hs : ∀ x, foldedSetIterable iter X.env x = pure x := by intro _; rfl) :
    DE X (.ListComp elt [⟨tg, iter, ifs, 0⟩] scope pos) (dLcS f t tt el (own.map (·.2))) := by
  obtain ⟨wi, i1, i2⟩ := hi
  exact ⟨_, pe_lc hc hN i1 ok (fun s H C cl fp => (hg s H C cl fp).pg) (fun s H C cl fp => (ht s H C cl fp).pts) (fun s H C cl fp => (he s H C cl fp).pe) hs, ref_lcS i2 (ref_tgOf _ _) (ref_ttOf _ _) (ref_teOf _ _) hv⟩
theorem ds_setLcS (i : Nat) {y : Str} {py : Pos} {elt tg iter : Expr} {ifs : List Expr} {scope : Scope} {own : List (Str × Nat)} {spos : Pos} {f : DenI} {t : Tg} {tt : DenT} {el : DenE} (hc : X.calm = true) (hN : X.N.Nodup) (hi : DI X tg iter f) (ok : BlkOk X.N X.env.scope scope own)
    (hg : ∀ (s : Shared) (H : Hp) (C : Addr) (cl : List (Str × Addr)) (fp : List Addr), DG (X.blk s H scope (compEnvC scope cl C X.env) fp) tg t) (ht : ∀ (s : Shared) (H : Hp) (C : Addr) (cl : List (Str × Addr)) (fp : List Addr), DTs (X.blk s H scope (compEnvC scope cl C X.env) fp) ifs tt)
    (he : ∀ (s : Shared) (H : Hp) (C : Addr) (cl : List (Str × Addr)) (fp : List Addr), DE (X.blk s H scope (compEnvC scope cl C X.env) fp) elt el) (hv : ∀ j, j ∈ t.slots → j ∈ own.map (·.2))
    (hsw : swapsWith (.ListComp elt [⟨tg, iter, ifs, 0⟩] scope pos) (some (.Name y py)) spos.line X.env = pure true) (hy : X.N[i]? = some y := by rfl) (hyl : X.env.scope.names.lookup y = some .local := by rfl) (hs : ∀ x, foldedSetIterable iter X.env x = pure x := by intro _; rfl) :
    DS X (.Assign [.Name y py] (.ListComp elt [⟨tg, iter, ifs, 0⟩] scope pos) spos) (dSetS i (dLcS f t tt el (own.map (·.2)))) := by
  obtain ⟨wi, i1, i2⟩ := hi
  exact ⟨_, ps_setLc hc hN hy hyl hsw i1 ok (fun s H C cl fp => (hg s H C cl fp).pg) (fun s H C cl fp => (ht s H C cl fp).pts) (fun s H C cl fp => (he s H C cl fp).pe) hs, refS_setS (ref_lcS i2 (ref_tgOf _ _) (ref_ttOf _ _) (ref_teOf _ _) hv)⟩
end

/-! ### evaluation -/
section
variable {f h : DenS} {fa fb : DenE} {t : DenT} {Γ : Ev} {d e : D} {m n : Bool} {md : Md} {xs ys : List D}
def setSO (s : Nat) : Option (D × Md) → Ev → Out
  | some (d, .frz n), Γ => .nx (Γ.set s (.val d n))
  | some (d, .new n), Γ => .nx (Γ.set s (.own d n))
  | _, _ => .no
@[simp] theorem setSO_f {s : Nat} : setSO s (some (d, .frz n)) Γ = .nx (Γ.set s (.val d n)) := rfl
@[simp] theorem setSO_n {s : Nat} : setSO s (some (d, .new n)) Γ = .nx (Γ.set s (.own d n)) := rfl
@[simp] theorem dSetS_eq {s : Nat} : dSetS s fa Γ = setSO s (fa Γ) Γ := by
  unfold dSetS; generalize fa Γ = z
  cases z with
  | none => rfl
  | some k => obtain ⟨d, m⟩ := k; cases m <;> rfl
def appSO (s : Nat) : Option (D × Bool) → Option Slot → Ev → Out
  | some (d, m), some (.own (.lst xs) n), Γ => if xs.length < sizeLine then .nx (Γ.set s (.own (.lst (xs ++ [d])) (n && (m || d.flat)))) else .no
  | _, _, _ => .no
@[simp] theorem appSO_s {s : Nat} : appSO s (some (d, m)) (some (.own (.lst xs) n)) Γ = if xs.length < sizeLine then .nx (Γ.set s (.own (.lst (xs ++ [d])) (n && (m || d.flat)))) else .no := rfl
@[simp] theorem dAppS_eq {s : Nat} : dAppS s fa Γ = appSO s ((fa Γ).bind emb) Γ[s]? Γ := by
  unfold dAppS; generalize (fa Γ).bind emb = z; generalize Γ[s]? = y
  cases z with
  | none => rfl
  | some k =>
    obtain ⟨d, n⟩ := k
    cases y with
    | none => rfl
    | some sl =>
      cases sl with
      | own d n => cases d <;> rfl
      | _ => rfl
def retSO : Option (D × Md) → Out
  | some (d, .bor n) => .rt d (.new n)
  | some (d, m) => .rt d m
  | none => .no
@[simp] theorem retSO_f : retSO (some (d, .frz n)) = .rt d (.frz n) := rfl
@[simp] theorem retSO_n : retSO (some (d, .new n)) = .rt d (.new n) := rfl
@[simp] theorem retSO_b : retSO (some (d, .bor n)) = .rt d (.new n) := rfl
@[simp] theorem dRetS_eq : dRetS fa Γ = retSO (fa Γ) := by
  unfold dRetS; generalize fa Γ = z
  cases z with
  | none => rfl
  | some k => obtain ⟨d, m⟩ := k; cases m <;> rfl
def forSO (s : Tg) (h : DenS) : Option (List D × Bool × Bool) → Ev → Out
  | some (ds, n, true), Γ => forGoS n s h ds Γ
  | _, _ => .no
@[simp] theorem forSO_s {s : Tg} : forSO s h (some (xs, n, true)) Γ = forGoS n s h xs Γ := rfl
@[simp] theorem dForS_eq {w : DenI} {s : Tg} : dForS w s h Γ = forSO s h (w Γ) Γ := by
  unfold dForS; generalize w Γ = z
  match z with
  | none => rfl
  | some (_, _, true) => rfl
  | some (_, _, false) => rfl
def lcSO (s : Tg) (t : DenT) (fa : DenE) (Γ : Ev) : Option (List D × Bool × Bool) → Option (List D × Bool)
  | some w => lcGoS w.2.1 s t fa Γ w.1
  | none => none
def lcSR : Option (List D × Bool) → Option (D × Md)
  | some q => if q.1.length ≤ sizeLine then some (.lst q.1, .new q.2) else none
  | none => none
@[simp] theorem lcSO_s {s : Tg} : lcSO s t fa Γ (some (xs, m, n)) = lcGoS m s t fa Γ xs := rfl
@[simp] theorem lcSR_s : lcSR (some (ys, m)) = if ys.length ≤ sizeLine then some (.lst ys, .new m) else none := rfl
@[simp] theorem dLcS_eq {w : DenI} {s : Tg} {vs : List Nat} : dLcS w s t fa vs Γ = lcSR (lcSO s t fa (forget vs Γ) (w Γ)) := by
  unfold dLcS
  cases w Γ with
  | none => rfl
  | some z =>
    show (lcGoS z.2.1 s t fa (forget vs Γ) z.1).bind _ = _
    unfold lcSO
    show (lcGoS z.2.1 s t fa (forget vs Γ) z.1).bind _ = lcSR (lcGoS z.2.1 s t fa (forget vs Γ) z.1)
    cases lcGoS z.2.1 s t fa (forget vs Γ) z.1 <;> rfl
@[simp] theorem forGoS_nil {s : Tg} : forGoS n s h [] Γ = .nx Γ := rfl
@[simp] theorem lcGoS_nil {s : Tg} : lcGoS n s t fa Γ [] = some ([], true) := rfl
end
theorem forS_src {f : DenI} {t : Tg} {h : DenS} {Γ : Ev} {ds : List D} {n : Bool} (e : f Γ = some (ds, n, true)) : dForS f t h Γ = forGoS n t h ds Γ := by unfold dForS; rw [e]
theorem forGoS_fold {α β : Type} {n : Bool} {t : Tg} {h : DenS} (enc : β → D) (st : α → Ev) (step : α → β → α) (P : α → Prop) : ∀ (xs : List β) (a : α), P a →
    (∀ a b, b ∈ xs → P a → ∃ Γ1, asg t (enc b) n (st a) = some Γ1 ∧ (h Γ1 = .nx (st (step a b)) ∨ h Γ1 = .ct (st (step a b))) ∧ P (step a b)) → forGoS n t h (xs.map enc) (st a) = .nx (st (xs.foldl step a)) ∧ P (xs.foldl step a)
  | [], a, p, _ => ⟨rfl, p⟩
  | b :: xs, a, p, hs => by
    obtain ⟨Γ1, e1, e2, p'⟩ := hs a b List.mem_cons_self p
    have ih := forGoS_fold enc st step P xs (step a b) p' fun a' b' m => hs a' b' (List.mem_cons_of_mem _ m)
    refine ⟨?_, ih.2⟩
    show (match asg t (enc b) n (st a) with | none => Out.no | some Γ1 => _) = _
    rw [e1]
    rcases e2 with e2 | e2
    · simp only [e2]; exact ih.1
    · simp only [e2]; exact ih.1
theorem forGoS_foldI {α β : Type} {n : Bool} {t : Tg} {h : DenS} (enc : β → D) (st : α → Ev) (step : α → β → α) (P : Nat → α → Prop) : ∀ (xs : List β) (k : Nat) (a : α), P k a →
    (∀ i a b, xs[i]? = some b → P (k + i) a → ∃ Γ1, asg t (enc b) n (st a) = some Γ1 ∧ (h Γ1 = .nx (st (step a b)) ∨ h Γ1 = .ct (st (step a b))) ∧ P (k + i + 1) (step a b)) → forGoS n t h (xs.map enc) (st a) = .nx (st (xs.foldl step a)) ∧ P (k + xs.length) (xs.foldl step a)
  | [], k, a, p, _ => ⟨rfl, p⟩
  | b :: xs, k, a, p, hs => by
    obtain ⟨Γ1, e1, e2, p'⟩ := hs 0 a b rfl p
    have ih := forGoS_foldI enc st step P xs (k + 1) (step a b) p' fun i a' b' m pp => by
      have := hs (i + 1) a' b' m (by rw [show k + (i + 1) = k + 1 + i by omega]; exact pp)
      rw [show k + (i + 1) + 1 = k + 1 + i + 1 by omega] at this
      exact this
    rw [show k + (b :: xs).length = k + 1 + xs.length by rw [List.length_cons]; omega]
    refine ⟨?_, ih.2⟩
    show (match asg t (enc b) n (st a) with | none => Out.no | some Γ1 => _) = _
    rw [e1]
    rcases e2 with e2 | e2
    · simp only [e2]; exact ih.1
    · simp only [e2]; exact ih.1
theorem forGoS_nx {n : Bool} {t : Tg} {body : DenS} {d : D} {ds : List D} {Γ Γ1 Γ2 : Ev} (e : asg t d n Γ = some Γ1) (h : body Γ1 = .nx Γ2) : forGoS n t body (d :: ds) Γ = forGoS n t body ds Γ2 := by
  rw [forGoS]; simp only [e, h]
theorem forGoS_rt {n : Bool} {t : Tg} {body : DenS} {d r : D} {m : Md} {ds : List D} {Γ Γ1 : Ev} (e : asg t d n Γ = some Γ1) (h : body Γ1 = .rt r m) : forGoS n t body (d :: ds) Γ = .rt r m := by
  rw [forGoS]; simp only [e, h]
/-- a comprehension all of whose things are new -/
theorem lcGoS_enc {β γ : Type} {n : Bool} {t : Tg} {tt : DenT} {el : DenE} {Γ : Ev} (enc : β → D) (p : β → Bool) (f : β → γ) (enc2 : γ → D) : ∀ (xs : List β) (out : List γ), (xs.filter p).map f = out →
    (∀ b ∈ xs, ∃ Γ1, asg t (enc b) n Γ = some Γ1 ∧ tt Γ1 = some (p b) ∧ (p b = true → ∃ k, (el Γ1).bind emb = some (enc2 (f b), k) ∧ (k || (enc2 (f b)).flat) = true)) → lcGoS n t tt el Γ (xs.map enc) = some (out.map enc2, true)
  | [], out, ho, hs => by subst ho; rfl
  | b :: xs, out, ho, hs => by
    obtain ⟨Γ1, e1, e2, e3⟩ := hs b List.mem_cons_self
    have ih := lcGoS_enc (n := n) (t := t) (tt := tt) (el := el) (Γ := Γ) enc p f enc2 xs _ rfl fun b' m => hs b' (List.mem_cons_of_mem _ m)
    subst ho
    show ((asg t (enc b) n Γ).bind fun Γ1 => _) = _
    rw [e1]
    show ((tt Γ1).bind fun b => _) = _
    rw [e2]
    cases hp : p b with
    | false =>
      rw [List.filter_cons, hp]
      exact ih
    | true =>
      obtain ⟨k, e3, e4⟩ := e3 hp
      show (((el Γ1).bind emb).bind fun p => _) = _
      rw [e3]
      show ((lcGoS n t tt el Γ (xs.map enc)).bind fun q => _) = _
      rw [ih, List.filter_cons, hp]
      show some (enc2 (f b) :: _, (k || (enc2 (f b)).flat) && true) = _
      rw [e4]
      rfl
end Dn
namespace Dn
open PySem PySem.Spec L2 PyProof.Rows

/-! ### set(xs) of a list of ints (a walk turned from the kit's one of a tuple) -/
section
variable {P : Program} {w : World} {A : Around} {E : Value → Shared → Prop} {s : Shared}
set_option maxHeartbeats 3200000 in
theorem call_set_lstI {l : Addr} {items : Array Value} (ns : List Int) {Q : Value → Shared → Prop} (hh : A.handled = none) (hl : s.heap.IsList l items) (hit : IntsAre items.toList ns) (hb : ns.length + 1 < scanBound)
    (h : ∀ (h' : Heap) (tk c : Nat), SetR w h' s.heap.objs.size (fun j => decide (j ∈ ns)) c → c ≤ ns.length → (∀ b o, s.heap.get? b = some o → h'.get? b = some o) → Q (.ref s.heap.objs.size) { s with heap := h', toks := tk }) :
    wpAny (model P w) A (call (.type "set") [.ref l]) Q E s := by
  have hisz : items.size = ns.length := by
    have q := IntsAre.length hit
    rw [Array.length_toList] at q
    exact q
  obtain ⟨c, tl, hmro⟩ := F.called_set.mro
  have hmade := F.called_set.made
  have hsub := F.called_set.sub
  refine wpAny_call (codeAny_of_tree ?_)
  show wpAny _ _ (callAny (.type "set") _) _ _ _
  refine wpAny_pure ⟨Code.quiet_builtin _ (by decide +kernel), codeAny_builtin F.entry_type_call ?_⟩
  rw [Around.under_plain (weight_type_call_type "set" [.ref l] []) rfl]
  have h1 := F.called_set.notType
  have h2 := F.called_set.canCreate
  have hct := F.typeCall_set_1 (.ref l)
  repeat (any_goals (first | assumption | wp_step))

  refine codeAny_mono (code_set_led1 (.ref l) (E := E) (Q₁ := fun obj s₁ => obj = .ref s.heap.objs.size ∧ s₁ = { s with heap := s.heap.push { cls := .type "set", dict := none, data := .set #[] 0 (.fresh 0 0 (!w.params.followText "set-order")) } }) ⟨rfl, rfl⟩) fun r s₁ hr => ?_
  cases r with
  | error e => exact hr
  | ok fl =>
    cases fl with
    | ret obj =>
      obtain ⟨rfl, rfl⟩ := hr
      have hS : (s.heap.push { cls := .type "set", dict := none, data := .set #[] 0 (.fresh 0 0 (!w.params.followText "set-order")) }).get? s.heap.objs.size = some { cls := .type "set", dict := none, data := .set #[] 0 (.fresh 0 0 (!w.params.followText "set-order")) } := Heap.get?_push_size _ rfl
      have hT : Shared.TypeIs { s with heap := s.heap.push { cls := .type "set", dict := none, data := .set #[] 0 (.fresh 0 0 (!w.params.followText "set-order")) } } (.ref s.heap.objs.size) "set" := ⟨_, hS, rfl⟩
      have hli := F.called_set.init.lookup
      have hbi := F.called_set.init.bind (.ref s.heap.objs.size)
      repeat (any_goals (first | assumption | wp_step))

      refine codeAny_mono (codeAny_call_builtin (R := wants (fun r s₂ => r = .none ∧ ∃ h' tk c, s₂ = { s with heap := h', toks := tk } ∧ SetR w h' s.heap.objs.size (fun j => decide (j ∈ ns)) c ∧ c ≤ ns.length ∧
          (∀ b o, s.heap.get? b = some o → h'.get? b = some o)) E) F.called_set.init.plain F.entry_set_init (check_set_init_1 hT ?_)) fun r₂ s₂ hr₂ => ?_
      · obtain ⟨ol, hol, hcl, nl, hdl⟩ := hl
        obtain ⟨ocls, odict, odata, oslots⟩ := ol
        simp only at hcl hdl
        subst hcl; subst hdl
        have hol' : (s.heap.push { cls := .type "set", dict := none, data := .set #[] 0 (.fresh 0 0 (!w.params.followText "set-order")) }).get? l = some { cls := .type "list", dict := odict, data := .seq items nl, slots := oslots } := Heap.get?_push_of_some _ hol
        have hsls := F.sub_list_set
        have hslf := F.sub_list_frozenset
        have hne : (Value.type "list" == Value.type "dict") = false := by decide
        have hl1 : (s.heap.push { cls := .type "set", dict := none, data := .set #[] 0 (.fresh 0 0 (!w.params.followText "set-order")) }).IsList l items := ⟨_, hol', rfl, nl, rfl⟩
        unfold Builtin.«set.__init__» noKeywords Builtin.Frozenset.updateFrom
        generalize hPI : pyIter = PI
        wp_walk
        subst hPI

        refine wpAny_pyIter_list hl1 ?_
        refine wpAny_bind (wpAny_runValue ?_)
        have hlS : l < s.heap.objs.size := Heap.lt_size hol
        have hh3 : A.in1.in1.in1.handled = none := by simp [hh]
        have hz1 : (s.heap.push { cls := .type "set", dict := none, data := .set #[] 0 (.fresh 0 0 (!w.params.followText "set-order")) }).objs.size = s.heap.objs.size + 1 := Heap.size_push ..
        have hneI : l ≠ (s.heap.push { cls := .type "set", dict := none, data := .set #[] 0 (.fresh 0 0 (!w.params.followText "set-order")) }).objs.size := by
          rw [Heap.size_push]; exact Nat.ne_of_lt (Nat.lt_succ_of_lt hlS)
        have hSf : s.heap.objs.size ∉ [(s.heap.push { cls := .type "set", dict := none, data := .set #[] 0 (.fresh 0 0 (!w.params.followText "set-order")) }).objs.size, l] := by
          rw [Heap.size_push]; simp only [List.mem_cons, List.mem_singleton, List.not_mem_nil, or_false, not_or]
          exact ⟨Nat.ne_of_lt (Nat.lt_succ_self _), Nat.ne_of_gt hlS⟩
        have hval : ∀ (i : Nat) (v : Value), items[i]? = some v → ∃ k t, ns[i]? = some k ∧ v = .int k t := fun i v hv => by
          have hi : i < ns.length := by rw [← hisz]; exact (Array.getElem?_eq_some_iff.mp hv).1
          obtain ⟨t, e⟩ := PyProof.Rows.IntsAre.int_at hit i v (by rw [Array.getElem?_toList]; exact hv)
          refine ⟨ns[i], t, List.getElem?_eq_getElem hi, ?_⟩
          rw [e, List.getD_eq_getElem?_getD, List.getElem?_eq_getElem hi] <;> rfl
        refine set_update_ints ((Walks.list hh3 _ l hneI items).toS) s.heap.objs.size
          hSf ns hisz hb hval (items.size - 0) 0 _ (by omega) (Nat.zero_le _)
          ⟨⟨_, Heap.get?_push_size _ rfl, rfl, rfl⟩, (hl1.push _)⟩ ?hS0 ?hR
        case hS0 =>
          have hget : ((s.heap.push { cls := .type "set", dict := none, data := .set #[] 0 (.fresh 0 0 (!w.params.followText "set-order")) }).push { cls := .type "list_iterator", data := .fields #[.ref l, .int 0 0] }).get? s.heap.objs.size
              = some { cls := .type "set", dict := none, data := .set #[] 0 (.fresh 0 0 (!w.params.followText "set-order")) } := Heap.get?_push_of_some _ hS
          exact ⟨0, Nat.le_refl 0, setR_new_at hget⟩
        case hR =>
          intro s' c' hm hc' hS'
          obtain ⟨h', g2, d', tk', os'⟩ := s'
          have eg : g2 = s.gens := hm.gens
          have ed : d' = s.drawn := hm.drawn
          have eo : os' = s.os := hm.os
          subst eg; subst ed; subst eo
          show wpAny _ _ _ _ _ _
          refine wpAny_pure ?_
          show wpAny _ _ (ret Value.none) _ _ _
          rw [hisz] at hc'
          refine wpAny_pure ⟨rfl, h', tk', c', rfl, hS', hc', fun b o e => ?_⟩
          have hb0 : b < s.heap.objs.size := Heap.lt_size e
          have hb1 : b ≠ s.heap.objs.size := Nat.ne_of_lt hb0
          have hb2 : b ≠ (s.heap.push { cls := .type "set", dict := none, data := .set #[] 0 (.fresh 0 0 (!w.params.followText "set-order")) }).objs.size := by
            rw [Heap.size_push]; exact Nat.ne_of_lt (Nat.lt_succ_of_lt hb0)
          exact hm.heap b o (by simp only [List.mem_cons, List.mem_singleton, List.not_mem_nil, or_false, not_or]; exact ⟨hb1, hb2⟩) (Heap.get?_push_of_some _ (Heap.get?_push_of_some _ e))

      · cases r₂ with
        | error e => exact hr₂
        | ok fl₂ =>
          cases fl₂ with
          | ret r =>
            obtain ⟨rfl, h', tk, c', rfl, hS', hc', hk'⟩ := hr₂
            repeat (any_goals (first | assumption | wp_step))
            exact h _ _ _ hS' hc' hk'
          | _ => exact hr₂.elim
    | _ => exact hr.elim
end
section
variable {X : Cx}
def rSetLI (K : PySem.W.Frag) (w : World) : List V → Hp → VK → Prop := fun xs H Q => ∃ (l : Addr) (ns : List Int), xs = [V.ref l] ∧ SqL K H l (ns.map V.int) ∧ ns.length < 64 ∧
  ∀ a c, H a = none → c ≤ ns.length → Q (.ref a) (upd H a (SetO w a (fun j => decide (j ∈ ns)) c))
theorem cr_setLI (hc : X.calm = true) : CallR X (.type "set") (rSetLI X.K X.w) := by
  intro pins s σ H xs us Q I r h
  obtain ⟨l, ns, rfl, hl, hf, q⟩ := h
  rw [Vals.ref1 r]
  obtain ⟨its, rv, pl, hz⟩ := I.list hl
  have hn : H s.heap.objs.size = none := I.hok.fresh (Nat.le_refl _)
  refine call_set_lstI (P := X.prog) (w := X.w) ns (I.ok.hd hc) pl.isList (by simpa using ints_of_vals rv) (by unfold scanBound; omega) fun h' tk c R hcn k => ?_
  exact ⟨.ref s.heap.objs.size, upd H s.heap.objs.size (SetO X.w s.heap.objs.size _ c), I.laid (t' := tk) k (Nat.le_refl _) (setO_new R), rfl, q _ c hn hcn⟩
end
/-! ### sorted(set(xs)), of ints or of tuples of ints -/
def dedI : List Int → List Int
  | [] => []
  | t :: ts => if t ∈ dedI ts then dedI ts else t :: dedI ts
theorem mem_dedI {x : Int} : ∀ {ts : List Int}, x ∈ dedI ts ↔ x ∈ ts
  | [] => .rfl
  | t :: ts => by
    unfold dedI
    by_cases h : t ∈ dedI ts
    · rw [if_pos h, mem_dedI, List.mem_cons]
      exact ⟨.inr, fun z => z.elim (fun e => by rw [e]; exact mem_dedI.mp h) id⟩
    · rw [if_neg h, List.mem_cons, List.mem_cons, mem_dedI]
theorem nodup_dedI : ∀ ts : List Int, (dedI ts).Nodup
  | [] => List.nodup_nil
  | t :: ts => by
    unfold dedI
    by_cases h : t ∈ dedI ts
    · rw [if_pos h]; exact nodup_dedI ts
    · rw [if_neg h]; exact List.nodup_cons.mpr ⟨h, nodup_dedI ts⟩
@[simp] noncomputable def dSortSetI (f : DenE) : DenE := fun Γ => (f Γ).bind fun p => match p.1 with
  | .lst xs => (D.asInts xs).bind fun ns => if ns.length < 64 then some (.lst ((sortI (dedI ns)).map D.int), .new true) else none
  | _ => none
section
variable {X : Cx} {e : Expr} {pos p pos2 p2 : Pos}
theorem de_sortSetI {f : DenE} (hc : X.calm = true) (hu : X.A.units + 64 < cLine) (hm : X.mg "sorted" = none) (hm2 : X.mg "set" = none) (h : DE X e f) (hgl : Gl X "sorted" := by rfl) (hgl2 : Gl X "set" := by rfl)
    (hs2 : starEach [e] X.env = [(false, eval e X.env)] := by rfl)
    (hs : starEach [.Call (.Name "set" p2) [e] [] pos2] X.env = [(false, eval (.Call (.Name "set" p2) [e] [] pos2) X.env)] := by rfl) :
    DE X (.Call (.Name "sorted" p) [.Call (.Name "set" p2) [e] [] pos2] [] pos) (dSortSetI f) := by
  obtain ⟨t, h1, h2⟩ := h
  refine ⟨_, pe_callB (cr_sortedSet hc) hgl hm (by decide +kernel) (pa_cons (pe_callTy (cr_setLI hc) hgl2 hm2 (by decide +kernel) (pa_cons h1 pa_nil (by rw [hs2]; rfl)) (by decide) (by decide) (by rw [hs2]; rfl) (by rfl)) pa_nil (by rw [hs]; rfl)) (by decide) (by decide) (by rw [hs]; rfl) (by rfl), ?_⟩
  intro F0 B F H σ Γ d m Q I e q
  obtain ⟨⟨dx, mx⟩, e1, e2⟩ := bind_some e
  refine h2 F0 B F H σ Γ dx mx _ I e1 fun v F1 H1 X1 r1 => ?_
  have w := r1.vw X1.b
  cases dx with
  | lst xs =>
    obtain ⟨ns, z1, e3⟩ := bind_some e2
    by_cases c : ns.length < 64
    · rw [if_pos c] at e3
      cases e3
      cases w with
      | @lst a vs _ hH r =>
      have q1 := asInts_eq z1
      subst q1
      have r0 := r.ints
      subst r0
      refine ⟨a, ns, rfl, SqL.of hH, c, fun sa n hsa hn => ?_⟩
      have s1 : Same H1 (upd H1 sa (SetO X.w sa (fun j => decide (j ∈ ns)) n)) := same_upd hsa
      refine ⟨sa, _, n, rfl, upd_same, by omega, fun ms b pw mem hl hb => ?_⟩
      have ee : ms = sortI (dedI ns) := by
        refine sortI_uniq ((List.perm_ext_iff_of_nodup (pw.imp fun h => by omega) (nodup_dedI ns)).mpr fun x => ?_) (pw.imp fun h => by omega)
        rw [mem, mem_dedI, decide_eq_true_eq]
      rw [← ee] at q
      have X2 : Ext F1 H1 F1 (upd H1 sa (SetO X.w sa (fun j => decide (j ∈ ns)) n)) := Ext.hi X1.b hsa
      have X3 := Ext.hi (o := .lst (ms.map V.int)) X2.b hb
      have hb1 : H1 b = none := s1.free hb
      refine q _ F1 _ (X1.trans (X2.trans X3)) (.new (X1.b.free hb1) (X1.h.free hb1) ((I.ext X1).sb.free hb1) upd_same (.lst (Reps.ofInts _)))
    · rw [if_neg c] at e3; cases e3
  | _ => cases e2
end
end Dn
namespace Dn
open PySem PySem.Spec L2
open PyProof.Rows hiding St

/-! ### len(set(xs)) of a list of ints -/
section
variable {X : Cx} {e : Expr} {pos p pos2 p2 : Pos}
def rLenSetI (w : World) : List V → Hp → VK → Prop := fun xs H Q => ∃ (a : Addr) (S : Int → Bool) (n : Nat), xs = [V.ref a] ∧ H a = some (SetO w a S n) ∧
  ((∀ ks : List Int, ks.Nodup → (∀ k : Int, k ∈ ks ↔ S k = true) → ks.length = n) → Q (.int (n : Int)) H)
theorem cr_lenSetI : CallR X (.builtin "len") (rLenSetI X.w) := by
  intro pins s σ H vs us Q I r h
  obtain ⟨a, S, n, rfl, ha, q⟩ := h
  have R := setO_get I ha
  rw [Vals.ref1 r]
  obtain ⟨o, es, ep, t, ho, hx, hd, hg, nd, hm, hb, hf, hn, _⟩ := R
  refine call_len_set ho hx hd hf (by unfold scanBound at hb; omega) ?_
  refine ⟨.int (n : Int), H, I.tok _, ⟨s.toks + 1, by rw [hn]⟩, q fun ks k1 k2 => ?_⟩
  have pm : ks.Perm (es.toList.map keyOf) := (List.perm_ext_iff_of_nodup k1 nd).mpr fun k => (k2 k).trans (hm k)
  rw [pm.length_eq, List.length_map, Array.length_toList, hn]
@[simp] noncomputable def dLenSetI (f : DenE) : DenE := fun Γ => (f Γ).bind fun p => match p.1 with
  | .lst xs => (D.asInts xs).bind fun ns => if ns.length < 64 then some (.int ((dedI ns).length : Int), .frz true) else none
  | _ => none
theorem de_lenSetI {f : DenE} (hc : X.calm = true) (hm : X.mg "len" = none) (hm2 : X.mg "set" = none) (h : DE X e f) (hgl : Gl X "len" := by rfl) (hgl2 : Gl X "set" := by rfl)
    (hs2 : starEach [e] X.env = [(false, eval e X.env)] := by rfl)
    (hs : starEach [.Call (.Name "set" p2) [e] [] pos2] X.env = [(false, eval (.Call (.Name "set" p2) [e] [] pos2) X.env)] := by rfl) :
    DE X (.Call (.Name "len" p) [.Call (.Name "set" p2) [e] [] pos2] [] pos) (dLenSetI f) := by
  obtain ⟨t, h1, h2⟩ := h
  refine ⟨_, pe_callB cr_lenSetI hgl hm (by decide +kernel) (pa_cons (pe_callTy (cr_setLI hc) hgl2 hm2 (by decide +kernel) (pa_cons h1 pa_nil (by rw [hs2]; rfl)) (by decide) (by decide) (by rw [hs2]; rfl) (by rfl)) pa_nil (by rw [hs]; rfl)) (by decide) (by decide) (by rw [hs]; rfl) (by rfl), ?_⟩
  intro F0 B F H σ Γ d m Q I e q
  obtain ⟨⟨dx, mx⟩, e1, e2⟩ := bind_some e
  refine h2 F0 B F H σ Γ dx mx _ I e1 fun v F1 H1 X1 r1 => ?_
  have w := r1.vw X1.b
  cases dx with
  | lst xs =>
    obtain ⟨ns, z1, e3⟩ := bind_some e2
    by_cases c : ns.length < 64
    · rw [if_pos c] at e3
      cases e3
      cases w with
      | @lst a vs _ hH r =>
      have q1 := asInts_eq z1
      subst q1
      have r0 := r.ints
      subst r0
      refine ⟨a, ns, rfl, SqL.of hH, c, fun sa n hsa hn => ?_⟩
      refine ⟨sa, _, n, rfl, upd_same, fun hcard => ?_⟩
      have hl := hcard (dedI ns) (nodup_dedI ns) fun k => by rw [mem_dedI, decide_eq_true_eq]
      rw [hl] at q
      have X2 : Ext F1 H1 F1 (upd H1 sa (SetO X.w sa (fun j => decide (j ∈ ns)) n)) := Ext.hi X1.b hsa
      exact q _ F1 _ (X1.trans X2) (.frz (.int _))
    · rw [if_neg c] at e3; cases e3
  | _ => cases e2
end
end Dn
namespace Dn
open PySem PySem.Spec L2
open PyProof.Rows hiding St

/-! ### sorted(xs) of any data that are alike -/
section
variable {X : Cx}
def rSortedDat (K : PySem.W.Frag) : List V → Hp → VK → Prop := fun vs H Q => ∃ (a : Addr) (L : List (V × D)), vs = [V.ref a] ∧ SqL K H a (L.map (·.1)) ∧ (∀ q ∈ L, Dp K H q.1 q.2.py ∧ q.2.py.depth ≤ 50) ∧
  PySem.W.AllAlike (L.map fun q => q.2.py) ∧ PySem.W.Sortable (L.map fun q => q.2.py) ∧
  ∀ p, H p = none → Q (.ref p) (upd H p (.lst ((L.mergeSort (PySem.W.dataLe false fun q : V × D => q.2.py)).map (·.1))))
theorem each_zip {s : Shared} : ∀ {L : List (V × D)} {its : List Value}, Vals (L.map (·.1)) its → PySem.W.EachIs (fun v (q : V × D) => RelV q.1 v) its L
  | [], _, h => by cases h; exact .nil
  | q :: L, _, h => by
    cases h with
    | cons r t => exact .cons r (each_zip (s := s) t)
theorem vals_each : ∀ {L : List (V × D)} {out : List Value}, PySem.W.EachIs (fun v (q : V × D) => RelV q.1 v) out L → Vals (L.map (·.1)) out
  | _, _, .nil => .nil
  | _, _, .cons r t => .cons r (vals_each t)
theorem each_imp {R R' : Value → (V × D) → Prop} : ∀ {L : List (V × D)} {out : List Value}, PySem.W.EachIs R out L → (∀ v, ∀ q ∈ L, R v q → R' v q) → PySem.W.EachIs R' out L
  | _, _, .nil, _ => .nil
  | _, _, .cons r t, h => .cons (h _ _ List.mem_cons_self r) (each_imp t fun v q m => h v q (List.mem_cons_of_mem _ m))
theorem cr_sortedDat (hu : X.A.units + 64 < cLine) : CallR X (.builtin "sorted") (rSortedDat X.K) := by
  intro pins s σ H vs us Q I r h
  obtain ⟨a, L, rfl, hs, hx, al, so, q⟩ := h
  obtain ⟨its, rv, hl, hz⟩ := I.list hs
  rw [Vals.ref1 r]
  have e := each_zip (s := s) rv
  have er : PySem.W.EachIs (fun v (q : V × D) => ∃ as, Reads s.heap v q.2.py as) its L := each_imp e fun v q0 m rr => Dp.reads I q0.2.py q0.1 v (hx q0 m).1 rr
  rw [List.length_map] at hz
  refine PySem.W.sorted_data (vs := its) (bs := L) (enc := fun q : V × D => q.2.py) hl.isList e er al so hz (fun q0 hq => by have := (hx q0 hq).2; omega) fun out hlen he => ?_
  obtain ⟨n, hn⟩ := sortedAll_at s.heap its out.toArray
  have hd : s.heap.objs.size ≤ s.heap.objs.size + 1 := Nat.le_succ _
  refine ⟨.ref _, upd H (s.heap.objs.size + 1) (.lst _), I.laid (t' := s.toks) (fun b o e => sortedAll_old e) hd ⟨?_, out, n, vals_each he, hn⟩, rfl, q (s.heap.objs.size + 1) (I.hok.fresh hd)⟩
  rw [List.length_map, (List.mergeSort_perm ..).length_eq]
  exact hz
end
def dsort (xs : List D) : List D := xs.mergeSort (PySem.W.dataLe false D.py)
def SortD (xs : List D) : Prop := (∀ d ∈ xs, d.pl 20 = true) ∧ PySem.W.AllAlike (xs.map D.py) ∧ PySem.W.Sortable (xs.map D.py)
noncomputable instance (xs : List D) : Decidable (SortD xs) := Classical.propDecidable _
noncomputable def sortDatF : Fc := fc1 fun
  | .lst xs, n => if SortD xs then some (.lst (dsort xs), .new n) else none
  | _, _ => none
theorem Reps.zip {g : Gc} {F : Hp} {A : Addr → Prop} : ∀ {xs : List D} {vs : List V}, Reps g F A xs vs → ∃ L : List (V × D), L.map (·.1) = vs ∧ L.map (·.2) = xs ∧ ∀ q ∈ L, Rep g F A q.2 q.1
  | _, _, .nil => ⟨[], rfl, rfl, fun _ h => nomatch h⟩
  | _, _, .cons (x := d) (v := v) h r => by
    obtain ⟨L, h1, h2, h3⟩ := Reps.zip r
    refine ⟨(v, d) :: L, by rw [List.map_cons, h1], by rw [List.map_cons, h2], fun q hq => ?_⟩
    rcases List.mem_cons.mp hq with rfl | hq
    · exact h
    · exact h3 q hq
theorem Reps.ofZip {g : Gc} {F : Hp} {A : Addr → Prop} : ∀ {L : List (V × D)}, (∀ q ∈ L, Rep g F A q.2 q.1) → Reps g F A (L.map (·.2)) (L.map (·.1))
  | [], _ => .nil
  | q :: L, h => .cons (h q List.mem_cons_self) (Reps.ofZip fun q' m => h q' (List.mem_cons_of_mem _ m))
section
variable {X : Cx}
theorem cd_sortDat (hu : X.A.units + 64 < cLine) : CallD X (.builtin "sorted") sortDatF := by
  refine ⟨_, cr_sortedDat hu, ?_⟩
  intro B F H ds vs d m Q s sb w e q
  match ds, vs, w, e with
  | [], _, _, e => cases e
  | _ :: _ :: _, _, _, e => cases e
  | [(dx, n)], [v], .cons w .nil, e =>
    cases w with
    | @lst a vs xs h r =>
      have e : (if SortD xs then some (D.lst (dsort xs), Md.new n) else none) = some (d, m) := e
      by_cases c : SortD xs
      · rw [if_pos c] at e
        cases e
        obtain ⟨c1, c2, c3⟩ := c
        obtain ⟨L, l1, l2, l3⟩ := r.zip
        subst l1
        subst l2
        rw [List.map_map] at c2 c3
        refine ⟨a, L, rfl, SqL.of h, fun q0 hq => ?_, c2, c3, fun p hp => ?_⟩
        · have p0 := c1 q0.2 (List.mem_map.mpr ⟨q0, hq, rfl⟩)
          have := (pl_plain 20 q0.2 p0).2
          exact ⟨(l3 q0 hq).dp s p0, by omega⟩
        · have hm : (L.mergeSort (PySem.W.dataLe false fun q : V × D => q.2.py)).map (·.2) = dsort (L.map (·.2)) := List.map_mergeSort fun a _ b _ => rfl
          rw [← hm] at q
          exact q _ F _ (Ext.hi s hp) (.new (s.free hp) hp (sb.free hp) upd_same (.lst (Reps.ofZip fun q0 hq => l3 q0 ((List.mergeSort_perm ..).mem_iff.mp hq))))
      · rw [if_neg c] at e; cases e
    | _ => cases e
end
/-! ### < of data that are alike -/
section
variable {X : Cx}
theorem op_ltP (hu : X.A.units + 64 < cLine) : OpR X (compareOp .Lt) (rCmpP X.K fun d e => PySem.W.dataLt d e) := by
  intro pins s σ H x y v u Q I rx ry h
  obtain ⟨d, e, hd, he, al, hn, dd, q⟩ := h
  obtain ⟨as, r1⟩ := Dp.reads I d x v hd rx
  obtain ⟨bs, r2⟩ := Dp.reads I e y u he ry
  exact PySem.W.lt_data r1 r2 al hn (by have := Nat.min_le_left d.depth e.depth; omega) ⟨.bl _, H, I, rfl, q⟩
noncomputable def ltP : F2 := fun a _ b _ => open Classical in if a.pl 20 = true ∧ b.pl 20 = true ∧ PySem.W.alike a.py b.py = true ∧ a.py ≠ .none then some (.bl (PySem.W.dataLt a.py b.py), .frz true) else none
theorem od_ltP (hu : X.A.units + 64 < cLine) : OpD X (compareOp .Lt) ltP := by
  refine ⟨_, op_ltP hu, ?_⟩
  intro B F H dx dy ax ay x y d m Q s sb vx vy e' q
  unfold ltP at e'
  split at e'
  · rename_i c
    obtain ⟨c1, c2, c3, c4⟩ := c
    cases e'
    have := (pl_plain 20 dx c1).2
    exact ⟨dx.py, dy.py, vx.dp s c1, vy.dp s c2, c3, c4, by omega, fin_sc s (.bl _) q⟩
  · cases e'
end
@[simp] theorem sortDatF_1 {xs : List D} {n : Bool} (h : SortD xs) : sortDatF [(.lst xs, n)] = some (.lst (dsort xs), .new n) := by
  show (if SortD xs then some (D.lst (dsort xs), Md.new n) else none) = _
  rw [if_pos h]
theorem dsort_perm (xs : List D) : (dsort xs).Perm xs := List.mergeSort_perm ..
end Dn
namespace Dn
open PySem PySem.Spec L2
open PyProof.Rows hiding St
section
variable {g : Gc} {X : Cx} {e a b c tg : Expr} {p pos : Pos} {st : Stmt}
/-! ### what is never reached -/
def dNever : DenS := fun _ => .no
theorem ds_never : DS X st dNever := ⟨_, ps_never, fun _ _ _ _ _ _ _ _ q => q.elim⟩

/-! ### ranges by a name -/
theorem cr_range1 : CallR X (.type "range") (fun vs H Q => ∃ j, vs = [V.int j] ∧ ∀ p, H p = none → Q (.ref p) (upd H p (.rng 0 j))) := by
  intro pins s σ H vs us Q I r h
  obtain ⟨j, rfl, q⟩ := h
  cases r with
  | cons ri rr =>
  cases rr
  obtain ⟨t, rfl⟩ := ri
  refine call_range_1 ⟨.ref s.heap.objs.size, upd H s.heap.objs.size (.rng 0 j), I.laid (t' := s.toks + 2) (fun b o e => Heap.get?_push_of_some _ e) (Nat.le_refl _) ?_, rfl, q _ (I.hok.fresh (Nat.le_refl _))⟩
  exact ⟨_, _, _, Heap.get?_push_size _ rfl⟩
theorem EnvR.setRng {F0 B F H : Hp} {σ : St} {Γ : Ev} {i : Nat} {n : Int} {p : Addr} (I : EnvR g F0 B F H σ Γ) (hp : H p = none) :
    Ext F H (upd F p (.rng 0 n)) (upd H p (.rng 0 n)) ∧ EnvR g F0 B (upd F p (.rng 0 n)) (upd H p (.rng 0 n)) (σ.set i (some (.ref p))) (Γ.set i (.rng n)) := by
  have X1 := Ext.both (o := HO.rng 0 n) I.x.b hp
  refine ⟨X1, ?_⟩
  obtain ⟨R, q, s⟩ := (I.ext X1).reg
  refine ⟨(I.ext X1).x, by rw [List.length_set, List.length_set]; exact I.len, R, q, fun j sl e => ?_⟩
  by_cases hj : i = j
  · subst hj
    have hl : i < Γ.length := by
      have := List.getElem?_eq_some_iff.mp e
      obtain ⟨z, _⟩ := this
      simpa using z
    rw [List.getElem?_set_self hl] at e
    cases e
    rw [List.getElem?_set_self (by rw [I.len]; exact hl)]
    exact ⟨p, rfl, upd_same ..⟩
  · rw [List.getElem?_set_ne hj] at e ⊢
    exact s j sl e
def dSetR (i : Nat) (f : DenE) : DenS := fun Γ => match f Γ with
  | some (.int n, _) => .nx (Γ.set i (.rng n))
  | _ => .no
theorem ds_setR (i : Nat) {x : Str} {pos' q1 q2 : Pos} {f : DenE} (hN : X.N.Nodup) (hm : X.mg "range" = none) (he : DE X e f) (hg : Gl X "range" := by rfl) (hi : X.N[i]? = some x := by rfl) (hx : Loc X.env.scope x := by first | exact Or.inl rfl | exact Or.inr rfl)
    (hs : swapsWith (.Call (.Name "range" q1) [e] [] q2) (some (.Name x pos')) pos.line X.env = pure false := by rfl)
    (hse : starEach (e :: []) X.env = (false, eval e X.env) :: starEach [] X.env := by rfl)
    (hf : X.fn x = true ∨ X.env.scope.names.lookup x = some .local := by first | exact .inl rfl | exact .inr rfl) : DS X (.Assign [.Name x pos'] (.Call (.Name "range" q1) [e] [] q2) pos) (dSetR i f) := by
  obtain ⟨t, h1, h2⟩ := he
  have pa : PA X [e] (tCons t tNil) := pa_cons h1 pa_nil hse
  refine ⟨_, ps_set hN hi hx (pe_callTy cr_range1 hg hm (by decide +kernel) pa (he := hse)) hs hf, ?_⟩
  intro F0 B F H σ Γ E I q
  unfold dSetR at q
  cases z : f Γ with
  | none => rw [z] at q; exact q.elim
  | some w =>
    obtain ⟨d, m⟩ := w
    rw [z] at q
    cases d with
    | int n =>
      refine h2 F0 B F H σ Γ _ m _ I z fun v F1 H1 X1 r1 => ?_
      have hv : v = .int n := by
        cases r1 with
        | frz r => cases r; rfl
        | new h1 h2 h3 h4 h5 => cases h5
        | bor h1 h2 h3 h5 => cases h5
      subst hv
      refine ⟨n, rfl, fun p hp => ?_⟩
      obtain ⟨X2, I2⟩ := (I.ext X1).setRng (i := i) (n := n) hp
      exact q _ _ _ I2 (X1.f.trans X2.f)
    | _ => exact q.elim
/-- for k in x, x a range -/
def iRngV (tl : TE) : TI := fun σ H R => tl σ H fun x H1 => ∃ (p : Addr) (n : Int), x = .ref p ∧ H1 p = some (.rng 0 n) ∧ n < 2 ^ 62 ∧ -(2 ^ 62) ≤ n ∧ R (Itr 0 n.toNat) H1
theorem range_itO {pins : List (Addr × Obj)} {σ : St} {H : Hp} {s : Shared} {R : It → Hp → Prop} {E : Value → Shared → Prop} {a : Addr} {hi : Int} {t u v : Tok} (I : Inv X pins σ H s) (e : s.heap.get? a = some { cls := .type "range", data := .fields #[.int 0 t, .int hi u, .int 1 v] }) (h3 : -(2 ^ 62) ≤ hi) (h4 : hi < 2 ^ 62)
    (q : R (Itr 0 hi.toNat) H) : wpAny (model X.prog X.w) X.A (pyIter (.ref a)) (PIE X pins σ tg R) E s := by
  refine wpAny_pyIter_range e (small_one (by omega) (by omega) h3 h4) ?_
  refine ⟨s.heap.objs.size, [s.heap.objs.size], _, _, H, rfl, I.kept (t' := s.toks) fun b o e => Heap.get?_push_of_some _ e, turn_range _ 0 hi.toNat, ?_, fun b hb => ?_, q⟩
  · have e1 : (0 : Int) + ((0 : Nat) : Int) * 1 = 0 := by simp
    have e2 : ((hi.toNat : Nat) : Int) - ((0 : Nat) : Int) = Builtin.Range.rangeSize 0 hi 1 := by rw [rangeSize_one]; split <;> omega
    show IsRangeIter _ _ ((0 : Int) + ((0 : Nat) : Int) * 1) (((hi.toNat : Nat) : Int) - ((0 : Nat) : Int)) 1
    rw [e1, e2]
    exact Heap.get?_push_size _ rfl
  · have e : b = s.heap.objs.size := by simpa using hb
    subst e
    exact I.fpOk (Nat.le_refl _) (I.hok.fresh (Nat.le_refl _))
theorem pi_rngV {l : Expr} {tl : TE} (hl : PE X l tl) : PI X tg l (iRngV tl) := by
  refine ⟨fun pins s σ H R I h => ?_⟩
  refine thn (hl.run pins s σ H _ I h) fun v s1 ⟨x, H1, I1, r1, q1⟩ => ?_
  obtain ⟨p, n, e, hq, h1, h2, q⟩ := q1
  subst e
  cases r1
  obtain ⟨t, u, w, ho⟩ := I1.hok _ _ hq
  exact range_itO I1 ho h2 h1 q
@[simp] noncomputable def dRngV (i : Nat) : DenI := fun Γ => match Γ[i]? with
  | some (.rng n) => if rOk n then some (rngD 0 n.toNat, true, true) else none
  | _ => none
theorem di_rngV (i : Nat) {x : Str} (hN : X.N[i]? = some x := by rfl) (hv : Vis X.env.scope x := by first | exact Or.inl rfl | exact Or.inr (Or.inl rfl) | exact Or.inr (Or.inr rfl)) (hd : (x == ("__debug__" : Str)) = false := by decide)
    (hcd : (x == ("__classdict__" : Str)) = false := by decide) : DI X tg (.Name x pos) (dRngV i) := by
  refine ⟨_, pi_rngV (pe_var hN hv hd hcd), ?_⟩
  intro F0 B F H σ Γ ds n fz Q I ez q
  unfold dRngV at ez
  obtain ⟨R, rg, s⟩ := id I.reg
  cases z : Γ[i]? with
  | none => rw [z] at ez; cases ez
  | some sl =>
    rw [z] at ez
    cases sl with
    | rng k =>
      have ez : (if rOk k then some (rngD 0 k.toNat, true, true) else none) = some (ds, n, fz) := ez
      by_cases c : rOk k
      · rw [if_pos c] at ez
        cases ez
        obtain ⟨a, ha, hF⟩ := s i _ z
        have hv' : σ[i]? = some (some (.ref a)) := by
          cases w : σ[i]? with
          | none => rw [w] at ha; cases ha
          | some u => rw [w] at ha; rw [show u = some (.ref a) by simpa using ha]
        exact ⟨.ref a, hv', a, k, rfl, I.x.b _ _ hF, c.2, c.1, q _ F H (.refl I.x.b) rng_it⟩
      · rw [if_neg c] at ez; cases ez
    | _ => cases ez

/-! ### x[k] op= e, whole numbers -/
def rGetL : V → V → Hp → VK → Prop := fun o i H Q => ∃ p xs k v, o = .ref p ∧ i = .int k ∧ H p = some (.lst xs) ∧ atI xs k = some v ∧ Q v H
theorem get_list : PGet X rGetL := by
  intro pins s σ H o i ov iv Q I rx ry h
  obtain ⟨p, xs, i, z, rfl, rfl, hq, he, q⟩ := h
  cases rx
  obtain ⟨t, rfl⟩ := ry
  obtain ⟨its, r, pl, hz⟩ := I.list (SqL.of hq)
  obtain ⟨j, h1, h2, h3, h4, h5⟩ := atI_get he
  obtain ⟨w, ew, rw'⟩ := r.get h2
  have hl := r.length
  have hn := line63
  have fin : EP X pins σ Q w s := ⟨z, H, I, rw', q⟩
  by_cases h0 : 0 ≤ i
  · have hj : i.toNat = j := by
      rw [seqIndex_of h0 h5] at h1
      exact Option.some.inj h1
    exact wpAny_getItem_list pl.isList h0 (by omega) (by rw [hj]; simpa using ew) fin
  · have hj : (i + (its.toArray.size : Int)).toNat = j := by
      rw [seqIndex_neg (by omega) h4] at h1
      rw [List.size_toArray, ← hl]
      exact Option.some.inj h1
    exact wpAny_getItem_list_neg pl.isList (by omega) (by rw [List.size_toArray, ← hl]; exact h4) (by omega) (by rw [hj]; simpa using ew) fin
def augItem (s : Slot) (k : D) (f : F2) (y : Option (D × Md)) : Option Slot := match s, k with
  | .own (.lst xs) _, .int k => (ixN xs.length k).bind fun j => (xs[j]?).bind fun o => (y.bind fun q => f o false q.1 q.2.nw).bind fun r => match r with
    | (d, .frz _) => some (.own (.lst (xs.set j d)) false)
    | _ => none
  | _, _ => none
def dAugI (i : Nat) (fi : DenE) (f : F2) (h : DenE) : DenS := fun Γ => match (fi Γ).bind fun q => (Γ[i]?).bind fun s => augItem s q.1 f (h Γ) with
  | some s => .nx (Γ.set i s)
  | none => .no
theorem ds_augI (i : Nat) {x : Str} {xp tpos : Pos} {op : Operator} {ie : Expr} {fi h : DenE} {f : F2} (hi : DE X ie fi) (ho : IpD X op f) (he : DE X e h) (hN : X.N[i]? = some x := by rfl) (hvis : Vis X.env.scope x := by first | exact Or.inl rfl | exact Or.inr (Or.inl rfl) | exact Or.inr (Or.inr rfl)) (hd : (x == ("__debug__" : Str)) = false := by decide)
    (hcd : (x == ("__classdict__" : Str)) = false := by decide)
    (ha : ∀ ov iv new, augStore ie ov iv new = (do holding [new, ov, iv] (setItem ov iv new); release [new, ov, iv] []; pure .next) := by intros; rfl) :
    DS X (.AugAssign (.Subscript (.Name x xp) ie tpos) op e pos) (dAugI i fi f h) := by
  obtain ⟨ti, i1, i2⟩ := hi
  obtain ⟨r, o1, o2⟩ := ho
  obtain ⟨t, h1, h2⟩ := he
  refine ⟨_, ps_augS (pe_var hN hvis hd hcd) i1 get_list h1 o1 set_list ha, ?_⟩
  intro F0 B F H σ Γ E I q
  unfold dAugI at q
  cases z : (fi Γ).bind fun q => (Γ[i]?).bind fun s => augItem s q.1 f (h Γ) with
  | none => rw [z] at q; exact q.elim
  | some s =>
    rw [z] at q
    obtain ⟨⟨di, mi⟩, e2, z⟩ := bind_some z
    obtain ⟨s0, e3, z⟩ := bind_some z
    have hown : ∃ xs n0 k, s0 = .own (.lst xs) n0 ∧ di = .int k := by
      unfold augItem at z
      cases s0 with
      | own dd n0 =>
        cases dd with
        | lst xs =>
          cases di with
          | int k => exact ⟨xs, n0, k, rfl, rfl⟩
          | _ => cases z
        | _ => cases z
      | _ => cases z
    obtain ⟨xs, n0, k, rfl, rfl⟩ := hown
    have z : ((ixN xs.length k).bind fun j => (xs[j]?).bind fun o => ((h Γ).bind fun q => f o false q.1 q.2.nw).bind fun r => match r with
      | (d, .frz _) => some (Slot.own (.lst (xs.set j d)) false)
      | _ => none) = some s := z
    obtain ⟨j, ej, z⟩ := bind_some z
    obtain ⟨od, eo, z⟩ := bind_some z
    obtain ⟨⟨nd, nm⟩, ef, z⟩ := bind_some z
    cases nm with
    | new n => cases z
    | bor n => cases z
    | frz nn =>
    have z : some (Slot.own (.lst (xs.set j nd)) false) = some s := z
    cases z
    obtain ⟨⟨yd, ym⟩, ey, ef⟩ := bind_some ef
    obtain ⟨p, o, hp, hH, hF, r⟩ := I.own e3
    cases r with
    | @lst vs _ r =>
    refine ⟨.ref p, hp, ?_⟩
    refine i2 F0 B F H σ Γ _ mi _ I e2 fun y F1 H1 X1 r1 => ?_
    have hy : y = .int k := by
      have w := r1.vw X1.b
      cases w; rfl
    subst hy
    have I1 := I.ext X1
    have hH1 := X1.h _ _ hH
    have lv : vs.length = xs.length := r.length.symm
    obtain ⟨ov, eov, rov⟩ := r.get eo
    refine ⟨p, vs, k, ov, rfl, rfl, hH1, ?_, ?_⟩
    · unfold atI
      rw [lv, ej]; exact eov
    refine h2 F0 B F1 H1 σ Γ yd ym _ I1 ey fun w F2 H2 X2 r2 => ?_
    have I2 := I1.ext X2
    refine o2 B F2 H2 od yd false ym.nw ov w nd (.frz nn) _ X2.b I2.sb ((rov.mono (X1.f.trans X2.f) wkP).vw X2.b) (r2.vw X2.b) ef fun zv F3 H3 X3 r3 => ?_
    have I3 := I2.ext X3
    have hH3 := X3.h _ _ (X2.h _ _ hH1)
    refine ⟨p, vs, k, j, rfl, rfl, hH3, by rw [lv]; exact ej, ?_⟩
    cases r3 with
    | frz r3 =>
      refine q σ F3 _ (I3.mut e3 hp (.lst ?_)) ((X1.f.trans X2.f).trans X3.f)
      exact Reps.set (r3.mono (.refl _) wkP) j (r.mono ((X1.f.trans X2.f).trans X3.f) wkP)
end
end Dn
namespace Dn
open PySem PySem.Spec L2
open PyProof.Rows hiding St
section
variable {g : Gc} {X : Cx} {a b : Expr}
/-! ### xs.index(k), whole numbers -/
def idxD (x y : D) : Option (D × Md) := match y with
  | .int k => x.intsOf.bind fun ns => (ns.findIdx? fun n => decide (n = k)).map fun j => (.int ((j : Nat) : Int), .frz true)
  | _ => none
@[simp] theorem idxD_ints {ns : List Int} {k : Int} : idxD (.lst (ns.map D.int)) (.int k) = (ns.findIdx? fun n => decide (n = k)).map fun j => (.int ((j : Nat) : Int), .frz true) := by
  show (D.intsOf (.lst (ns.map D.int))).bind _ = _
  rw [show D.intsOf (.lst (ns.map D.int)) = some ns by simp]; rfl
@[simp] def dIndex (fo fa : DenE) : DenE := fun Γ => (fo Γ).bind fun p => (fa Γ).bind fun q => idxD p.1 q.1
theorem de_index {fo fa : DenE} {apos cpos : Pos} (h1 : DE X a fo) (h2 : DE X b fa)
    (hbase : attributeBase a "index" X.env (eval a X.env) = eval a X.env := by rfl)
    (hfew : ((backTo cpos (starEach (b :: []) X.env)).all (fun x => !x.1) && (backToKw cpos (keywordEach [] X.env)).all (fun x => x.1.isSome)
      && decide ((b :: []).length + ([] : List Keyword).length + (if ([] : List Keyword).isEmpty then 0 else 1) < 30)) = true := by rfl)
    (hline : (apos.endLine == cpos.line) = true := by rfl) (hs : starEach (b :: []) X.env = (false, eval b X.env) :: starEach [] X.env := by rfl) (hplain : (backTo cpos (starEach [] X.env)).any (·.1) = false := by rfl) :
    DE X (.Call (.Attribute a "index" apos) [b] [] cpos) (dIndex fo fa) := by
  obtain ⟨t1, a1, a2⟩ := h1
  obtain ⟨t2, b1, b2⟩ := h2
  refine ⟨_, pe_bm PySem.F.plainAttrs_list PySem.F.slot_list_index PySem.F.type_list_index mt_index a1 (pa_cons b1 pa_nil hs) hbase hfew hline hs hplain, ?_⟩
  intro F0 B F H σ Γ d m Q I e q
  obtain ⟨⟨d1, m1⟩, e1, e⟩ := bind_some e
  obtain ⟨⟨d2, m2⟩, e2, e⟩ := bind_some e
  have e : idxD d1 d2 = some (d, m) := e
  cases d2 with
  | int k =>
    have e : (d1.intsOf.bind fun ns => (ns.findIdx? fun n => decide (n = k)).map fun j => (D.int ((j : Nat) : Int), Md.frz true)) = some (d, m) := e
    cases z : d1.intsOf with
    | none => rw [z] at e; cases e
    | some ns =>
    rw [z] at e
    have e : (ns.findIdx? fun n => decide (n = k)).map (fun j => (D.int ((j : Nat) : Int), Md.frz true)) = some (d, m) := e
    cases zj : ns.findIdx? fun n => decide (n = k) with
    | none => rw [zj] at e; cases e
    | some j =>
    rw [zj] at e
    cases e
    refine a2 F0 B F H σ Γ d1 m1 _ I e1 fun v F1 H1 X1 r1 => ?_
    obtain ⟨p, rfl, sq⟩ := (r1.vw X1.b).intsOf z
    refine ⟨?_, b2 F0 B F1 H1 σ Γ _ m2 _ (I.ext X1) e2 fun w F2 H2 X2 r2 => ?_⟩
    · exact .inl ⟨rfl, _, sq⟩
    · have hw : w = .int k := by
        have w := r2.vw X2.b
        cases w; rfl
      subst hw
      obtain ⟨hj, hp, hno⟩ := List.findIdx?_eq_some_iff_getElem.mp zj
      have hp : ns[j] = k := of_decide_eq_true hp
      refine ⟨p, ns.map V.int, .int k, j, .int k, rfl, rfl, sq.imp (fun h => h.imp (fun h => X2.h _ _ h) fun ⟨o, h⟩ => ⟨o, X2.h _ _ h⟩) id, rfl, ?_, ?_, ?_, ?_, q _ F2 H2 (X1.trans X2) (.frz (.int _))⟩
      · rw [List.all_map, List.all_eq_true]; intro x _; rfl
      · rw [List.getElem?_map, List.getElem?_eq_getElem hj, hp]; rfl
      · simp [eqV]
      · intro i z' hi hz
        rw [List.getElem?_map] at hz
        have hi' : i < ns.length := by omega
        rw [List.getElem?_eq_getElem hi'] at hz
        cases hz
        have := hno i hi
        have : ¬ ns[i] = k := by simpa using this
        simp [eqV]
        exact this
  | _ => cases e
end
end Dn
namespace Dn
open PySem PySem.Spec L2
open PyProof.Rows hiding St
/-! ### own exceptions: statements that may raise -/
inductive OutX where
  | o (x : Out) | ex (c : Str) (Γ : Ev)
abbrev DenX := Ev → OutX
def OutXQ (g : Gc) (mv : Str → Value) (W : WX) (F0 B F : Hp) (E : Ends) : OutX → Prop
  | .o x => OutQ g F0 B F E x
  | .ex c Γ => ∀ σ F' H', EnvR g F0 B F' H' σ Γ → Same F F' → W (mv c) none σ H'
def RefX (g : Gc) (mv : Str → Value) (W : WX) (ts : TS) (f : DenX) : Prop := ∀ (F0 B F H : Hp) (σ : St) (Γ : Ev) (E : Ends), EnvR g F0 B F H σ Γ → OutXQ g mv W F0 B F E (f Γ) → ts E σ H
theorem OutXQ.mono {g : Gc} {mv : Str → Value} {W : WX} {F0 B F F' : Hp} {E : Ends} {o : OutX} (h : OutXQ g mv W F0 B F E o) (s : Same F F') : OutXQ g mv W F0 B F' E o := by
  cases o with
  | o x => exact OutQ.mono (o := x) h s
  | ex c Γ => exact fun σ F2 H2 I z => h σ F2 H2 I (s.trans z)
structure DX (X : Cx) (mv : Str → Value) (W : WX) (st : Stmt) (f : DenX) : Prop where
  ex : ∃ ts, PS X st ts ∧ RefX (gX X) mv W ts f
structure DXs (X : Cx) (mv : Str → Value) (W : WX) (st : List Stmt) (f : DenX) : Prop where
  ex : ∃ ts, PSs X st ts ∧ RefX (gX X) mv W ts f
def xUp (f : DenS) : DenX := fun Γ => .o (f Γ)
def xSkip : DenX := fun Γ => .o (.nx Γ)
def xSeq (f h : DenX) : DenX := fun Γ => match f Γ with
  | .o (.nx Γ') => h Γ'
  | r => r
def xIf (t : DenT) (f h : DenX) : DenX := fun Γ => match t Γ with
  | some true => f Γ
  | some false => h Γ
  | none => .o .no
def xRaise (c : Str) : DenX := fun Γ => .ex c Γ
section
variable {g : Gc} {X : Cx} {mv : Str → Value} {W : WX} {e a b c : Expr} {p pos : Pos} {st : Stmt} {rest : List Stmt}
theorem dx_up {f : DenS} (h : DS X st f) : DX X mv W st (xUp f) := by
  obtain ⟨t, h1, h2⟩ := h
  exact ⟨_, h1, fun F0 B F H σ Γ E I q => h2 F0 B F H σ Γ E I q⟩
theorem dx_nil : DXs X mv W [] xSkip := ⟨_, pss_nil, fun F0 B F H σ Γ E I q => q σ F H I (.refl _)⟩
theorem dx_one {f : DenX} (h1 : DX X mv W st f) : DXs X mv W [st] f := by
  obtain ⟨t, a1, a2⟩ := h1
  exact ⟨_, pss_one a1, a2⟩
theorem dx_cons {f h : DenX} (h1 : DX X mv W st f) (h2 : DXs X mv W rest h) : DXs X mv W (st :: rest) (xSeq f h) := by
  obtain ⟨t, a1, a2⟩ := h1
  obtain ⟨u, b1, b2⟩ := h2
  refine ⟨_, pss_cons a1 b1, ?_⟩
  intro F0 B F H σ Γ E I q
  refine a2 F0 B F H σ Γ _ I ?_
  unfold xSeq at q
  cases z : f Γ with
  | ex c Γ' => rw [z] at q; exact q
  | o x =>
    rw [z] at q
    cases x with
    | nx Γ' => exact fun σ' F' H' I' s => b2 F0 B F' H' σ' Γ' E I' (OutXQ.mono (o := h Γ') q s)
    | bk Γ' => exact q
    | ct Γ' => exact q
    | rt d m => exact q
    | no => exact q.elim
theorem dx_if {sa sb : List Stmt} {t : DenT} {f h : DenX} (ht : DT X c t) (ha : DXs X mv W sa f) (hb : DXs X mv W sb h) : DX X mv W (.If c sa sb pos) (xIf t f h) := by
  obtain ⟨u, h1, h2⟩ := ht
  obtain ⟨ua, h3, h4⟩ := ha
  obtain ⟨ub, h5, h6⟩ := hb
  refine ⟨_, ps_if h1 h3 h5, ?_⟩
  intro F0 B F H σ Γ E I q
  unfold xIf at q
  cases z : t Γ with
  | none => rw [z] at q; exact q.elim
  | some k =>
    rw [z] at q
    refine h2 F0 B F H σ Γ k _ I z fun F1 H1 X1 => ?_
    cases k with
    | true => exact h4 F0 B F1 H1 σ Γ E (I.ext X1) (OutXQ.mono (o := f Γ) q X1.f)
    | false => exact h6 F0 B F1 H1 σ Γ E (I.ext X1) (OutXQ.mono (o := h Γ) q X1.f)
abbrev veT : List Value := [.type "ValueError", .type "Exception", .type "BaseException", .type "object"]
/-- what is asked of a class that is raised -/
structure XCls (K : PySem.W.Frag) (C : Addr) : Prop where
  q : PySem.W.excIn K C veT "ValueError.__new__" = true
  k : PySem.W.keepIn K (.ref C) = true
  b : PySem.W.subIn K (.ref C) (.type "BaseException") = some true
  t : PySem.W.typeIn K (.ref C) = some (.type "type")
theorem dx_raise {x m : Str} {C : Addr} {j : Nat} {q p2 pos2 : Pos} (hc : X.calm = true) (tk : Takes X W) (xc : XCls X.K C) (gC : X.mg x = some (.ref C)) (hm : mv x = .ref C) (hg : Gl X x := by rfl) (hd : (x == ("__debug__" : Str)) = false := by decide) :
    DX X mv W (.Raise (some (.Call (.Name x q) [.Constant (.str m) j p2] [] pos2)) none pos) (xRaise x) :=
  ⟨_, ps_raise hc tk (pmk_own PySem.F.excBase_ValueError xc.q gC xc.k (raises_own xc.b xc.t) hg hd), fun F0 B F H σ Γ E I q => by
    have q : W (mv x) none σ H := q σ F H I (.refl _)
    rw [hm] at q
    exact q⟩
/-! ### for, with bodies that may raise -/
def forGoX (t : Tg) (body : DenX) : List D → Ev → OutX
  | [], Γ => .o (.nx Γ)
  | d :: ds, Γ => match asg t d false Γ with
    | none => .o .no
    | some Γ1 => match body Γ1 with
      | .ex c Γ2 => .ex c Γ2
      | .o (.nx Γ2) => forGoX t body ds Γ2
      | .o (.ct Γ2) => forGoX t body ds Γ2
      | .o (.bk Γ2) => .o (.nx Γ2)
      | .o (.rt d m) => .o (.rt d m)
      | .o .no => .o .no
def xFor (f : DenI) (t : Tg) (body : DenX) : DenX := fun Γ => match f Γ with
  | some (ds, _, true) => forGoX t body ds Γ
  | _ => .o .no
theorem dx_for {tg : Expr} {body : List Stmt} {f : DenI} {t : Tg} {h : DenX} (hp : PassesOwn (model X.prog X.w) X.A X.env X.xe) (hc : X.calm = true) (hi : DI X tg e f) (hg : DG X tg t) (hb : DXs X mv W body h)
    (hs : ∀ x, foldedSetIterable e X.env x = pure x := by intro _; rfl) : DX X mv W (.For tg e body [] pos) (xFor f t h) := by
  obtain ⟨wi, i1, i2⟩ := hi
  obtain ⟨wg, g1, g2⟩ := hg
  obtain ⟨wb, b1, b2⟩ := hb
  refine ⟨_, ps_for hp hc i1 g1 b1 hs, ?_⟩
  intro F0 B F H σ Γ E I q
  unfold xFor at q
  cases z : f Γ with
  | none => rw [z] at q; exact q.elim
  | some w =>
    obtain ⟨ds, n, fz⟩ := w
    rw [z] at q
    cases fz with
    | false => exact q.elim
    | true =>
    have q : OutXQ (gX X) mv W F0 B F E (forGoX t h ds Γ) := q
    refine i2 F0 B F H σ Γ ds n true _ I z fun J F1 H1 X1 it => ?_
    refine ⟨fun i m σ' H' => m = ds.length - i ∧ ∃ F' Γ', EnvR (gX X) F0 B F' H' σ' Γ' ∧ Same F1 F' ∧ OutXQ (gX X) mv W F0 B F' E (forGoX t h (ds.drop i) Γ'), ⟨ds.length, by simp, F1, Γ, I.ext X1, .refl _, OutXQ.mono (o := forGoX t h ds Γ) q X1.f⟩, ?_⟩
    rintro i m σ' H' ⟨rfl, F', Γ', I', s', q'⟩
    obtain ⟨j1, j2⟩ := it F' H' s' I'.x.b (fun z => nomatch z)
    by_cases hlt : i < ds.length
    · have hd : ds[i]? = some ds[i] := List.getElem?_eq_getElem hlt
      obtain ⟨jg, jy⟩ := j1 i _ hd
      rw [List.drop_eq_getElem_cons hlt] at q'
      unfold forGoX at q'
      refine .inr ⟨jg, fun σ2 H2 => ∃ F2 Γ2, EnvR (gX X) F0 B F2 H2 σ2 Γ2 ∧ Same F1 F2 ∧ OutXQ (gX X) mv W F0 B F2 E (forGoX t h (ds.drop (i + 1)) Γ2), fun σ2 H2 ⟨F2, Γ2, w1, w2, w3⟩ => ⟨ds.length - (i + 1), by omega, rfl, F2, Γ2, w1, w2, w3⟩, fun x H2 y => ?_⟩
      obtain ⟨F2, X2, rx⟩ := jy x H2 y
      cases za : asg t ds[i] false Γ' with
      | none => rw [za] at q'; exact q'.elim
      | some Γ1 =>
      rw [za] at q'
      refine g2 F0 B F2 H2 σ' Γ' _ false x Γ1 _ (I'.ext X2) (rx.mono (.refl _) wkP) za fun σ1 I1 _ => ?_
      have q' : OutXQ (gX X) mv W F0 B F' E (match h Γ1 with
        | .ex c Γ2 => .ex c Γ2
        | .o (.nx Γ2) => forGoX t h (ds.drop (i + 1)) Γ2
        | .o (.ct Γ2) => forGoX t h (ds.drop (i + 1)) Γ2
        | .o (.bk Γ2) => .o (.nx Γ2)
        | .o (.rt d m) => .o (.rt d m)
        | .o .no => .o .no) := q'
      refine b2 F0 B F2 H2 σ1 Γ1 _ I1 ?_
      cases zb : h Γ1 with
      | ex c Γ2 => rw [zb] at q'; exact fun σ3 F3 H3 I3 s3 => q' σ3 F3 H3 I3 (X2.f.trans s3)
      | o y =>
        rw [zb] at q'
        cases y with
        | nx Γ2 => exact fun σ3 F3 H3 I3 s3 => ⟨F3, Γ2, I3, (s'.trans X2.f).trans s3, OutXQ.mono (o := forGoX t h (ds.drop (i + 1)) Γ2) q' (X2.f.trans s3)⟩
        | ct Γ2 => exact fun σ3 F3 H3 I3 s3 => ⟨F3, Γ2, I3, (s'.trans X2.f).trans s3, OutXQ.mono (o := forGoX t h (ds.drop (i + 1)) Γ2) q' (X2.f.trans s3)⟩
        | bk Γ2 => exact fun σ3 F3 H3 I3 s3 => q' σ3 F3 H3 I3 (X2.f.trans s3)
        | rt d m => exact q'
        | no => exact q'.elim
    · have hge : ds.length ≤ i := by omega
      rw [List.drop_eq_nil_of_le hge] at q'
      exact .inl ⟨j2 i hge, q' σ' F' H' I' (.refl _)⟩
/-! ### defs that may raise -/
inductive RX where
  | v (d : D) (m : Md) | ex (c : Str)
abbrev FnX := List D → Option RX
def RXQ (g : Gc) (mv : Str → Value) (H F : Hp) (Q : VK) (E : XK) : RX → Prop
  | .v d m => ∀ v F' H', Ext F H F' H' → Res g H H F' H' d v m → Q v H'
  | .ex c => ∀ F' H', Ext F H F' H' → E (mv c) none H'
def spX (g : Gc) (mv : Str → Value) (n : Nat) (φ : FnX) : Sp := fun vs H Q E => vs.length = n ∧ ∃ F ds r, Same F H ∧ Reps g F noA ds vs ∧ φ ds = some r ∧ RXQ g mv H F Q E r
def runX (n N : Nat) (f : DenX) : FnX := fun ds => if ds.length = n then (match f (ds.map (fun d => Slot.val d false) ++ List.replicate (N - n) Slot.no) with
  | .o (.rt d m) => some (.v d m)
  | .o (.nx _) => some (.v .non (.frz false))
  | .ex c _ => some (.ex c)
  | _ => none) else none
theorem runX_len {n N : Nat} {f : DenX} {ds : List D} {x : RX} (h : runX n N f ds = some x) : ds.length = n := by
  unfold runX at h
  by_cases c : ds.length = n
  · exact c
  · rw [if_neg c] at h; cases h
end
theorem fn_okX {P : Program} {w : World} {K : PySem.W.Frag} {mg : Str → Option Value} {base : Heap} {x qual : Str} {st : Stmt} {f : Addr} {fd : FuncData} {N ps : List Str} {k n m : Nat} {h : DenX} {mv : Str → Value} (F : Fun K x qual st f fd) (S : FnScope N ps (defScope st)) (hn : ps.length = n) (hm : N.length = m)
    (hb : ∀ (cdv : Value) (A : Around) (outer : List Env) (s : Shared) (H : Hp) (E : XK), Room k (A.deeper (envOfC qual (defScope st) s.heap.objs.size f cdv)) → DXs (cxOf (L2.CX P w) P w K mg base N qual (defScope st) f cdv A outer s H E) mv (fun cls d _ H => E cls d H) (defBody st) h) :
    FnOk P w K mg base (L2.CX P w) (k + 1) f fd ps (spX ⟨P, w, K⟩ mv n (runX n m h)) := by
  subst hn hm
  refine Fun.okX F S (fun vs H Q E hsp => hsp.1) (fun cdv A outer s H vs Q E hr hsp => ?_)
  obtain ⟨ts, h1, h2⟩ := hb cdv A outer s H E hr
  refine ⟨ts, h1, ?_⟩
  obtain ⟨hl, F1, ds, rr, s1, r, e, q⟩ := hsp
  have hd : ds.length = ps.length := by rw [r.length]; exact hl
  refine h2 F1 H F1 H (L2.start N vs) (ds.map (fun d => Slot.val d false) ++ List.replicate (N.length - ds.length) Slot.no) _ (start_env s1 r N) ?_
  unfold runX at e
  rw [if_pos hd] at e
  rw [hd]
  cases z : h (ds.map (fun d => Slot.val d false) ++ List.replicate (N.length - ps.length) Slot.no) with
  | ex c Γ => simp only [z] at e; cases e; exact fun σ' F' H' I' _ => q F' H' I'.x
  | o y =>
    cases y with
    | rt d' m' => simp only [z] at e; cases e; exact fun v F' H' X1 r1 => q v F' H' X1 r1
    | nx Γ => simp only [z] at e; cases e; exact fun σ' F' H' I' _ => q .non F' H' I'.x (.frz .non)
    | bk Γ => simp only [z] at e; cases e
    | ct Γ => simp only [z] at e; cases e
    | no => simp only [z] at e; cases e
/-- a def that may raise, where it does not -/
def nvX (φ : FnX) : Fn := fun ds => match φ ds with
  | some (.v d m) => some (d, m)
  | _ => none
theorem nvX_v {φ : FnX} {ds : List D} {d : D} {m : Md} (e : nvX φ ds = some (d, m)) : φ ds = some (.v d m) := by
  unfold nvX at e
  cases z : φ ds with
  | none => rw [z] at e; cases e
  | some y =>
    rw [z] at e
    cases y with
    | v d' m' => cases e; rfl
    | ex c => cases e
theorem fn_nv {P : Program} {w : World} {K : PySem.W.Frag} {mg : Str → Option Value} {base : Heap} {f : Addr} {fd : FuncData} {ps : List Str} {k n : Nat} {φ : FnX} {mv : Str → Value} {CX : CXT} (h : FnOk P w K mg base CX k f fd ps (spX ⟨P, w, K⟩ mv n φ)) : FnOk P w K mg base CX k f fd ps (spD ⟨P, w, K⟩ n (nvX φ)) :=
  h.imp fun vs H Q E ⟨h1, F, ds, d, m, s, r, e, q⟩ => ⟨h1, F, ds, .v d m, s, r, nvX_v e, q⟩
theorem nvX_len {n : Nat} {φ : FnX} (h : ∀ ds x, φ ds = some x → ds.length = n) : ∀ ds x, nvX φ ds = some x → ds.length = n := fun ds x e => by
  unfold nvX at e
  cases z : φ ds with
  | none => rw [z] at e; cases e
  | some y => exact h ds y z
/-! ### expressions that may raise -/
abbrev DenEX := Ev → Option RX
def RefEX (g : Gc) (mv : Str → Value) (W : WX) (te : TE) (f : DenEX) : Prop := ∀ (F0 B F H : Hp) (σ : St) (Γ : Ev) (r : RX) (Q : VK), EnvR g F0 B F H σ Γ → f Γ = some r →
  (match r with
    | .v d m => ∀ v F' H', Ext F H F' H' → Res g B H F' H' d v m → Q v H'
    | .ex c => ∀ F' H', Ext F H F' H' → W (mv c) none σ H') → te σ H Q
structure DEX (X : Cx) (mv : Str → Value) (W : WX) (e : Expr) (f : DenEX) : Prop where
  ex : ∃ te, PE X e te ∧ RefEX (gX X) mv W te f
def xCall (φ : FnX) (r : DenA) : DenEX := fun Γ => (r Γ).bind fun p => φ p.1
def xOpL (f : F2) (fa : DenEX) (fb : DenE) : DenEX := fun Γ => (fa Γ).bind fun r => match r with
  | .v d m => (fb Γ).bind fun q => (f d m.nw q.1 q.2.nw).map fun z => .v z.1 z.2
  | .ex c => some (.ex c)
def xOpR (f : F2) (fa : DenE) (fb : DenEX) : DenEX := fun Γ => (fa Γ).bind fun p => (fb Γ).bind fun r => match r with
  | .v d m => (f p.1 p.2.nw d m.nw).map fun z => .v z.1 z.2
  | .ex c => some (.ex c)
def xB1 (k : Fc) (fa : DenEX) : DenEX := fun Γ => (fa Γ).bind fun r => match r with
  | .v d m => (k [(d, m.nw)]).map fun z => .v z.1 z.2
  | .ex c => some (.ex c)
section
variable {g : Gc} {X : Cx} {mv : Str → Value} {W : WX} {e a b c : Expr} {p pos : Pos} {st : Stmt} {rest : List Stmt}
theorem dex_call {k n : Nat} {f : Addr} {fd : FuncData} {ps : List Str} {x : Str} {es : List Expr} {φ : FnX} {r : DenA} (tk : Takes X W) (F : FnOk X.prog X.w X.K X.mg X.base (L2.CX X.prog X.w) k f fd ps (spX (gX X) mv n φ)) (hr : Room k X.A) (hm : X.mg x = some (.ref f)) (hk : PySem.W.keepIn X.K (.ref f) = true)
    (hb : Binds X.K fd ps []) (hn : ∀ ds x, φ ds = some x → ds.length = n) (ha : DA X (e :: es) r) (hg : Gl X x := by rfl) (hd : (x == ("__debug__" : Str)) = false := by decide) (hs : starEach (e :: es) X.env = (false, eval e X.env) :: starEach es X.env := by rfl) (hpl : (backTo pos (starEach es X.env)).any (·.1) = false := by rfl) :
    DEX X mv W (.Call (.Name x p) (e :: es) [] pos) (xCall φ r) := by
  obtain ⟨u, a1, a2⟩ := ha
  refine ⟨_, pe_callS F hr hg hm hk hb (fun σ => passAt tk σ) a1 hd hs hpl, ?_⟩
  intro F0 B F H σ Γ rr Q I e q
  obtain ⟨⟨ds, nw⟩, e1, e2⟩ := bind_some e
  refine a2 F0 B F H σ Γ ds nw _ I e1 fun vs F1 H1 X1 r1 => ?_
  refine ⟨by rw [← r1.length]; exact hn _ _ e2, F1, ds, rr, X1.b, r1.any (.refl _), e2, ?_⟩
  cases rr with
  | v d m => exact fun v F2 H2 X2 r2 => q v F2 H2 (X1.trans X2) ((r2.base (I.ext X1).sb).old X1.h)
  | ex c => exact fun F2 H2 X2 => q F2 H2 (X1.trans X2)
theorem refx_opL {r : R2} {f : F2} {ta tb : TE} {fa : DenEX} {fb : DenE} (hv : VOp g r f) (ha : RefEX g mv W ta fa) (hb : Ref g tb fb) : RefEX g mv W (tOp r ta tb) (xOpL f fa fb) := by
  intro F0 B F H σ Γ rr Q I e q
  obtain ⟨ra, e1, e⟩ := bind_some e
  refine ha F0 B F H σ Γ ra _ I e1 ?_
  cases ra with
  | ex c => cases e; exact q
  | v dx mx =>
    obtain ⟨⟨dy, my⟩, e2, e⟩ := bind_some e
    have e : (f dx mx.nw dy my.nw).map (fun z => RX.v z.1 z.2) = some rr := e
    cases z : f dx mx.nw dy my.nw with
    | none => rw [z] at e; cases e
    | some w =>
      obtain ⟨d, m⟩ := w
      rw [z] at e
      cases e
      exact fun x F1 H1 X1 r1 => hb F0 B F1 H1 σ Γ dy my _ (I.ext X1) e2 fun y F2 H2 X2 r2 =>
        hv B F2 H2 dx dy mx.nw my.nw x y d m Q X2.b ((I.ext X1).ext X2).sb ((r1.vw X1.b).ext X2) (r2.vw X2.b) z fun v F3 H3 X3 r3 => q v F3 H3 (X1.trans (X2.trans X3)) (r3.old (X1.h.trans X2.h))
theorem refx_opR {r : R2} {f : F2} {ta tb : TE} {fa : DenE} {fb : DenEX} (hv : VOp g r f) (ha : Ref g ta fa) (hb : RefEX g mv W tb fb) : RefEX g mv W (tOp r ta tb) (xOpR f fa fb) := by
  intro F0 B F H σ Γ rr Q I e q
  obtain ⟨⟨dx, mx⟩, e1, e⟩ := bind_some e
  obtain ⟨rb, e2, e⟩ := bind_some e
  refine ha F0 B F H σ Γ dx mx _ I e1 fun x F1 H1 X1 r1 => ?_
  refine hb F0 B F1 H1 σ Γ rb _ (I.ext X1) e2 ?_
  cases rb with
  | ex c => cases e; exact fun F2 H2 X2 => q F2 H2 (X1.trans X2)
  | v dy my =>
    have e : (f dx mx.nw dy my.nw).map (fun z => RX.v z.1 z.2) = some rr := e
    cases z : f dx mx.nw dy my.nw with
    | none => rw [z] at e; cases e
    | some w =>
      obtain ⟨d, m⟩ := w
      rw [z] at e
      cases e
      exact fun y F2 H2 X2 r2 => hv B F2 H2 dx dy mx.nw my.nw x y d m Q X2.b ((I.ext X1).ext X2).sb ((r1.vw X1.b).ext X2) (r2.vw X2.b) z fun v F3 H3 X3 r3 => q v F3 H3 (X1.trans (X2.trans X3)) (r3.old (X1.h.trans X2.h))
theorem refx_b1 {r : List V → Hp → VK → Prop} {k : Fc} {ta : TE} {fa : DenEX} (hv : VCall g r k) (ha : RefEX g mv W ta fa) : RefEX g mv W (tCB r (tCons ta tNil)) (xB1 k fa) := by
  intro F0 B F H σ Γ rr Q I e q
  obtain ⟨ra, e1, e⟩ := bind_some e
  refine ha F0 B F H σ Γ ra _ I e1 ?_
  cases ra with
  | ex c => cases e; exact q
  | v dx mx =>
    have e : (k [(dx, mx.nw)]).map (fun z => RX.v z.1 z.2) = some rr := e
    cases z : k [(dx, mx.nw)] with
    | none => rw [z] at e; cases e
    | some w =>
      obtain ⟨d, m⟩ := w
      rw [z] at e
      cases e
      exact fun x F1 H1 X1 r1 => hv B F1 H1 [(dx, mx.nw)] [x] d m Q X1.b (I.ext X1).sb (.cons (r1.vw X1.b) .nil) z fun v F3 H3 X3 r3 => q v F3 H3 (X1.trans X3) (r3.old X1.h)
theorem dex_cmpL {op : CmpOp} {f : F2} {fa : DenEX} {fb : DenE} (ho : OpD X (compareOp op) f) (ha : DEX X mv W a fa) (hb : DE X b fb) (hm : behindInMarks op b = false := by first | exact nomark _ | rfl) : DEX X mv W (.Compare a [op] [b] pos) (xOpL f fa fb) := by
  obtain ⟨r, h1, h2⟩ := ho
  obtain ⟨ta, a1, a2⟩ := ha
  obtain ⟨tb, b1, b2⟩ := hb
  exact ⟨_, pe_cmpR h1 a1 b1 hm, refx_opL h2 a2 b2⟩
theorem dex_ix {fa : DenE} {fb : DenEX} (ha : DE X a fa) (hb : DEX X mv W b fb) (hs : PlainIx b := by exact fun _ _ => rfl) : DEX X mv W (.Subscript a b pos) (xOpR atD fa fb) := by
  obtain ⟨t, a1, a2⟩ := ha
  obtain ⟨u, b1, b2⟩ := hb
  exact ⟨_, pe_ix ix_seq a1 b1 hs, refx_opR vop_at a2 b2⟩
theorem dex_bltT {x : Str} {T : String} {k : Fc} {fa : DenEX} (hc : CallD X (.type T) k) (hm : X.mg x = none) (hv : bootBuiltins x = some (.type T)) (ha : DEX X mv W e fa) (hg : Gl X x := by rfl) (hn : x ≠ "__name__" := by decide) (hdb : (x == ("__debug__" : Str)) = false := by decide)
    (he : starEach (e :: []) X.env = (false, eval e X.env) :: starEach [] X.env := by rfl) (hpl : (backTo pos (starEach [] X.env)).any (·.1) = false := by rfl) : DEX X mv W (.Call (.Name x p) (e :: []) [] pos) (xB1 k fa) := by
  obtain ⟨rr, c1, c2⟩ := hc
  obtain ⟨ta, a1, a2⟩ := ha
  exact ⟨_, pe_callTy c1 hg hm hv (pa_cons a1 pa_nil he) hn hdb he hpl, refx_b1 c2 a2⟩
def xRet (f : DenEX) : DenX := fun Γ => match f Γ with
  | some (.v d (.bor _)) => .o (.rt d (.new false))
  | some (.v d m) => .o (.rt d m.wk)
  | some (.ex c) => .ex c Γ
  | none => .o .no
theorem dx_ret {f : DenEX} (h : DEX X mv W e f) : DX X mv W (.Return (some e) pos) (xRet f) := by
  obtain ⟨t, h1, h2⟩ := h
  refine ⟨_, ps_ret h1, ?_⟩
  intro F0 B F H σ Γ E I q
  unfold xRet at q
  cases z : f Γ with
  | none => rw [z] at q; exact q.elim
  | some rr =>
    refine h2 F0 B F H σ Γ rr _ I z ?_
    cases rr with
    | ex c => rw [z] at q; exact fun F' H' X1 => q σ F' H' (I.ext X1) X1.f
    | v d m =>
      rw [z] at q
      intro v F' H' X1 r
      cases r with
      | frz r => exact q v F' H' (I.x.trans X1) (.frz (r.mono (.refl _) wkP))
      | new z1 z2 z3 z4 z5 => exact q _ F' H' (I.x.trans X1) (.new z1 z3 z3 z4 (z5.mono (.refl _) wkP))
      | bor z1 z3 z4 z5 => exact q _ F' H' (I.x.trans X1) (.new z1 z3 z3 z4 (z5.mono (.refl _) wkP))
def xExp (f : DenEX) : DenX := fun Γ => match f Γ with
  | some (.v _ _) => .o (.nx Γ)
  | some (.ex c) => .ex c Γ
  | none => .o .no
theorem dx_expr {f : DenEX} (h : DEX X mv W e f) (hs : swapsWith e none pos.line X.env = pure false := by rfl) : DX X mv W (.Expr e pos) (xExp f) := by
  obtain ⟨t, h1, h2⟩ := h
  refine ⟨_, ps_expr h1 hs, ?_⟩
  intro F0 B F H σ Γ E I q
  unfold xExp at q
  cases z : f Γ with
  | none => rw [z] at q; exact q.elim
  | some rr =>
    refine h2 F0 B F H σ Γ rr _ I z ?_
    cases rr with
    | ex c => rw [z] at q; exact fun F' H' X1 => q σ F' H' (I.ext X1) X1.f
    | v d m => rw [z] at q; exact fun v F' H' X1 r => q σ F' H' (I.ext X1) X1.f
/-! ### the weakest readings -/
def tsOf (g : Gc) (f : DenS) : TS := fun E σ H => ∃ F0 B F Γ, EnvR g F0 B F H σ Γ ∧ OutQ g F0 B F E (f Γ)
theorem DSs.pss {f : DenS} (h : DSs X rest f) : PSs X rest (tsOf (gX X) f) := by
  obtain ⟨t, h1, h2⟩ := h
  exact ⟨fun pins s σ H D I ⟨F0, B, F, Γ, I', q⟩ => h1.run pins s σ H D I (h2 F0 B F H σ Γ D I' q)⟩
def txOf (g : Gc) (mv : Str → Value) (f : DenX) (W : WX) : TS := fun E σ H => ∃ F0 B F Γ, EnvR g F0 B F H σ Γ ∧ OutXQ g mv W F0 B F E (f Γ)
theorem DXs.pss {f : DenX} (h : DXs X mv W rest f) : PSs X rest (txOf (gX X) mv f W) := by
  obtain ⟨t, h1, h2⟩ := h
  exact ⟨fun pins s σ H D I ⟨F0, B, F, Γ, I', q⟩ => h1.run pins s σ H D I (h2 F0 B F H σ Γ D I' q)⟩
theorem EnvR.setExc {F0 B F H : Hp} {σ : St} {Γ : Ev} {i : Nat} {a : Addr} (I : EnvR g F0 B F H σ Γ) : EnvR g F0 B F H (σ.set i (some (.ref a))) (Γ.set i (.exc a)) := by
  obtain ⟨R, q, s⟩ := I.reg
  refine ⟨I.x, by rw [List.length_set, List.length_set]; exact I.len, R, q, fun j sl e => ?_⟩
  by_cases hj : i = j
  · subst hj
    have hl : i < Γ.length := by
      have := List.getElem?_eq_some_iff.mp e
      obtain ⟨z, _⟩ := this
      simpa using z
    rw [List.getElem?_set_self hl] at e
    cases e
    rw [List.getElem?_set_self (by rw [I.len]; exact hl)]
    exact rfl
  · rw [List.getElem?_set_ne hj] at e ⊢
    exact s j sl e
/-! ### try: .. except C: .. -/
/-- one class c0 is awaited -/
def xTry (c0 : Str) (fx : DenX) (su : DenS) : DenS := fun Γ => match fx Γ with
  | .o x => x
  | .ex c Γ' => if c = c0 then su Γ' else .no
theorem ds_try {x c0 : Str} {C Dc : Addr} {body suite : List Stmt} {b₀ : Stmt} {np pos' : Pos} {fx : DenX} {su : DenS} (hc : X.mg x = some (.ref C)) (hm : mv c0 = .ref Dc) (hx : PySem.W.exmOne X.K (.ref Dc) (.ref C) = some true)
    (hb : ∀ (W : WX) (pn : List (Addr × Obj)) (xe : Value → Shared → Prop), Takes (X.tr pn xe) W → DXs (X.tr pn xe) mv W body fx)
    (hsu : ∀ (a : Addr) (oe : Obj) (pn : List (Addr × Obj)), Zc (.ref Dc) none oe → (∃ vs, oe.data = .fields vs) → DSs (X.suite a ((a, oe) :: pn)) (b₀ :: suite) su)
    (hs : X.stack = X.env :: X.outer := by rfl) (hf : X.env.frame = some X.env.locals := by rfl) (hg : Gl X x := by rfl) (hd : (x == ("__debug__" : Str)) = false := by decide) :
    DS X (.Try body [.ExceptHandler (some (.Name x np)) none (b₀ :: suite) pos'] [] [] pos) (xTry c0 fx su) := by
  refine ⟨_, ps_try_only (c := .ref C) (tb := txOf (gX X) mv fx) (ts := fun a cls d E σ H => cls = .ref Dc ∧ d = none ∧ tsOf (gX X) su E σ H) hs hf ⟨hg, hd, .inl hc⟩ takes0 (fun W pn xe tk _ => (hb W pn xe tk).pss) (fun a oe cls d pn hz hv => ⟨fun pins s σ H D I ⟨e1, e2, h⟩ => by
    subst e1 e2
    exact (hsu a oe pn hz hv).pss.run pins s σ H D I h⟩), ?_⟩
  intro F0 B F H σ Γ E I q
  refine ⟨F0, B, F, Γ, I, ?_⟩
  unfold xTry at q
  cases z : fx Γ with
  | o y => rw [z] at q; exact q
  | ex c Γ' =>
    rw [z] at q
    have q : OutQ (gX X) F0 B F E (if c = c0 then su Γ' else .no) := q
    by_cases hcc : c = c0
    · rw [if_pos hcc] at q
      intro σ' F' H' I' s'
      rw [hcc, hm]
      exact ⟨true, hx, fun _ a _ => ⟨rfl, rfl, F0, B, F', Γ', I', q.mono s'⟩, fun z => nomatch z⟩
    · rw [if_neg hcc] at q; exact q.elim
/-- .. except C as n: ..; the suite returns -/
def xTryA (c0 : Str) (i : Nat) (fx : DenX) (su : Addr → DenS) : DenS := fun Γ => match fx Γ with
  | .o x => x
  | .ex c Γ' => if c = c0 then (match su 0 (Γ'.set i (.exc 0)) with
    | .rt d m => .rt d m
    | _ => .no) else .no
theorem ds_tryA (i : Nat) {x n c0 : Str} {C Dc : Addr} {body suite : List Stmt} {b₀ : Stmt} {np pos' : Pos} {fx : DenX} {su : Addr → DenS} (hN : X.N.Nodup) (hc : X.mg x = some (.ref C)) (hm : mv c0 = .ref Dc) (hx : PySem.W.exmOne X.K (.ref Dc) (.ref C) = some true)
    (hb : ∀ (W : WX) (pn : List (Addr × Obj)) (xe : Value → Shared → Prop), Takes (X.tr pn xe) W → DXs (X.tr pn xe) mv W body fx)
    (hsu : ∀ (a : Addr) (oe : Obj) (pn : List (Addr × Obj)), Zc (.ref Dc) none oe → (∃ vs, oe.data = .fields vs) → DSs (X.suite a ((a, oe) :: pn)) (b₀ :: suite) (su a))
    (hu : ∀ (a : Addr) (Γ : Ev), su a (Γ.set i (.exc a)) = su 0 (Γ.set i (.exc 0)))
    (hi : X.N[i]? = some n := by rfl) (hln : X.env.kindOf n = some .local := by rfl)
    (hs : X.stack = X.env :: X.outer := by rfl) (hf : X.env.frame = some X.env.locals := by rfl) (hg : Gl X x := by rfl) (hd : (x == ("__debug__" : Str)) = false := by decide) :
    DS X (.Try body [.ExceptHandler (some (.Name x np)) (some n) (b₀ :: suite) pos'] [] [] pos) (xTryA c0 i fx su) := by
  refine ⟨_, ps_try_as (i := i) (c := .ref C) (tb := txOf (gX X) mv fx) (ts := fun a cls d E σ H => cls = .ref Dc ∧ d = none ∧ tsOf (gX X) (su a) E σ H) hs hf hN hi hln ⟨hg, hd, .inl hc⟩ takes0 (fun W pn xe tk _ => (hb W pn xe tk).pss) (fun a oe cls d pn hz hv => ⟨fun pins s σ H D I ⟨e1, e2, h⟩ => by
    subst e1 e2
    exact (hsu a oe pn hz hv).pss.run pins s σ H D I h⟩), ?_⟩
  intro F0 B F H σ Γ E I q
  refine ⟨F0, B, F, Γ, I, ?_⟩
  unfold xTryA at q
  cases z : fx Γ with
  | o y => rw [z] at q; exact q
  | ex c Γ' =>
    rw [z] at q
    have q : OutQ (gX X) F0 B F E (if c = c0 then (match su 0 (Γ'.set i (.exc 0)) with
      | .rt d m => .rt d m
      | _ => .no) else .no) := q
    by_cases hcc : c = c0
    · rw [if_pos hcc] at q
      intro σ' F' H' I' s'
      rw [hcc, hm]
      refine ⟨true, hx, fun _ a _ => ⟨rfl, rfl, F0, B, F', Γ'.set i (.exc a), I'.setExc, ?_⟩, fun z => nomatch z⟩
      rw [hu a Γ']
      cases y : su 0 (Γ'.set i (.exc 0)) with
      | rt d m => rw [y] at q; exact q
      | nx Γ2 => rw [y] at q; exact q.elim
      | bk Γ2 => rw [y] at q; exact q.elim
      | ct Γ2 => rw [y] at q; exact q.elim
      | no => rw [y] at q; exact q.elim
    · rw [if_neg hcc] at q; exact q.elim
/-! ### isinstance of the exception in hand -/
def dIsX (i : Nat) (a : Addr) (b : Bool) : DenE := fun Γ => match Γ[i]? with
  | some (.exc a') => if a' = a then some (.bl b, .frz true) else none
  | _ => none
@[simp] theorem dIsX_set {i : Nat} {a : Addr} {b : Bool} {Γ : Ev} : dIsX i a b (Γ.set i (.exc a)) = if i < Γ.length then some (.bl b, .frz true) else none := by
  unfold dIsX
  by_cases h : i < Γ.length
  · rw [List.getElem?_set_self h, if_pos h]; simp
  · rw [List.getElem?_eq_none (by simpa using h), if_neg h]
theorem de_isX (i : Nat) {a : Addr} {oe : Obj} {pn : List (Addr × Obj)} {Dc C : Addr} {x y : Str} {px py q1 q2 : Pos} {bb : Bool} (xc : ExcC X.K Dc) (hz : Zc (.ref Dc) none oe) (hf : ∃ vs, oe.data = .fields vs) (hk : PySem.W.kitOne X.K (.ref Dc) (.ref C) = some bb)
    (hm : X.mg "isinstance" = none) (hy : X.mg y = some (.ref C)) (hg : Gl X "isinstance" := by rfl) (hgy : Gl X y := by rfl) (hN : X.N[i]? = some x := by rfl) (hv : Vis X.env.scope x := by first | exact Or.inl rfl | exact Or.inr (Or.inl rfl) | exact Or.inr (Or.inr rfl)) (hd : (x == ("__debug__" : Str)) = false := by decide)
    (hcd : (x == ("__classdict__" : Str)) = false := by decide) (hdy : (y == ("__debug__" : Str)) = false := by decide)
    (he : starEach [.Name x px, .Name y py] X.env = (false, eval (.Name x px) X.env) :: starEach [.Name y py] X.env := by rfl) (he2 : starEach [.Name y py] X.env = (false, eval (.Name y py) X.env) :: starEach [] X.env := by rfl) (hpl : (backTo q2 (starEach [.Name y py] X.env)).any (·.1) = false := by rfl) :
    DE (X.suite a ((a, oe) :: pn)) (.Call (.Name "isinstance" q1) [.Name x px, .Name y py] [] q2) (dIsX i a bb) := by
  refine ⟨_, pe_callB (X := X.suite a ((a, oe) :: pn)) (call_isE xc hz hf) hg hm PyProof.Rows.boot_isinstance (pa_cons (pe_var (X := X.suite a ((a, oe) :: pn)) hN hv hd hcd) (pa_cons (pe_glob (X := X.suite a ((a, oe) :: pn)) (v := .ref C) hgy hy rfl hdy) pa_nil he2) he) (by decide) (by decide) he hpl, ?_⟩
  intro F0 B F H σ Γ d m Q I e q
  unfold dIsX at e
  cases z : Γ[i]? with
  | none => rw [z] at e; cases e
  | some sl =>
    rw [z] at e
    cases sl with
    | exc a' =>
      have e : (if a' = a then some (D.bl bb, Md.frz true) else none) = some (d, m) := e
      by_cases ha : a' = a
      · rw [if_pos ha] at e
        cases e
        subst ha
        obtain ⟨R, rg, s⟩ := id I.reg
        have hσ : (σ[i]?).join = some (.ref a') := s i _ z
        have hσ' : σ[i]? = some (some (.ref a')) := by
          cases w : σ[i]? with
          | none => rw [w] at hσ; cases hσ
          | some u => rw [w] at hσ; rw [show u = some (.ref a') by simpa using hσ]
        exact ⟨_, hσ', .ref C, .ref C, bb, rfl, fun u r => r, hk, q _ F H (.refl I.x.b) (.frz (.bl _))⟩
      · rw [if_neg ha] at e; cases e
    | _ => cases e
end
/-! ### facts of classes -/
structure YCls (K : PySem.W.Frag) (C : Addr) : Prop where
  b : PySem.W.subIn K (.ref C) (.type "BaseException") = some true
  i : PySem.W.isClsIn K C = true
  t : PySem.W.typeIn K (.ref C) = some (.type "type")
  s : PySem.W.subIn K (.ref C) (.ref C) = some true
theorem kitCls_of {K : PySem.W.Frag} {D C : Addr} {b : Bool} (y : YCls K C) (h : PySem.W.subIn K (.ref D) (.ref C) = some b) : PySem.W.kitCls K (.ref D) (.ref C) = some b := by
  have e2 : ((PySem.W.clsIn K C).isSome && PySem.W.typeIn K (.ref C) == some (.type "type")) = true := by
    have h2' : (PySem.W.clsIn K C).isSome = true := y.i
    rw [h2', y.t] <;> rfl
  show (if ((PySem.W.clsIn K C).isSome && PySem.W.typeIn K (.ref C) == some (.type "type")) = true then PySem.W.subIn K (.ref D) (.ref C) else none) = some b
  rw [if_pos e2]
  exact h
theorem exm_of {K : PySem.W.Frag} {D C : Addr} {b : Bool} (y : YCls K C) (h : PySem.W.subIn K (.ref D) (.ref C) = some b) : PySem.W.exmOne K (.ref D) (.ref C) = some b := by
  have e1 : (PySem.W.subIn K (.ref C) (.type "BaseException") == some true) = true := by rw [y.b] <;> rfl
  unfold PySem.W.exmOne
  rw [if_pos e1]
  exact kitCls_of y h
theorem kit_of {K : PySem.W.Frag} {D C : Addr} {b : Bool} (y : YCls K C) (h : PySem.W.subIn K (.ref D) (.ref C) = some b) : PySem.W.kitOne K (.ref D) (.ref C) = some b := by
  unfold PySem.W.kitOne
  by_cases c : (Value.ref D == Value.ref C) = true
  · rw [if_pos c]
    have e : Value.ref D = Value.ref C := eq_of_beq c
    rw [e, y.s] at h
    exact h
  · rw [if_neg c]
    exact kitCls_of y h
/-! ### forgetting behind a body that may raise -/
def xFgt (is : List Nat) (f : DenX) : DenX := fun Γ => match f Γ with
  | .o (.nx Γ') => .o (.nx (forget is Γ'))
  | .o (.ct Γ') => .o (.ct (forget is Γ'))
  | r => r
theorem dxs_fgt {X : Cx} {mv : Str → Value} {W : WX} {st : List Stmt} {f : DenX} (is : List Nat) (h : DXs X mv W st f) : DXs X mv W st (xFgt is f) := by
  obtain ⟨t, a1, a2⟩ := h
  refine ⟨_, a1, ?_⟩
  intro F0 B F H σ Γ E I q
  refine a2 F0 B F H σ Γ E I ?_
  unfold xFgt at q
  cases z : f Γ with
  | ex c Γ' => rw [z] at q; exact q
  | o x =>
    rw [z] at q
    cases x with
    | nx Γ' => exact fun σ' F' H' I' s => q σ' F' H' (I'.forget is) s
    | ct Γ' => exact fun σ' F' H' I' s => q σ' F' H' (I'.forget is) s
    | bk Γ' => exact q
    | rt d m => exact q
    | no => exact q
def mvT (mg : Str → Option Value) : Str → Value := fun x => (mg x).getD .none
theorem mvT_of {mg : Str → Option Value} {x : Str} {v : Value} (h : mg x = some v) : mvT mg x = v := by unfold mvT; rw [h]; rfl
end Dn
namespace Dn
open PySem PySem.Spec L2
open PyProof.Rows hiding St
/-! ### comprehensions of two clauses -/
mutual
theorem asg_slots : ∀ {t : Tg} {d : D} {n : Bool} {Γ Γ' : Ev}, asg t d n Γ = some Γ' → ∀ (j : Nat) (s : Slot), Γ'[j]? = some s → (∃ d', s = .val d' n) ∨ (j ∉ t.slots ∧ Γ[j]? = some s)
  | .nm i, d, n, Γ, Γ', h => by
    unfold asg at h
    cases h
    intro j s e
    by_cases c : i = j
    · subst c
      by_cases l : i < Γ.length
      · rw [List.getElem?_set_self l] at e; cases e; exact .inl ⟨d, rfl⟩
      · rw [List.getElem?_eq_none (by rw [List.length_set]; omega)] at e; cases e
    · rw [List.getElem?_set_ne c] at e
      refine .inr ⟨fun z => ?_, e⟩
      unfold Tg.slots at z
      exact c (List.mem_singleton.mp z).symm
  | .tp ts, .tup ds, n, Γ, Γ', h => by
    unfold asg at h
    intro j s e
    rcases asgs_slots h j s e with z | ⟨z1, z2⟩
    · exact .inl z
    · exact .inr ⟨fun y => z1 (by unfold Tg.slots at y; exact y), z2⟩
  | .tp ts, .non, n, Γ, Γ', h => by unfold asg at h; cases h
  | .tp ts, .bl _, n, Γ, Γ', h => by unfold asg at h; cases h
  | .tp ts, .int _, n, Γ, Γ', h => by unfold asg at h; cases h
  | .tp ts, .str _, n, Γ, Γ', h => by unfold asg at h; cases h
  | .tp ts, .lst _, n, Γ, Γ', h => by unfold asg at h; cases h
  | .tp ts, .dk _, n, Γ, Γ', h => by unfold asg at h; cases h
  | .tp ts, .dt _, n, Γ, Γ', h => by unfold asg at h; cases h
  | .tp ts, .st _, n, Γ, Γ', h => by unfold asg at h; cases h
  | .tp ts, .scr _, n, Γ, Γ', h => by unfold asg at h; cases h
theorem asgs_slots : ∀ {ts : List Tg} {ds : List D} {n : Bool} {Γ Γ' : Ev}, asgs ts ds n Γ = some Γ' → ∀ (j : Nat) (s : Slot), Γ'[j]? = some s → (∃ d', s = .val d' n) ∨ (j ∉ Tg.slotss ts ∧ Γ[j]? = some s)
  | [], [], n, Γ, Γ', h => by
    unfold asgs at h
    cases h
    exact fun j s e => .inr ⟨by unfold Tg.slotss; simp, e⟩
  | t :: ts, d :: ds, n, Γ, Γ', h => by
    unfold asgs at h
    obtain ⟨Γ1, h1, h2⟩ := bind_some h
    intro j s e
    rcases asgs_slots h2 j s e with z | ⟨z1, z2⟩
    · exact .inl z
    · rcases asg_slots h1 j s z2 with y | ⟨y1, y2⟩
      · exact .inl y
      · refine .inr ⟨fun x => ?_, y2⟩
        unfold Tg.slotss at x
        rcases List.mem_append.mp x with w | w
        · exact y1 w
        · exact z1 w
  | [], _ :: _, _, _, _, h => by unfold asgs at h; cases h
  | _ :: _, [], _, _, _, h => by unfold asgs at h; cases h
end
section
variable {g : Gc}
/-- the names of a target once more, in a later heap -/
theorem EnvR.redo {t : Tg} {d : D} {nw : Bool} {Γ Γ1 : Ev} {σ σ3 : St} {F0 B F H F' H' : Hp} (I : EnvR g F0 B F' H' σ Γ) (I3 : EnvR g F0 B F H σ3 Γ1) (a : asg t d nw Γ = some Γ1) (k : ∀ j, j ∉ t.slots → σ3[j]? = σ[j]?) (s : Same F F') : EnvR g F0 B F' H' σ3 Γ1 := by
  obtain ⟨R, r, q⟩ := I.reg
  obtain ⟨R3, r3, q3⟩ := I3.reg
  refine ⟨I.x, I3.len, R, r, fun j sl e => ?_⟩
  rcases asg_slots a j sl e with ⟨d', rfl⟩ | ⟨z1, z2⟩
  · obtain ⟨v, e1, e2⟩ := q3 j _ e
    exact ⟨v, e1, e2.mono s fun _ z => z⟩
  · rw [k j z1]; exact q j sl z2
end
def wiOf (g : Gc) (f : DenI) : TI := fun σ H Q => ∃ F0 B F Γ ds n fz, EnvR g F0 B F H σ Γ ∧ f Γ = some (ds, n, fz) ∧ ∀ J F' H', Ext F H F' H' → ItOk g B F' H' J ds n fz → Q J H'
theorem DI.pi {X : Cx} {tg e : Expr} {f : DenI} (h : DI X tg e f) : PI X tg e (wiOf (gX X) f) := by
  obtain ⟨w, h1, h2⟩ := h
  exact ⟨fun pins s σ H Q I ⟨F0, B, F, Γ, ds, n, fz, I', e', q⟩ => h1.run pins s σ H Q I (h2 F0 B F H σ Γ ds n fz Q I' e' q)⟩
theorem ref_wiOf (g : Gc) (f : DenI) : RefI g (wiOf g f) f := fun F0 B F H σ Γ ds n fz Q I e q => ⟨F0, B, F, Γ, ds, n, fz, I, e, q⟩
/-- one turn's items -/
def inner (f1 : DenI) (t1 : Tg) (tt1 : DenT) (el : DenE) (vs1 : List Nat) (Γ1 : Ev) : Option (List D) := match f1 Γ1 with
  | some (ds1, _, true) => lcGo t1 tt1 el (forget vs1 Γ1) ds1
  | _ => none
def lc2Go (t : Tg) (tt : DenT) (f1 : DenI) (t1 : Tg) (tt1 : DenT) (el : DenE) (vs1 : List Nat) (Γ : Ev) : List D → Option (List D)
  | [] => some []
  | d :: ds => (asg t d false Γ).bind fun Γ1 => (tt Γ1).bind fun b => if b = true then (inner f1 t1 tt1 el vs1 Γ1).bind fun q1 => (lc2Go t tt f1 t1 tt1 el vs1 Γ ds).bind fun q => some (q1 ++ q) else lc2Go t tt f1 t1 tt1 el vs1 Γ ds
def dLc2 (f : DenI) (t : Tg) (tt : DenT) (f1 : DenI) (t1 : Tg) (tt1 : DenT) (el : DenE) (vs vs1 : List Nat) : DenE := fun Γ => (f Γ).bind fun w => (lc2Go t tt f1 t1 tt1 el vs1 (forget vs Γ) w.1).bind fun q => if q.length ≤ sizeLine then some (.lst q, .new false) else none
section
variable {g : Gc}
theorem ref_lc2 {wi wi1 : TI} {tg' tg1' : TG} {tt' tt1' : TT} {te : TE} {f f1 : DenI} {t t1 : Tg} {tt tt1 : DenT} {el : DenE} {vs vs1 : List Nat} (hi : RefI g wi f) (hg : RefG g tg' t) (ht : RefT g tt' tt) (hi1 : RefI g wi1 f1) (hg1 : RefG g tg1' t1) (ht1 : RefT g tt1' tt1) (he : Ref g te el)
    (hv : ∀ j, j ∈ t.slots → j ∈ vs) (hv1 : ∀ j, j ∈ t1.slots → j ∈ vs1) :
    Ref g (tLc2 wi tg' tt' wi1 tg1' tt1' te vs vs1) (dLc2 f t tt f1 t1 tt1 el vs vs1) := by
  intro F0 B F H σ Γ d m Q I e q
  obtain ⟨⟨ds, n, fz⟩, e1, e⟩ := bind_some e
  obtain ⟨out, e2, e⟩ := bind_some e
  by_cases hz : out.length ≤ sizeLine
  rotate_left
  · simp only [hz] at e
    cases e
  simp only [hz, if_true] at e
  cases e
  refine hi F0 B F H σ Γ ds n fz _ I e1 fun J F1 H1 X1 it Da hD => ?_
  have I1 := I.ext X1
  refine ⟨fun i mm Hh => mm = ds.length - i ∧ ∃ Fh acc accD restD, Ext F1 H1 Fh Hh ∧ Fh Da = none ∧ Hh Da = some (.lst acc) ∧ Reps g Fh (PB B false) accD acc ∧
    lc2Go t tt f1 t1 tt1 el vs1 (forget vs Γ) (ds.drop i) = some restD ∧ accD ++ restD = out, ⟨ds.length, by simp, F1, [], [], out, Ext.hi X1.b hD, X1.b.free hD, upd_same, .nil, e2, rfl⟩, ?_⟩
  rintro i mm Hh ⟨rfl, Fh, acc, accD, restD, Xh, hF, hH, ra, el', eo⟩
  obtain ⟨j1, j2⟩ := it Fh Hh Xh.f Xh.b fun _ => Xh.h
  by_cases hlt : i < ds.length
  · have hd : ds[i]? = some ds[i] := List.getElem?_eq_getElem hlt
    obtain ⟨jg, jy⟩ := j1 i _ hd
    rw [List.drop_eq_getElem_cons hlt] at el'
    unfold lc2Go at el'
    obtain ⟨Γ1, a1, el'⟩ := bind_some el'
    obtain ⟨bb, b1, el'⟩ := bind_some el'
    refine .inr ⟨jg, fun Hn => ∃ Fh acc accD restD, Ext F1 H1 Fh Hn ∧ Fh Da = none ∧ Hn Da = some (.lst acc) ∧ Reps g Fh (PB B false) accD acc ∧
      lc2Go t tt f1 t1 tt1 el vs1 (forget vs Γ) (ds.drop (i + 1)) = some restD ∧ accD ++ restD = out, fun Hn w => ⟨ds.length - (i + 1), by omega, rfl, w⟩, fun x H2 y => ?_⟩
    obtain ⟨F2, X2, rx⟩ := jy x H2 y
    have I2 : EnvR g F0 B F2 H2 (wipe σ vs) (forget vs Γ) := ((I1.ext Xh).ext X2).wipe vs
    refine hg F0 B F2 H2 (wipe σ vs) (forget vs Γ) _ false x Γ1 _ I2 (rx.mono (.refl _) wkP) a1 fun σ3 I3 k3 => ?_
    refine ⟨wipe_eq (by
      have h1 := I3.len
      have h2 := I2.len
      have h3 := asg_len a1
      rw [wipe_length] at h2
      omega) fun j hj => k3 j fun z => hj (hv j z), ?_⟩
    have X12 := Xh.trans X2
    have hF2 : F2 Da = none := X2.k Da hF (some_ne hH)
    refine ht F0 B F2 H2 σ3 Γ1 bb _ I3 b1 fun F3 H3 X3 => ?_
    have hF3 : F3 Da = none := X3.k Da hF2 (some_ne (X2.h _ _ hH))
    have hH3 := X3.h _ _ (X2.h _ _ hH)
    cases bb with
    | false =>
      exact ⟨F3, acc, accD, restD, X12.trans X3, hF3, hH3, ra.mono (X2.f.trans X3.f) fun _ z => z, el', eo⟩
    | true =>
      simp only [if_true] at el' ⊢
      obtain ⟨q1, c1, el'⟩ := bind_some el'
      obtain ⟨restO, c2, el'⟩ := bind_some el'
      cases el'
      unfold inner at c1
      cases cf : f1 Γ1 with
      | none => rw [cf] at c1; cases c1
      | some w =>
      obtain ⟨ds1, n1, fz1⟩ := w
      cases fz1 with
      | false => rw [cf] at c1; cases c1
      | true =>
      rw [cf] at c1
      have c1 : lcGo t1 tt1 el (forget vs1 Γ1) ds1 = some q1 := c1
      refine hi1 F0 B F3 H3 σ3 Γ1 ds1 n1 true _ (I3.ext X3) cf fun J1 F4 H4 X4 it1 => ?_
      have hF4 : F4 Da = none := X4.k Da hF3 (some_ne hH3)
      have hH4 := X4.h _ _ hH3
      have S24 : Same F2 F4 := X3.f.trans X4.f
      refine ⟨fun j kk Hh => kk = ds1.length - j ∧ ∃ Fh acc accD rest1, Ext F1 H1 Fh Hh ∧ Same F4 Fh ∧ Fh Da = none ∧ Hh Da = some (.lst acc) ∧ Reps g Fh (PB B false) accD acc ∧
        lcGo t1 tt1 el (forget vs1 Γ1) (ds1.drop j) = some rest1 ∧ accD ++ (rest1 ++ restO) = out, ⟨ds1.length, by simp, F4, acc, accD, q1, (X12.trans X3).trans X4, .refl _, hF4, hH4, ra.mono ((X2.f.trans X3.f).trans X4.f) wkP, c1, eo⟩, ?_⟩
      rintro j kk Hj ⟨rfl, Fj, accj, accDj, rest1, Xj, Sj, hFj, hHj, raj, elj, eoj⟩
      obtain ⟨jj1, jj2⟩ := it1 Fj Hj Sj Xj.b fun z => nomatch z
      by_cases hlj : j < ds1.length
      · have hdj : ds1[j]? = some ds1[j] := List.getElem?_eq_getElem hlj
        obtain ⟨jgj, jyj⟩ := jj1 j _ hdj
        rw [List.drop_eq_getElem_cons hlj] at elj
        unfold lcGo at elj
        obtain ⟨Γ2, aj, elj⟩ := bind_some elj
        obtain ⟨bj, bj1, elj⟩ := bind_some elj
        refine .inr ⟨jgj, fun Hn => ∃ Fh acc accD rest1, Ext F1 H1 Fh Hn ∧ Same F4 Fh ∧ Fh Da = none ∧ Hn Da = some (.lst acc) ∧ Reps g Fh (PB B false) accD acc ∧
          lcGo t1 tt1 el (forget vs1 Γ1) (ds1.drop (j + 1)) = some rest1 ∧ accD ++ (rest1 ++ restO) = out, fun Hn w => ⟨ds1.length - (j + 1), by omega, rfl, w⟩, fun xj H5 yj => ?_⟩
        obtain ⟨F5, X5, rxj⟩ := jyj xj H5 yj
        have I5' : EnvR g F0 B F5 H5 (wipe σ vs) (forget vs Γ) := ((I1.ext Xj).ext X5).wipe vs
        have S25 : Same F2 F5 := S24.trans (Sj.trans X5.f)
        have I5 : EnvR g F0 B F5 H5 σ3 Γ1 := EnvR.redo I5' I3 a1 k3 S25
        have I6 : EnvR g F0 B F5 H5 (wipe σ3 vs1) (forget vs1 Γ1) := I5.wipe vs1
        refine hg1 F0 B F5 H5 (wipe σ3 vs1) (forget vs1 Γ1) _ false xj Γ2 _ I6 (rxj.mono (.refl _) wkP) aj fun σ4 I7 k7 => ?_
        refine ⟨wipe_eq (by
          have h1 := I7.len
          have h2 := I6.len
          have h3 := asg_len aj
          rw [wipe_length] at h2
          omega) fun jx hj => k7 jx fun z => hj (hv1 jx z), ?_⟩
        have X15 := Xj.trans X5
        have hF5 : F5 Da = none := X5.k Da hFj (some_ne hHj)
        have hH5 := X5.h _ _ hHj
        refine ht1 F0 B F5 H5 σ4 Γ2 bj _ I7 bj1 fun F6 H6 X6 => ?_
        have hF6 : F6 Da = none := X6.k Da hF5 (some_ne hH5)
        have hH6 := X6.h _ _ hH5
        cases bj with
        | false =>
          exact ⟨F6, accj, accDj, rest1, X15.trans X6, Sj.trans (X5.f.trans X6.f), hF6, hH6, raj.mono (X5.f.trans X6.f) fun _ z => z, elj, eoj⟩
        | true =>
          simp only [if_true] at elj ⊢
          obtain ⟨⟨dv, nv⟩, cc1, elj⟩ := bind_some elj
          obtain ⟨restj, cc2, elj⟩ := bind_some elj
          cases elj
          refine ref_emb he (I7.ext X6) cc1 fun v F7 H7 X7 r7 => ?_
          have hH7 := X7.h _ _ hH6
          have hF7 : F7 Da = none := X7.k Da hF6 (some_ne hH6)
          have hlen : accDj.length < out.length := by rw [← eoj, List.length_append, List.cons_append, List.length_cons]; omega
          refine ⟨accj, hH7, by rw [← raj.length]; omega, F7, accj ++ [v], accDj ++ [dv], restj, ?_, Sj.trans ((X5.f.trans X6.f).trans X7.f), hF7, upd_same, ?_, cc2, by rw [← eoj, List.append_assoc]; rfl⟩
          · have X := (X15.trans X6).trans X7
            exact ⟨X.f, fun a u z => by rw [upd_ne (ne_of_none z hD)]; exact X.h _ _ z, fun a u z => by rw [upd_ne (ne_of_none z hF7)]; exact X.b _ _ z, X.k⟩
          · exact Reps.app (raj.mono ((X5.f.trans X6.f).trans X7.f) wkP) (.cons (r7.mono (.refl _) wkP) .nil)
      · have hge : ds1.length ≤ j := by omega
        rw [List.drop_eq_nil_of_le hge] at elj
        unfold lcGo at elj
        cases elj
        exact .inl ⟨jj2 j hge, Fj, accj, accDj, restO, Xj, hFj, hHj, raj, c2, eoj⟩
  · have hge : ds.length ≤ i := by omega
    rw [List.drop_eq_nil_of_le hge] at el'
    unfold lc2Go at el'
    cases el'
    rw [List.append_nil] at eo
    subst eo
    exact .inl ⟨j2 i hge, q _ Fh Hh (X1.trans Xh) (.new hF (X1.h.free hD) (I1.sb.free hD) hH (.lst ra))⟩
end
section
variable {X : Cx} {pos : Pos}
theorem de_lc2 {elt tg iter tg1 iter1 : Expr} {ifs ifs1 : List Expr} {scope : Scope} {own : List (Str × Nat)} {vs1 : List Nat} {f f1 : DenI} {t t1 : Tg} {tt tt1 : DenT} {el : DenE} (hc : X.calm = true) (hN : X.N.Nodup) (hi : DI X tg iter f) (ok : BlkOk X.N X.env.scope scope own)
    (hg : ∀ (s : Shared) (H : Hp) (C : Addr) (cl : List (Str × Addr)) (fp : List Addr), DG (X.blk s H scope (compEnvC scope cl C X.env) fp) tg t) (ht : ∀ (s : Shared) (H : Hp) (C : Addr) (cl : List (Str × Addr)) (fp : List Addr), DTs (X.blk s H scope (compEnvC scope cl C X.env) fp) ifs tt)
    (hi1 : ∀ (s : Shared) (H : Hp) (C : Addr) (cl : List (Str × Addr)) (fp : List Addr), DI (X.blk s H scope (compEnvC scope cl C X.env) fp) tg1 iter1 f1)
    (hg1 : ∀ (s : Shared) (H : Hp) (C : Addr) (cl : List (Str × Addr)) (fp : List Addr), DG (X.blk s H scope (compEnvC scope cl C X.env) fp) tg1 t1) (ht1 : ∀ (s : Shared) (H : Hp) (C : Addr) (cl : List (Str × Addr)) (fp : List Addr), DTs (X.blk s H scope (compEnvC scope cl C X.env) fp) ifs1 tt1)
    (he : ∀ (s : Shared) (H : Hp) (C : Addr) (cl : List (Str × Addr)) (fp : List Addr), DE (X.blk s H scope (compEnvC scope cl C X.env) fp) elt el) (hv : ∀ j, j ∈ t.slots → j ∈ own.map (·.2)) (hv1 : ∀ j, j ∈ t1.slots → j ∈ vs1) (hv2 : ∀ j, j ∈ vs1 → j ∈ own.map (·.2))
    (hs : ∀ x, foldedSetIterable iter X.env x = pure x := by intro _; rfl) (hs1 : ∀ env x, foldedSetIterable iter1 env x = pure x := by intro _ _; rfl) :
    DE X (.ListComp elt [⟨tg, iter, ifs, 0⟩, ⟨tg1, iter1, ifs1, 0⟩] scope pos) (dLc2 f t tt f1 t1 tt1 el (own.map (·.2)) vs1) := by
  obtain ⟨wi, i1, i2⟩ := hi
  exact ⟨_, pe_lc2 hc hN i1 ok hv2 (fun s H C cl fp => (hg s H C cl fp).pg) (fun s H C cl fp => (ht s H C cl fp).pts) (fun s H C cl fp => (hi1 s H C cl fp).pi) (fun s H C cl fp => (hg1 s H C cl fp).pg) (fun s H C cl fp => (ht1 s H C cl fp).pts) (fun s H C cl fp => (he s H C cl fp).pe) hs hs1,
    ref_lc2 i2 (ref_tgOf _ _) (ref_ttOf _ _) (ref_wiOf _ _) (ref_tgOf _ _) (ref_ttOf _ _) (ref_teOf _ _) hv hv1⟩
theorem ds_setLc2 (i : Nat) {y : Str} {py : Pos} {elt tg iter tg1 iter1 : Expr} {ifs ifs1 : List Expr} {scope : Scope} {own : List (Str × Nat)} {spos : Pos} {vs1 : List Nat} {f f1 : DenI} {t t1 : Tg} {tt tt1 : DenT} {el : DenE} (hc : X.calm = true) (hN : X.N.Nodup) (hi : DI X tg iter f) (ok : BlkOk X.N X.env.scope scope own)
    (hg : ∀ (s : Shared) (H : Hp) (C : Addr) (cl : List (Str × Addr)) (fp : List Addr), DG (X.blk s H scope (compEnvC scope cl C X.env) fp) tg t) (ht : ∀ (s : Shared) (H : Hp) (C : Addr) (cl : List (Str × Addr)) (fp : List Addr), DTs (X.blk s H scope (compEnvC scope cl C X.env) fp) ifs tt)
    (hi1 : ∀ (s : Shared) (H : Hp) (C : Addr) (cl : List (Str × Addr)) (fp : List Addr), DI (X.blk s H scope (compEnvC scope cl C X.env) fp) tg1 iter1 f1)
    (hg1 : ∀ (s : Shared) (H : Hp) (C : Addr) (cl : List (Str × Addr)) (fp : List Addr), DG (X.blk s H scope (compEnvC scope cl C X.env) fp) tg1 t1) (ht1 : ∀ (s : Shared) (H : Hp) (C : Addr) (cl : List (Str × Addr)) (fp : List Addr), DTs (X.blk s H scope (compEnvC scope cl C X.env) fp) ifs1 tt1)
    (he : ∀ (s : Shared) (H : Hp) (C : Addr) (cl : List (Str × Addr)) (fp : List Addr), DE (X.blk s H scope (compEnvC scope cl C X.env) fp) elt el) (hv : ∀ j, j ∈ t.slots → j ∈ own.map (·.2)) (hv1 : ∀ j, j ∈ t1.slots → j ∈ vs1) (hv2 : ∀ j, j ∈ vs1 → j ∈ own.map (·.2))
    (hsw : swapsWith (.ListComp elt [⟨tg, iter, ifs, 0⟩, ⟨tg1, iter1, ifs1, 0⟩] scope pos) (some (.Name y py)) spos.line X.env = pure true) (hy : X.N[i]? = some y := by rfl) (hyl : X.env.scope.names.lookup y = some .local := by rfl)
    (hs : ∀ x, foldedSetIterable iter X.env x = pure x := by intro _; rfl) (hs1 : ∀ env x, foldedSetIterable iter1 env x = pure x := by intro _ _; rfl) :
    DS X (.Assign [.Name y py] (.ListComp elt [⟨tg, iter, ifs, 0⟩, ⟨tg1, iter1, ifs1, 0⟩] scope pos) spos) (dSet i (dLc2 f t tt f1 t1 tt1 el (own.map (·.2)) vs1)) := by
  obtain ⟨wi, i1, i2⟩ := hi
  exact ⟨_, ps_setLc2 hc hN hy hyl hsw i1 ok hv2 (fun s H C cl fp => (hg s H C cl fp).pg) (fun s H C cl fp => (ht s H C cl fp).pts) (fun s H C cl fp => (hi1 s H C cl fp).pi) (fun s H C cl fp => (hg1 s H C cl fp).pg) (fun s H C cl fp => (ht1 s H C cl fp).pts) (fun s H C cl fp => (he s H C cl fp).pe) hs hs1,
    refS_set (ref_lc2 i2 (ref_tgOf _ _) (ref_ttOf _ _) (ref_wiOf _ _) (ref_tgOf _ _) (ref_ttOf _ _) (ref_teOf _ _) hv hv1)⟩
end
/-! ### evaluation -/
theorem lc2Go_enc {β : Type} {t : Tg} {tt : DenT} {f1 : DenI} {t1 : Tg} {tt1 : DenT} {el : DenE} {vs1 : List Nat} {Γ : Ev} (enc : β → D) (h : β → List D) : ∀ (xs : List β), (∀ b ∈ xs, ∃ Γ1, asg t (enc b) false Γ = some Γ1 ∧ tt Γ1 = some true ∧ inner f1 t1 tt1 el vs1 Γ1 = some (h b)) →
    lc2Go t tt f1 t1 tt1 el vs1 Γ (xs.map enc) = some (xs.flatMap h)
  | [], _ => rfl
  | x :: xs, hx => by
    obtain ⟨Γ1, h1, h2, h3⟩ := hx x List.mem_cons_self
    rw [List.map_cons]
    unfold lc2Go
    rw [h1, Option.bind_some, h2, Option.bind_some, if_pos rfl, h3, Option.bind_some, lc2Go_enc enc h xs fun b hb => hx b (List.mem_cons_of_mem _ hb)]
    rfl
theorem inner_of {f1 : DenI} {t1 : Tg} {tt1 : DenT} {el : DenE} {vs1 : List Nat} {Γ1 : Ev} {ds1 : List D} {n : Bool} {q : List D} (h : f1 Γ1 = some (ds1, n, true)) (h2 : lcGo t1 tt1 el (forget vs1 Γ1) ds1 = some q) : inner f1 t1 tt1 el vs1 Γ1 = some q := by
  unfold inner
  rw [h]; exact h2
end Dn
namespace Dn
open PySem PySem.Spec L2
open PyProof.Rows hiding St

/-! ### x = [..], new through and through, and x[k].append(e) -/
section
variable {g : Gc} {X : Cx} {e a b c : Expr} {pos : Pos}
/-- an expression whose answer is new since it was begun -/
structure DEn (X : Cx) (e : Expr) (f : Ev → Option D) : Prop where
  ex : ∃ te, PE X e te ∧ ∀ (F0 B F H : Hp) (σ : St) (Γ : Ev) (d : D) (Q : VK), EnvR (gX X) F0 B F H σ Γ → f Γ = some d → (∀ v F' H', Ext F H F' H' → Rep (gX X) F' (PB H true) d v → Q v H') → te σ H Q
structure DAn (X : Cx) (es : List Expr) (r : Ev → Option (List D)) : Prop where
  ex : ∃ ta, PA X es ta ∧ ∀ (F0 B F H : Hp) (σ : St) (Γ : Ev) (ds : List D) (Q : List V → Hp → Prop), EnvR (gX X) F0 B F H σ Γ → r Γ = some ds → (∀ vs F' H', Ext F H F' H' → Reps (gX X) F' (PB H true) ds vs → Q vs H') → ta σ H Q
def dCallN (φ : Fn) (r : DenA) : Ev → Option D := fun Γ => match (r Γ).bind fun p => φ p.1 with
  | some (d, m) => if m.dp = true then some d else none
  | none => none
theorem den_call {p : Pos} {CX : CXT} {k n : Nat} {f : Addr} {fd : FuncData} {ps : List Str} {x : Str} {es : List Expr} {φ : Fn} {r : DenA} {E : XK} (F : FnOk X.prog X.w X.K X.mg X.base CX k f fd ps (spD (gX X) n φ)) (hr : Room k X.A) (hm : X.mg x = some (.ref f)) (hk : PySem.W.keepIn X.K (.ref f) = true)
    (hb : Binds X.K fd ps []) (hx : Passes CX X E) (hn : ∀ ds x, φ ds = some x → ds.length = n) (ha : DA X (e :: es) r) (hg : Gl X x := by rfl) (hs : starEach (e :: es) X.env = (false, eval e X.env) :: starEach es X.env := by rfl) (hpl : (backTo pos (starEach es X.env)).any (·.1) = false := by rfl)
    (hd : (x == ("__debug__" : Str)) = false := by decide) : DEn X (.Call (.Name x p) (e :: es) [] pos) (dCallN φ r) := by
  obtain ⟨u, a1, a2⟩ := ha
  refine ⟨_, pe_call F hr hg hm hk hb .nil hx a1 hd hs hpl, ?_⟩
  intro F0 B F H σ Γ d0 Q I e q
  unfold dCallN at e
  cases z : r Γ with
  | none => rw [z] at e; cases e
  | some w0 =>
    obtain ⟨ds, nw⟩ := w0
    rw [z] at e
    have e : (match φ ds with
      | some (d, m) => if m.dp = true then some d else none
      | none => none) = some d0 := e
    cases y : φ ds with
    | none => rw [y] at e; cases e
    | some w =>
      obtain ⟨d, m⟩ := w
      rw [y] at e
      have e : (if m.dp = true then some d else none) = some d0 := e
      by_cases c : m.dp = true
      · rw [if_pos c] at e
        cases e
        refine a2 F0 B F H σ Γ ds nw _ I z fun vs F1 H1 X1 r1 => ?_
        rw [List.append_nil]
        refine ⟨by rw [← r1.length]; exact hn _ _ y, F1, ds, _, m, X1.b, r1.any (.refl _), y, fun v F2 H2 X2 r2 => ?_⟩
        have up : ∀ a, PB H1 true a → PB H true a := fun a h1 _ => X1.h.free (h1 rfl)
        cases r2 with
        | @frz v nw r2 =>
          have hnw : nw = true := c
          subst hnw
          exact q v F2 H2 (X1.trans X2) (r2.mono (.refl _) up)
        | @new p o nw z1 z2 z3 z4 z5 =>
          have hnw : nw = true := c
          subst hnw
          exact q _ _ H2 (X1.trans (X2.frz z2 z1 z4)) ((z5.rep z1 fun _ => z2).mono (.refl _) up)
        | bor z1 z3 z4 z5 => exact absurd c (by intro h; cases h)
      · rw [if_neg c] at e; cases e
theorem dan_nil : DAn X [] (fun _ => some []) := ⟨_, pa_nil, by
  intro F0 B F H σ Γ ds Q I e q
  cases e
  exact q [] F H (.refl I.x.b) .nil⟩
def dNCons (f : Ev → Option D) (r : Ev → Option (List D)) : Ev → Option (List D) := fun Γ => (f Γ).bind fun d => (r Γ).bind fun ds => some (d :: ds)
theorem dan_cons {es : List Expr} {f : Ev → Option D} {r : Ev → Option (List D)} (h : DEn X e f) (h' : DAn X es r) (hs : starEach (e :: es) X.env = (false, eval e X.env) :: starEach es X.env := by rfl) : DAn X (e :: es) (dNCons f r) := by
  obtain ⟨t, h1, h2⟩ := h
  obtain ⟨u, h3, h4⟩ := h'
  refine ⟨_, pa_cons h1 h3 hs, ?_⟩
  intro F0 B F H σ Γ ds Q I e q
  obtain ⟨d, e1, e⟩ := bind_some e
  obtain ⟨ds', e2, e3⟩ := bind_some e
  cases e3
  refine h2 F0 B F H σ Γ d _ I e1 fun v F1 H1 X1 r1 => ?_
  refine h4 F0 B F1 H1 σ Γ ds' _ (I.ext X1) e2 fun vs F2 H2 X2 r2 => q (v :: vs) F2 H2 (X1.trans X2) (.cons (r1.mono X2.f fun _ z => z) (r2.mono (.refl _) fun a h1 _ => X1.h.free (h1 rfl)))
/-- x = [f(..), g(..), ..] -/
def dSetDL (i : Nat) (r : Ev → Option (List D)) : DenS := fun Γ => match r Γ with
  | some ds => if ds.length ≤ sizeLine ∧ (D.lst ds).nsc 9 = true then .nx (Γ.set i (.deep (.lst ds))) else .no
  | none => .no
theorem ds_setDL (i : Nat) {x : Str} {pos' pl : Pos} {es : List Expr} {r : Ev → Option (List D)} (hN : X.N.Nodup) (ha : DAn X es r) (hi : X.N[i]? = some x := by rfl) (hx : Loc X.env.scope x := by first | exact Or.inl rfl | exact Or.inr rfl) (hs : swapsWith (.List es pl) (some (.Name x pos')) pos.line X.env = pure false := by rfl)
    (hf : X.fn x = true ∨ X.env.scope.names.lookup x = some .local := by first | exact .inl rfl | exact .inr rfl) : DS X (.Assign [.Name x pos'] (.List es pl) pos) (dSetDL i r) := by
  obtain ⟨t, h1, h2⟩ := ha
  refine ⟨_, ps_set hN hi hx (pe_lst h1) hs hf, ?_⟩
  intro F0 B F H σ Γ E I q
  unfold dSetDL at q
  cases z : r Γ with
  | none => rw [z] at q; exact q.elim
  | some ds =>
    rw [z] at q
    have q : OutQ (gX X) F0 B F E (if ds.length ≤ sizeLine ∧ (D.lst ds).nsc 9 = true then .nx (Γ.set i (.deep (.lst ds))) else .no) := q
    by_cases c : ds.length ≤ sizeLine ∧ (D.lst ds).nsc 9 = true
    · rw [if_pos c] at q
      refine h2 F0 B F H σ Γ ds _ I z fun vs F1 H1 X1 r1 => ⟨by rw [← r1.length]; exact c.1, fun p hp => ?_⟩
      have hH : H p = none := X1.h.free hp
      have hF : F1 p = none := X1.b.free hp
      have X3 : Ext F H F1 (upd H1 p (.lst vs)) := X1.trans (Ext.hi (o := .lst vs) X1.b hp)
      have r3 : Rep (gX X) (upd F1 p (.lst vs)) (PB H true) (.lst ds) (.ref p) := (OwnO.lst r1).rep hF fun _ => hH
      exact q _ F _ (I.setDeep (X3.frz hH hF upd_same) r3 c.2) (.refl _)
    · rw [if_neg c] at q; exact q.elim
theorem Reps.at_ {F : Hp} {A : Addr → Prop} : ∀ {ds : List D} {vs : List V}, Reps g F A ds vs → ∀ (k : Nat) (d : D) (w : V), ds[k]? = some d → vs[k]? = some w → Rep g F A d w
  | _, _, .nil, _, _, _, h, _ => by simp at h
  | _, _, .cons h r, 0, d, w, h1, h2 => by
    simp at h1 h2
    subst h1 h2
    exact h
  | _, _, .cons h r, k + 1, d, w, h1, h2 => Reps.at_ r k d w (by simpa using h1) (by simpa using h2)
/-- a list of flat things -/
def D.fl : D → Bool
  | .lst xs => xs.all D.flat
  | _ => false
theorem EnvR.toShl {F0 B F H : Hp} {σ : St} {Γ : Ev} {i : Nat} {ds : List D} (I : EnvR g F0 B F H σ Γ) (h : Γ[i]? = some (.deep (.lst ds))) (hf : ds.all D.fl = true) : EnvR g F0 B F H σ (Γ.set i (.shl ds 0)) := by
  obtain ⟨R, q, s⟩ := I.reg
  have hl : i < Γ.length := (List.getElem?_eq_some_iff.mp h).1
  refine ⟨I.x, by rw [List.length_set]; exact I.len, R, q, fun j sl e => ?_⟩
  by_cases hj : i = j
  · subst hj
    rw [List.getElem?_set_self hl] at e
    cases e
    obtain ⟨v, ev, r⟩ := s i _ h
    have back : ∀ a u, R i a ≠ none → join F (R i) a = some u → R i a = some u := fun a u n e => by
      cases z : R i a with
      | none => exact absurd z n
      | some o => rw [join_right (q.hat i a o z).1, z] at e; exact e
    cases r with
    | @lst a vs _ h1 h2 h3 =>
      have ra := back a _ h2 h1
      refine ⟨a, vs, ev, ra, h3.length.symm, fun k d v hd hv => ?_⟩
      have fl : d.fl = true := List.all_eq_true.mp hf d (List.mem_of_getElem? hd)
      have rk := h3.at_ k d v hd hv
      cases rk with
      | @lst p ws xs e1 e2 e3 =>
        have rp := back p _ e2 e1
        refine ⟨xs, p, ws, rfl, rfl, fun z => ?_, rp, by rw [e3.length]; omega⟩
        subst z
        rw [ra] at rp
        cases rp
        have fx : xs.all D.flat = true := fl
        have hk : k < vs.length := (List.getElem?_eq_some_iff.mp hv).1
        have hx : k < xs.length := by rw [← e3.length] at hk; exact hk
        have rr := e3.at_ k xs[k] (.ref p) (List.getElem?_eq_getElem hx) hv
        have ff : xs[k].flat = true := List.all_eq_true.mp fx _ (List.getElem_mem hx)
        generalize xs[k] = y at *
        cases rr <;> cases ff
      | _ => cases fl
  · rw [List.getElem?_set_ne hj] at e
    exact s j sl e
theorem EnvR.shlMut {F0 B F H : Hp} {σ : St} {Γ : Ev} {i k n : Nat} {ds xs : List D} (I : EnvR g F0 B F H σ Γ) (h : Γ[i]? = some (.shl ds n)) (hk : ds[k]? = some (.lst xs)) :
    ∃ a vs p ws, σ[i]? = some (some (.ref a)) ∧ H a = some (.lst vs) ∧ vs[k]? = some (.ref p) ∧ H p = some (.lst ws) ∧ ws.length ≤ xs.length + n ∧
      ∀ w F' H', Ext F H F' H' → EnvR g F0 B F' (upd H' p (.lst (ws ++ [w]))) σ (Γ.set i (.shl ds (n + 1))) := by
  obtain ⟨R, q, s⟩ := I.reg
  have hl : i < Γ.length := (List.getElem?_eq_some_iff.mp h).1
  obtain ⟨a, vs, ev, ra, hlen, items⟩ := s i _ h
  have hkl : k < vs.length := by rw [hlen]; exact (List.getElem?_eq_some_iff.mp hk).1
  obtain ⟨xs', p, ws, e1, e2, pa, rp, zl⟩ := items k _ _ hk (List.getElem?_eq_getElem hkl)
  cases e1
  obtain ⟨f1, f2, f3⟩ := q.hat i p _ rp
  refine ⟨a, vs, p, ws, ?_, (q.hat i a _ ra).2.2, by rw [List.getElem?_eq_getElem hkl, e2], f3, zl, fun w F' H' x => ?_⟩
  · cases y : σ[i]? with
    | none => rw [y] at ev; cases ev
    | some z => rw [y] at ev; rw [show z = some (.ref a) by simpa using ev]
  have fp : F' p = none := x.k p f1 (some_ne f3)
  have q' := q.ext x
  refine ⟨⟨I.x.f.trans x.f, fun b u e => ?_, fun b u e => ?_, (I.x.trans x).k⟩, by rw [List.length_set]; exact I.len, fun j => if j = i then upd (R i) p (.lst (ws ++ [w])) else R j, ⟨fun j b u e => ?_, fun j l b g1 g2 => ?_⟩, fun j sl e => ?_⟩
  · rw [upd_ne (ne_of_none e f2)]; exact x.h _ _ (I.x.h _ _ e)
  · rw [upd_ne (ne_of_none e fp)]; exact x.b _ _ e
  · by_cases hj : j = i
    · simp only [hj, if_true] at e
      by_cases hb : b = p
      · subst hb; rw [upd_same] at e ⊢; exact ⟨fp, f2, e⟩
      · rw [upd_ne hb] at e ⊢; exact q'.hat i b u e
    · simp only [if_neg hj] at e
      have hb : b ≠ p := fun z => hj (q.ne j i b (some_ne e) (by rw [z]; exact some_ne rp))
      rw [upd_ne hb]
      exact q'.hat j b u e
  · have back : ∀ j, (if j = i then upd (R i) p (.lst (ws ++ [w])) else R j) b ≠ none → R j b ≠ none := fun j h => by
      by_cases hj : j = i
      · simp only [hj, if_true] at h
        rw [hj]
        by_cases hb : b = p
        · rw [hb]; exact some_ne rp
        · rw [upd_ne hb] at h; exact h
      · simp only [if_neg hj] at h; exact h
    exact q.ne j l b (back j g1) (back l g2)
  · by_cases hj : i = j
    · subst hj
      rw [List.getElem?_set_self hl] at e
      cases e
      refine ⟨a, vs, ev, ?_, hlen, fun k' d v hd hv => ?_⟩
      · simp only [if_true]
        rw [upd_ne (Ne.symm pa)]; exact ra
      · obtain ⟨ys, p2, ws2, g1, g2, g3, g4, g5⟩ := items k' d v hd hv
        simp only [if_true]
        by_cases z : p2 = p
        · subst z
          rw [rp] at g4
          cases g4
          exact ⟨ys, p2, ws ++ [w], g1, g2, g3, upd_same, by simp; omega⟩
        · exact ⟨ys, p2, ws2, g1, g2, g3, by rw [upd_ne z]; exact g4, by omega⟩
    · rw [List.getElem?_set_ne hj] at e
      show SlotR g B F' (if j = i then _ else _) _ _
      rw [if_neg (Ne.symm hj)]
      exact (s j sl e).ext (fun b o e => let ⟨z1, _, z3⟩ := q.hat j b o e; ⟨z1, z3⟩) x
def Slot.asShl : Slot → Option (List D × Nat)
  | .deep (.lst ds) => if ds.all D.fl = true then some (ds, 0) else none
  | .shl ds n => some (ds, n)
  | _ => none
def fitL (n : Nat) : Option D → Bool
  | some (.lst xs) => decide (xs.length + n < sizeLine)
  | _ => false
def dAppAtL (i k : Nat) (f : DenE) : DenS := fun Γ => match f Γ with
  | some _ => (match (Γ[i]?).bind Slot.asShl with
    | some (ds, n) => if fitL n ds[k]? = true then .nx (Γ.set i (.shl ds (n + 1))) else .no
    | none => .no)
  | none => .no
theorem ds_appAtL (i k : Nat) {x : Str} {xp kp sp apos cpos : Pos} {j : Nat} {f : DenE} (he : DE X e f) (hN : X.N[i]? = some x := by rfl) (hv : Vis X.env.scope x := by first | exact Or.inl rfl | exact Or.inr (Or.inl rfl) | exact Or.inr (Or.inr rfl)) (hd : (x == ("__debug__" : Str)) = false := by decide)
    (hcd : (x == ("__classdict__" : Str)) = false := by decide) (hpx : PlainIx (.Constant (.int (k : Int)) j kp) := by exact fun _ _ => rfl) (hbase : attributeBase (.Subscript (.Name x xp) (.Constant (.int (k : Int)) j kp) sp) "append" X.env (eval (.Subscript (.Name x xp) (.Constant (.int (k : Int)) j kp) sp) X.env) = eval (.Subscript (.Name x xp) (.Constant (.int (k : Int)) j kp) sp) X.env := by rfl)
    (hfew : ((backTo cpos (starEach [e] X.env)).all (fun x => !x.1) && (backToKw cpos (keywordEach [] X.env)).all (fun x => x.1.isSome)
      && decide (([e] : List Expr).length + ([] : List Keyword).length + (if ([] : List Keyword).isEmpty then 0 else 1) < 30)) = true := by rfl)
    (hline : (apos.endLine == cpos.line) = true := by rfl) (hs : starEach [e] X.env = (false, eval e X.env) :: starEach [] X.env := by rfl) (hplain : (backTo cpos (starEach [] X.env)).any (·.1) = false := by rfl)
    (hsw : swapsWith (.Call (.Attribute (.Subscript (.Name x xp) (.Constant (.int (k : Int)) j kp) sp) "append" apos) [e] [] cpos) none pos.line X.env = pure false := by rfl) :
    DS X (.Expr (.Call (.Attribute (.Subscript (.Name x xp) (.Constant (.int (k : Int)) j kp) sp) "append" apos) [e] [] cpos) pos) (dAppAtL i k f) := by
  obtain ⟨u, a1, a2⟩ := he
  refine ⟨_, ps_expr (pe_bm PySem.F.plainAttrs_list PySem.F.slot_list_append PySem.F.type_list_append mt_append (pe_ix ix_seq (pe_var hN hv hd hcd) pe_int hpx) (pa_cons a1 pa_nil hs) hbase hfew hline hs hplain) hsw, ?_⟩
  intro F0 B F H σ Γ E I q
  unfold dAppAtL at q
  cases z : f Γ with
  | none => rw [z] at q; exact q.elim
  | some w0 =>
    obtain ⟨d, m⟩ := w0
    rw [z] at q
    have q : OutQ (gX X) F0 B F E (match (Γ[i]?).bind Slot.asShl with
      | some (ds, n) => if fitL n ds[k]? = true then .nx (Γ.set i (.shl ds (n + 1))) else .no
      | none => .no) := q
    cases y : (Γ[i]?).bind Slot.asShl with
    | none => rw [y] at q; exact q.elim
    | some w =>
      obtain ⟨ds, n⟩ := w
      rw [y] at q
      have q : OutQ (gX X) F0 B F E (if fitL n ds[k]? = true then .nx (Γ.set i (.shl ds (n + 1))) else .no) := q
      by_cases hz : fitL n ds[k]? = true
      · rw [if_pos hz] at q
        obtain ⟨xs, hk, hz⟩ : ∃ xs, ds[k]? = some (.lst xs) ∧ xs.length + n < sizeLine := by
          match t : ds[k]?, hz with
          | some (.lst xs), hz => exact ⟨xs, rfl, of_decide_eq_true hz⟩
        obtain ⟨Γs, Is, hΓ, hset⟩ : ∃ Γs, EnvR (gX X) F0 B F H σ Γs ∧ Γs[i]? = some (.shl ds n) ∧ Γs.set i (.shl ds (n + 1)) = Γ.set i (.shl ds (n + 1)) := by
          cases t : Γ[i]? with
          | none => rw [t] at y; cases y
          | some sl =>
            rw [t] at y
            have y : Slot.asShl sl = some (ds, n) := y
            have hl : i < Γ.length := (List.getElem?_eq_some_iff.mp t).1
            match sl, t, y with
            | .deep (.lst ds'), t, y =>
              have y : (if ds'.all D.fl = true then some (ds', 0) else none) = some (ds, n) := y
              by_cases c : ds'.all D.fl = true
              · rw [if_pos c] at y
                cases y
                exact ⟨_, I.toShl t c, by rw [List.getElem?_set_self hl], by rw [List.set_set]⟩
              · rw [if_neg c] at y; cases y
            | .shl ds' n', t, y => cases y; exact ⟨Γ, I, t, rfl⟩
        obtain ⟨a, vs, p, ws, b1, b2, b3, b4, b5, b6⟩ := Is.shlMut hΓ hk
        have hat : atI vs (k : Int) = some (.ref p) := atI_of (by omega) (by simpa using b3)
        refine ⟨.ref a, b1, .inl ⟨a, vs, (k : Int), .ref p, rfl, rfl, SqL.of b2, hat, .inl ⟨rfl, ws, SqL.of b4⟩, ?_⟩⟩
        refine a2 F0 B F H σ Γ d m _ I z fun v F1 H1 X1 r1 => ?_
        refine ⟨p, ws, v, rfl, rfl, X1.h _ _ b4, by omega, ?_⟩
        have := b6 v F1 H1 X1
        rw [hset] at this
        exact q σ F1 _ this X1.f
      · rw [if_neg hz] at q; exact q.elim
end
end Dn
namespace Dn
open PySem PySem.Spec L2
open PyProof.Rows hiding St

/-! ### try with any number of clauses, with and without names -/
/-- one clause: the class, the slot of its name, what its suite wishes -/
structure Clz where
  cl : Value
  sl : Option Nat
  ts : Addr → Value → Option Addr → TS
/-- behind a suite its name is gone -/
def gone (i : Nat) (E : Ends) : Ends := { nx := fun σ H => E.nx (σ.set i none) H, rt := E.rt, bk := fun σ H => E.bk (σ.set i none) H, ct := fun σ H => E.ct (σ.set i none) H }
def Clz.wish (k : Clz) (cls : Value) (d : Option Addr) (E : Ends) (σ : St) (H : Hp) (a : Addr) : Prop := match k.sl with
  | none => k.ts a cls d E σ H
  | some i => k.ts a cls d (gone i E) (σ.set i (some (.ref a))) H
def wClz (K : PySem.W.Frag) (W0 : WX) (E : Ends) : List Clz → WX
  | [] => W0
  | k :: ks => fun cls d σ H => ∃ b, PySem.W.exmOne K cls k.cl = some b ∧ (b = true → ∀ a, H a = none → k.wish cls d E σ H a) ∧ (b = false → wClz K W0 E ks cls d σ H)
/-- the name of a clause and its slot -/
def NameOk (X : Cx) : Option Str → Option Nat → Prop
  | none, none => True
  | some n, some i => X.N[i]? = some n ∧ X.env.kindOf n = some .local
  | _, _ => False
inductive ClzOk (X : Cx) : List ExceptHandler → List Clz → Prop
  | nil : ClzOk X [] []
  | cons {x : Str} {nm : Option Str} {k : Clz} {st : Stmt} {sts : List Stmt} {p p' : Pos} {hs : List ExceptHandler} {ks : List Clz} : Names X x k.cl → NameOk X nm k.sl →
      (∀ (a : Addr) (o : Obj) (cls : Value) (d : Option Addr) (pn : List (Addr × Obj)), Zc cls d o → (∃ vs, o.data = .fields vs) → PSs (X.suite a ((a, o) :: pn)) (st :: sts) (k.ts a cls d)) → ClzOk X hs ks →
      ClzOk X (.ExceptHandler (some (.Name x p)) nm (st :: sts) p' :: hs) (k :: ks)
section
variable {X : Cx} {body : List Stmt} {h0 : ExceptHandler} {hs : List ExceptHandler} {ks : List Clz} {pos : Pos} {tb : WX → TS} {W0 : WX}
theorem ps_clz (hstk : X.stack = X.env :: X.outer) (hfrm : X.env.frame = some X.env.locals) (hnd : X.N.Nodup) (hW : Takes X W0)
    (hbody : ∀ (W : WX) (pn : List (Addr × Obj)) (xe : Value → Shared → Prop), Takes (X.tr pn xe) W → PassesOwn (model X.prog X.w) X.A X.env xe → PSs (X.tr pn xe) body (tb W))
    (hk : ClzOk X (h0 :: hs) ks) : PS X (.Try body (h0 :: hs) [] [] pos) (fun E σ H => tb (wClz X.K W0 E ks) E σ H) := by
  constructor
  intro pins s σ H E I hyp
  have okI := I.ok
  have frA : X.A.frames = some (X.env :: X.outer) := by rw [okI.frames, hstk]
  apply wpAny_Try_except
  let after : Value → Shared → Prop := fun e s1 => wpAny (model X.prog X.w) X.A (noteFrame e X.env) (fun _ s2 => wpAny (model X.prog X.w) X.A (setFlight e none) (fun _ s3 => wpAny (model X.prog X.w) X.A (handleBy e X.env (h0 :: hs)) (SP X pins E) X.xe s3) X.xe s2) X.xe s1
  have takesA : Takes (X.tr (X.pn ++ pins) after) (wClz X.K W0 E ks) := by
    rintro e sx ⟨a, B, sI, pins1, σ1, H1, cls, d, rfl, J0, isNew, upw, sky0, freeA, outs, ages, want⟩
    have J : Inv X pins σ1 H1 sI := J0.ofTry okI
    have sky : Sky B (X.env :: X.outer) a (Zc cls d) X.env.locals sx.heap := by rw [← hstk]; exact sky0
    show wpAny (model X.prog X.w) X.A (noteFrame (.ref a) X.env) _ _ _
    apply Sky.land Zc.steady frA hfrm sky
    intro hL fl upL
    have JL : Inv X pins σ1 H1 { sx with heap := hL } := J.landed isNew fl.1 (upw.trans upL) outs ages
    obtain ⟨oL, vL, getL, zcL, dataL⟩ := fl.there
    have apart : a ∉ frs (X.env :: X.outer) := fun m => by
      obtain ⟨_, o', g', no⟩ := fl.2.2.1.mem m
      rw [getL] at g'
      cases g'
      exact no _ dataL
    have neLoc : a ≠ X.env.locals := fun e => apart (List.mem_filterMap.mpr ⟨_, List.mem_cons_self, by rw [hfrm, e]⟩)
    have nFs : a ∉ X.fs := fun m => by
      obtain ⟨y, my, qy⟩ := List.mem_filterMap.mp m
      exact apart (List.mem_filterMap.mpr ⟨y, List.mem_cons_of_mem _ my, qy⟩)
    have SL := JL.suite getL dataL freeA neLoc nFs
    -- clause by clause
    suffices all : ∀ {hs1 : List ExceptHandler} {ks1 : List Clz}, ClzOk X hs1 ks1 → wClz X.K W0 E ks1 cls d σ1 H1 → wpAny (model X.prog X.w) X.A (handleBy (.ref a) X.env hs1) (SP X pins E) X.xe { sx with heap := hL } from all hk want
    intro hs1 ks1 ck
    induction ck with
    | nil =>
      intro out
      apply wpAny_handleBy_nil
      obtain ⟨q1, q2, q3, o5, v5, T5, oT5, t5, g5, zc5, d5, f5, r5⟩ := id fl
      unfold PySem.passOn
      apply wpAny_bind
      apply wpAny_field g5 d5 f5
      rw [if_neg (show ¬ ((Value.ref T5 == Value.none) = true) from by simp)]
      have fly : wpAny (model X.prog X.w) X.A (setFlight (.ref a) X.env.frame) (fun _ s4 => wpAny (model X.prog X.w) X.A (throw (.ref a) : Sem Flow) (SP X pins E) X.xe s4) X.xe { sx with heap := hL } := by
        rw [hfrm]
        apply HandSPX.setFlight_upZ fl
        intro h6 fl6 up6
        apply wpAny_throw
        apply hW
        exact ⟨a, B, sI, pins, σ1, H1, cls, d, rfl, J, isNew, (upw.trans upL).trans up6, .inr (.inr (by rw [hstk]; exact fl6)), freeA, outs, ages, out⟩
      first
        | exact wpAny_bind (wpAny_pure (wpAny_bind fly))
        | exact wpAny_bind fly
    | @cons x nm k st sts p p' hs2 ks2 named slot suites rest ih =>
      rintro ⟨b, isB, yes, no⟩
      have typ : PySem.W.Looks (model X.prog X.w) hL (typeOf (.ref a)) cls := fun A Q E' s' k' q' => wpAny_typeOf_ref (k' _ _ getL) (by rw [zcL.1]; exact q')
      have mat := PySem.W.exm_one (M := model X.prog X.w) (JL.kIn) typ isB
      have look : ∀ {Q : Value → Shared → Prop} {E' : Value → Shared → Prop}, Q k.cl { sx with heap := hL } → wpAny (model X.prog X.w) (X.A.mark (some (.ref a))) (eval (.Name x p) X.env) Q E' { sx with heap := hL } := fun q => by
        obtain ⟨hg, hdb, hm | ⟨hm, hv, hnn⟩⟩ := named
        · exact ld_glob (X := X.suite a ((a, oL) :: (X.pn ++ pins))) SL hg hm q hdb
        · exact ld_blt (X := X.suite a ((a, oL) :: (X.pn ++ pins))) SL hg hm hv q hnn hdb
      apply wpAny_handleBy_cons (codeAny_handlers_test ?_) (by intro q; cases q)
      apply look
      apply mat.here
      cases b with
      | false => exact ih (no rfl)
      | true =>
        have want1 := yes rfl a freeA
        cases nm with
        | none =>
          cases hsl : k.sl with
          | some i => rw [hsl] at slot; exact slot.elim
          | none =>
            have want2 : k.ts a cls d E σ1 H1 := by unfold Clz.wish at want1; rw [hsl] at want1; exact want1
            apply codeAny_handlers_suite
            apply HandSPX.lands_againZ fl
            intro h7 fl7 up7
            have J7 : Inv X pins σ1 H1 { sx with heap := h7 } := J.landed isNew fl7.1 ((upw.trans upL).trans up7) outs ages
            obtain ⟨o7, v7, g7, z7, d7⟩ := fl7.there
            apply wpAny_mono ((suites a o7 cls d (X.pn ++ pins) z7 ⟨_, d7⟩).run [] _ _ H1 _ (J7.suite g7 d7 freeA neLoc nFs) want2) _ (fun _ _ z => False.elim z)
            intro f s8 post
            cases f with
            | next => obtain ⟨σ8, H8, S8, q8⟩ := post; exact ⟨_, _, S8.unsuite okI, q8⟩
            | brk => obtain ⟨σ8, H8, S8, q8⟩ := post; exact ⟨_, _, S8.unsuite okI, q8⟩
            | cont => obtain ⟨σ8, H8, S8, q8⟩ := post; exact ⟨_, _, S8.unsuite okI, q8⟩
            | ret u => obtain ⟨v8, σ8, H8, S8, r8, q8⟩ := post; exact ⟨_, _, _, S8.unsuite okI, r8, q8⟩
        | some nme =>
          cases hsl : k.sl with
          | none => rw [hsl] at slot; exact slot.elim
          | some i =>
            rw [hsl] at slot
            obtain ⟨hi, hloc⟩ := slot
            have want2 : k.ts a cls d (gone i E) (σ1.set i (some (.ref a))) H1 := by unfold Clz.wish at want1; rw [hsl] at want1; exact want1
            apply codeAny_handlers_suite_as
            apply HandSPX.lands_againZ fl
            intro h7 fl7 up7
            have J7 : Inv X pins σ1 H1 { sx with heap := h7 } := J.landed isNew fl7.1 ((upw.trans upL).trans up7) outs ages
            obtain ⟨o7, v7, g7, z7, d7⟩ := fl7.there
            apply store_ok (X := X.suite a ((a, o7) :: (X.pn ++ pins))) (v := .ref a) (J7.suite g7 d7 freeA neLoc nFs) hnd hi (.inl hloc) rfl _ (.inr hloc)
            intro s9 S9
            apply wpAny_mono ((suites a o7 cls d (X.pn ++ pins) z7 ⟨_, d7⟩).run [] s9 _ H1 _ S9 want2) _ (fun _ _ z => False.elim z)
            intro f s8 post
            have off : ∀ {σ8 : St} {H8 : Hp} {Q : Shared → Prop}, Inv (X.suite a ((a, o7) :: (X.pn ++ pins))) [] σ8 H8 s8 → (∀ t, Inv X pins (σ8.set i none) H8 t → Q t) → wpAny (model X.prog X.w) X.A (do bindName X.env nme .none; unbindBehindTheSuite X.env nme p') (fun _ t => Q t) X.xe s8 := fun S8 q => gone_ok (S8.unsuite okI) hnd hi hloc q
            cases f with
            | next => obtain ⟨σ8, H8, S8, q8⟩ := post; exact off S8 fun t Jt => ⟨_, _, Jt, q8⟩
            | brk => obtain ⟨σ8, H8, S8, q8⟩ := post; exact off S8 fun t Jt => ⟨_, _, Jt, q8⟩
            | cont => obtain ⟨σ8, H8, S8, q8⟩ := post; exact off S8 fun t Jt => ⟨_, _, Jt, q8⟩
            | ret u => obtain ⟨v8, σ8, H8, S8, r8, q8⟩ := post; exact off S8 fun t Jt => ⟨_, _, _, Jt, r8, q8⟩
  apply wpAny_mono ((hbody (wClz X.K W0 E ks) (X.pn ++ pins) after takesA PassesOwn.looking).run [] s σ H E (I.toTry _) hyp) _ (fun _ _ he => he)
  intro f s1 post
  cases f with
  | next => obtain ⟨σ1, H1, J1, q⟩ := post; exact wpAny_execs_nil ⟨σ1, H1, J1.ofTry okI, q⟩
  | brk => obtain ⟨σ1, H1, J1, q⟩ := post; exact ⟨σ1, H1, J1.ofTry okI, q⟩
  | cont => obtain ⟨σ1, H1, J1, q⟩ := post; exact ⟨σ1, H1, J1.ofTry okI, q⟩
  | ret u => obtain ⟨v, σ1, H1, J1, r, q⟩ := post; exact ⟨v, σ1, H1, J1.ofTry okI, r, q⟩
end
/-! ### the clauses' readings -/
abbrev Cls := Str × Option Nat × (Addr → DenS)
def xPick : List Cls → Str → DenS
  | [], _, _ => .no
  | (c0, none, su) :: r, c, Γ => if c = c0 then su 0 Γ else xPick r c Γ
  | (c0, some i, su) :: r, c, Γ => if c = c0 then (match su 0 (Γ.set i (.exc 0)) with
    | .rt d m => .rt d m
    | _ => .no) else xPick r c Γ
def xTryN (l : List Cls) (fx : DenX) : DenS := fun Γ => match fx Γ with
  | .o x => x
  | .ex c Γ' => xPick l c Γ'
theorem xPick_no : ∀ {l : List Cls} {c : Str} {Γ : Ev}, c ∉ l.map (·.1) → xPick l c Γ = .no
  | [], _, _, _ => rfl
  | (c0, none, su) :: r, c, Γ, h => by
    have h := not_or.mp (fun z => h (List.mem_cons.mpr z))
    unfold xPick
    rw [if_neg h.1, xPick_no h.2]
  | (c0, some i, su) :: r, c, Γ, h => by
    have h := not_or.mp (fun z => h (List.mem_cons.mpr z))
    unfold xPick
    rw [if_neg h.1, xPick_no h.2]
/-- what the suite's reading does not lean on -/
def SuOk (oi : Option Nat) (su : Addr → DenS) : Prop := match oi with
  | none => ∀ (a : Addr) (Γ : Ev), su a Γ = su 0 Γ
  | some i => ∀ (a : Addr) (Γ : Ev), su a (Γ.set i (.exc a)) = su 0 (Γ.set i (.exc 0))
section
variable {X : Cx} {mv : Str → Value}
inductive ClD (X : Cx) (mv : Str → Value) : List ExceptHandler → List Cls → Prop
  | nil : ClD X mv [] []
  | cons {x : Str} {nm : Option Str} {c0 : Str} {oi : Option Nat} {su : Addr → DenS} {C Dc : Addr} {st : Stmt} {sts : List Stmt} {p p' : Pos} {hs : List ExceptHandler} {r : List Cls} : X.mg x = some (.ref C) → Gl X x → (x == ("__debug__" : Str)) = false → mv c0 = .ref Dc → PySem.W.exmOne X.K (.ref Dc) (.ref C) = some true →
      (∀ c ∈ r.map (·.1), ∃ Dc', mv c = .ref Dc' ∧ PySem.W.exmOne X.K (.ref Dc') (.ref C) = some false) → NameOk X nm oi → SuOk oi su →
      (∀ (a : Addr) (oe : Obj) (pn : List (Addr × Obj)), Zc (.ref Dc) none oe → (∃ vs, oe.data = .fields vs) → DSs (X.suite a ((a, oe) :: pn)) (st :: sts) (su a)) → ClD X mv hs r →
      ClD X mv (.ExceptHandler (some (.Name x p)) nm (st :: sts) p' :: hs) ((c0, oi, su) :: r)
theorem ClD.wish (W0 : WX) {hs : List ExceptHandler} {l : List Cls} (h : ClD X mv hs l) : ∃ ks, ClzOk X hs ks ∧ ∀ (c : Str) (Γ : Ev) (F0 B F H : Hp) (σ : St) (E : Ends), EnvR (gX X) F0 B F H σ Γ → OutQ (gX X) F0 B F E (xPick l c Γ) → wClz X.K W0 E ks (mv c) none σ H := by
  induction h with
  | nil => exact ⟨[], .nil, fun c Γ F0 B F H σ E _ q => q.elim⟩
  | @cons x nm c0 oi su C Dc st sts p p' hs2 r hc hg hd hm ht hf hnm hu hsu rest ih =>
    obtain ⟨ks, k1, k2⟩ := ih
    refine ⟨⟨.ref C, oi, fun a cls d E σ H => cls = .ref Dc ∧ d = none ∧ tsOf (gX X) (su a) E σ H⟩ :: ks, .cons ⟨hg, hd, .inl hc⟩ hnm (fun a o cls d pn hz hv => ⟨fun pins s σ H D I ⟨e1, e2, h⟩ => by
      subst e1 e2
      exact (hsu a o pn hz hv).pss.run pins s σ H D I h⟩) k1, fun c Γ F0 B F H σ E I q => ?_⟩
    by_cases cc : c = c0
    · subst cc
      refine ⟨true, by rw [hm]; exact ht, fun _ a _ => ?_, fun z => nomatch z⟩
      cases oi with
      | none =>
        have q : OutQ (gX X) F0 B F E (if c = c then su 0 Γ else xPick r c Γ) := q
        rw [if_pos rfl] at q
        refine ⟨hm, rfl, F0, B, F, Γ, I, ?_⟩
        have hu : ∀ (a : Addr) (Γ : Ev), su a Γ = su 0 Γ := hu
        rw [hu a Γ]; exact q
      | some i =>
        have q : OutQ (gX X) F0 B F E (if c = c then (match su 0 (Γ.set i (.exc 0)) with
          | .rt d m => .rt d m
          | _ => .no) else xPick r c Γ) := q
        rw [if_pos rfl] at q
        refine ⟨hm, rfl, F0, B, F, Γ.set i (.exc a), I.setExc, ?_⟩
        have hu : ∀ (a : Addr) (Γ : Ev), su a (Γ.set i (.exc a)) = su 0 (Γ.set i (.exc 0)) := hu
        rw [hu a Γ]
        cases y : su 0 (Γ.set i (.exc 0)) with
        | rt d m => rw [y] at q; exact q
        | nx Γ2 => rw [y] at q; exact q.elim
        | bk Γ2 => rw [y] at q; exact q.elim
        | ct Γ2 => rw [y] at q; exact q.elim
        | no => rw [y] at q; exact q.elim
    · have q2 : OutQ (gX X) F0 B F E (xPick r c Γ) := by
        cases oi with
        | none =>
          have q : OutQ (gX X) F0 B F E (if c = c0 then su 0 Γ else xPick r c Γ) := q
          rw [if_neg cc] at q; exact q
        | some i =>
          have q : OutQ (gX X) F0 B F E (if c = c0 then (match su 0 (Γ.set i (.exc 0)) with
            | .rt d m => .rt d m
            | _ => .no) else xPick r c Γ) := q
          rw [if_neg cc] at q; exact q
      by_cases cm : c ∈ r.map (·.1)
      · obtain ⟨Dc', m1, m2⟩ := hf c cm
        exact ⟨false, by rw [m1]; exact m2, fun z => (nomatch z), fun _ => k2 c Γ F0 B F H σ E I q2⟩
      · rw [xPick_no cm] at q2; exact q2.elim
theorem ds_tryN {body : List Stmt} {h0 : ExceptHandler} {hs : List ExceptHandler} {l : List Cls} {pos : Pos} {fx : DenX} (hN : X.N.Nodup)
    (hb : ∀ (W : WX) (pn : List (Addr × Obj)) (xe : Value → Shared → Prop), Takes (X.tr pn xe) W → DXs (X.tr pn xe) mv W body fx)
    (hk : ClD X mv (h0 :: hs) l) (hst : X.stack = X.env :: X.outer := by rfl) (hf : X.env.frame = some X.env.locals := by rfl) :
    DS X (.Try body (h0 :: hs) [] [] pos) (xTryN l fx) := by
  obtain ⟨ks, k1, k2⟩ := hk.wish (fun _ _ _ _ => False)
  refine ⟨_, ps_clz (tb := txOf (gX X) mv fx) hst hf hN takes0 (fun W pn xe tk _ => (hb W pn xe tk).pss) k1, ?_⟩
  intro F0 B F H σ Γ E I q
  refine ⟨F0, B, F, Γ, I, ?_⟩
  unfold xTryN at q
  cases z : fx Γ with
  | o y => rw [z] at q; exact q
  | ex c Γ' =>
    rw [z] at q
    intro σ' F' H' I' s'
    exact k2 c Γ' F0 B F' H' σ' E I' (q.mono s')
end
/-! ### x = f(..), where f may raise -/
def xSet (i : Nat) (f : DenEX) : DenX := fun Γ => match f Γ with
  | some (.v d (.frz _)) => .o (.nx (Γ.set i (.val d false)))
  | some (.v d (.new _)) => .o (.nx (Γ.set i (.own d false)))
  | some (.v _ (.bor _)) => .o .no
  | some (.ex c) => .ex c Γ
  | none => .o .no
section
variable {X : Cx} {mv : Str → Value} {W : WX} {e : Expr} {pos : Pos}
theorem dx_set (i : Nat) {x : Str} {pos' : Pos} {f : DenEX} (hN : X.N.Nodup) (he : DEX X mv W e f) (hi : X.N[i]? = some x := by rfl) (hx : Loc X.env.scope x := by first | exact Or.inl rfl | exact Or.inr rfl) (hs : swapsWith e (some (.Name x pos')) pos.line X.env = pure false := by rfl)
    (hf : X.fn x = true ∨ X.env.scope.names.lookup x = some .local := by first | exact .inl rfl | exact .inr rfl) : DX X mv W (.Assign [.Name x pos'] e pos) (xSet i f) := by
  obtain ⟨t, h1, h2⟩ := he
  refine ⟨_, ps_set hN hi hx h1 hs hf, ?_⟩
  intro F0 B F H σ Γ E I q
  unfold xSet at q
  cases z : f Γ with
  | none => rw [z] at q; exact q.elim
  | some rr =>
    refine h2 F0 B F H σ Γ rr _ I z ?_
    cases rr with
    | ex c => rw [z] at q; exact fun F' H' X1 => q σ F' H' (I.ext X1) X1.f
    | v d m =>
      rw [z] at q
      intro v F1 H1 X1 r1
      cases m with
      | frz n =>
        cases r1 with
        | frz r1 => exact q _ F1 H1 ((I.ext X1).set (r1.mono (.refl _) wkP)) X1.f
      | new n => exact q _ F1 H1 (I.setNew X1 r1.wk) X1.f
      | bor n => exact q.elim
end
/-! ### isinstance of the exception in hand, of a built-in class -/
theorem kitT_of {K : PySem.W.Frag} {D : Addr} {T : String} {b : Bool} (hm : PySem.W.kitMeta T = true) (h : PySem.W.subIn K (.ref D) (.type T) = some b) : PySem.W.kitOne K (.ref D) (.type T) = some b := by
  unfold PySem.W.kitOne
  rw [if_neg (by intro z; cases eq_of_beq z)]
  show (if PySem.W.kitMeta T = true then PySem.W.subIn K (.ref D) (.type T) else none) = some b
  rw [if_pos hm]; exact h
section
variable {X : Cx}
theorem de_isXT (i : Nat) {a : Addr} {oe : Obj} {pn : List (Addr × Obj)} {Dc : Addr} {T : String} {x y : Str} {px py q1 q2 : Pos} {bb : Bool} (xc : ExcC X.K Dc) (hz : Zc (.ref Dc) none oe) (hf : ∃ vs, oe.data = .fields vs) (hk : PySem.W.kitOne X.K (.ref Dc) (.type T) = some bb)
    (hm : X.mg "isinstance" = none) (hy : X.mg y = none) (hT : bootBuiltins y = some (.type T)) (hg : Gl X "isinstance" := by rfl) (hgy : Gl X y := by rfl) (hN : X.N[i]? = some x := by rfl) (hv : Vis X.env.scope x := by first | exact Or.inl rfl | exact Or.inr (Or.inl rfl) | exact Or.inr (Or.inr rfl)) (hd : (x == ("__debug__" : Str)) = false := by decide)
    (hcd : (x == ("__classdict__" : Str)) = false := by decide) (hdy : (y == ("__debug__" : Str)) = false := by decide) (hny : y ≠ "__name__" := by decide)
    (he : starEach [.Name x px, .Name y py] X.env = (false, eval (.Name x px) X.env) :: starEach [.Name y py] X.env := by rfl) (he2 : starEach [.Name y py] X.env = (false, eval (.Name y py) X.env) :: starEach [] X.env := by rfl) (hpl : (backTo q2 (starEach [.Name y py] X.env)).any (·.1) = false := by rfl) :
    DE (X.suite a ((a, oe) :: pn)) (.Call (.Name "isinstance" q1) [.Name x px, .Name y py] [] q2) (dIsX i a bb) := by
  refine ⟨_, pe_callB (X := X.suite a ((a, oe) :: pn)) (call_isE xc hz hf) hg hm PyProof.Rows.boot_isinstance (pa_cons (pe_var (X := X.suite a ((a, oe) :: pn)) hN hv hd hcd) (pa_cons (pe_bltn (X := X.suite a ((a, oe) :: pn)) (v := .ty T) hgy hy hT rfl hny hdy) pa_nil he2) he) (by decide) (by decide) he hpl, ?_⟩
  intro F0 B F H σ Γ d m Q I e q
  unfold dIsX at e
  cases z : Γ[i]? with
  | none => rw [z] at e; cases e
  | some sl =>
    rw [z] at e
    cases sl with
    | exc a' =>
      have e : (if a' = a then some (D.bl bb, Md.frz true) else none) = some (d, m) := e
      by_cases ha : a' = a
      · rw [if_pos ha] at e
        cases e
        subst ha
        obtain ⟨R, rg, s⟩ := id I.reg
        have hσ : (σ[i]?).join = some (.ref a') := s i _ z
        have hσ' : σ[i]? = some (some (.ref a')) := by
          cases w : σ[i]? with
          | none => rw [w] at hσ; cases hσ
          | some u => rw [w] at hσ; rw [show u = some (.ref a') by simpa using hσ]
        exact ⟨_, hσ', .ty T, .type T, bb, rfl, fun u r => r, hk, q _ F H (.refl I.x.b) (.frz (.bl _))⟩
      · rw [if_neg ha] at e; cases e
    | _ => cases e
end
end Dn
namespace Dn
open PySem PySem.Spec L2
open PyProof.Rows hiding St
section
variable {g : Gc} {X : Cx} {a b : Expr}
/-! ### xs.count(k), whole numbers -/
def cntD (x y : D) : Option (D × Md) := match y with
  | .int k => x.intsOf.map fun ns => (.int ((ns.count k : Nat) : Int), .frz true)
  | _ => none
@[simp] theorem cntD_ints {ns : List Int} {k : Int} : cntD (.lst (ns.map D.int)) (.int k) = some (.int ((ns.count k : Nat) : Int), .frz true) := by
  show (D.intsOf (.lst (ns.map D.int))).map _ = _
  rw [show D.intsOf (.lst (ns.map D.int)) = some ns by simp]; rfl
@[simp] def dCount (fo fa : DenE) : DenE := fun Γ => (fo Γ).bind fun p => (fa Γ).bind fun q => cntD p.1 q.1
theorem de_count {fo fa : DenE} {apos cpos : Pos} (h1 : DE X a fo) (h2 : DE X b fa)
    (hbase : attributeBase a "count" X.env (eval a X.env) = eval a X.env := by rfl)
    (hfew : ((backTo cpos (starEach (b :: []) X.env)).all (fun x => !x.1) && (backToKw cpos (keywordEach [] X.env)).all (fun x => x.1.isSome)
      && decide ((b :: []).length + ([] : List Keyword).length + (if ([] : List Keyword).isEmpty then 0 else 1) < 30)) = true := by rfl)
    (hline : (apos.endLine == cpos.line) = true := by rfl) (hs : starEach (b :: []) X.env = (false, eval b X.env) :: starEach [] X.env := by rfl) (hplain : (backTo cpos (starEach [] X.env)).any (·.1) = false := by rfl) :
    DE X (.Call (.Attribute a "count" apos) [b] [] cpos) (dCount fo fa) := by
  obtain ⟨t1, a1, a2⟩ := h1
  obtain ⟨t2, b1, b2⟩ := h2
  refine ⟨_, pe_bm PySem.F.plainAttrs_list PySem.F.slot_list_count PySem.F.type_list_count mt_lcount a1 (pa_cons b1 pa_nil hs) hbase hfew hline hs hplain, ?_⟩
  intro F0 B F H σ Γ d m Q I e q
  obtain ⟨⟨d1, m1⟩, e1, e⟩ := bind_some e
  obtain ⟨⟨d2, m2⟩, e2, e⟩ := bind_some e
  have e : cntD d1 d2 = some (d, m) := e
  cases d2 with
  | int k =>
    have e : (d1.intsOf.map fun ns => (D.int ((ns.count k : Nat) : Int), Md.frz true)) = some (d, m) := e
    cases z : d1.intsOf with
    | none => rw [z] at e; cases e
    | some ns =>
    rw [z] at e
    cases e
    refine a2 F0 B F H σ Γ d1 m1 _ I e1 fun v F1 H1 X1 r1 => ?_
    obtain ⟨p, rfl, sq⟩ := (r1.vw X1.b).intsOf z
    refine ⟨?_, b2 F0 B F1 H1 σ Γ _ m2 _ (I.ext X1) e2 fun w F2 H2 X2 r2 => ?_⟩
    · exact .inl ⟨rfl, _, sq⟩
    · have hw : w = .int k := by
        have w := r2.vw X2.b
        cases w; rfl
      subst hw
      exact ⟨p, ns, k, rfl, rfl, sq.imp (fun h => h.imp (fun h => X2.h _ _ h) fun ⟨o, h⟩ => ⟨o, X2.h _ _ h⟩) id, q _ F2 H2 (X1.trans X2) (.frz (.int _))⟩
  | _ => cases e
end
end Dn
namespace Dn
open PySem PySem.Spec L2
open PyProof.Rows hiding St
/-! ### constants of the module: tuples of tuples -/
def kOks (K : PySem.W.Frag) (ds : List D) (us : List Value) : Prop := ∃ vs, Vals vs us ∧ ∀ P w F B, Reps ⟨P, w, K⟩ F (PB B true) ds vs
theorem koks_nil {K : PySem.W.Frag} : kOks K [] [] := ⟨[], .nil, fun _ _ _ _ => .nil⟩
theorem koks_cons {K : PySem.W.Frag} {d : D} {u : Value} {ds : List D} {us : List Value} (h1 : kOk K d u) (h2 : kOks K ds us) : kOks K (d :: ds) (u :: us) := by
  obtain ⟨v, a, b⟩ := h1
  obtain ⟨vs, c, e⟩ := h2
  exact ⟨v :: vs, .cons a c, fun P w F B => .cons (b P w F B) (e P w F B)⟩
theorem kok_tupN {K : PySem.W.Frag} {ds : List D} {a : Addr} {o : Obj} {its : Array Value} {n : Nat} (hl : K.lookup a = some o) (hc : o.cls = .type "tuple") (hd : o.data = .seq its n) (hz : its.size ≤ 16777216) (hk : kOks K ds its.toList) : kOk K (.tup ds) (.ref a) := by
  obtain ⟨vs, hv, hr⟩ := hk
  exact ⟨.ref a, rfl, fun P w F B => .tup (.inr ⟨o, its, n, hl, hc, hd, hz, hv⟩) (hr P w F B)⟩
theorem kok_tup {K : PySem.W.Frag} {ds : List D} {a : Addr} {o : Obj} {its : Array Value} {n : Nat} (hl : K.lookup a = some o) (hc : o.cls = .type "tuple") (hd : o.data = .seq its n) (hz : its.size ≤ 16777216) (hk : katoms ds its.toList = true) : kOk K (.tup ds) (.ref a) := kok_tupN hl hc hd hz (katoms_ok hk)
end Dn
/-! the text by places; denotations and walks: printed by gen.py -/
namespace La
noncomputable section
open PySem PySem.Spec L2 Dn
open PyProof.Rows hiding St
def topS (i : Nat) : Stmt := PySem.Challenge.pw_seatsbyrule_k26_first_seats_with_minimum.main.body.getD i (.Pass ⟨0, 0, 0, 0⟩)
abbrev s_is_whole : Stmt := topS 8
abbrev N_is_whole : List Str := ["value"]
theorem sc_is_whole : FnScope N_is_whole ["value"] (defScope s_is_whole) := ⟨rfl, rfl, rfl, by decide +kernel, rfl, by decide +kernel, by decide +kernel⟩
/-! is_whole: 0 value -/
abbrev s_fraction : Stmt := topS 9
abbrev N_fraction : List Str := ["top", "bottom", "common"]
theorem sc_fraction : FnScope N_fraction ["top", "bottom"] (defScope s_fraction) := ⟨rfl, rfl, rfl, by decide +kernel, rfl, by decide +kernel, by decide +kernel⟩
/-! fraction: 0 top, 1 bottom, 2 common -/
abbrev s_whole : Stmt := topS 10
abbrev N_whole : List Str := ["number"]
theorem sc_whole : FnScope N_whole ["number"] (defScope s_whole) := ⟨rfl, rfl, rfl, by decide +kernel, rfl, by decide +kernel, by decide +kernel⟩
/-! whole: 0 number -/
abbrev s_plus : Stmt := topS 11
abbrev N_plus : List Str := ["one", "other"]
theorem sc_plus : FnScope N_plus ["one", "other"] (defScope s_plus) := ⟨rfl, rfl, rfl, by decide +kernel, rfl, by decide +kernel, by decide +kernel⟩
/-! plus: 0 one, 1 other -/
abbrev s_times : Stmt := topS 12
abbrev N_times : List Str := ["one", "other"]
theorem sc_times : FnScope N_times ["one", "other"] (defScope s_times) := ⟨rfl, rfl, rfl, by decide +kernel, rfl, by decide +kernel, by decide +kernel⟩
/-! times: 0 one, 1 other -/
abbrev s_over : Stmt := topS 13
abbrev N_over : List Str := ["one", "other"]
theorem sc_over : FnScope N_over ["one", "other"] (defScope s_over) := ⟨rfl, rfl, rfl, by decide +kernel, rfl, by decide +kernel, by decide +kernel⟩
/-! over: 0 one, 1 other -/
abbrev s_is_less : Stmt := topS 14
abbrev N_is_less : List Str := ["one", "other"]
theorem sc_is_less : FnScope N_is_less ["one", "other"] (defScope s_is_less) := ⟨rfl, rfl, rfl, by decide +kernel, rfl, by decide +kernel, by decide +kernel⟩
/-! is_less: 0 one, 1 other -/
abbrev s_square : Stmt := topS 16
abbrev N_square : List Str := ["rule", "k", "mark"]
theorem sc_square : FnScope N_square ["rule", "k"] (defScope s_square) := ⟨rfl, rfl, rfl, by decide +kernel, rfl, by decide +kernel, by decide +kernel⟩
/-! square: 0 rule, 1 k, 2 mark -/
abbrev s_is_strict : Stmt := topS 17
abbrev N_is_strict : List Str := ["rule"]
theorem sc_is_strict : FnScope N_is_strict ["rule"] (defScope s_is_strict) := ⟨rfl, rfl, rfl, by decide +kernel, rfl, by decide +kernel, by decide +kernel⟩
/-! is_strict: 0 rule -/
abbrev s_square_of : Stmt := topS 18
abbrev N_square_of : List Str := ["number"]
theorem sc_square_of : FnScope N_square_of ["number"] (defScope s_square_of) := ⟨rfl, rfl, rfl, by decide +kernel, rfl, by decide +kernel, by decide +kernel⟩
/-! square_of: 0 number -/
abbrev s_is_above : Stmt := topS 19
abbrev N_is_above : List Str := ["one", "other"]
theorem sc_is_above : FnScope N_is_above ["one", "other"] (defScope s_is_above) := ⟨rfl, rfl, rfl, by decide +kernel, rfl, by decide +kernel, by decide +kernel⟩
/-! is_above: 0 one, 1 other -/
abbrev s_first_lacking : Stmt := topS 21
abbrev N_first_lacking : List Str := ["rule", "seats", "some", "party", "number"]
theorem sc_first_lacking : FnScope N_first_lacking ["rule", "seats"] (defScope s_first_lacking) := ⟨rfl, rfl, rfl, by decide +kernel, rfl, by decide +kernel, by decide +kernel⟩
/-! first_lacking: 0 rule, 1 seats, 2 some, 3 party, 4 number -/
abbrev s_next_ratio : Stmt := topS 22
abbrev N_next_ratio : List Str := ["votes", "rule", "seats", "party"]
theorem sc_next_ratio : FnScope N_next_ratio ["votes", "rule", "seats", "party"] (defScope s_next_ratio) := ⟨rfl, rfl, rfl, by decide +kernel, rfl, by decide +kernel, by decide +kernel⟩
/-! next_ratio: 0 votes, 1 rule, 2 seats, 3 party -/
abbrev s_least_of : Stmt := topS 23
abbrev N_least_of : List Str := ["values", "best", "value"]
theorem sc_least_of : FnScope N_least_of ["values"] (defScope s_least_of) := ⟨rfl, rfl, rfl, by decide +kernel, rfl, by decide +kernel, by decide +kernel⟩
/-! least_of: 0 values, 1 best, 2 value -/
abbrev s_greatest_of : Stmt := topS 24
abbrev N_greatest_of : List Str := ["values", "best", "value"]
theorem sc_greatest_of : FnScope N_greatest_of ["values"] (defScope s_greatest_of) := ⟨rfl, rfl, rfl, by decide +kernel, rfl, by decide +kernel, by decide +kernel⟩
/-! greatest_of: 0 values, 1 best, 2 value -/
abbrev s_is_next : Stmt := topS 25
abbrev N_is_next : List Str := ["votes", "rule", "seats", "one", "other", "mine", "theirs"]
theorem sc_is_next : FnScope N_is_next ["votes", "rule", "seats", "one", "other"] (defScope s_is_next) := ⟨rfl, rfl, rfl, by decide +kernel, rfl, by decide +kernel, by decide +kernel⟩
/-! is_next: 0 votes, 1 rule, 2 seats, 3 one, 4 other, 5 mine, 6 theirs -/
abbrev s_next_party : Stmt := topS 26
abbrev N_next_party : List Str := ["votes", "rule", "seats", "best", "party"]
theorem sc_next_party : FnScope N_next_party ["votes", "rule", "seats"] (defScope s_next_party) := ⟨rfl, rfl, rfl, by decide +kernel, rfl, by decide +kernel, by decide +kernel⟩
/-! next_party: 0 votes, 1 rule, 2 seats, 3 best, 4 party -/
abbrev s_first_seats : Stmt := topS 27
abbrev N_first_seats : List Str := ["votes", "rule", "house", "seats", "_"]
theorem sc_first_seats : FnScope N_first_seats ["votes", "rule", "house"] (defScope s_first_seats) := ⟨rfl, rfl, rfl, by decide +kernel, rfl, by decide +kernel, by decide +kernel⟩
/-! first_seats: 0 votes, 1 rule, 2 house, 3 seats, 4 _ -/
abbrev s_check_minimums : Stmt := topS 30
abbrev N_check_minimums : List Str := ["votes", "minimums", "number"]
theorem sc_check_minimums : FnScope N_check_minimums ["votes", "minimums"] (defScope s_check_minimums) := ⟨rfl, rfl, rfl, by decide +kernel, rfl, by decide +kernel, by decide +kernel⟩
/-! check_minimums: 0 votes, 1 minimums, 2 number -/
abbrev s_first_less : Stmt := topS 31
abbrev N_first_less : List Str := ["minimums", "seats", "some", "party", "number"]
theorem sc_first_less : FnScope N_first_less ["minimums", "seats"] (defScope s_first_less) := ⟨rfl, rfl, rfl, by decide +kernel, rfl, by decide +kernel, by decide +kernel⟩
/-! first_less: 0 minimums, 1 seats, 2 some, 3 party, 4 number -/
abbrev s_bars_minimal : Stmt := topS 32
abbrev N_bars_minimal : List Str := ["votes", "rule", "minimums", "seats", "first", "second", "more"]
theorem sc_bars_minimal : FnScope N_bars_minimal ["votes", "rule", "minimums", "seats", "first", "second"] (defScope s_bars_minimal) := ⟨rfl, rfl, rfl, by decide +kernel, rfl, by decide +kernel, by decide +kernel⟩
/-! bars_minimal: 0 votes, 1 rule, 2 minimums, 3 seats, 4 first, 5 second, 6 more -/
abbrev s_first_barring : Stmt := topS 33
abbrev N_first_barring : List Str := ["votes", "rule", "minimums", "seats", "first", "second"]
theorem sc_first_barring : FnScope N_first_barring ["votes", "rule", "minimums", "seats"] (defScope s_first_barring) := ⟨rfl, rfl, rfl, by decide +kernel, rfl, by decide +kernel, by decide +kernel⟩
/-! first_barring: 0 votes, 1 rule, 2 minimums, 3 seats, 4 first, 5 second -/
abbrev s_free_ratio : Stmt := topS 34
abbrev N_free_ratio : List Str := ["votes", "rule", "minimums", "seats", "party"]
theorem sc_free_ratio : FnScope N_free_ratio ["votes", "rule", "minimums", "seats", "party"] (defScope s_free_ratio) := ⟨rfl, rfl, rfl, by decide +kernel, rfl, by decide +kernel, by decide +kernel⟩
/-! free_ratio: 0 votes, 1 rule, 2 minimums, 3 seats, 4 party -/
abbrev s_greatest_divisor : Stmt := topS 35
abbrev N_greatest_divisor : List Str := ["votes", "rule", "minimums", "seats", "parties", "most", "party"]
theorem sc_greatest_divisor : FnScope N_greatest_divisor ["votes", "rule", "minimums", "seats"] (defScope s_greatest_divisor) := ⟨rfl, rfl, rfl, by decide +kernel, rfl, by decide +kernel, by decide +kernel⟩
/-! greatest_divisor: 0 votes, 1 rule, 2 minimums, 3 seats, 4 parties, 5 most, 6 party -/
abbrev s_find_minimal : Stmt := topS 36
abbrev N_find_minimal : List Str := ["votes", "rule", "minimums", "seats", "party", "pair"]
theorem sc_find_minimal : FnScope N_find_minimal ["votes", "rule", "minimums", "seats"] (defScope s_find_minimal) := ⟨rfl, rfl, rfl, by decide +kernel, rfl, by decide +kernel, by decide +kernel⟩
/-! find_minimal: 0 votes, 1 rule, 2 minimums, 3 seats, 4 party, 5 pair -/
abbrev s_seats_with_minimums : Stmt := topS 37
abbrev N_seats_with_minimums : List Str := ["votes", "rule", "minimums", "house", "left", "seats", "_"]
theorem sc_seats_with_minimums : FnScope N_seats_with_minimums ["votes", "rule", "minimums", "house"] (defScope s_seats_with_minimums) := ⟨rfl, rfl, rfl, by decide +kernel, rfl, by decide +kernel, by decide +kernel⟩
/-! seats_with_minimums: 0 votes, 1 rule, 2 minimums, 3 house, 4 left, 5 seats, 6 _ -/
abbrev s_law_cell_u : Stmt := topS 39
abbrev N_law_cell_u : List Str := ["script", "k"]
theorem sc_law_cell_u : FnScope N_law_cell_u ["script", "k"] (defScope s_law_cell_u) := ⟨rfl, rfl, rfl, by decide +kernel, rfl, by decide +kernel, by decide +kernel⟩
/-! _law_cell: 0 script, 1 k -/
abbrev s_law_numbers_u : Stmt := topS 40
abbrev N_law_numbers_u : List Str := ["cell", "count", "limit", "found", "k", "mixed"]
theorem sc_law_numbers_u : FnScope N_law_numbers_u ["cell", "count", "limit"] (defScope s_law_numbers_u) := ⟨rfl, rfl, rfl, by decide +kernel, rfl, by decide +kernel, by decide +kernel⟩
/-! _law_numbers: 0 cell, 1 count, 2 limit, 3 found, 4 k, 5 mixed -/
abbrev s_law_common_u : Stmt := topS 41
abbrev N_law_common_u : List Str := ["one", "other", "turn"]
theorem sc_law_common_u : FnScope N_law_common_u ["one", "other"] (defScope s_law_common_u) := ⟨rfl, rfl, rfl, by decide +kernel, rfl, by decide +kernel, by decide +kernel⟩
/-! _law_common: 0 one, 1 other, 2 turn -/
abbrev s_law_frac_u : Stmt := topS 42
abbrev N_law_frac_u : List Str := ["top", "bottom", "common"]
theorem sc_law_frac_u : FnScope N_law_frac_u ["top", "bottom"] (defScope s_law_frac_u) := ⟨rfl, rfl, rfl, by decide +kernel, rfl, by decide +kernel, by decide +kernel⟩
/-! _law_frac: 0 top, 1 bottom, 2 common -/
abbrev s_law_plus_u : Stmt := topS 43
abbrev N_law_plus_u : List Str := ["one", "other"]
theorem sc_law_plus_u : FnScope N_law_plus_u ["one", "other"] (defScope s_law_plus_u) := ⟨rfl, rfl, rfl, by decide +kernel, rfl, by decide +kernel, by decide +kernel⟩
/-! _law_plus: 0 one, 1 other -/
abbrev s_law_times_u : Stmt := topS 44
abbrev N_law_times_u : List Str := ["one", "other"]
theorem sc_law_times_u : FnScope N_law_times_u ["one", "other"] (defScope s_law_times_u) := ⟨rfl, rfl, rfl, by decide +kernel, rfl, by decide +kernel, by decide +kernel⟩
/-! _law_times: 0 one, 1 other -/
abbrev s_law_less_u : Stmt := topS 45
abbrev N_law_less_u : List Str := ["one", "other"]
theorem sc_law_less_u : FnScope N_law_less_u ["one", "other"] (defScope s_law_less_u) := ⟨rfl, rfl, rfl, by decide +kernel, rfl, by decide +kernel, by decide +kernel⟩
/-! _law_less: 0 one, 1 other -/
abbrev s_law_same_u : Stmt := topS 46
abbrev N_law_same_u : List Str := ["told", "due", "k"]
theorem sc_law_same_u : FnScope N_law_same_u ["told", "due"] (defScope s_law_same_u) := ⟨rfl, rfl, rfl, by decide +kernel, rfl, by decide +kernel, by decide +kernel⟩
/-! _law_same: 0 told, 1 due, 2 k -/
abbrev s_law_are_whole_u : Stmt := topS 47
abbrev N_law_are_whole_u : List Str := ["some", "one"]
theorem sc_law_are_whole_u : FnScope N_law_are_whole_u ["some"] (defScope s_law_are_whole_u) := ⟨rfl, rfl, rfl, by decide +kernel, rfl, by decide +kernel, by decide +kernel⟩
/-! _law_are_whole: 0 some, 1 one -/
abbrev s_law_rule_u : Stmt := topS 48
abbrev N_law_rule_u : List Str := ["draws", "at", "kind", "bottom"]
theorem sc_law_rule_u : FnScope N_law_rule_u ["draws", "at"] (defScope s_law_rule_u) := ⟨rfl, rfl, rfl, by decide +kernel, rfl, by decide +kernel, by decide +kernel⟩
/-! _law_rule: 0 draws, 1 at, 2 kind, 3 bottom -/
abbrev s_law_square_u : Stmt := topS 49
abbrev N_law_square_u : List Str := ["rule", "k", "mark"]
theorem sc_law_square_u : FnScope N_law_square_u ["rule", "k"] (defScope s_law_square_u) := ⟨rfl, rfl, rfl, by decide +kernel, rfl, by decide +kernel, by decide +kernel⟩
/-! _law_square: 0 rule, 1 k, 2 mark -/
abbrev s_law_strict_u : Stmt := topS 50
abbrev N_law_strict_u : List Str := ["rule"]
theorem sc_law_strict_u : FnScope N_law_strict_u ["rule"] (defScope s_law_strict_u) := ⟨rfl, rfl, rfl, by decide +kernel, rfl, by decide +kernel, by decide +kernel⟩
/-! _law_strict: 0 rule -/
abbrev s_law_with_minimums_u : Stmt := topS 51
abbrev N_law_with_minimums_u : List Str := ["votes", "rule", "minimums", "house", "seats", "turn", "best", "k", "mine", "theirs", "one", "other"]
theorem sc_law_with_minimums_u : FnScope N_law_with_minimums_u ["votes", "rule", "minimums", "house"] (defScope s_law_with_minimums_u) := ⟨rfl, rfl, rfl, by decide +kernel, rfl, by decide +kernel, by decide +kernel⟩
/-! _law_with_minimums: 0 votes, 1 rule, 2 minimums, 3 house, 4 seats, 5 turn, 6 best, 7 k, 8 mine, 9 theirs, 10 one, 11 other -/
abbrev s_law_word_u : Stmt := topS 52
abbrev N_law_word_u : List Str := ["votes", "minimums", "e"]
theorem sc_law_word_u : FnScope N_law_word_u ["votes", "minimums"] (defScope s_law_word_u) := ⟨rfl, rfl, rfl, by decide +kernel, rfl, by decide +kernel, by decide +kernel⟩
/-! _law_word: 0 votes, 1 minimums, 2 e -/
abbrev s_law_due_word_u : Stmt := topS 53
abbrev N_law_due_word_u : List Str := ["votes", "minimums", "number"]
theorem sc_law_due_word_u : FnScope N_law_due_word_u ["votes", "minimums"] (defScope s_law_due_word_u) := ⟨rfl, rfl, rfl, by decide +kernel, rfl, by decide +kernel, by decide +kernel⟩
/-! _law_due_word: 0 votes, 1 minimums, 2 number -/
abbrev s_law_told_u : Stmt := topS 54
abbrev N_law_told_u : List Str := ["votes", "rule", "minimums", "house", "e"]
theorem sc_law_told_u : FnScope N_law_told_u ["votes", "rule", "minimums", "house"] (defScope s_law_told_u) := ⟨rfl, rfl, rfl, by decide +kernel, rfl, by decide +kernel, by decide +kernel⟩
/-! _law_told: 0 votes, 1 rule, 2 minimums, 3 house, 4 e -/
abbrev s_law : Stmt := topS 55
abbrev N_law : List Str := ["script", "draws", "rule", "n", "votes", "k", "minimums", "kept", "at", "tries", "bad", "some", "house", "own", "big", "left", "due", "told", "more", "again"]
theorem sc_law : FnScope N_law ["script"] (defScope s_law) := ⟨rfl, rfl, rfl, by decide +kernel, rfl, by decide +kernel, by decide +kernel⟩
/-! law: 0 script, 1 draws, 2 rule, 3 n, 4 votes, 5 k, 6 minimums, 7 kept, 8 at, 9 tries, 10 bad, 11 some, 12 house, 13 own, 14 big, 15 left, 16 due, 17 told, 18 more, 19 again -/
def c_MOST_MINIMUMS : D := .int 60
def c_ZERO : D := .tup [.int 0, .int 1]
def b_is_whole : DenS :=
  (dRet (dAndV (dIsi (dVar 0) "int") (dNotV (dIsi (dVar 0) "bool"))))
def φ_is_whole : Fn := runB 1 1 b_is_whole
theorem len_is_whole : ∀ ds x, φ_is_whole ds = some x → ds.length = 1 := fun _ _ h => runB_len h
def b_fraction : DenS :=
  (dSeq (dIf (dB (dOp ltD (dVar 1) (dC (.int 0)))) (dPar 0 1 (dACons (dUn negD (dVar 0)) (dACons (dUn negD (dVar 1)) dANil))) dSkip)
  (dSeq (dSet 2 (dBlt gcdF (dVCons (dVar 0) (dVCons (dVar 1) dVNil))))
  (dRet (dTup (dACons (dOp fdivD (dVar 0) (dVar 2)) (dACons (dOp fdivD (dVar 1) (dVar 2)) dANil))))))
def φ_fraction : Fn := runB 2 3 b_fraction
theorem len_fraction : ∀ ds x, φ_fraction ds = some x → ds.length = 2 := fun _ _ h => runB_len h
def b_whole : DenS :=
  (dRet (dTup (dACons (dVar 0) (dACons (dC (.int 1)) dANil))))
def φ_whole : Fn := runB 1 1 b_whole
theorem len_whole : ∀ ds x, φ_whole ds = some x → ds.length = 1 := fun _ _ h => runB_len h
def b_plus : DenS :=
  (dRet (dCall φ_fraction (dACons (dOp addD (dOp mulD (dOp subsD (dVar 0) (dC (.int 0))) (dOp subsD (dVar 1) (dC (.int 1)))) (dOp mulD (dOp subsD (dVar 1) (dC (.int 0))) (dOp subsD (dVar 0) (dC (.int 1))))) (dACons (dOp mulD (dOp subsD (dVar 0) (dC (.int 1))) (dOp subsD (dVar 1) (dC (.int 1)))) dANil))))
def φ_plus : Fn := runB 2 2 b_plus
theorem len_plus : ∀ ds x, φ_plus ds = some x → ds.length = 2 := fun _ _ h => runB_len h
def b_times : DenS :=
  (dRet (dCall φ_fraction (dACons (dOp mulD (dOp subsD (dVar 0) (dC (.int 0))) (dOp subsD (dVar 1) (dC (.int 0)))) (dACons (dOp mulD (dOp subsD (dVar 0) (dC (.int 1))) (dOp subsD (dVar 1) (dC (.int 1)))) dANil))))
def φ_times : Fn := runB 2 2 b_times
theorem len_times : ∀ ds x, φ_times ds = some x → ds.length = 2 := fun _ _ h => runB_len h
def b_over : DenS :=
  (dRet (dCall φ_fraction (dACons (dOp mulD (dOp subsD (dVar 0) (dC (.int 0))) (dOp subsD (dVar 1) (dC (.int 1)))) (dACons (dOp mulD (dOp subsD (dVar 0) (dC (.int 1))) (dOp subsD (dVar 1) (dC (.int 0)))) dANil))))
def φ_over : Fn := runB 2 2 b_over
theorem len_over : ∀ ds x, φ_over ds = some x → ds.length = 2 := fun _ _ h => runB_len h
def b_is_less : DenS :=
  (dRet (dOp ltD (dOp mulD (dOp subsD (dVar 0) (dC (.int 0))) (dOp subsD (dVar 1) (dC (.int 1)))) (dOp mulD (dOp subsD (dVar 1) (dC (.int 0))) (dOp subsD (dVar 0) (dC (.int 1))))))
def φ_is_less : Fn := runB 2 2 b_is_less
theorem len_is_less : ∀ ds x, φ_is_less ds = some x → ds.length = 2 := fun _ _ h => runB_len h
def b_square : DenS :=
  (dSeq (dIf (dB (dOp (eqD false) (dOp subsD (dVar 0) (dC (.int 0))) (dC (.str "plus")))) (dSeq (dSet 2 (dCall φ_plus (dACons (dCall φ_whole (dACons (dVar 1) dANil)) (dACons (dOp subsD (dVar 0) (dC (.int 1))) dANil))))
  (dFrz [2] (dRet (dCall φ_times (dACons (dVar 2) (dACons (dVar 2) dANil)))))) dSkip)
  (dSeq (dIf (dB (dOp (eqD false) (dOp subsD (dVar 0) (dC (.int 0))) (dC (.str "mean")))) (dRet (dCall φ_whole (dACons (dOp mulD (dVar 1) (dOp addD (dVar 1) (dC (.int 1)))) dANil))) dSkip)
  (dSeq (dSet 2 (dCall φ_fraction (dACons (dOp mulD (dOp mulD (dC (.int 2)) (dVar 1)) (dOp addD (dVar 1) (dC (.int 1)))) (dACons (dOp addD (dOp mulD (dC (.int 2)) (dVar 1)) (dC (.int 1))) dANil))))
  (dFrz [2] (dRet (dCall φ_times (dACons (dVar 2) (dACons (dVar 2) dANil))))))))
def φ_square : Fn := runB 2 3 b_square
theorem len_square : ∀ ds x, φ_square ds = some x → ds.length = 2 := fun _ _ h => runB_len h
def b_is_strict : DenS :=
  (dRet (dOp (eqD false) (dCall φ_square (dACons (dVar 0) (dACons (dC (.int 0)) dANil))) (dC c_ZERO)))
def φ_is_strict : Fn := runB 1 1 b_is_strict
theorem len_is_strict : ∀ ds x, φ_is_strict ds = some x → ds.length = 1 := fun _ _ h => runB_len h
def b_square_of : DenS :=
  (dRet (dCall φ_whole (dACons (dOp mulD (dVar 0) (dVar 0)) dANil)))
def φ_square_of : Fn := runB 1 1 b_square_of
theorem len_square_of : ∀ ds x, φ_square_of ds = some x → ds.length = 1 := fun _ _ h => runB_len h
def b_is_above : DenS :=
  (dRet (dSc (dCall φ_is_less (dACons (dVar 1) (dACons (dVar 0) dANil)))))
def φ_is_above : Fn := runB 2 2 b_is_above
theorem len_is_above : ∀ ds x, φ_is_above ds = some x → ds.length = 2 := fun _ _ h => runB_len h
def b_first_lacking : DenS :=
  (dSeq (dIf (dNot (dTru (dSc (dCall φ_is_strict (dACons (dVar 0) dANil))))) (dRet (dC .non)) dSkip)
  (dSeq (dSet 2 (dLc (dEnum (dVar 1)) (.tp [(.nm 3), (.nm 4)]) (dB (dOp (eqD false) (dVar 4) (dC (.int 0)))) (dVar 3) [3, 4]))
  (dRet (dIfE (dTru (dVar 2)) (dOp subsD (dVar 2) (dC (.int 0))) (dC .non)))))
def φ_first_lacking : Fn := runB 2 5 b_first_lacking
theorem len_first_lacking : ∀ ds x, φ_first_lacking ds = some x → ds.length = 2 := fun _ _ h => runB_len h
def b_next_ratio : DenS :=
  (dSeq (dIf (dB (dOp (eqD false) (dCall φ_square (dACons (dVar 1) (dACons (dOp subsD (dVar 2) (dVar 3)) dANil))) (dC c_ZERO))) (dRet (dC .non)) dSkip)
  (dRet (dCall φ_over (dACons (dCall φ_square_of (dACons (dOp subsD (dVar 0) (dVar 3)) dANil)) (dACons (dCall φ_square (dACons (dVar 1) (dACons (dOp subsD (dVar 2) (dVar 3)) dANil))) dANil)))))
def φ_next_ratio : Fn := runB 4 4 b_next_ratio
theorem len_next_ratio : ∀ ds x, φ_next_ratio ds = some x → ds.length = 4 := fun _ _ h => runB_len h
def lb_least_of_1 : DenS :=
  (dFgt [2] (dIf (dAnd (dB (dOp (isND true) (dVar 2) (dC .non))) (dOr (dB (dOp (isND false) (dVar 1) (dC .non))) (dTru (dSc (dCall φ_is_less (dACons (dVar 2) (dACons (dVar 1) dANil))))))) (dSet 1 (dVar 2)) dSkip))
def b_least_of : DenS :=
  (dSeq (dSet 1 (dC .non))
  (dSeq (dFor (dSrc (dVar 0)) (.nm 2) lb_least_of_1)
  (dRet (dVar 1))))
def φ_least_of : Fn := runB 1 3 b_least_of
theorem len_least_of : ∀ ds x, φ_least_of ds = some x → ds.length = 1 := fun _ _ h => runB_len h
def lb_greatest_of_1 : DenS :=
  (dFgt [2] (dIf (dAnd (dB (dOp (isND true) (dVar 2) (dC .non))) (dOr (dB (dOp (isND false) (dVar 1) (dC .non))) (dTru (dSc (dCall φ_is_less (dACons (dVar 1) (dACons (dVar 2) dANil))))))) (dSet 1 (dVar 2)) dSkip))
def b_greatest_of : DenS :=
  (dSeq (dSet 1 (dC .non))
  (dSeq (dFor (dSrc (dVar 0)) (.nm 2) lb_greatest_of_1)
  (dRet (dVar 1))))
def φ_greatest_of : Fn := runB 1 3 b_greatest_of
theorem len_greatest_of : ∀ ds x, φ_greatest_of ds = some x → ds.length = 1 := fun _ _ h => runB_len h
def b_is_next : DenS :=
  (dSeq (dSet 5 (dCall φ_next_ratio (dACons (dVar 0) (dACons (dVar 1) (dACons (dVar 2) (dACons (dVar 3) dANil))))))
  (dSeq (dSet 6 (dCall φ_next_ratio (dACons (dVar 0) (dACons (dVar 1) (dACons (dVar 2) (dACons (dVar 4) dANil))))))
  (dSeq (dIf (dAnd (dB (dOp (isND false) (dVar 5) (dC .non))) (dB (dOp (isND false) (dVar 6) (dC .non)))) (dRet (dOrV (dOp gtD (dOp subsD (dVar 0) (dVar 3)) (dOp subsD (dVar 0) (dVar 4))) (dAndV (dOp (eqD false) (dOp subsD (dVar 0) (dVar 3)) (dOp subsD (dVar 0) (dVar 4))) (dOp ltD (dVar 3) (dVar 4))))) dSkip)
  (dSeq (dIf (dOr (dB (dOp (isND false) (dVar 5) (dC .non))) (dB (dOp (isND false) (dVar 6) (dC .non)))) (dRet (dOp (isND false) (dVar 5) (dC .non))) dSkip)
  (dRet (dOrV (dSc (dCall φ_is_less (dACons (dVar 6) (dACons (dVar 5) dANil)))) (dAndV (dOp (eqD false) (dVar 6) (dVar 5)) (dOp ltD (dVar 3) (dVar 4)))))))))
def φ_is_next : Fn := runB 5 7 b_is_next
theorem len_is_next : ∀ ds x, φ_is_next ds = some x → ds.length = 5 := fun _ _ h => runB_len h
def lb_next_party_1 : DenS :=
  (dFgt [4] (dIf (dTru (dSc (dCall φ_is_next (dACons (dVar 0) (dACons (dVar 1) (dACons (dVar 2) (dACons (dVar 4) (dACons (dVar 3) dANil)))))))) (dSet 3 (dVar 4)) dSkip))
def b_next_party : DenS :=
  (dSeq (dSet 3 (dC (.int 0)))
  (dSeq (dFor (dRng2 (dC (.int 1)) (dBlt lenF (dVCons (dVar 0) dVNil))) (.nm 4) lb_next_party_1)
  (dRet (dVar 3))))
def φ_next_party : Fn := runB 3 5 b_next_party
theorem len_next_party : ∀ ds x, φ_next_party ds = some x → ds.length = 3 := fun _ _ h => runB_len h
def lb_first_seats_1 : DenS :=
  (dFgt [4] (dAugI 3 (dSc (dCall φ_next_party (dACons (dVar 0) (dACons (dVar 1) (dACons (dVar 3) dANil))))) addI (dC (.int 1))))
def b_first_seats : DenS :=
  (dSeq (dIf (dAnd (dTru (dSc (dCall φ_is_strict (dACons (dVar 1) dANil)))) (dB (dOp ltD (dVar 2) (dBlt lenF (dVCons (dVar 0) dVNil))))) dNever dSkip)
  (dSeq (dSet 3 (dOp mulD (dLst (dACons (dC (.int 0)) dANil)) (dBlt lenF (dVCons (dVar 0) dVNil))))
  (dSeq (dFor (dRng1 (dVar 2)) (.nm 4) lb_first_seats_1)
  (dRet (dVar 3)))))
def φ_first_seats : Fn := runB 3 5 b_first_seats
theorem len_first_seats : ∀ ds x, φ_first_seats ds = some x → ds.length = 3 := fun _ _ h => runB_len h
def b_check_minimums : DenX :=
  (xSeq (xIf (dB (dOp (eqD true) (dBlt lenF (dVCons (dVar 1) dVNil)) (dBlt lenF (dVCons (dVar 0) dVNil)))) (xRaise "WrongCount") xSkip)
  (xIf (dOr (dNot (dTru (dBlt allF (dVCons (dLc (dSrc (dVar 1)) (.nm 2) dYes (dAndV (dSc (dCall φ_is_whole (dACons (dVar 2) dANil))) (dOp geD (dVar 2) (dC (.int 0)))) [2]) dVNil)))) (dB (dOp gtD (dBlt sumF (dVCons (dVar 1) dVNil)) (dC c_MOST_MINIMUMS)))) (xRaise "InvalidMinimums") xSkip))
def φx_check_minimums : FnX := runX 2 3 b_check_minimums
theorem lenx_check_minimums : ∀ ds x, φx_check_minimums ds = some x → ds.length = 2 := fun _ _ h => runX_len h
def φ_check_minimums : Fn := nvX φx_check_minimums
theorem len_check_minimums : ∀ ds x, φ_check_minimums ds = some x → ds.length = 2 := nvX_len lenx_check_minimums
def b_first_less : DenS :=
  (dSeq (dSet 2 (dLc (dEnum (dVar 1)) (.tp [(.nm 3), (.nm 4)]) (dB (dOp ltD (dVar 4) (dOp subsD (dVar 0) (dVar 3)))) (dVar 3) [3, 4]))
  (dRet (dIfE (dTru (dVar 2)) (dOp subsD (dVar 2) (dC (.int 0))) (dC .non))))
def φ_first_less : Fn := runB 2 5 b_first_less
theorem len_first_less : ∀ ds x, φ_first_less ds = some x → ds.length = 2 := fun _ _ h => runB_len h
def b_bars_minimal : DenS :=
  (dSeq (dIf (dB (dOp leD (dOp subsD (dVar 3) (dVar 5)) (dOp subsD (dVar 2) (dVar 5)))) (dRet (dC (.bl false))) dSkip)
  (dSeq (dSet 6 (dCall φ_times (dACons (dCall φ_square_of (dACons (dOp subsD (dVar 0) (dVar 4)) dANil)) (dACons (dCall φ_square (dACons (dVar 1) (dACons (dOp subD (dOp subsD (dVar 3) (dVar 5)) (dC (.int 1))) dANil))) dANil))))
  (dRet (dSc (dCall φ_is_above (dACons (dVar 6) (dACons (dCall φ_times (dACons (dCall φ_square_of (dACons (dOp subsD (dVar 0) (dVar 5)) dANil)) (dACons (dCall φ_square (dACons (dVar 1) (dACons (dOp subsD (dVar 3) (dVar 4)) dANil))) dANil))) dANil)))))))
def φ_bars_minimal : Fn := runB 6 7 b_bars_minimal
theorem len_bars_minimal : ∀ ds x, φ_bars_minimal ds = some x → ds.length = 6 := fun _ _ h => runB_len h
def lb_first_barring_1 : DenS :=
  (dFgt [5] (dIf (dTru (dSc (dCall φ_bars_minimal (dACons (dVar 0) (dACons (dVar 1) (dACons (dVar 2) (dACons (dVar 3) (dACons (dVar 4) (dACons (dVar 5) dANil))))))))) (dRet (dTup (dACons (dVar 4) (dACons (dVar 5) dANil)))) dSkip))
def lb_first_barring_2 : DenS :=
  (dFgt [4, 5] (dFor (dRng1 (dBlt lenF (dVCons (dVar 0) dVNil))) (.nm 5) lb_first_barring_1))
def b_first_barring : DenS :=
  (dSeq (dFor (dRng1 (dBlt lenF (dVCons (dVar 0) dVNil))) (.nm 4) lb_first_barring_2)
  (dRet (dC .non)))
def φ_first_barring : Fn := runB 4 6 b_first_barring
theorem len_first_barring : ∀ ds x, φ_first_barring ds = some x → ds.length = 4 := fun _ _ h => runB_len h
def b_free_ratio : DenS :=
  (dSeq (dIf (dOr (dB (dOp leD (dOp subsD (dVar 3) (dVar 4)) (dOp subsD (dVar 2) (dVar 4)))) (dB (dOp (eqD false) (dCall φ_square (dACons (dVar 1) (dACons (dOp subD (dOp subsD (dVar 3) (dVar 4)) (dC (.int 1))) dANil))) (dC c_ZERO)))) (dRet (dC .non)) dSkip)
  (dRet (dCall φ_over (dACons (dCall φ_square_of (dACons (dOp subsD (dVar 0) (dVar 4)) dANil)) (dACons (dCall φ_square (dACons (dVar 1) (dACons (dOp subD (dOp subsD (dVar 3) (dVar 4)) (dC (.int 1))) dANil))) dANil)))))
def φ_free_ratio : Fn := runB 5 5 b_free_ratio
theorem len_free_ratio : ∀ ds x, φ_free_ratio ds = some x → ds.length = 5 := fun _ _ h => runB_len h
def b_greatest_divisor : DenS :=
  (dSeq (dSetR 4 (dBlt lenF (dVCons (dVar 0) dVNil)))
  (dSeq (dSet 5 (dCall φ_least_of (dACons (dLc (dRngV 4) (.nm 6) dYes (dCall φ_free_ratio (dACons (dVar 0) (dACons (dVar 1) (dACons (dVar 2) (dACons (dVar 3) (dACons (dVar 6) dANil)))))) [6]) dANil)))
  (dSeq (dIf (dB (dOp (isND true) (dVar 5) (dC .non))) (dRet (dVar 5)) dSkip)
  (dRet (dCall φ_greatest_of (dACons (dLc (dRngV 4) (.nm 6) dYes (dCall φ_next_ratio (dACons (dVar 0) (dACons (dVar 1) (dACons (dVar 3) (dACons (dVar 6) dANil))))) [6]) dANil))))))
def φ_greatest_divisor : Fn := runB 4 7 b_greatest_divisor
theorem len_greatest_divisor : ∀ ds x, φ_greatest_divisor ds = some x → ds.length = 4 := fun _ _ h => runB_len h
def b_find_minimal : DenS :=
  (dSeq (dSet 4 (dCall φ_first_less (dACons (dVar 2) (dACons (dVar 3) dANil))))
  (dSeq (dIf (dB (dOp (isND true) (dVar 4) (dC .non))) (dFrz [4] (dRet (dTup (dACons (dC (.str "less")) (dACons (dVar 4) dANil))))) dSkip)
  (dSeq (dSet 4 (dCall φ_first_lacking (dACons (dVar 1) (dACons (dVar 3) dANil))))
  (dSeq (dIf (dB (dOp (isND true) (dVar 4) (dC .non))) (dFrz [4] (dRet (dTup (dACons (dC (.str "lacking")) (dACons (dVar 4) dANil))))) dSkip)
  (dSeq (dSet 5 (dCall φ_first_barring (dACons (dVar 0) (dACons (dVar 1) (dACons (dVar 2) (dACons (dVar 3) dANil))))))
  (dSeq (dIf (dB (dOp (isND true) (dVar 5) (dC .non))) (dRet (dTup (dACons (dC (.str "barred")) (dACons (dOp subsD (dVar 5) (dC (.int 0))) (dACons (dOp subsD (dVar 5) (dC (.int 1))) dANil))))) dSkip)
  (dRet (dTup (dACons (dC (.str "right")) (dACons (dCall φ_greatest_divisor (dACons (dVar 0) (dACons (dVar 1) (dACons (dVar 2) (dACons (dVar 3) dANil))))) dANil))))))))))
def φ_find_minimal : Fn := runB 4 6 b_find_minimal
theorem len_find_minimal : ∀ ds x, φ_find_minimal ds = some x → ds.length = 4 := fun _ _ h => runB_len h
def lb_seats_with_minimums_1 : DenS :=
  (dFgt [6] (dAugI 5 (dSc (dCall φ_next_party (dACons (dVar 0) (dACons (dVar 1) (dACons (dVar 5) dANil))))) addI (dC (.int 1))))
def b_seats_with_minimums : DenX :=
  (xSeq (xUp (dSet 4 (dOp subD (dVar 3) (dBlt sumF (dVCons (dVar 2) dVNil)))))
  (xSeq (xIf (dOr (dB (dOp ltD (dVar 4) (dC (.int 0)))) (dAnd (dTru (dSc (dCall φ_is_strict (dACons (dVar 1) dANil)))) (dB (dOp ltD (dVar 4) (dCount (dVar 2) (dC (.int 0))))))) (xRaise "TooFewSeats") xSkip)
  (xSeq (xUp (dSet 5 (dBlt listF (dVCons (dVar 2) dVNil))))
  (xSeq (xUp (dFor (dRng1 (dVar 4)) (.nm 6) lb_seats_with_minimums_1))
  (xUp (dRet (dVar 5)))))))
def φx_seats_with_minimums : FnX := runX 4 7 b_seats_with_minimums
theorem lenx_seats_with_minimums : ∀ ds x, φx_seats_with_minimums ds = some x → ds.length = 4 := fun _ _ h => runX_len h
def φ_seats_with_minimums : Fn := nvX φx_seats_with_minimums
theorem len_seats_with_minimums : ∀ ds x, φ_seats_with_minimums ds = some x → ds.length = 4 := nvX_len lenx_seats_with_minimums
def b_law_cell_u : DenS :=
  (dSeq (dIf (dB (dOp ltD (dVar 1) (dBlt lenF (dVCons (dVar 0) dVNil)))) (dRet (dBlt intF (dVCons (dOp subsD (dVar 0) (dVar 1)) dVNil))) dSkip)
  (dRet (dC (.int 0))))
def φ_law_cell_u : Fn := runB 2 2 b_law_cell_u
theorem len_law_cell_u : ∀ ds x, φ_law_cell_u ds = some x → ds.length = 2 := fun _ _ h => runB_len h
def lb_law_numbers_u_1 : DenS :=
  (dFgt [4] (dSeq (dApp 3 (dOp modD (dBlt intF (dVCons (dVar 0) dVNil)) (dVar 2)))
  (dSet 0 (dOp fdivD (dBlt intF (dVCons (dVar 0) dVNil)) (dVar 2)))))
def lb_law_numbers_u_2 : DenS :=
  (dFgt [4, 5] (dSeq (dSet 5 (dOp modD (dBlt intF (dVCons (dOp addD (dOp addD (dOp mulD (dVar 0) (dC (.int 48271))) (dOp mulD (dVar 4) (dC (.int 69621)))) (dC (.int 7))) dVNil)) (dC (.int 2147483647))))
  (dSeq (dSet 5 (dOp modD (dBlt intF (dVCons (dOp addD (dOp addD (dOp addD (dOp mulD (dVar 5) (dVar 5)) (dOp mulD (dVar 5) (dC (.int 40692)))) (dOp mulD (dVar 4) (dC (.int 16807)))) (dC (.int 11))) dVNil)) (dC (.int 2147483399))))
  (dApp 3 (dOp modD (dBlt intF (dVCons (dOp fdivD (dVar 5) (dC (.int 32))) dVNil)) (dVar 2))))))
def b_law_numbers_u : DenS :=
  (dSeq (dSet 3 (dLst dANil))
  (dSeq (dIf (dB (dOp geD (dVar 0) (dOp powD (dC (.int 10)) (dC (.int 18))))) (dSeq (dFor (dRng1 (dVar 1)) (.nm 4) lb_law_numbers_u_1)
  (dRet (dVar 3))) dSkip)
  (dSeq (dFor (dRng1 (dVar 1)) (.nm 4) lb_law_numbers_u_2)
  (dRet (dVar 3)))))
def φ_law_numbers_u : Fn := runB 3 6 b_law_numbers_u
theorem len_law_numbers_u : ∀ ds x, φ_law_numbers_u ds = some x → ds.length = 3 := fun _ _ h => runB_len h
def lb_law_common_u_1 : DenS :=
  (dFgt [2] (dSeq (dIf (dB (dOp (eqD false) (dVar 1) (dC (.int 0)))) (dRet (dVar 0)) dSkip)
  (dPar 0 1 (dACons (dVar 1) (dACons (dOp modD (dBlt intF (dVCons (dVar 0) dVNil)) (dVar 1)) dANil)))))
def b_law_common_u : DenS :=
  (dSeq (dSet 0 (dBlt absF (dVCons (dVar 0) dVNil)))
  (dSeq (dSet 1 (dBlt absF (dVCons (dVar 1) dVNil)))
  (dSeq (dFor (dRng1 (dC (.int 900))) (.nm 2) lb_law_common_u_1)
  (dRet (dVar 0)))))
def φ_law_common_u : Fn := runB 2 3 b_law_common_u
theorem len_law_common_u : ∀ ds x, φ_law_common_u ds = some x → ds.length = 2 := fun _ _ h => runB_len h
def b_law_frac_u : DenS :=
  (dSeq (dIf (dB (dOp ltD (dVar 1) (dC (.int 0)))) (dSeq (dSet 0 (dOp subD (dC (.int 0)) (dVar 0)))
  (dSet 1 (dOp subD (dC (.int 0)) (dVar 1)))) dSkip)
  (dSeq (dSet 2 (dCall φ_law_common_u (dACons (dVar 0) (dACons (dVar 1) dANil))))
  (dRet (dTup (dACons (dOp fdivD (dVar 0) (dVar 2)) (dACons (dOp fdivD (dVar 1) (dVar 2)) dANil))))))
def φ_law_frac_u : Fn := runB 2 3 b_law_frac_u
theorem len_law_frac_u : ∀ ds x, φ_law_frac_u ds = some x → ds.length = 2 := fun _ _ h => runB_len h
def b_law_plus_u : DenS :=
  (dRet (dCall φ_law_frac_u (dACons (dOp addD (dOp mulD (dOp subsD (dVar 0) (dC (.int 0))) (dOp subsD (dVar 1) (dC (.int 1)))) (dOp mulD (dOp subsD (dVar 1) (dC (.int 0))) (dOp subsD (dVar 0) (dC (.int 1))))) (dACons (dOp mulD (dOp subsD (dVar 0) (dC (.int 1))) (dOp subsD (dVar 1) (dC (.int 1)))) dANil))))
def φ_law_plus_u : Fn := runB 2 2 b_law_plus_u
theorem len_law_plus_u : ∀ ds x, φ_law_plus_u ds = some x → ds.length = 2 := fun _ _ h => runB_len h
def b_law_times_u : DenS :=
  (dRet (dCall φ_law_frac_u (dACons (dOp mulD (dOp subsD (dVar 0) (dC (.int 0))) (dOp subsD (dVar 1) (dC (.int 0)))) (dACons (dOp mulD (dOp subsD (dVar 0) (dC (.int 1))) (dOp subsD (dVar 1) (dC (.int 1)))) dANil))))
def φ_law_times_u : Fn := runB 2 2 b_law_times_u
theorem len_law_times_u : ∀ ds x, φ_law_times_u ds = some x → ds.length = 2 := fun _ _ h => runB_len h
def b_law_less_u : DenS :=
  (dRet (dOp ltD (dOp mulD (dOp subsD (dVar 0) (dC (.int 0))) (dOp subsD (dVar 1) (dC (.int 1)))) (dOp mulD (dOp subsD (dVar 1) (dC (.int 0))) (dOp subsD (dVar 0) (dC (.int 1))))))
def φ_law_less_u : Fn := runB 2 2 b_law_less_u
theorem len_law_less_u : ∀ ds x, φ_law_less_u ds = some x → ds.length = 2 := fun _ _ h => runB_len h
def lb_law_same_u_1 (self : Fn) : DenS :=
  (dFgt [2] (dIf (dNot (dTru (dCall self (dACons (dOp subsD (dVar 0) (dVar 2)) (dACons (dOp subsD (dVar 1) (dVar 2)) dANil))))) (dRet (dC (.bl false))) dSkip))
def b_law_same_u (self : Fn) : DenS :=
  (dSeq (dIf (dTru (dIsi (dVar 1) "list")) (dIf (dOr (dNot (dTru (dIsi (dVar 0) "list"))) (dB (dOp (eqD true) (dBlt lenF (dVCons (dVar 0) dVNil)) (dBlt lenF (dVCons (dVar 1) dVNil))))) (dRet (dC (.bl false))) dSkip) (dIf (dTru (dIsi (dVar 1) "tuple")) (dIf (dOr (dNot (dTru (dIsi (dVar 0) "tuple"))) (dB (dOp (eqD true) (dBlt lenF (dVCons (dVar 0) dVNil)) (dBlt lenF (dVCons (dVar 1) dVNil))))) (dRet (dC (.bl false))) dSkip) (dIf (dB (dOp (isND false) (dVar 1) (dC .non))) (dRet (dOp (isND false) (dVar 0) (dC .non))) (dIf (dTru (dIsi (dVar 1) "bool")) (dRet (dAndV (dIsi (dVar 0) "bool") (dOp (eqD false) (dVar 0) (dVar 1)))) (dIf (dTru (dIsi (dVar 1) "int")) (dRet (dAndV (dIsi (dVar 0) "int") (dAndV (dNotV (dIsi (dVar 0) "bool")) (dOp (eqD false) (dVar 0) (dVar 1))))) (dRet (dAndV (dIsi (dVar 0) "str") (dOp (eqD false) (dVar 0) (dVar 1)))))))))
  (dSeq (dFor (dRng1 (dBlt lenF (dVCons (dVar 1) dVNil))) (.nm 2) (lb_law_same_u_1 self))
  (dRet (dC (.bl true)))))
def φ_law_same_u : Nat → Fn
  | 0 => fun _ => none
  | k + 1 => runB 2 3 (b_law_same_u (φ_law_same_u k))
theorem len_law_same_u {k : Nat} : ∀ ds x, φ_law_same_u k ds = some x → ds.length = 2 := by
  intro ds x h
  cases k with
  | zero => cases h
  | succ k => exact runB_len h
def b_law_are_whole_u : DenS :=
  (dRet (dAndV (dIsi (dVar 0) "list") (dOp (eqD false) (dBlt lenF (dVCons (dLc (dSrc (dVar 0)) (.nm 1) (dOr (dTru (dIsi (dVar 1) "bool")) (dNot (dTru (dIsi (dVar 1) "int")))) (dVar 1) [1]) dVNil)) (dC (.int 0)))))
def φ_law_are_whole_u : Fn := runB 1 2 b_law_are_whole_u
theorem len_law_are_whole_u : ∀ ds x, φ_law_are_whole_u ds = some x → ds.length = 1 := fun _ _ h => runB_len h
def b_law_rule_u : DenS :=
  (dSeq (dSet 2 (dOp modD (dOp subsD (dVar 0) (dVar 1)) (dC (.int 6))))
  (dSeq (dIf (dB (dOp (eqD false) (dVar 2) (dC (.int 0)))) (dRet (dTup (dACons (dC (.str "mean")) dANil))) dSkip)
  (dSeq (dIf (dB (dOp (eqD false) (dVar 2) (dC (.int 1)))) (dRet (dTup (dACons (dC (.str "harmonic")) dANil))) dSkip)
  (dSeq (dIf (dB (dOp (eqD false) (dVar 2) (dC (.int 2)))) (dRet (dTup (dACons (dC (.str "plus")) (dACons (dOp subsD (dLst (dACons (dTup (dACons (dC (.int 0)) (dACons (dC (.int 1)) dANil))) (dACons (dTup (dACons (dC (.int 1)) (dACons (dC (.int 1)) dANil))) dANil))) (dOp modD (dOp subsD (dVar 0) (dOp addD (dVar 1) (dC (.int 1)))) (dC (.int 2)))) dANil)))) dSkip)
  (dSeq (dIf (dB (dOp (eqD false) (dVar 2) (dC (.int 3)))) (dRet (dTup (dACons (dC (.str "plus")) (dACons (dTup (dACons (dC (.int 1)) (dACons (dC (.int 2)) dANil))) dANil)))) dSkip)
  (dSeq (dSet 3 (dOp addD (dC (.int 1)) (dOp modD (dOp subsD (dVar 0) (dOp addD (dVar 1) (dC (.int 1)))) (dC (.int 7)))))
  (dRet (dTup (dACons (dC (.str "plus")) (dACons (dCall φ_law_frac_u (dACons (dOp modD (dOp subsD (dVar 0) (dOp addD (dVar 1) (dC (.int 2)))) (dOp addD (dVar 3) (dC (.int 1)))) (dACons (dVar 3) dANil))) dANil))))))))))
def φ_law_rule_u : Fn := runB 2 4 b_law_rule_u
theorem len_law_rule_u : ∀ ds x, φ_law_rule_u ds = some x → ds.length = 2 := fun _ _ h => runB_len h
def b_law_square_u : DenS :=
  (dSeq (dIf (dB (dOp (eqD false) (dOp subsD (dVar 0) (dC (.int 0))) (dC (.str "plus")))) (dSeq (dSet 2 (dCall φ_law_plus_u (dACons (dTup (dACons (dVar 1) (dACons (dC (.int 1)) dANil))) (dACons (dOp subsD (dVar 0) (dC (.int 1))) dANil))))
  (dFrz [2] (dRet (dCall φ_law_times_u (dACons (dVar 2) (dACons (dVar 2) dANil)))))) dSkip)
  (dSeq (dIf (dB (dOp (eqD false) (dOp subsD (dVar 0) (dC (.int 0))) (dC (.str "mean")))) (dRet (dTup (dACons (dOp mulD (dVar 1) (dOp addD (dVar 1) (dC (.int 1)))) (dACons (dC (.int 1)) dANil)))) dSkip)
  (dSeq (dSet 2 (dCall φ_law_frac_u (dACons (dOp mulD (dOp mulD (dC (.int 2)) (dVar 1)) (dOp addD (dVar 1) (dC (.int 1)))) (dACons (dOp addD (dOp mulD (dC (.int 2)) (dVar 1)) (dC (.int 1))) dANil))))
  (dFrz [2] (dRet (dCall φ_law_times_u (dACons (dVar 2) (dACons (dVar 2) dANil))))))))
def φ_law_square_u : Fn := runB 2 3 b_law_square_u
theorem len_law_square_u : ∀ ds x, φ_law_square_u ds = some x → ds.length = 2 := fun _ _ h => runB_len h
def b_law_strict_u : DenS :=
  (dRet (dOp (eqD false) (dCall φ_law_square_u (dACons (dVar 0) (dACons (dC (.int 0)) dANil))) (dTup (dACons (dC (.int 0)) (dACons (dC (.int 1)) dANil)))))
def φ_law_strict_u : Fn := runB 1 1 b_law_strict_u
theorem len_law_strict_u : ∀ ds x, φ_law_strict_u ds = some x → ds.length = 1 := fun _ _ h => runB_len h
def lb_law_with_minimums_u_1 : DenS :=
  (dFgt [7, 8, 9, 10, 11] (dSeq (dSet 8 (dCall φ_law_square_u (dACons (dVar 1) (dACons (dOp subsD (dVar 4) (dVar 7)) dANil))))
  (dSeq (dSet 9 (dCall φ_law_square_u (dACons (dVar 1) (dACons (dOp subsD (dVar 4) (dVar 6)) dANil))))
  (dSeq (dFrz [9] (dSet 10 (dCall φ_law_times_u (dACons (dTup (dACons (dOp mulD (dOp subsD (dVar 0) (dVar 7)) (dOp subsD (dVar 0) (dVar 7))) (dACons (dC (.int 1)) dANil))) (dACons (dVar 9) dANil)))))
  (dSeq (dFrz [8] (dSet 11 (dCall φ_law_times_u (dACons (dTup (dACons (dOp mulD (dOp subsD (dVar 0) (dVar 6)) (dOp subsD (dVar 0) (dVar 6))) (dACons (dC (.int 1)) dANil))) (dACons (dVar 8) dANil)))))
  (dIf (dAnd (dB (dOp (eqD false) (dOp subsD (dVar 8) (dC (.int 0))) (dC (.int 0)))) (dB (dOp (eqD false) (dOp subsD (dVar 9) (dC (.int 0))) (dC (.int 0))))) (dIf (dB (dOp gtD (dOp subsD (dVar 0) (dVar 7)) (dOp subsD (dVar 0) (dVar 6)))) (dSet 6 (dVar 7)) dSkip) (dIf (dTru (dSc (dCall φ_law_less_u (dACons (dVar 11) (dACons (dVar 10) dANil))))) (dSet 6 (dVar 7)) dSkip)))))))
def lb_law_with_minimums_u_2 : DenS :=
  (dFgt [5, 6, 7, 8, 9, 10, 11] (dSeq (dSet 6 (dC (.int 0)))
  (dSeq (dFor (dRng2 (dC (.int 1)) (dBlt lenF (dVCons (dVar 0) dVNil))) (.nm 7) lb_law_with_minimums_u_1)
  (dPut 4 (dVar 6) (dOp addD (dOp subsD (dVar 4) (dVar 6)) (dC (.int 1)))))))
def b_law_with_minimums_u : DenS :=
  (dSeq (dSet 4 (dBlt listF (dVCons (dVar 2) dVNil)))
  (dSeq (dFor (dRng1 (dOp subD (dVar 3) (dBlt sumF (dVCons (dVar 2) dVNil)))) (.nm 5) lb_law_with_minimums_u_2)
  (dRet (dVar 4))))
def φ_law_with_minimums_u : Fn := runB 4 12 b_law_with_minimums_u
theorem len_law_with_minimums_u : ∀ ds x, φ_law_with_minimums_u ds = some x → ds.length = 4 := fun _ _ h => runB_len h
def lb_law_word_u_1 (a : Addr) : DenS :=
  (dRet (dOp subsD (dLst (dACons (dC (.str "count")) (dACons (dC (.str "other")) dANil))) (dBlt intF (dVCons (dOrV (dNotV (dIsX 2 a true)) (dIsX 2 a false)) dVNil))))
def lb_law_word_u_2 (a : Addr) : DenS :=
  (dRet (dOp subsD (dLst (dACons (dC (.str "none")) (dACons (dC (.str "other")) dANil))) (dBlt intF (dVCons (dOrV (dNotV (dIsX 2 a true)) (dIsX 2 a false)) dVNil))))
def b_law_word_u : DenS :=
  (xTryN [("WrongCount", some 2, lb_law_word_u_1), ("InvalidMinimums", some 2, lb_law_word_u_2)] (xRet (xOpR atD (dLst (dACons (dC (.str "other")) (dACons (dC (.str "good")) dANil))) (xB1 intF (xOpL (isND false) (xCall φx_check_minimums (dACons (dVar 0) (dACons (dVar 1) dANil))) (dC .non))))))
def φ_law_word_u : Fn := runB 2 3 b_law_word_u
theorem len_law_word_u : ∀ ds x, φ_law_word_u ds = some x → ds.length = 2 := fun _ _ h => runB_len h
def b_law_due_word_u : DenS :=
  (dSeq (dIf (dB (dOp (eqD true) (dBlt lenF (dVCons (dVar 1) dVNil)) (dBlt lenF (dVCons (dVar 0) dVNil)))) (dRet (dC (.str "count"))) dSkip)
  (dSeq (dIf (dOr (dNot (dTru (dSc (dCall φ_law_are_whole_u (dACons (dVar 1) dANil))))) (dOr (dB (dOp gtD (dBlt lenF (dVCons (dLc (dSrc (dVar 1)) (.nm 2) (dB (dOp ltD (dVar 2) (dC (.int 0)))) (dVar 2) [2]) dVNil)) (dC (.int 0)))) (dB (dOp gtD (dBlt sumF (dVCons (dVar 1) dVNil)) (dC (.int 60)))))) (dRet (dC (.str "none"))) dSkip)
  (dRet (dC (.str "good")))))
def φ_law_due_word_u : Fn := runB 2 3 b_law_due_word_u
theorem len_law_due_word_u : ∀ ds x, φ_law_due_word_u ds = some x → ds.length = 2 := fun _ _ h => runB_len h
def lb_law_told_u_1 (a : Addr) : DenS :=
  (dRet (dOp subsD (dLst (dACons (dC (.str "few")) (dACons (dC (.str "other")) dANil))) (dBlt intF (dVCons (dOrV (dNotV (dIsX 4 a true)) (dIsX 4 a false)) dVNil))))
def b_law_told_u : DenS :=
  (xTryA "TooFewSeats" 4 (xRet (xCall φx_seats_with_minimums (dACons (dVar 0) (dACons (dVar 1) (dACons (dVar 2) (dACons (dVar 3) dANil)))))) lb_law_told_u_1)
def φ_law_told_u : Fn := runB 4 5 b_law_told_u
theorem len_law_told_u : ∀ ds x, φ_law_told_u ds = some x → ds.length = 4 := fun _ _ h => runB_len h
def lb_law_1 : DenS :=
  (dFgt [10] (dApp 9 (dOp addD (dOp addD (dSlice (dVar 6) (dSoP (dC (.int 0))) (dSoP (dVar 8))) (dLst (dACons (dVar 10) dANil))) (dSlice (dVar 6) (dSoP (dOp addD (dVar 8) (dC (.int 1)))) dNoP))))
def lb_law_2 : DenS :=
  (dFgt [11] (dFrz [4] (dIf (dB (dOp (eqD true) (dCall φ_law_word_u (dACons (dVar 4) (dACons (dVar 11) dANil))) (dSc (dCall φ_law_due_word_u (dACons (dVar 4) (dACons (dVar 11) dANil)))))) (dRet (dC (.bl false))) dSkip)))
def lb_law_3 : DenS :=
  (dFgt [13, 14, 15, 16, 17, 18, 19] (dSeq (dSet 15 (dOp subD (dVar 14) (dBlt sumF (dVCons (dVar 13) dVNil))))
  (dSeq (dSet 16 (dC (.str "few")))
  (dSeq (dIf (dAnd (dB (dOp geD (dVar 15) (dC (.int 0)))) (dOr (dNot (dTru (dSc (dCall φ_law_strict_u (dACons (dVar 2) dANil))))) (dB (dOp geD (dVar 15) (dCount (dVar 13) (dC (.int 0))))))) (dFrz [4, 2] (dSet 16 (dCall φ_law_with_minimums_u (dACons (dVar 4) (dACons (dVar 2) (dACons (dVar 13) (dACons (dVar 14) dANil))))))) dSkip)
  (dSeq (dFrz [4, 2] (dSet 17 (dCall φ_law_told_u (dACons (dVar 4) (dACons (dVar 2) (dACons (dVar 13) (dACons (dVar 14) dANil)))))))
  (dSeq (dFrz [4, 6] (dIf (dOr (dNot (dTru (dSc (dCall (φ_law_same_u 12) (dACons (dVar 17) (dACons (dVar 16) dANil)))))) (dB (dOp (eqD true) (reprG (dTup (dACons (dVar 4) (dACons (dVar 6) dANil)))) (dVar 7)))) (dRet (dC (.bl false))) dSkip))
  (dIf (dB (dOp (eqD true) (dVar 16) (dC (.str "few")))) (dSeq (dFrz [4, 2, 16] (dIf (dOr (dAnd (dB (dOp gtD (dVar 14) (dC (.int 0)))) (dB (dOp (eqD true) (dOp subsD (dCall φ_find_minimal (dACons (dVar 4) (dACons (dVar 2) (dACons (dVar 13) (dACons (dVar 16) dANil))))) (dC (.int 0))) (dC (.str "right"))))) (dAnd (dB (dOp (eqD false) (dBlt maxF (dVCons (dVar 13) dVNil)) (dC (.int 0)))) (dNot (dTru (dSc (dCall (φ_law_same_u 12) (dACons (dCall φ_first_seats (dACons (dVar 4) (dACons (dVar 2) (dACons (dVar 14) dANil)))) (dACons (dVar 16) dANil)))))))) (dRet (dC (.bl false))) dSkip))
  (dSeq (dSet 18 (dOp addD (dOp addD (dSlice (dVar 13) (dSoP (dC (.int 0))) (dSoP (dVar 8))) (dLst (dACons (dOp addD (dOp subsD (dVar 13) (dVar 8)) (dC (.int 1))) dANil))) (dSlice (dVar 13) (dSoP (dOp addD (dVar 8) (dC (.int 1)))) dNoP)))
  (dSeq (dFrz [4, 2, 18] (dSet 19 (dCall φ_law_told_u (dACons (dVar 4) (dACons (dVar 2) (dACons (dVar 18) (dACons (dVar 14) dANil)))))))
  (dSeq (dIf (dAnd (dTru (dIsi (dVar 19) "list")) (dB (dOp ltD (dOp subsD (dVar 19) (dVar 8)) (dOp subsD (dVar 17) (dVar 8))))) (dRet (dC (.bl false))) dSkip)
  (dApp 17 (dC (.int 0))))))) dSkip)))))))
def b_law : DenS :=
  (dSeq (dSet 1 (dCall φ_law_numbers_u (dACons (dSc (dCall φ_law_cell_u (dACons (dVar 0) (dACons (dC (.int 0)) dANil)))) (dACons (dC (.int 40)) (dACons (dC (.int 5040)) dANil)))))
  (dSeq (dFrz [1] (dSet 2 (dCall φ_law_rule_u (dACons (dVar 1) (dACons (dC (.int 0)) dANil)))))
  (dSeq (dSet 3 (dOp addD (dC (.int 1)) (dOp modD (dOp subsD (dVar 1) (dC (.int 3))) (dC (.int 6)))))
  (dSeq (dSet 4 (dLc (dRng1 (dVar 3)) (.nm 5) dYes (dOp addD (dC (.int 1)) (dOp modD (dOp subsD (dVar 1) (dOp addD (dC (.int 5)) (dVar 5))) (dOp subsD (dLst (dACons (dC (.int 4)) (dACons (dC (.int 50)) (dACons (dC (.int 5040)) dANil)))) (dOp modD (dOp subsD (dVar 1) (dC (.int 4))) (dC (.int 3)))))) [5]))
  (dSeq (dSet 6 (dLc (dRng1 (dVar 3)) (.nm 5) dYes (dOp modD (dOp subsD (dVar 1) (dOp addD (dC (.int 11)) (dVar 5))) (dOp subsD (dLst (dACons (dC (.int 1)) (dACons (dC (.int 3)) (dACons (dC (.int 10)) dANil)))) (dOp modD (dOp subsD (dVar 1) (dC (.int 17))) (dC (.int 3))))) [5]))
  (dSeq (dFrz [4, 6] (dSet 7 (reprG (dTup (dACons (dVar 4) (dACons (dVar 6) dANil))))))
  (dSeq (dSet 8 (dOp modD (dOp subsD (dVar 1) (dC (.int 18))) (dVar 3)))
  (dSeq (dFrz [6] (dSet 9 (dLst (dACons (dVar 6) (dACons (dSlice (dVar 6) (dSoP (dC (.int 1))) dNoP) (dACons (dOp addD (dVar 6) (dLst (dACons (dC (.int 0)) dANil))) (dACons (dLst dANil) (dACons (dOp addD (dLst (dACons (dC (.int 60)) dANil)) (dLc (dRng1 (dOp subD (dVar 3) (dC (.int 1)))) (.nm 5) dYes (dC (.int 0)) [5])) (dACons (dOp addD (dLst (dACons (dC (.int 61)) dANil)) (dLc (dRng1 (dOp subD (dVar 3) (dC (.int 1)))) (.nm 5) dYes (dC (.int 0)) [5])) (dACons (dLc (dRng1 (dVar 3)) (.nm 5) dYes (dOp fdivD (dC (.int 60)) (dVar 3)) [5]) (dACons (dLc (dRng1 (dOp addD (dVar 3) (dC (.int 1)))) (.nm 5) dYes (dC .non) [5]) dANil)))))))))))
  (dSeq (dFor (dSrc (dLst (dACons (dUn negD (dC (.int 1))) (dACons (dC (.bl true)) (dACons (dC .non) (dACons (dC (.str "1")) (dACons (dTup (dACons (dC (.int 1)) dANil)) (dACons (dOp powD (dC (.int 10)) (dC (.int 20))) (dACons (dLst (dACons (dC (.int 0)) dANil)) dANil))))))))) (.nm 10) lb_law_1)
  (dSeq (dFrz [9] (dFor (dSrc (dVar 9)) (.nm 11) lb_law_2))
  (dSeq (dSet 12 (dOp modD (dOp subsD (dVar 1) (dC (.int 19))) (dC (.int 31))))
  (dSeq (dIf (dB (dOp (eqD false) (dOp modD (dOp subsD (dVar 1) (dC (.int 20))) (dC (.int 8))) (dC (.int 1)))) (dSet 12 (dOp modD (dOp subsD (dVar 1) (dC (.int 19))) (dC (.int 101)))) dSkip)
  (dSeq (dFrz [6] (dFor (dSrc (dLst (dACons (dTup (dACons (dVar 6) (dACons (dVar 12) dANil))) (dACons (dTup (dACons (dLc (dRng1 (dVar 3)) (.nm 5) dYes (dC (.int 0)) [5]) (dACons (dVar 12) dANil))) (dACons (dTup (dACons (dVar 6) (dACons (dBlt sumF (dVCons (dVar 6) dVNil)) dANil))) (dACons (dTup (dACons (dVar 6) (dACons (dOp addD (dBlt sumF (dVCons (dVar 6) dVNil)) (dCount (dVar 6) (dC (.int 0)))) dANil))) dANil)))))) (.tp [(.nm 13), (.nm 14)]) lb_law_3))
  (dRet (dC (.bl true))))))))))))))))
def φ_law : Fn := runB 1 20 b_law
theorem len_law : ∀ ds x, φ_law ds = some x → ds.length = 1 := fun _ _ h => runB_len h
structure Txt (K : PySem.W.Frag) (mg : Str → Option Value) (f_is_whole f_fraction f_whole f_plus f_times f_over f_is_less f_square f_is_strict f_square_of f_is_above f_first_lacking f_next_ratio f_least_of f_greatest_of f_is_next f_next_party f_first_seats f_check_minimums f_first_less f_bars_minimal f_first_barring f_free_ratio f_greatest_divisor f_find_minimal f_seats_with_minimums f_law_cell_u f_law_numbers_u f_law_common_u f_law_frac_u f_law_plus_u f_law_times_u f_law_less_u f_law_same_u f_law_are_whole_u f_law_rule_u f_law_square_u f_law_strict_u f_law_with_minimums_u f_law_word_u f_law_due_word_u f_law_told_u f_law c_InvalidMinimums c_SeatError c_TooFewSeats c_WrongCount : Addr) (fd_is_whole fd_fraction fd_whole fd_plus fd_times fd_over fd_is_less fd_square fd_is_strict fd_square_of fd_is_above fd_first_lacking fd_next_ratio fd_least_of fd_greatest_of fd_is_next fd_next_party fd_first_seats fd_check_minimums fd_first_less fd_bars_minimal fd_first_barring fd_free_ratio fd_greatest_divisor fd_find_minimal fd_seats_with_minimums fd_law_cell_u fd_law_numbers_u fd_law_common_u fd_law_frac_u fd_law_plus_u fd_law_times_u fd_law_less_u fd_law_same_u fd_law_are_whole_u fd_law_rule_u fd_law_square_u fd_law_strict_u fd_law_with_minimums_u fd_law_word_u fd_law_due_word_u fd_law_told_u fd_law : FuncData) ( u_MOST_MINIMUMS u_ZERO : Value) : Prop where
  m_c_InvalidMinimums : mg "InvalidMinimums" = some (.ref c_InvalidMinimums)
  m_c_SeatError : mg "SeatError" = some (.ref c_SeatError)
  m_c_TooFewSeats : mg "TooFewSeats" = some (.ref c_TooFewSeats)
  m_c_WrongCount : mg "WrongCount" = some (.ref c_WrongCount)
  x_InvalidMinimums : XCls K c_InvalidMinimums
  x_TooFewSeats : XCls K c_TooFewSeats
  x_WrongCount : XCls K c_WrongCount
  y_InvalidMinimums : YCls K c_InvalidMinimums
  y_SeatError : YCls K c_SeatError
  y_TooFewSeats : YCls K c_TooFewSeats
  y_WrongCount : YCls K c_WrongCount
  n_InvalidMinimums : ExcC K c_InvalidMinimums
  n_TooFewSeats : ExcC K c_TooFewSeats
  n_WrongCount : ExcC K c_WrongCount
  k_InvalidMinimums_InvalidMinimums : PySem.W.subIn K (.ref c_InvalidMinimums) (.ref c_InvalidMinimums) = some true
  k_InvalidMinimums_SeatError : PySem.W.subIn K (.ref c_InvalidMinimums) (.ref c_SeatError) = some true
  k_InvalidMinimums_TooFewSeats : PySem.W.subIn K (.ref c_InvalidMinimums) (.ref c_TooFewSeats) = some false
  k_InvalidMinimums_WrongCount : PySem.W.subIn K (.ref c_InvalidMinimums) (.ref c_WrongCount) = some false
  k_TooFewSeats_SeatError : PySem.W.subIn K (.ref c_TooFewSeats) (.ref c_SeatError) = some true
  k_TooFewSeats_TooFewSeats : PySem.W.subIn K (.ref c_TooFewSeats) (.ref c_TooFewSeats) = some true
  k_TooFewSeats_WrongCount : PySem.W.subIn K (.ref c_TooFewSeats) (.ref c_WrongCount) = some false
  k_WrongCount_InvalidMinimums : PySem.W.subIn K (.ref c_WrongCount) (.ref c_InvalidMinimums) = some false
  k_WrongCount_SeatError : PySem.W.subIn K (.ref c_WrongCount) (.ref c_SeatError) = some true
  k_WrongCount_WrongCount : PySem.W.subIn K (.ref c_WrongCount) (.ref c_WrongCount) = some true
  F_is_whole : Fun K "is_whole" "is_whole" s_is_whole f_is_whole fd_is_whole
  m_is_whole : mg "is_whole" = some (.ref f_is_whole)
  b_is_whole : Binds K fd_is_whole ["value"] []
  F_fraction : Fun K "fraction" "fraction" s_fraction f_fraction fd_fraction
  m_fraction : mg "fraction" = some (.ref f_fraction)
  b_fraction : Binds K fd_fraction ["top", "bottom"] []
  F_whole : Fun K "whole" "whole" s_whole f_whole fd_whole
  m_whole : mg "whole" = some (.ref f_whole)
  b_whole : Binds K fd_whole ["number"] []
  F_plus : Fun K "plus" "plus" s_plus f_plus fd_plus
  m_plus : mg "plus" = some (.ref f_plus)
  b_plus : Binds K fd_plus ["one", "other"] []
  F_times : Fun K "times" "times" s_times f_times fd_times
  m_times : mg "times" = some (.ref f_times)
  b_times : Binds K fd_times ["one", "other"] []
  F_over : Fun K "over" "over" s_over f_over fd_over
  m_over : mg "over" = some (.ref f_over)
  b_over : Binds K fd_over ["one", "other"] []
  F_is_less : Fun K "is_less" "is_less" s_is_less f_is_less fd_is_less
  m_is_less : mg "is_less" = some (.ref f_is_less)
  b_is_less : Binds K fd_is_less ["one", "other"] []
  F_square : Fun K "square" "square" s_square f_square fd_square
  m_square : mg "square" = some (.ref f_square)
  b_square : Binds K fd_square ["rule", "k"] []
  F_is_strict : Fun K "is_strict" "is_strict" s_is_strict f_is_strict fd_is_strict
  m_is_strict : mg "is_strict" = some (.ref f_is_strict)
  b_is_strict : Binds K fd_is_strict ["rule"] []
  F_square_of : Fun K "square_of" "square_of" s_square_of f_square_of fd_square_of
  m_square_of : mg "square_of" = some (.ref f_square_of)
  b_square_of : Binds K fd_square_of ["number"] []
  F_is_above : Fun K "is_above" "is_above" s_is_above f_is_above fd_is_above
  m_is_above : mg "is_above" = some (.ref f_is_above)
  b_is_above : Binds K fd_is_above ["one", "other"] []
  F_first_lacking : Fun K "first_lacking" "first_lacking" s_first_lacking f_first_lacking fd_first_lacking
  m_first_lacking : mg "first_lacking" = some (.ref f_first_lacking)
  b_first_lacking : Binds K fd_first_lacking ["rule", "seats"] []
  F_next_ratio : Fun K "next_ratio" "next_ratio" s_next_ratio f_next_ratio fd_next_ratio
  m_next_ratio : mg "next_ratio" = some (.ref f_next_ratio)
  b_next_ratio : Binds K fd_next_ratio ["votes", "rule", "seats", "party"] []
  F_least_of : Fun K "least_of" "least_of" s_least_of f_least_of fd_least_of
  m_least_of : mg "least_of" = some (.ref f_least_of)
  b_least_of : Binds K fd_least_of ["values"] []
  F_greatest_of : Fun K "greatest_of" "greatest_of" s_greatest_of f_greatest_of fd_greatest_of
  m_greatest_of : mg "greatest_of" = some (.ref f_greatest_of)
  b_greatest_of : Binds K fd_greatest_of ["values"] []
  F_is_next : Fun K "is_next" "is_next" s_is_next f_is_next fd_is_next
  m_is_next : mg "is_next" = some (.ref f_is_next)
  b_is_next : Binds K fd_is_next ["votes", "rule", "seats", "one", "other"] []
  F_next_party : Fun K "next_party" "next_party" s_next_party f_next_party fd_next_party
  m_next_party : mg "next_party" = some (.ref f_next_party)
  b_next_party : Binds K fd_next_party ["votes", "rule", "seats"] []
  F_first_seats : Fun K "first_seats" "first_seats" s_first_seats f_first_seats fd_first_seats
  m_first_seats : mg "first_seats" = some (.ref f_first_seats)
  b_first_seats : Binds K fd_first_seats ["votes", "rule", "house"] []
  F_check_minimums : Fun K "check_minimums" "check_minimums" s_check_minimums f_check_minimums fd_check_minimums
  m_check_minimums : mg "check_minimums" = some (.ref f_check_minimums)
  b_check_minimums : Binds K fd_check_minimums ["votes", "minimums"] []
  F_first_less : Fun K "first_less" "first_less" s_first_less f_first_less fd_first_less
  m_first_less : mg "first_less" = some (.ref f_first_less)
  b_first_less : Binds K fd_first_less ["minimums", "seats"] []
  F_bars_minimal : Fun K "bars_minimal" "bars_minimal" s_bars_minimal f_bars_minimal fd_bars_minimal
  m_bars_minimal : mg "bars_minimal" = some (.ref f_bars_minimal)
  b_bars_minimal : Binds K fd_bars_minimal ["votes", "rule", "minimums", "seats", "first", "second"] []
  F_first_barring : Fun K "first_barring" "first_barring" s_first_barring f_first_barring fd_first_barring
  m_first_barring : mg "first_barring" = some (.ref f_first_barring)
  b_first_barring : Binds K fd_first_barring ["votes", "rule", "minimums", "seats"] []
  F_free_ratio : Fun K "free_ratio" "free_ratio" s_free_ratio f_free_ratio fd_free_ratio
  m_free_ratio : mg "free_ratio" = some (.ref f_free_ratio)
  b_free_ratio : Binds K fd_free_ratio ["votes", "rule", "minimums", "seats", "party"] []
  F_greatest_divisor : Fun K "greatest_divisor" "greatest_divisor" s_greatest_divisor f_greatest_divisor fd_greatest_divisor
  m_greatest_divisor : mg "greatest_divisor" = some (.ref f_greatest_divisor)
  b_greatest_divisor : Binds K fd_greatest_divisor ["votes", "rule", "minimums", "seats"] []
  F_find_minimal : Fun K "find_minimal" "find_minimal" s_find_minimal f_find_minimal fd_find_minimal
  m_find_minimal : mg "find_minimal" = some (.ref f_find_minimal)
  b_find_minimal : Binds K fd_find_minimal ["votes", "rule", "minimums", "seats"] []
  F_seats_with_minimums : Fun K "seats_with_minimums" "seats_with_minimums" s_seats_with_minimums f_seats_with_minimums fd_seats_with_minimums
  m_seats_with_minimums : mg "seats_with_minimums" = some (.ref f_seats_with_minimums)
  b_seats_with_minimums : Binds K fd_seats_with_minimums ["votes", "rule", "minimums", "house"] []
  F_law_cell_u : Fun K "_law_cell" "_law_cell" s_law_cell_u f_law_cell_u fd_law_cell_u
  m_law_cell_u : mg "_law_cell" = some (.ref f_law_cell_u)
  b_law_cell_u : Binds K fd_law_cell_u ["script", "k"] []
  F_law_numbers_u : Fun K "_law_numbers" "_law_numbers" s_law_numbers_u f_law_numbers_u fd_law_numbers_u
  m_law_numbers_u : mg "_law_numbers" = some (.ref f_law_numbers_u)
  b_law_numbers_u : Binds K fd_law_numbers_u ["cell", "count", "limit"] []
  F_law_common_u : Fun K "_law_common" "_law_common" s_law_common_u f_law_common_u fd_law_common_u
  m_law_common_u : mg "_law_common" = some (.ref f_law_common_u)
  b_law_common_u : Binds K fd_law_common_u ["one", "other"] []
  F_law_frac_u : Fun K "_law_frac" "_law_frac" s_law_frac_u f_law_frac_u fd_law_frac_u
  m_law_frac_u : mg "_law_frac" = some (.ref f_law_frac_u)
  b_law_frac_u : Binds K fd_law_frac_u ["top", "bottom"] []
  F_law_plus_u : Fun K "_law_plus" "_law_plus" s_law_plus_u f_law_plus_u fd_law_plus_u
  m_law_plus_u : mg "_law_plus" = some (.ref f_law_plus_u)
  b_law_plus_u : Binds K fd_law_plus_u ["one", "other"] []
  F_law_times_u : Fun K "_law_times" "_law_times" s_law_times_u f_law_times_u fd_law_times_u
  m_law_times_u : mg "_law_times" = some (.ref f_law_times_u)
  b_law_times_u : Binds K fd_law_times_u ["one", "other"] []
  F_law_less_u : Fun K "_law_less" "_law_less" s_law_less_u f_law_less_u fd_law_less_u
  m_law_less_u : mg "_law_less" = some (.ref f_law_less_u)
  b_law_less_u : Binds K fd_law_less_u ["one", "other"] []
  F_law_same_u : Fun K "_law_same" "_law_same" s_law_same_u f_law_same_u fd_law_same_u
  m_law_same_u : mg "_law_same" = some (.ref f_law_same_u)
  b_law_same_u : Binds K fd_law_same_u ["told", "due"] []
  F_law_are_whole_u : Fun K "_law_are_whole" "_law_are_whole" s_law_are_whole_u f_law_are_whole_u fd_law_are_whole_u
  m_law_are_whole_u : mg "_law_are_whole" = some (.ref f_law_are_whole_u)
  b_law_are_whole_u : Binds K fd_law_are_whole_u ["some"] []
  F_law_rule_u : Fun K "_law_rule" "_law_rule" s_law_rule_u f_law_rule_u fd_law_rule_u
  m_law_rule_u : mg "_law_rule" = some (.ref f_law_rule_u)
  b_law_rule_u : Binds K fd_law_rule_u ["draws", "at"] []
  F_law_square_u : Fun K "_law_square" "_law_square" s_law_square_u f_law_square_u fd_law_square_u
  m_law_square_u : mg "_law_square" = some (.ref f_law_square_u)
  b_law_square_u : Binds K fd_law_square_u ["rule", "k"] []
  F_law_strict_u : Fun K "_law_strict" "_law_strict" s_law_strict_u f_law_strict_u fd_law_strict_u
  m_law_strict_u : mg "_law_strict" = some (.ref f_law_strict_u)
  b_law_strict_u : Binds K fd_law_strict_u ["rule"] []
  F_law_with_minimums_u : Fun K "_law_with_minimums" "_law_with_minimums" s_law_with_minimums_u f_law_with_minimums_u fd_law_with_minimums_u
  m_law_with_minimums_u : mg "_law_with_minimums" = some (.ref f_law_with_minimums_u)
  b_law_with_minimums_u : Binds K fd_law_with_minimums_u ["votes", "rule", "minimums", "house"] []
  F_law_word_u : Fun K "_law_word" "_law_word" s_law_word_u f_law_word_u fd_law_word_u
  m_law_word_u : mg "_law_word" = some (.ref f_law_word_u)
  b_law_word_u : Binds K fd_law_word_u ["votes", "minimums"] []
  F_law_due_word_u : Fun K "_law_due_word" "_law_due_word" s_law_due_word_u f_law_due_word_u fd_law_due_word_u
  m_law_due_word_u : mg "_law_due_word" = some (.ref f_law_due_word_u)
  b_law_due_word_u : Binds K fd_law_due_word_u ["votes", "minimums"] []
  F_law_told_u : Fun K "_law_told" "_law_told" s_law_told_u f_law_told_u fd_law_told_u
  m_law_told_u : mg "_law_told" = some (.ref f_law_told_u)
  b_law_told_u : Binds K fd_law_told_u ["votes", "rule", "minimums", "house"] []
  F_law : Fun K "law" "law" s_law f_law fd_law
  m_law : mg "law" = some (.ref f_law)
  b_law : Binds K fd_law ["script"] []
  z_abs : mg "abs" = none
  z_all : mg "all" = none
  z_bool : mg "bool" = none
  z_enumerate : mg "enumerate" = none
  z_int : mg "int" = none
  z_isinstance : mg "isinstance" = none
  z_len : mg "len" = none
  z_list : mg "list" = none
  z_max : mg "max" = none
  z_range : mg "range" = none
  z_repr : mg "repr" = none
  z_str : mg "str" = none
  z_sum : mg "sum" = none
  z_tuple : mg "tuple" = none
  i_gcd : mg "gcd" = some (.builtin "math.gcd")
  m_MOST_MINIMUMS : mg "MOST_MINIMUMS" = some u_MOST_MINIMUMS
  rc_MOST_MINIMUMS : KConst K u_MOST_MINIMUMS c_MOST_MINIMUMS
  m_ZERO : mg "ZERO" = some u_ZERO
  rc_ZERO : KConst K u_ZERO c_ZERO
section
variable {P : Program} {w : World} {K : PySem.W.Frag} {mg : Str → Option Value} {base : Heap} {f_is_whole f_fraction f_whole f_plus f_times f_over f_is_less f_square f_is_strict f_square_of f_is_above f_first_lacking f_next_ratio f_least_of f_greatest_of f_is_next f_next_party f_first_seats f_check_minimums f_first_less f_bars_minimal f_first_barring f_free_ratio f_greatest_divisor f_find_minimal f_seats_with_minimums f_law_cell_u f_law_numbers_u f_law_common_u f_law_frac_u f_law_plus_u f_law_times_u f_law_less_u f_law_same_u f_law_are_whole_u f_law_rule_u f_law_square_u f_law_strict_u f_law_with_minimums_u f_law_word_u f_law_due_word_u f_law_told_u f_law c_InvalidMinimums c_SeatError c_TooFewSeats c_WrongCount : Addr} {fd_is_whole fd_fraction fd_whole fd_plus fd_times fd_over fd_is_less fd_square fd_is_strict fd_square_of fd_is_above fd_first_lacking fd_next_ratio fd_least_of fd_greatest_of fd_is_next fd_next_party fd_first_seats fd_check_minimums fd_first_less fd_bars_minimal fd_first_barring fd_free_ratio fd_greatest_divisor fd_find_minimal fd_seats_with_minimums fd_law_cell_u fd_law_numbers_u fd_law_common_u fd_law_frac_u fd_law_plus_u fd_law_times_u fd_law_less_u fd_law_same_u fd_law_are_whole_u fd_law_rule_u fd_law_square_u fd_law_strict_u fd_law_with_minimums_u fd_law_word_u fd_law_due_word_u fd_law_told_u fd_law : FuncData} { u_MOST_MINIMUMS u_ZERO : Value}
theorem ok_is_whole (T : Txt K mg f_is_whole f_fraction f_whole f_plus f_times f_over f_is_less f_square f_is_strict f_square_of f_is_above f_first_lacking f_next_ratio f_least_of f_greatest_of f_is_next f_next_party f_first_seats f_check_minimums f_first_less f_bars_minimal f_first_barring f_free_ratio f_greatest_divisor f_find_minimal f_seats_with_minimums f_law_cell_u f_law_numbers_u f_law_common_u f_law_frac_u f_law_plus_u f_law_times_u f_law_less_u f_law_same_u f_law_are_whole_u f_law_rule_u f_law_square_u f_law_strict_u f_law_with_minimums_u f_law_word_u f_law_due_word_u f_law_told_u f_law c_InvalidMinimums c_SeatError c_TooFewSeats c_WrongCount fd_is_whole fd_fraction fd_whole fd_plus fd_times fd_over fd_is_less fd_square fd_is_strict fd_square_of fd_is_above fd_first_lacking fd_next_ratio fd_least_of fd_greatest_of fd_is_next fd_next_party fd_first_seats fd_check_minimums fd_first_less fd_bars_minimal fd_first_barring fd_free_ratio fd_greatest_divisor fd_find_minimal fd_seats_with_minimums fd_law_cell_u fd_law_numbers_u fd_law_common_u fd_law_frac_u fd_law_plus_u fd_law_times_u fd_law_less_u fd_law_same_u fd_law_are_whole_u fd_law_rule_u fd_law_square_u fd_law_strict_u fd_law_with_minimums_u fd_law_word_u fd_law_due_word_u fd_law_told_u fd_law u_MOST_MINIMUMS u_ZERO) : FnOk P w K mg base CX0 1 f_is_whole fd_is_whole ["value"] (spD ⟨P, w, K⟩ 1 φ_is_whole) :=
  fn_ok (n := 1) (m := 1) (h := b_is_whole) T.F_is_whole sc_is_whole (by rfl) (by rfl) fun cdv A outer s H E hr =>
    (ds_one (ds_ret (de_and (de_isi T.z_isinstance T.z_int (de_var 0) (by decide +kernel)) (de_one (de_not (de_isi T.z_isinstance T.z_bool (de_var 0) (by decide +kernel)))))))
theorem ok_fraction (T : Txt K mg f_is_whole f_fraction f_whole f_plus f_times f_over f_is_less f_square f_is_strict f_square_of f_is_above f_first_lacking f_next_ratio f_least_of f_greatest_of f_is_next f_next_party f_first_seats f_check_minimums f_first_less f_bars_minimal f_first_barring f_free_ratio f_greatest_divisor f_find_minimal f_seats_with_minimums f_law_cell_u f_law_numbers_u f_law_common_u f_law_frac_u f_law_plus_u f_law_times_u f_law_less_u f_law_same_u f_law_are_whole_u f_law_rule_u f_law_square_u f_law_strict_u f_law_with_minimums_u f_law_word_u f_law_due_word_u f_law_told_u f_law c_InvalidMinimums c_SeatError c_TooFewSeats c_WrongCount fd_is_whole fd_fraction fd_whole fd_plus fd_times fd_over fd_is_less fd_square fd_is_strict fd_square_of fd_is_above fd_first_lacking fd_next_ratio fd_least_of fd_greatest_of fd_is_next fd_next_party fd_first_seats fd_check_minimums fd_first_less fd_bars_minimal fd_first_barring fd_free_ratio fd_greatest_divisor fd_find_minimal fd_seats_with_minimums fd_law_cell_u fd_law_numbers_u fd_law_common_u fd_law_frac_u fd_law_plus_u fd_law_times_u fd_law_less_u fd_law_same_u fd_law_are_whole_u fd_law_rule_u fd_law_square_u fd_law_strict_u fd_law_with_minimums_u fd_law_word_u fd_law_due_word_u fd_law_told_u fd_law u_MOST_MINIMUMS u_ZERO) : FnOk P w K mg base CX0 1 f_fraction fd_fraction ["top", "bottom"] (spD ⟨P, w, K⟩ 2 φ_fraction) :=
  fn_ok (n := 2) (m := 3) (h := b_fraction) T.F_fraction sc_fraction (by rfl) (by rfl) fun cdv A outer s H E hr =>
    (ds_cons (ds_if (dt_cmp (od_ltD hr.units0) (de_var 1) de_int) (ds_one (ds_par 0 1 rfl sc_fraction.nd (da_cons (de_neg (de_var 0)) (da_cons (de_neg (de_var 1)) da_nil)))) ds_nil)
    (ds_cons (ds_set 2 sc_fraction.nd (de_gcd T.i_gcd (dv_cons (de_var 0) (dv_cons (de_var 1) dv_nil))))
    (ds_one (ds_ret (de_tup (da_cons (de_op od_fdiv (de_var 0) (de_var 2)) (da_cons (de_op od_fdiv (de_var 1) (de_var 2)) da_nil)))))))
theorem ok_whole (T : Txt K mg f_is_whole f_fraction f_whole f_plus f_times f_over f_is_less f_square f_is_strict f_square_of f_is_above f_first_lacking f_next_ratio f_least_of f_greatest_of f_is_next f_next_party f_first_seats f_check_minimums f_first_less f_bars_minimal f_first_barring f_free_ratio f_greatest_divisor f_find_minimal f_seats_with_minimums f_law_cell_u f_law_numbers_u f_law_common_u f_law_frac_u f_law_plus_u f_law_times_u f_law_less_u f_law_same_u f_law_are_whole_u f_law_rule_u f_law_square_u f_law_strict_u f_law_with_minimums_u f_law_word_u f_law_due_word_u f_law_told_u f_law c_InvalidMinimums c_SeatError c_TooFewSeats c_WrongCount fd_is_whole fd_fraction fd_whole fd_plus fd_times fd_over fd_is_less fd_square fd_is_strict fd_square_of fd_is_above fd_first_lacking fd_next_ratio fd_least_of fd_greatest_of fd_is_next fd_next_party fd_first_seats fd_check_minimums fd_first_less fd_bars_minimal fd_first_barring fd_free_ratio fd_greatest_divisor fd_find_minimal fd_seats_with_minimums fd_law_cell_u fd_law_numbers_u fd_law_common_u fd_law_frac_u fd_law_plus_u fd_law_times_u fd_law_less_u fd_law_same_u fd_law_are_whole_u fd_law_rule_u fd_law_square_u fd_law_strict_u fd_law_with_minimums_u fd_law_word_u fd_law_due_word_u fd_law_told_u fd_law u_MOST_MINIMUMS u_ZERO) : FnOk P w K mg base CX0 1 f_whole fd_whole ["number"] (spD ⟨P, w, K⟩ 1 φ_whole) :=
  fn_ok (n := 1) (m := 1) (h := b_whole) T.F_whole sc_whole (by rfl) (by rfl) fun cdv A outer s H E hr =>
    (ds_one (ds_ret (de_tup (da_cons (de_var 0) (da_cons de_int da_nil)))))
theorem ok_plus (T : Txt K mg f_is_whole f_fraction f_whole f_plus f_times f_over f_is_less f_square f_is_strict f_square_of f_is_above f_first_lacking f_next_ratio f_least_of f_greatest_of f_is_next f_next_party f_first_seats f_check_minimums f_first_less f_bars_minimal f_first_barring f_free_ratio f_greatest_divisor f_find_minimal f_seats_with_minimums f_law_cell_u f_law_numbers_u f_law_common_u f_law_frac_u f_law_plus_u f_law_times_u f_law_less_u f_law_same_u f_law_are_whole_u f_law_rule_u f_law_square_u f_law_strict_u f_law_with_minimums_u f_law_word_u f_law_due_word_u f_law_told_u f_law c_InvalidMinimums c_SeatError c_TooFewSeats c_WrongCount fd_is_whole fd_fraction fd_whole fd_plus fd_times fd_over fd_is_less fd_square fd_is_strict fd_square_of fd_is_above fd_first_lacking fd_next_ratio fd_least_of fd_greatest_of fd_is_next fd_next_party fd_first_seats fd_check_minimums fd_first_less fd_bars_minimal fd_first_barring fd_free_ratio fd_greatest_divisor fd_find_minimal fd_seats_with_minimums fd_law_cell_u fd_law_numbers_u fd_law_common_u fd_law_frac_u fd_law_plus_u fd_law_times_u fd_law_less_u fd_law_same_u fd_law_are_whole_u fd_law_rule_u fd_law_square_u fd_law_strict_u fd_law_with_minimums_u fd_law_word_u fd_law_due_word_u fd_law_told_u fd_law u_MOST_MINIMUMS u_ZERO) : FnOk P w K mg base CX0 2 f_plus fd_plus ["one", "other"] (spD ⟨P, w, K⟩ 2 φ_plus) :=
  fn_ok (n := 2) (m := 2) (h := b_plus) T.F_plus sc_plus (by rfl) (by rfl) fun cdv A outer s H E hr =>
    (ds_one (ds_ret (de_call (ok_fraction T) hr T.m_fraction T.F_fraction.kp T.b_fraction pass0 len_fraction (da_cons (de_op od_add (de_op od_mul (de_subs (hu_of hr) (de_var 0) de_int) (de_subs (hu_of hr) (de_var 1) de_int)) (de_op od_mul (de_subs (hu_of hr) (de_var 1) de_int) (de_subs (hu_of hr) (de_var 0) de_int))) (da_cons (de_op od_mul (de_subs (hu_of hr) (de_var 0) de_int) (de_subs (hu_of hr) (de_var 1) de_int)) da_nil)))))
theorem ok_times (T : Txt K mg f_is_whole f_fraction f_whole f_plus f_times f_over f_is_less f_square f_is_strict f_square_of f_is_above f_first_lacking f_next_ratio f_least_of f_greatest_of f_is_next f_next_party f_first_seats f_check_minimums f_first_less f_bars_minimal f_first_barring f_free_ratio f_greatest_divisor f_find_minimal f_seats_with_minimums f_law_cell_u f_law_numbers_u f_law_common_u f_law_frac_u f_law_plus_u f_law_times_u f_law_less_u f_law_same_u f_law_are_whole_u f_law_rule_u f_law_square_u f_law_strict_u f_law_with_minimums_u f_law_word_u f_law_due_word_u f_law_told_u f_law c_InvalidMinimums c_SeatError c_TooFewSeats c_WrongCount fd_is_whole fd_fraction fd_whole fd_plus fd_times fd_over fd_is_less fd_square fd_is_strict fd_square_of fd_is_above fd_first_lacking fd_next_ratio fd_least_of fd_greatest_of fd_is_next fd_next_party fd_first_seats fd_check_minimums fd_first_less fd_bars_minimal fd_first_barring fd_free_ratio fd_greatest_divisor fd_find_minimal fd_seats_with_minimums fd_law_cell_u fd_law_numbers_u fd_law_common_u fd_law_frac_u fd_law_plus_u fd_law_times_u fd_law_less_u fd_law_same_u fd_law_are_whole_u fd_law_rule_u fd_law_square_u fd_law_strict_u fd_law_with_minimums_u fd_law_word_u fd_law_due_word_u fd_law_told_u fd_law u_MOST_MINIMUMS u_ZERO) : FnOk P w K mg base CX0 2 f_times fd_times ["one", "other"] (spD ⟨P, w, K⟩ 2 φ_times) :=
  fn_ok (n := 2) (m := 2) (h := b_times) T.F_times sc_times (by rfl) (by rfl) fun cdv A outer s H E hr =>
    (ds_one (ds_ret (de_call (ok_fraction T) hr T.m_fraction T.F_fraction.kp T.b_fraction pass0 len_fraction (da_cons (de_op od_mul (de_subs (hu_of hr) (de_var 0) de_int) (de_subs (hu_of hr) (de_var 1) de_int)) (da_cons (de_op od_mul (de_subs (hu_of hr) (de_var 0) de_int) (de_subs (hu_of hr) (de_var 1) de_int)) da_nil)))))
theorem ok_over (T : Txt K mg f_is_whole f_fraction f_whole f_plus f_times f_over f_is_less f_square f_is_strict f_square_of f_is_above f_first_lacking f_next_ratio f_least_of f_greatest_of f_is_next f_next_party f_first_seats f_check_minimums f_first_less f_bars_minimal f_first_barring f_free_ratio f_greatest_divisor f_find_minimal f_seats_with_minimums f_law_cell_u f_law_numbers_u f_law_common_u f_law_frac_u f_law_plus_u f_law_times_u f_law_less_u f_law_same_u f_law_are_whole_u f_law_rule_u f_law_square_u f_law_strict_u f_law_with_minimums_u f_law_word_u f_law_due_word_u f_law_told_u f_law c_InvalidMinimums c_SeatError c_TooFewSeats c_WrongCount fd_is_whole fd_fraction fd_whole fd_plus fd_times fd_over fd_is_less fd_square fd_is_strict fd_square_of fd_is_above fd_first_lacking fd_next_ratio fd_least_of fd_greatest_of fd_is_next fd_next_party fd_first_seats fd_check_minimums fd_first_less fd_bars_minimal fd_first_barring fd_free_ratio fd_greatest_divisor fd_find_minimal fd_seats_with_minimums fd_law_cell_u fd_law_numbers_u fd_law_common_u fd_law_frac_u fd_law_plus_u fd_law_times_u fd_law_less_u fd_law_same_u fd_law_are_whole_u fd_law_rule_u fd_law_square_u fd_law_strict_u fd_law_with_minimums_u fd_law_word_u fd_law_due_word_u fd_law_told_u fd_law u_MOST_MINIMUMS u_ZERO) : FnOk P w K mg base CX0 2 f_over fd_over ["one", "other"] (spD ⟨P, w, K⟩ 2 φ_over) :=
  fn_ok (n := 2) (m := 2) (h := b_over) T.F_over sc_over (by rfl) (by rfl) fun cdv A outer s H E hr =>
    (ds_one (ds_ret (de_call (ok_fraction T) hr T.m_fraction T.F_fraction.kp T.b_fraction pass0 len_fraction (da_cons (de_op od_mul (de_subs (hu_of hr) (de_var 0) de_int) (de_subs (hu_of hr) (de_var 1) de_int)) (da_cons (de_op od_mul (de_subs (hu_of hr) (de_var 0) de_int) (de_subs (hu_of hr) (de_var 1) de_int)) da_nil)))))
theorem ok_is_less (T : Txt K mg f_is_whole f_fraction f_whole f_plus f_times f_over f_is_less f_square f_is_strict f_square_of f_is_above f_first_lacking f_next_ratio f_least_of f_greatest_of f_is_next f_next_party f_first_seats f_check_minimums f_first_less f_bars_minimal f_first_barring f_free_ratio f_greatest_divisor f_find_minimal f_seats_with_minimums f_law_cell_u f_law_numbers_u f_law_common_u f_law_frac_u f_law_plus_u f_law_times_u f_law_less_u f_law_same_u f_law_are_whole_u f_law_rule_u f_law_square_u f_law_strict_u f_law_with_minimums_u f_law_word_u f_law_due_word_u f_law_told_u f_law c_InvalidMinimums c_SeatError c_TooFewSeats c_WrongCount fd_is_whole fd_fraction fd_whole fd_plus fd_times fd_over fd_is_less fd_square fd_is_strict fd_square_of fd_is_above fd_first_lacking fd_next_ratio fd_least_of fd_greatest_of fd_is_next fd_next_party fd_first_seats fd_check_minimums fd_first_less fd_bars_minimal fd_first_barring fd_free_ratio fd_greatest_divisor fd_find_minimal fd_seats_with_minimums fd_law_cell_u fd_law_numbers_u fd_law_common_u fd_law_frac_u fd_law_plus_u fd_law_times_u fd_law_less_u fd_law_same_u fd_law_are_whole_u fd_law_rule_u fd_law_square_u fd_law_strict_u fd_law_with_minimums_u fd_law_word_u fd_law_due_word_u fd_law_told_u fd_law u_MOST_MINIMUMS u_ZERO) : FnOk P w K mg base CX0 1 f_is_less fd_is_less ["one", "other"] (spD ⟨P, w, K⟩ 2 φ_is_less) :=
  fn_ok (n := 2) (m := 2) (h := b_is_less) T.F_is_less sc_is_less (by rfl) (by rfl) fun cdv A outer s H E hr =>
    (ds_one (ds_ret (de_cmp (od_ltD hr.units0) (de_op od_mul (de_subs (hu_of hr) (de_var 0) de_int) (de_subs (hu_of hr) (de_var 1) de_int)) (de_op od_mul (de_subs (hu_of hr) (de_var 1) de_int) (de_subs (hu_of hr) (de_var 0) de_int)))))
theorem ok_square (T : Txt K mg f_is_whole f_fraction f_whole f_plus f_times f_over f_is_less f_square f_is_strict f_square_of f_is_above f_first_lacking f_next_ratio f_least_of f_greatest_of f_is_next f_next_party f_first_seats f_check_minimums f_first_less f_bars_minimal f_first_barring f_free_ratio f_greatest_divisor f_find_minimal f_seats_with_minimums f_law_cell_u f_law_numbers_u f_law_common_u f_law_frac_u f_law_plus_u f_law_times_u f_law_less_u f_law_same_u f_law_are_whole_u f_law_rule_u f_law_square_u f_law_strict_u f_law_with_minimums_u f_law_word_u f_law_due_word_u f_law_told_u f_law c_InvalidMinimums c_SeatError c_TooFewSeats c_WrongCount fd_is_whole fd_fraction fd_whole fd_plus fd_times fd_over fd_is_less fd_square fd_is_strict fd_square_of fd_is_above fd_first_lacking fd_next_ratio fd_least_of fd_greatest_of fd_is_next fd_next_party fd_first_seats fd_check_minimums fd_first_less fd_bars_minimal fd_first_barring fd_free_ratio fd_greatest_divisor fd_find_minimal fd_seats_with_minimums fd_law_cell_u fd_law_numbers_u fd_law_common_u fd_law_frac_u fd_law_plus_u fd_law_times_u fd_law_less_u fd_law_same_u fd_law_are_whole_u fd_law_rule_u fd_law_square_u fd_law_strict_u fd_law_with_minimums_u fd_law_word_u fd_law_due_word_u fd_law_told_u fd_law u_MOST_MINIMUMS u_ZERO) : FnOk P w K mg base CX0 3 f_square fd_square ["rule", "k"] (spD ⟨P, w, K⟩ 2 φ_square) :=
  fn_ok (n := 2) (m := 3) (h := b_square) T.F_square sc_square (by rfl) (by rfl) fun cdv A outer s H E hr =>
    (ds_cons (ds_if (dt_cmp (od_eq hr.units) (de_subs (hu_of hr) (de_var 0) de_int) de_str) (ds_cons (ds_set 2 sc_square.nd (de_call (ok_plus T) hr T.m_plus T.F_plus.kp T.b_plus pass0 len_plus (da_cons (de_call (ok_whole T) (hr.mono (by decide)) T.m_whole T.F_whole.kp T.b_whole pass0 len_whole (da_cons (de_var 1) da_nil)) (da_cons (de_subs (hu_of hr) (de_var 0) de_int) da_nil))))
    (ds_one (ds_frz [2] (ds_ret (de_call (ok_times T) hr T.m_times T.F_times.kp T.b_times pass0 len_times (da_cons (de_var 2) (da_cons (de_var 2) da_nil))))))) ds_nil)
    (ds_cons (ds_if (dt_cmp (od_eq hr.units) (de_subs (hu_of hr) (de_var 0) de_int) de_str) (ds_one (ds_ret (de_call (ok_whole T) (hr.mono (by decide)) T.m_whole T.F_whole.kp T.b_whole pass0 len_whole (da_cons (de_op od_mul (de_var 1) (de_op od_add (de_var 1) de_int)) da_nil)))) ds_nil)
    (ds_cons (ds_set 2 sc_square.nd (de_call (ok_fraction T) (hr.mono (by decide)) T.m_fraction T.F_fraction.kp T.b_fraction pass0 len_fraction (da_cons (de_op od_mul (de_op od_mul de_int (de_var 1)) (de_op od_add (de_var 1) de_int)) (da_cons (de_op od_add (de_op od_mul de_int (de_var 1)) de_int) da_nil))))
    (ds_one (ds_frz [2] (ds_ret (de_call (ok_times T) hr T.m_times T.F_times.kp T.b_times pass0 len_times (da_cons (de_var 2) (da_cons (de_var 2) da_nil)))))))))
theorem ok_is_strict (T : Txt K mg f_is_whole f_fraction f_whole f_plus f_times f_over f_is_less f_square f_is_strict f_square_of f_is_above f_first_lacking f_next_ratio f_least_of f_greatest_of f_is_next f_next_party f_first_seats f_check_minimums f_first_less f_bars_minimal f_first_barring f_free_ratio f_greatest_divisor f_find_minimal f_seats_with_minimums f_law_cell_u f_law_numbers_u f_law_common_u f_law_frac_u f_law_plus_u f_law_times_u f_law_less_u f_law_same_u f_law_are_whole_u f_law_rule_u f_law_square_u f_law_strict_u f_law_with_minimums_u f_law_word_u f_law_due_word_u f_law_told_u f_law c_InvalidMinimums c_SeatError c_TooFewSeats c_WrongCount fd_is_whole fd_fraction fd_whole fd_plus fd_times fd_over fd_is_less fd_square fd_is_strict fd_square_of fd_is_above fd_first_lacking fd_next_ratio fd_least_of fd_greatest_of fd_is_next fd_next_party fd_first_seats fd_check_minimums fd_first_less fd_bars_minimal fd_first_barring fd_free_ratio fd_greatest_divisor fd_find_minimal fd_seats_with_minimums fd_law_cell_u fd_law_numbers_u fd_law_common_u fd_law_frac_u fd_law_plus_u fd_law_times_u fd_law_less_u fd_law_same_u fd_law_are_whole_u fd_law_rule_u fd_law_square_u fd_law_strict_u fd_law_with_minimums_u fd_law_word_u fd_law_due_word_u fd_law_told_u fd_law u_MOST_MINIMUMS u_ZERO) : FnOk P w K mg base CX0 4 f_is_strict fd_is_strict ["rule"] (spD ⟨P, w, K⟩ 1 φ_is_strict) :=
  fn_ok (n := 1) (m := 1) (h := b_is_strict) T.F_is_strict sc_is_strict (by rfl) (by rfl) fun cdv A outer s H E hr =>
    (ds_one (ds_ret (de_cmp (od_eq hr.units) (de_call (ok_square T) hr T.m_square T.F_square.kp T.b_square pass0 len_square (da_cons (de_var 0) (da_cons de_int da_nil))) (de_kc T.m_ZERO T.rc_ZERO))))
theorem ok_square_of (T : Txt K mg f_is_whole f_fraction f_whole f_plus f_times f_over f_is_less f_square f_is_strict f_square_of f_is_above f_first_lacking f_next_ratio f_least_of f_greatest_of f_is_next f_next_party f_first_seats f_check_minimums f_first_less f_bars_minimal f_first_barring f_free_ratio f_greatest_divisor f_find_minimal f_seats_with_minimums f_law_cell_u f_law_numbers_u f_law_common_u f_law_frac_u f_law_plus_u f_law_times_u f_law_less_u f_law_same_u f_law_are_whole_u f_law_rule_u f_law_square_u f_law_strict_u f_law_with_minimums_u f_law_word_u f_law_due_word_u f_law_told_u f_law c_InvalidMinimums c_SeatError c_TooFewSeats c_WrongCount fd_is_whole fd_fraction fd_whole fd_plus fd_times fd_over fd_is_less fd_square fd_is_strict fd_square_of fd_is_above fd_first_lacking fd_next_ratio fd_least_of fd_greatest_of fd_is_next fd_next_party fd_first_seats fd_check_minimums fd_first_less fd_bars_minimal fd_first_barring fd_free_ratio fd_greatest_divisor fd_find_minimal fd_seats_with_minimums fd_law_cell_u fd_law_numbers_u fd_law_common_u fd_law_frac_u fd_law_plus_u fd_law_times_u fd_law_less_u fd_law_same_u fd_law_are_whole_u fd_law_rule_u fd_law_square_u fd_law_strict_u fd_law_with_minimums_u fd_law_word_u fd_law_due_word_u fd_law_told_u fd_law u_MOST_MINIMUMS u_ZERO) : FnOk P w K mg base CX0 2 f_square_of fd_square_of ["number"] (spD ⟨P, w, K⟩ 1 φ_square_of) :=
  fn_ok (n := 1) (m := 1) (h := b_square_of) T.F_square_of sc_square_of (by rfl) (by rfl) fun cdv A outer s H E hr =>
    (ds_one (ds_ret (de_call (ok_whole T) hr T.m_whole T.F_whole.kp T.b_whole pass0 len_whole (da_cons (de_op od_mul (de_var 0) (de_var 0)) da_nil))))
theorem ok_is_above (T : Txt K mg f_is_whole f_fraction f_whole f_plus f_times f_over f_is_less f_square f_is_strict f_square_of f_is_above f_first_lacking f_next_ratio f_least_of f_greatest_of f_is_next f_next_party f_first_seats f_check_minimums f_first_less f_bars_minimal f_first_barring f_free_ratio f_greatest_divisor f_find_minimal f_seats_with_minimums f_law_cell_u f_law_numbers_u f_law_common_u f_law_frac_u f_law_plus_u f_law_times_u f_law_less_u f_law_same_u f_law_are_whole_u f_law_rule_u f_law_square_u f_law_strict_u f_law_with_minimums_u f_law_word_u f_law_due_word_u f_law_told_u f_law c_InvalidMinimums c_SeatError c_TooFewSeats c_WrongCount fd_is_whole fd_fraction fd_whole fd_plus fd_times fd_over fd_is_less fd_square fd_is_strict fd_square_of fd_is_above fd_first_lacking fd_next_ratio fd_least_of fd_greatest_of fd_is_next fd_next_party fd_first_seats fd_check_minimums fd_first_less fd_bars_minimal fd_first_barring fd_free_ratio fd_greatest_divisor fd_find_minimal fd_seats_with_minimums fd_law_cell_u fd_law_numbers_u fd_law_common_u fd_law_frac_u fd_law_plus_u fd_law_times_u fd_law_less_u fd_law_same_u fd_law_are_whole_u fd_law_rule_u fd_law_square_u fd_law_strict_u fd_law_with_minimums_u fd_law_word_u fd_law_due_word_u fd_law_told_u fd_law u_MOST_MINIMUMS u_ZERO) : FnOk P w K mg base CX0 2 f_is_above fd_is_above ["one", "other"] (spD ⟨P, w, K⟩ 2 φ_is_above) :=
  fn_ok (n := 2) (m := 2) (h := b_is_above) T.F_is_above sc_is_above (by rfl) (by rfl) fun cdv A outer s H E hr =>
    (ds_one (ds_ret (de_sc (de_call (ok_is_less T) hr T.m_is_less T.F_is_less.kp T.b_is_less pass0 len_is_less (da_cons (de_var 1) (da_cons (de_var 0) da_nil))))))
theorem ok_first_lacking (T : Txt K mg f_is_whole f_fraction f_whole f_plus f_times f_over f_is_less f_square f_is_strict f_square_of f_is_above f_first_lacking f_next_ratio f_least_of f_greatest_of f_is_next f_next_party f_first_seats f_check_minimums f_first_less f_bars_minimal f_first_barring f_free_ratio f_greatest_divisor f_find_minimal f_seats_with_minimums f_law_cell_u f_law_numbers_u f_law_common_u f_law_frac_u f_law_plus_u f_law_times_u f_law_less_u f_law_same_u f_law_are_whole_u f_law_rule_u f_law_square_u f_law_strict_u f_law_with_minimums_u f_law_word_u f_law_due_word_u f_law_told_u f_law c_InvalidMinimums c_SeatError c_TooFewSeats c_WrongCount fd_is_whole fd_fraction fd_whole fd_plus fd_times fd_over fd_is_less fd_square fd_is_strict fd_square_of fd_is_above fd_first_lacking fd_next_ratio fd_least_of fd_greatest_of fd_is_next fd_next_party fd_first_seats fd_check_minimums fd_first_less fd_bars_minimal fd_first_barring fd_free_ratio fd_greatest_divisor fd_find_minimal fd_seats_with_minimums fd_law_cell_u fd_law_numbers_u fd_law_common_u fd_law_frac_u fd_law_plus_u fd_law_times_u fd_law_less_u fd_law_same_u fd_law_are_whole_u fd_law_rule_u fd_law_square_u fd_law_strict_u fd_law_with_minimums_u fd_law_word_u fd_law_due_word_u fd_law_told_u fd_law u_MOST_MINIMUMS u_ZERO) : FnOk P w K mg base CX0 5 f_first_lacking fd_first_lacking ["rule", "seats"] (spD ⟨P, w, K⟩ 2 φ_first_lacking) :=
  fn_ok (n := 2) (m := 5) (h := b_first_lacking) T.F_first_lacking sc_first_lacking (by rfl) (by rfl) fun cdv A outer s H E hr =>
    (ds_cons (ds_if (dt_not (dt_val (de_sc (de_call (ok_is_strict T) hr T.m_is_strict T.F_is_strict.kp T.b_is_strict pass0 len_is_strict (da_cons (de_var 0) da_nil))))) (ds_one (ds_ret de_non)) ds_nil)
    (ds_cons (ds_setLc 2 (own := [("party", 3), ("number", 4)]) rfl sc_first_lacking.nd (di_enum T.z_enumerate (de_var 1)) (blkOk_by (N := N_first_lacking) (sc := (defScope s_first_lacking)) (by decide +kernel)) (fun _ _ _ _ _ => (dg_tp rfl (dgs_cons (dg_nm 3 sc_first_lacking.nd) (dgs_cons (dg_nm 4 sc_first_lacking.nd) dgs_nil)))) (fun _ _ _ _ _ => (dts_one (dt_cmp (od_eq hr.units) (de_var 4) de_int))) (fun _ _ _ _ _ => (de_var 3)) (by decide) (sw_true rfl rfl rfl (by decide +kernel)))
    (ds_one (ds_ret (de_if (dt_val (de_var 2)) (de_subs (hu_of hr) (de_var 2) de_int) de_non)))))
theorem ok_next_ratio (T : Txt K mg f_is_whole f_fraction f_whole f_plus f_times f_over f_is_less f_square f_is_strict f_square_of f_is_above f_first_lacking f_next_ratio f_least_of f_greatest_of f_is_next f_next_party f_first_seats f_check_minimums f_first_less f_bars_minimal f_first_barring f_free_ratio f_greatest_divisor f_find_minimal f_seats_with_minimums f_law_cell_u f_law_numbers_u f_law_common_u f_law_frac_u f_law_plus_u f_law_times_u f_law_less_u f_law_same_u f_law_are_whole_u f_law_rule_u f_law_square_u f_law_strict_u f_law_with_minimums_u f_law_word_u f_law_due_word_u f_law_told_u f_law c_InvalidMinimums c_SeatError c_TooFewSeats c_WrongCount fd_is_whole fd_fraction fd_whole fd_plus fd_times fd_over fd_is_less fd_square fd_is_strict fd_square_of fd_is_above fd_first_lacking fd_next_ratio fd_least_of fd_greatest_of fd_is_next fd_next_party fd_first_seats fd_check_minimums fd_first_less fd_bars_minimal fd_first_barring fd_free_ratio fd_greatest_divisor fd_find_minimal fd_seats_with_minimums fd_law_cell_u fd_law_numbers_u fd_law_common_u fd_law_frac_u fd_law_plus_u fd_law_times_u fd_law_less_u fd_law_same_u fd_law_are_whole_u fd_law_rule_u fd_law_square_u fd_law_strict_u fd_law_with_minimums_u fd_law_word_u fd_law_due_word_u fd_law_told_u fd_law u_MOST_MINIMUMS u_ZERO) : FnOk P w K mg base CX0 4 f_next_ratio fd_next_ratio ["votes", "rule", "seats", "party"] (spD ⟨P, w, K⟩ 4 φ_next_ratio) :=
  fn_ok (n := 4) (m := 4) (h := b_next_ratio) T.F_next_ratio sc_next_ratio (by rfl) (by rfl) fun cdv A outer s H E hr =>
    (ds_cons (ds_if (dt_cmp (od_eq hr.units) (de_call (ok_square T) hr T.m_square T.F_square.kp T.b_square pass0 len_square (da_cons (de_var 1) (da_cons (de_subs (hu_of hr) (de_var 2) (de_var 3)) da_nil))) (de_kc T.m_ZERO T.rc_ZERO)) (ds_one (ds_ret de_non)) ds_nil)
    (ds_one (ds_ret (de_call (ok_over T) (hr.mono (by decide)) T.m_over T.F_over.kp T.b_over pass0 len_over (da_cons (de_call (ok_square_of T) (hr.mono (by decide)) T.m_square_of T.F_square_of.kp T.b_square_of pass0 len_square_of (da_cons (de_subs (hu_of hr) (de_var 0) (de_var 3)) da_nil)) (da_cons (de_call (ok_square T) hr T.m_square T.F_square.kp T.b_square pass0 len_square (da_cons (de_var 1) (da_cons (de_subs (hu_of hr) (de_var 2) (de_var 3)) da_nil))) da_nil))))))
theorem ok_least_of (T : Txt K mg f_is_whole f_fraction f_whole f_plus f_times f_over f_is_less f_square f_is_strict f_square_of f_is_above f_first_lacking f_next_ratio f_least_of f_greatest_of f_is_next f_next_party f_first_seats f_check_minimums f_first_less f_bars_minimal f_first_barring f_free_ratio f_greatest_divisor f_find_minimal f_seats_with_minimums f_law_cell_u f_law_numbers_u f_law_common_u f_law_frac_u f_law_plus_u f_law_times_u f_law_less_u f_law_same_u f_law_are_whole_u f_law_rule_u f_law_square_u f_law_strict_u f_law_with_minimums_u f_law_word_u f_law_due_word_u f_law_told_u f_law c_InvalidMinimums c_SeatError c_TooFewSeats c_WrongCount fd_is_whole fd_fraction fd_whole fd_plus fd_times fd_over fd_is_less fd_square fd_is_strict fd_square_of fd_is_above fd_first_lacking fd_next_ratio fd_least_of fd_greatest_of fd_is_next fd_next_party fd_first_seats fd_check_minimums fd_first_less fd_bars_minimal fd_first_barring fd_free_ratio fd_greatest_divisor fd_find_minimal fd_seats_with_minimums fd_law_cell_u fd_law_numbers_u fd_law_common_u fd_law_frac_u fd_law_plus_u fd_law_times_u fd_law_less_u fd_law_same_u fd_law_are_whole_u fd_law_rule_u fd_law_square_u fd_law_strict_u fd_law_with_minimums_u fd_law_word_u fd_law_due_word_u fd_law_told_u fd_law u_MOST_MINIMUMS u_ZERO) : FnOk P w K mg base CX0 2 f_least_of fd_least_of ["values"] (spD ⟨P, w, K⟩ 1 φ_least_of) :=
  fn_ok (n := 1) (m := 3) (h := b_least_of) T.F_least_of sc_least_of (by rfl) (by rfl) fun cdv A outer s H E hr =>
    (ds_cons (ds_set 1 sc_least_of.nd de_non)
    (ds_cons (ds_for PassesOwn.never rfl (di_seq (de_var 0)) (dg_nm 2 sc_least_of.nd) (dss_fgt [2] (ds_one (ds_if (DW.dt (dw_and (dt_cmp od_notN (de_var 2) de_non) (dw_and1 (DW.dt (dw_or (dt_cmp od_isN (de_var 1) de_non) (dw_or1 (dt_val (de_sc (de_call (ok_is_less T) hr T.m_is_less T.F_is_less.kp T.b_is_less pass0 len_is_less (da_cons (de_var 2) (da_cons (de_var 1) da_nil))))))))))) (ds_one (ds_set 1 sc_least_of.nd (de_var 2))) ds_nil))))
    (ds_one (ds_ret (de_var 1)))))
theorem ok_greatest_of (T : Txt K mg f_is_whole f_fraction f_whole f_plus f_times f_over f_is_less f_square f_is_strict f_square_of f_is_above f_first_lacking f_next_ratio f_least_of f_greatest_of f_is_next f_next_party f_first_seats f_check_minimums f_first_less f_bars_minimal f_first_barring f_free_ratio f_greatest_divisor f_find_minimal f_seats_with_minimums f_law_cell_u f_law_numbers_u f_law_common_u f_law_frac_u f_law_plus_u f_law_times_u f_law_less_u f_law_same_u f_law_are_whole_u f_law_rule_u f_law_square_u f_law_strict_u f_law_with_minimums_u f_law_word_u f_law_due_word_u f_law_told_u f_law c_InvalidMinimums c_SeatError c_TooFewSeats c_WrongCount fd_is_whole fd_fraction fd_whole fd_plus fd_times fd_over fd_is_less fd_square fd_is_strict fd_square_of fd_is_above fd_first_lacking fd_next_ratio fd_least_of fd_greatest_of fd_is_next fd_next_party fd_first_seats fd_check_minimums fd_first_less fd_bars_minimal fd_first_barring fd_free_ratio fd_greatest_divisor fd_find_minimal fd_seats_with_minimums fd_law_cell_u fd_law_numbers_u fd_law_common_u fd_law_frac_u fd_law_plus_u fd_law_times_u fd_law_less_u fd_law_same_u fd_law_are_whole_u fd_law_rule_u fd_law_square_u fd_law_strict_u fd_law_with_minimums_u fd_law_word_u fd_law_due_word_u fd_law_told_u fd_law u_MOST_MINIMUMS u_ZERO) : FnOk P w K mg base CX0 2 f_greatest_of fd_greatest_of ["values"] (spD ⟨P, w, K⟩ 1 φ_greatest_of) :=
  fn_ok (n := 1) (m := 3) (h := b_greatest_of) T.F_greatest_of sc_greatest_of (by rfl) (by rfl) fun cdv A outer s H E hr =>
    (ds_cons (ds_set 1 sc_greatest_of.nd de_non)
    (ds_cons (ds_for PassesOwn.never rfl (di_seq (de_var 0)) (dg_nm 2 sc_greatest_of.nd) (dss_fgt [2] (ds_one (ds_if (DW.dt (dw_and (dt_cmp od_notN (de_var 2) de_non) (dw_and1 (DW.dt (dw_or (dt_cmp od_isN (de_var 1) de_non) (dw_or1 (dt_val (de_sc (de_call (ok_is_less T) hr T.m_is_less T.F_is_less.kp T.b_is_less pass0 len_is_less (da_cons (de_var 1) (da_cons (de_var 2) da_nil))))))))))) (ds_one (ds_set 1 sc_greatest_of.nd (de_var 2))) ds_nil))))
    (ds_one (ds_ret (de_var 1)))))
theorem ok_is_next (T : Txt K mg f_is_whole f_fraction f_whole f_plus f_times f_over f_is_less f_square f_is_strict f_square_of f_is_above f_first_lacking f_next_ratio f_least_of f_greatest_of f_is_next f_next_party f_first_seats f_check_minimums f_first_less f_bars_minimal f_first_barring f_free_ratio f_greatest_divisor f_find_minimal f_seats_with_minimums f_law_cell_u f_law_numbers_u f_law_common_u f_law_frac_u f_law_plus_u f_law_times_u f_law_less_u f_law_same_u f_law_are_whole_u f_law_rule_u f_law_square_u f_law_strict_u f_law_with_minimums_u f_law_word_u f_law_due_word_u f_law_told_u f_law c_InvalidMinimums c_SeatError c_TooFewSeats c_WrongCount fd_is_whole fd_fraction fd_whole fd_plus fd_times fd_over fd_is_less fd_square fd_is_strict fd_square_of fd_is_above fd_first_lacking fd_next_ratio fd_least_of fd_greatest_of fd_is_next fd_next_party fd_first_seats fd_check_minimums fd_first_less fd_bars_minimal fd_first_barring fd_free_ratio fd_greatest_divisor fd_find_minimal fd_seats_with_minimums fd_law_cell_u fd_law_numbers_u fd_law_common_u fd_law_frac_u fd_law_plus_u fd_law_times_u fd_law_less_u fd_law_same_u fd_law_are_whole_u fd_law_rule_u fd_law_square_u fd_law_strict_u fd_law_with_minimums_u fd_law_word_u fd_law_due_word_u fd_law_told_u fd_law u_MOST_MINIMUMS u_ZERO) : FnOk P w K mg base CX0 5 f_is_next fd_is_next ["votes", "rule", "seats", "one", "other"] (spD ⟨P, w, K⟩ 5 φ_is_next) :=
  fn_ok (n := 5) (m := 7) (h := b_is_next) T.F_is_next sc_is_next (by rfl) (by rfl) fun cdv A outer s H E hr =>
    (ds_cons (ds_set 5 sc_is_next.nd (de_call (ok_next_ratio T) hr T.m_next_ratio T.F_next_ratio.kp T.b_next_ratio pass0 len_next_ratio (da_cons (de_var 0) (da_cons (de_var 1) (da_cons (de_var 2) (da_cons (de_var 3) da_nil))))))
    (ds_cons (ds_set 6 sc_is_next.nd (de_call (ok_next_ratio T) hr T.m_next_ratio T.F_next_ratio.kp T.b_next_ratio pass0 len_next_ratio (da_cons (de_var 0) (da_cons (de_var 1) (da_cons (de_var 2) (da_cons (de_var 4) da_nil))))))
    (ds_cons (ds_if (DW.dt (dw_and (dt_cmp od_isN (de_var 5) de_non) (dw_and1 (dt_cmp od_isN (de_var 6) de_non)))) (ds_one (ds_ret (de_or (de_cmp (od_gtD hr.units) (de_subs (hu_of hr) (de_var 0) (de_var 3)) (de_subs (hu_of hr) (de_var 0) (de_var 4))) (de_one (de_and (de_cmp (od_eq hr.units) (de_subs (hu_of hr) (de_var 0) (de_var 3)) (de_subs (hu_of hr) (de_var 0) (de_var 4))) (de_one (de_cmp (od_ltD hr.units0) (de_var 3) (de_var 4)))))))) ds_nil)
    (ds_cons (ds_if (DW.dt (dw_or (dt_cmp od_isN (de_var 5) de_non) (dw_or1 (dt_cmp od_isN (de_var 6) de_non)))) (ds_one (ds_ret (de_cmp od_isN (de_var 5) de_non))) ds_nil)
    (ds_one (ds_ret (de_or (de_sc (de_call (ok_is_less T) (hr.mono (by decide)) T.m_is_less T.F_is_less.kp T.b_is_less pass0 len_is_less (da_cons (de_var 6) (da_cons (de_var 5) da_nil)))) (de_one (de_and (de_cmp (od_eq hr.units) (de_var 6) (de_var 5)) (de_one (de_cmp (od_ltD hr.units0) (de_var 3) (de_var 4))))))))))))
theorem ok_next_party (T : Txt K mg f_is_whole f_fraction f_whole f_plus f_times f_over f_is_less f_square f_is_strict f_square_of f_is_above f_first_lacking f_next_ratio f_least_of f_greatest_of f_is_next f_next_party f_first_seats f_check_minimums f_first_less f_bars_minimal f_first_barring f_free_ratio f_greatest_divisor f_find_minimal f_seats_with_minimums f_law_cell_u f_law_numbers_u f_law_common_u f_law_frac_u f_law_plus_u f_law_times_u f_law_less_u f_law_same_u f_law_are_whole_u f_law_rule_u f_law_square_u f_law_strict_u f_law_with_minimums_u f_law_word_u f_law_due_word_u f_law_told_u f_law c_InvalidMinimums c_SeatError c_TooFewSeats c_WrongCount fd_is_whole fd_fraction fd_whole fd_plus fd_times fd_over fd_is_less fd_square fd_is_strict fd_square_of fd_is_above fd_first_lacking fd_next_ratio fd_least_of fd_greatest_of fd_is_next fd_next_party fd_first_seats fd_check_minimums fd_first_less fd_bars_minimal fd_first_barring fd_free_ratio fd_greatest_divisor fd_find_minimal fd_seats_with_minimums fd_law_cell_u fd_law_numbers_u fd_law_common_u fd_law_frac_u fd_law_plus_u fd_law_times_u fd_law_less_u fd_law_same_u fd_law_are_whole_u fd_law_rule_u fd_law_square_u fd_law_strict_u fd_law_with_minimums_u fd_law_word_u fd_law_due_word_u fd_law_told_u fd_law u_MOST_MINIMUMS u_ZERO) : FnOk P w K mg base CX0 6 f_next_party fd_next_party ["votes", "rule", "seats"] (spD ⟨P, w, K⟩ 3 φ_next_party) :=
  fn_ok (n := 3) (m := 5) (h := b_next_party) T.F_next_party sc_next_party (by rfl) (by rfl) fun cdv A outer s H E hr =>
    (ds_cons (ds_set 3 sc_next_party.nd de_int)
    (ds_cons (ds_for PassesOwn.never rfl (di_rng2 T.z_range de_int (de_bltB cd_len T.z_len PySem.boot_len (dv_cons (de_var 0) dv_nil))) (dg_nm 4 sc_next_party.nd) (dss_fgt [4] (ds_one (ds_if (dt_val (de_sc (de_call (ok_is_next T) hr T.m_is_next T.F_is_next.kp T.b_is_next pass0 len_is_next (da_cons (de_var 0) (da_cons (de_var 1) (da_cons (de_var 2) (da_cons (de_var 4) (da_cons (de_var 3) da_nil)))))))) (ds_one (ds_set 3 sc_next_party.nd (de_var 4))) ds_nil))))
    (ds_one (ds_ret (de_var 3)))))
theorem ok_first_seats (T : Txt K mg f_is_whole f_fraction f_whole f_plus f_times f_over f_is_less f_square f_is_strict f_square_of f_is_above f_first_lacking f_next_ratio f_least_of f_greatest_of f_is_next f_next_party f_first_seats f_check_minimums f_first_less f_bars_minimal f_first_barring f_free_ratio f_greatest_divisor f_find_minimal f_seats_with_minimums f_law_cell_u f_law_numbers_u f_law_common_u f_law_frac_u f_law_plus_u f_law_times_u f_law_less_u f_law_same_u f_law_are_whole_u f_law_rule_u f_law_square_u f_law_strict_u f_law_with_minimums_u f_law_word_u f_law_due_word_u f_law_told_u f_law c_InvalidMinimums c_SeatError c_TooFewSeats c_WrongCount fd_is_whole fd_fraction fd_whole fd_plus fd_times fd_over fd_is_less fd_square fd_is_strict fd_square_of fd_is_above fd_first_lacking fd_next_ratio fd_least_of fd_greatest_of fd_is_next fd_next_party fd_first_seats fd_check_minimums fd_first_less fd_bars_minimal fd_first_barring fd_free_ratio fd_greatest_divisor fd_find_minimal fd_seats_with_minimums fd_law_cell_u fd_law_numbers_u fd_law_common_u fd_law_frac_u fd_law_plus_u fd_law_times_u fd_law_less_u fd_law_same_u fd_law_are_whole_u fd_law_rule_u fd_law_square_u fd_law_strict_u fd_law_with_minimums_u fd_law_word_u fd_law_due_word_u fd_law_told_u fd_law u_MOST_MINIMUMS u_ZERO) : FnOk P w K mg base CX0 7 f_first_seats fd_first_seats ["votes", "rule", "house"] (spD ⟨P, w, K⟩ 3 φ_first_seats) :=
  fn_ok (n := 3) (m := 5) (h := b_first_seats) T.F_first_seats sc_first_seats (by rfl) (by rfl) fun cdv A outer s H E hr =>
    (ds_cons (ds_if (DW.dt (dw_and (dt_val (de_sc (de_call (ok_is_strict T) (hr.mono (by decide)) T.m_is_strict T.F_is_strict.kp T.b_is_strict pass0 len_is_strict (da_cons (de_var 1) da_nil)))) (dw_and1 (dt_cmp (od_ltD hr.units0) (de_var 2) (de_bltB cd_len T.z_len PySem.boot_len (dv_cons (de_var 0) dv_nil)))))) (ds_one ds_never) ds_nil)
    (ds_cons (ds_set 3 sc_first_seats.nd (de_op od_mul (de_lst (da_cons de_int da_nil)) (de_bltB cd_len T.z_len PySem.boot_len (dv_cons (de_var 0) dv_nil))))
    (ds_cons (ds_for PassesOwn.never rfl (di_rng1 T.z_range (de_var 2)) (dg_nm 4 sc_first_seats.nd) (dss_fgt [4] (ds_one (ds_augI 3 (de_sc (de_call (ok_next_party T) hr T.m_next_party T.F_next_party.kp T.b_next_party pass0 len_next_party (da_cons (de_var 0) (da_cons (de_var 1) (da_cons (de_var 3) da_nil))))) ipd_add de_int))))
    (ds_one (ds_ret (de_var 3))))))
theorem okx_check_minimums (T : Txt K mg f_is_whole f_fraction f_whole f_plus f_times f_over f_is_less f_square f_is_strict f_square_of f_is_above f_first_lacking f_next_ratio f_least_of f_greatest_of f_is_next f_next_party f_first_seats f_check_minimums f_first_less f_bars_minimal f_first_barring f_free_ratio f_greatest_divisor f_find_minimal f_seats_with_minimums f_law_cell_u f_law_numbers_u f_law_common_u f_law_frac_u f_law_plus_u f_law_times_u f_law_less_u f_law_same_u f_law_are_whole_u f_law_rule_u f_law_square_u f_law_strict_u f_law_with_minimums_u f_law_word_u f_law_due_word_u f_law_told_u f_law c_InvalidMinimums c_SeatError c_TooFewSeats c_WrongCount fd_is_whole fd_fraction fd_whole fd_plus fd_times fd_over fd_is_less fd_square fd_is_strict fd_square_of fd_is_above fd_first_lacking fd_next_ratio fd_least_of fd_greatest_of fd_is_next fd_next_party fd_first_seats fd_check_minimums fd_first_less fd_bars_minimal fd_first_barring fd_free_ratio fd_greatest_divisor fd_find_minimal fd_seats_with_minimums fd_law_cell_u fd_law_numbers_u fd_law_common_u fd_law_frac_u fd_law_plus_u fd_law_times_u fd_law_less_u fd_law_same_u fd_law_are_whole_u fd_law_rule_u fd_law_square_u fd_law_strict_u fd_law_with_minimums_u fd_law_word_u fd_law_due_word_u fd_law_told_u fd_law u_MOST_MINIMUMS u_ZERO) : FnOk P w K mg base (L2.CX P w) 2 f_check_minimums fd_check_minimums ["votes", "minimums"] (spX ⟨P, w, K⟩ (mvT mg) 2 φx_check_minimums) :=
  fn_okX (n := 2) (m := 3) (h := b_check_minimums) T.F_check_minimums sc_check_minimums (by rfl) (by rfl) fun cdv A outer s H E hr =>
    (dx_cons (dx_if (dt_cmp (od_ne hr.units) (de_bltB cd_len T.z_len PySem.boot_len (dv_cons (de_var 1) dv_nil)) (de_bltB cd_len T.z_len PySem.boot_len (dv_cons (de_var 0) dv_nil))) (dx_one (dx_raise rfl (takes_of rfl rfl rfl rfl) T.x_WrongCount T.m_c_WrongCount (mvT_of T.m_c_WrongCount))) dx_nil)
    (dx_one (dx_if (DW.dt (dw_or (dt_not (dt_val (de_bltB (cd_all rfl) T.z_all (by decide +kernel) (dv_cons (de_lc (own := [("number", 2)]) rfl sc_check_minimums.nd (di_seq (de_var 1)) (blkOk_by (N := N_check_minimums) (sc := (defScope s_check_minimums)) (by decide +kernel)) (fun _ _ _ _ _ => (dg_nm 2 sc_check_minimums.nd)) (fun _ _ _ _ _ => dts_nil) (fun _ _ _ _ _ => (de_and (de_sc (de_call (ok_is_whole T) hr T.m_is_whole T.F_is_whole.kp T.b_is_whole pass0 len_is_whole (da_cons (de_var 2) da_nil))) (de_one (de_cmp (od_geD hr.units) (de_var 2) de_int)))) (by decide)) dv_nil)))) (dw_or1 (dt_cmp (od_gtD hr.units) (de_bltB (cd_sum rfl) T.z_sum (by decide +kernel) (dv_cons (de_var 1) dv_nil)) (de_kc T.m_MOST_MINIMUMS T.rc_MOST_MINIMUMS))))) (dx_one (dx_raise rfl (takes_of rfl rfl rfl rfl) T.x_InvalidMinimums T.m_c_InvalidMinimums (mvT_of T.m_c_InvalidMinimums))) dx_nil)))
theorem ok_check_minimums (T : Txt K mg f_is_whole f_fraction f_whole f_plus f_times f_over f_is_less f_square f_is_strict f_square_of f_is_above f_first_lacking f_next_ratio f_least_of f_greatest_of f_is_next f_next_party f_first_seats f_check_minimums f_first_less f_bars_minimal f_first_barring f_free_ratio f_greatest_divisor f_find_minimal f_seats_with_minimums f_law_cell_u f_law_numbers_u f_law_common_u f_law_frac_u f_law_plus_u f_law_times_u f_law_less_u f_law_same_u f_law_are_whole_u f_law_rule_u f_law_square_u f_law_strict_u f_law_with_minimums_u f_law_word_u f_law_due_word_u f_law_told_u f_law c_InvalidMinimums c_SeatError c_TooFewSeats c_WrongCount fd_is_whole fd_fraction fd_whole fd_plus fd_times fd_over fd_is_less fd_square fd_is_strict fd_square_of fd_is_above fd_first_lacking fd_next_ratio fd_least_of fd_greatest_of fd_is_next fd_next_party fd_first_seats fd_check_minimums fd_first_less fd_bars_minimal fd_first_barring fd_free_ratio fd_greatest_divisor fd_find_minimal fd_seats_with_minimums fd_law_cell_u fd_law_numbers_u fd_law_common_u fd_law_frac_u fd_law_plus_u fd_law_times_u fd_law_less_u fd_law_same_u fd_law_are_whole_u fd_law_rule_u fd_law_square_u fd_law_strict_u fd_law_with_minimums_u fd_law_word_u fd_law_due_word_u fd_law_told_u fd_law u_MOST_MINIMUMS u_ZERO) : FnOk P w K mg base (L2.CX P w) 2 f_check_minimums fd_check_minimums ["votes", "minimums"] (spD ⟨P, w, K⟩ 2 φ_check_minimums) := fn_nv (okx_check_minimums T)
theorem ok_first_less (T : Txt K mg f_is_whole f_fraction f_whole f_plus f_times f_over f_is_less f_square f_is_strict f_square_of f_is_above f_first_lacking f_next_ratio f_least_of f_greatest_of f_is_next f_next_party f_first_seats f_check_minimums f_first_less f_bars_minimal f_first_barring f_free_ratio f_greatest_divisor f_find_minimal f_seats_with_minimums f_law_cell_u f_law_numbers_u f_law_common_u f_law_frac_u f_law_plus_u f_law_times_u f_law_less_u f_law_same_u f_law_are_whole_u f_law_rule_u f_law_square_u f_law_strict_u f_law_with_minimums_u f_law_word_u f_law_due_word_u f_law_told_u f_law c_InvalidMinimums c_SeatError c_TooFewSeats c_WrongCount fd_is_whole fd_fraction fd_whole fd_plus fd_times fd_over fd_is_less fd_square fd_is_strict fd_square_of fd_is_above fd_first_lacking fd_next_ratio fd_least_of fd_greatest_of fd_is_next fd_next_party fd_first_seats fd_check_minimums fd_first_less fd_bars_minimal fd_first_barring fd_free_ratio fd_greatest_divisor fd_find_minimal fd_seats_with_minimums fd_law_cell_u fd_law_numbers_u fd_law_common_u fd_law_frac_u fd_law_plus_u fd_law_times_u fd_law_less_u fd_law_same_u fd_law_are_whole_u fd_law_rule_u fd_law_square_u fd_law_strict_u fd_law_with_minimums_u fd_law_word_u fd_law_due_word_u fd_law_told_u fd_law u_MOST_MINIMUMS u_ZERO) : FnOk P w K mg base CX0 1 f_first_less fd_first_less ["minimums", "seats"] (spD ⟨P, w, K⟩ 2 φ_first_less) :=
  fn_ok (n := 2) (m := 5) (h := b_first_less) T.F_first_less sc_first_less (by rfl) (by rfl) fun cdv A outer s H E hr =>
    (ds_cons (ds_setLc 2 (own := [("party", 3), ("number", 4)]) rfl sc_first_less.nd (di_enum T.z_enumerate (de_var 1)) (blkOk_by (N := N_first_less) (sc := (defScope s_first_less)) (by decide +kernel)) (fun _ _ _ _ _ => (dg_tp rfl (dgs_cons (dg_nm 3 sc_first_less.nd) (dgs_cons (dg_nm 4 sc_first_less.nd) dgs_nil)))) (fun _ _ _ _ _ => (dts_one (dt_cmp (od_ltD hr.units0) (de_var 4) (de_subs (hu_of hr) (de_var 0) (de_var 3))))) (fun _ _ _ _ _ => (de_var 3)) (by decide) (sw_true rfl rfl rfl (by decide +kernel)))
    (ds_one (ds_ret (de_if (dt_val (de_var 2)) (de_subs (hu_of hr) (de_var 2) de_int) de_non))))
theorem ok_bars_minimal (T : Txt K mg f_is_whole f_fraction f_whole f_plus f_times f_over f_is_less f_square f_is_strict f_square_of f_is_above f_first_lacking f_next_ratio f_least_of f_greatest_of f_is_next f_next_party f_first_seats f_check_minimums f_first_less f_bars_minimal f_first_barring f_free_ratio f_greatest_divisor f_find_minimal f_seats_with_minimums f_law_cell_u f_law_numbers_u f_law_common_u f_law_frac_u f_law_plus_u f_law_times_u f_law_less_u f_law_same_u f_law_are_whole_u f_law_rule_u f_law_square_u f_law_strict_u f_law_with_minimums_u f_law_word_u f_law_due_word_u f_law_told_u f_law c_InvalidMinimums c_SeatError c_TooFewSeats c_WrongCount fd_is_whole fd_fraction fd_whole fd_plus fd_times fd_over fd_is_less fd_square fd_is_strict fd_square_of fd_is_above fd_first_lacking fd_next_ratio fd_least_of fd_greatest_of fd_is_next fd_next_party fd_first_seats fd_check_minimums fd_first_less fd_bars_minimal fd_first_barring fd_free_ratio fd_greatest_divisor fd_find_minimal fd_seats_with_minimums fd_law_cell_u fd_law_numbers_u fd_law_common_u fd_law_frac_u fd_law_plus_u fd_law_times_u fd_law_less_u fd_law_same_u fd_law_are_whole_u fd_law_rule_u fd_law_square_u fd_law_strict_u fd_law_with_minimums_u fd_law_word_u fd_law_due_word_u fd_law_told_u fd_law u_MOST_MINIMUMS u_ZERO) : FnOk P w K mg base CX0 4 f_bars_minimal fd_bars_minimal ["votes", "rule", "minimums", "seats", "first", "second"] (spD ⟨P, w, K⟩ 6 φ_bars_minimal) :=
  fn_ok (n := 6) (m := 7) (h := b_bars_minimal) T.F_bars_minimal sc_bars_minimal (by rfl) (by rfl) fun cdv A outer s H E hr =>
    (ds_cons (ds_if (dt_cmp (od_leD hr.units) (de_subs (hu_of hr) (de_var 3) (de_var 5)) (de_subs (hu_of hr) (de_var 2) (de_var 5))) (ds_one (ds_ret de_bl)) ds_nil)
    (ds_cons (ds_set 6 sc_bars_minimal.nd (de_call (ok_times T) (hr.mono (by decide)) T.m_times T.F_times.kp T.b_times pass0 len_times (da_cons (de_call (ok_square_of T) (hr.mono (by decide)) T.m_square_of T.F_square_of.kp T.b_square_of pass0 len_square_of (da_cons (de_subs (hu_of hr) (de_var 0) (de_var 4)) da_nil)) (da_cons (de_call (ok_square T) hr T.m_square T.F_square.kp T.b_square pass0 len_square (da_cons (de_var 1) (da_cons (de_op od_sub (de_subs (hu_of hr) (de_var 3) (de_var 5)) de_int) da_nil))) da_nil))))
    (ds_one (ds_ret (de_sc (de_call (ok_is_above T) (hr.mono (by decide)) T.m_is_above T.F_is_above.kp T.b_is_above pass0 len_is_above (da_cons (de_var 6) (da_cons (de_call (ok_times T) (hr.mono (by decide)) T.m_times T.F_times.kp T.b_times pass0 len_times (da_cons (de_call (ok_square_of T) (hr.mono (by decide)) T.m_square_of T.F_square_of.kp T.b_square_of pass0 len_square_of (da_cons (de_subs (hu_of hr) (de_var 0) (de_var 5)) da_nil)) (da_cons (de_call (ok_square T) hr T.m_square T.F_square.kp T.b_square pass0 len_square (da_cons (de_var 1) (da_cons (de_subs (hu_of hr) (de_var 3) (de_var 4)) da_nil))) da_nil))) da_nil))))))))
theorem ok_first_barring (T : Txt K mg f_is_whole f_fraction f_whole f_plus f_times f_over f_is_less f_square f_is_strict f_square_of f_is_above f_first_lacking f_next_ratio f_least_of f_greatest_of f_is_next f_next_party f_first_seats f_check_minimums f_first_less f_bars_minimal f_first_barring f_free_ratio f_greatest_divisor f_find_minimal f_seats_with_minimums f_law_cell_u f_law_numbers_u f_law_common_u f_law_frac_u f_law_plus_u f_law_times_u f_law_less_u f_law_same_u f_law_are_whole_u f_law_rule_u f_law_square_u f_law_strict_u f_law_with_minimums_u f_law_word_u f_law_due_word_u f_law_told_u f_law c_InvalidMinimums c_SeatError c_TooFewSeats c_WrongCount fd_is_whole fd_fraction fd_whole fd_plus fd_times fd_over fd_is_less fd_square fd_is_strict fd_square_of fd_is_above fd_first_lacking fd_next_ratio fd_least_of fd_greatest_of fd_is_next fd_next_party fd_first_seats fd_check_minimums fd_first_less fd_bars_minimal fd_first_barring fd_free_ratio fd_greatest_divisor fd_find_minimal fd_seats_with_minimums fd_law_cell_u fd_law_numbers_u fd_law_common_u fd_law_frac_u fd_law_plus_u fd_law_times_u fd_law_less_u fd_law_same_u fd_law_are_whole_u fd_law_rule_u fd_law_square_u fd_law_strict_u fd_law_with_minimums_u fd_law_word_u fd_law_due_word_u fd_law_told_u fd_law u_MOST_MINIMUMS u_ZERO) : FnOk P w K mg base CX0 5 f_first_barring fd_first_barring ["votes", "rule", "minimums", "seats"] (spD ⟨P, w, K⟩ 4 φ_first_barring) :=
  fn_ok (n := 4) (m := 6) (h := b_first_barring) T.F_first_barring sc_first_barring (by rfl) (by rfl) fun cdv A outer s H E hr =>
    (ds_cons (ds_for PassesOwn.never rfl (di_rng1 T.z_range (de_bltB cd_len T.z_len PySem.boot_len (dv_cons (de_var 0) dv_nil))) (dg_nm 4 sc_first_barring.nd) (dss_fgt [4, 5] (ds_one (ds_for PassesOwn.never rfl (di_rng1 T.z_range (de_bltB cd_len T.z_len PySem.boot_len (dv_cons (de_var 0) dv_nil))) (dg_nm 5 sc_first_barring.nd) (dss_fgt [5] (ds_one (ds_if (dt_val (de_sc (de_call (ok_bars_minimal T) hr T.m_bars_minimal T.F_bars_minimal.kp T.b_bars_minimal pass0 len_bars_minimal (da_cons (de_var 0) (da_cons (de_var 1) (da_cons (de_var 2) (da_cons (de_var 3) (da_cons (de_var 4) (da_cons (de_var 5) da_nil))))))))) (ds_one (ds_ret (de_tup (da_cons (de_var 4) (da_cons (de_var 5) da_nil))))) ds_nil)))))))
    (ds_one (ds_ret de_non)))
theorem ok_free_ratio (T : Txt K mg f_is_whole f_fraction f_whole f_plus f_times f_over f_is_less f_square f_is_strict f_square_of f_is_above f_first_lacking f_next_ratio f_least_of f_greatest_of f_is_next f_next_party f_first_seats f_check_minimums f_first_less f_bars_minimal f_first_barring f_free_ratio f_greatest_divisor f_find_minimal f_seats_with_minimums f_law_cell_u f_law_numbers_u f_law_common_u f_law_frac_u f_law_plus_u f_law_times_u f_law_less_u f_law_same_u f_law_are_whole_u f_law_rule_u f_law_square_u f_law_strict_u f_law_with_minimums_u f_law_word_u f_law_due_word_u f_law_told_u f_law c_InvalidMinimums c_SeatError c_TooFewSeats c_WrongCount fd_is_whole fd_fraction fd_whole fd_plus fd_times fd_over fd_is_less fd_square fd_is_strict fd_square_of fd_is_above fd_first_lacking fd_next_ratio fd_least_of fd_greatest_of fd_is_next fd_next_party fd_first_seats fd_check_minimums fd_first_less fd_bars_minimal fd_first_barring fd_free_ratio fd_greatest_divisor fd_find_minimal fd_seats_with_minimums fd_law_cell_u fd_law_numbers_u fd_law_common_u fd_law_frac_u fd_law_plus_u fd_law_times_u fd_law_less_u fd_law_same_u fd_law_are_whole_u fd_law_rule_u fd_law_square_u fd_law_strict_u fd_law_with_minimums_u fd_law_word_u fd_law_due_word_u fd_law_told_u fd_law u_MOST_MINIMUMS u_ZERO) : FnOk P w K mg base CX0 4 f_free_ratio fd_free_ratio ["votes", "rule", "minimums", "seats", "party"] (spD ⟨P, w, K⟩ 5 φ_free_ratio) :=
  fn_ok (n := 5) (m := 5) (h := b_free_ratio) T.F_free_ratio sc_free_ratio (by rfl) (by rfl) fun cdv A outer s H E hr =>
    (ds_cons (ds_if (DW.dt (dw_or (dt_cmp (od_leD hr.units) (de_subs (hu_of hr) (de_var 3) (de_var 4)) (de_subs (hu_of hr) (de_var 2) (de_var 4))) (dw_or1 (dt_cmp (od_eq hr.units) (de_call (ok_square T) hr T.m_square T.F_square.kp T.b_square pass0 len_square (da_cons (de_var 1) (da_cons (de_op od_sub (de_subs (hu_of hr) (de_var 3) (de_var 4)) de_int) da_nil))) (de_kc T.m_ZERO T.rc_ZERO))))) (ds_one (ds_ret de_non)) ds_nil)
    (ds_one (ds_ret (de_call (ok_over T) (hr.mono (by decide)) T.m_over T.F_over.kp T.b_over pass0 len_over (da_cons (de_call (ok_square_of T) (hr.mono (by decide)) T.m_square_of T.F_square_of.kp T.b_square_of pass0 len_square_of (da_cons (de_subs (hu_of hr) (de_var 0) (de_var 4)) da_nil)) (da_cons (de_call (ok_square T) hr T.m_square T.F_square.kp T.b_square pass0 len_square (da_cons (de_var 1) (da_cons (de_op od_sub (de_subs (hu_of hr) (de_var 3) (de_var 4)) de_int) da_nil))) da_nil))))))
theorem ok_greatest_divisor (T : Txt K mg f_is_whole f_fraction f_whole f_plus f_times f_over f_is_less f_square f_is_strict f_square_of f_is_above f_first_lacking f_next_ratio f_least_of f_greatest_of f_is_next f_next_party f_first_seats f_check_minimums f_first_less f_bars_minimal f_first_barring f_free_ratio f_greatest_divisor f_find_minimal f_seats_with_minimums f_law_cell_u f_law_numbers_u f_law_common_u f_law_frac_u f_law_plus_u f_law_times_u f_law_less_u f_law_same_u f_law_are_whole_u f_law_rule_u f_law_square_u f_law_strict_u f_law_with_minimums_u f_law_word_u f_law_due_word_u f_law_told_u f_law c_InvalidMinimums c_SeatError c_TooFewSeats c_WrongCount fd_is_whole fd_fraction fd_whole fd_plus fd_times fd_over fd_is_less fd_square fd_is_strict fd_square_of fd_is_above fd_first_lacking fd_next_ratio fd_least_of fd_greatest_of fd_is_next fd_next_party fd_first_seats fd_check_minimums fd_first_less fd_bars_minimal fd_first_barring fd_free_ratio fd_greatest_divisor fd_find_minimal fd_seats_with_minimums fd_law_cell_u fd_law_numbers_u fd_law_common_u fd_law_frac_u fd_law_plus_u fd_law_times_u fd_law_less_u fd_law_same_u fd_law_are_whole_u fd_law_rule_u fd_law_square_u fd_law_strict_u fd_law_with_minimums_u fd_law_word_u fd_law_due_word_u fd_law_told_u fd_law u_MOST_MINIMUMS u_ZERO) : FnOk P w K mg base CX0 5 f_greatest_divisor fd_greatest_divisor ["votes", "rule", "minimums", "seats"] (spD ⟨P, w, K⟩ 4 φ_greatest_divisor) :=
  fn_ok (n := 4) (m := 7) (h := b_greatest_divisor) T.F_greatest_divisor sc_greatest_divisor (by rfl) (by rfl) fun cdv A outer s H E hr =>
    (ds_cons (ds_setR 4 sc_greatest_divisor.nd T.z_range (de_bltB cd_len T.z_len PySem.boot_len (dv_cons (de_var 0) dv_nil)))
    (ds_cons (ds_set 5 sc_greatest_divisor.nd (de_call (ok_least_of T) (hr.mono (by decide)) T.m_least_of T.F_least_of.kp T.b_least_of pass0 len_least_of (da_cons (de_lc (own := [("party", 6)]) rfl sc_greatest_divisor.nd (di_rngV 4) (blkOk_by (N := N_greatest_divisor) (sc := (defScope s_greatest_divisor)) (by decide +kernel)) (fun _ _ _ _ _ => (dg_nm 6 sc_greatest_divisor.nd)) (fun _ _ _ _ _ => dts_nil) (fun _ _ _ _ _ => (de_call (ok_free_ratio T) hr T.m_free_ratio T.F_free_ratio.kp T.b_free_ratio pass0 len_free_ratio (da_cons (de_var 0) (da_cons (de_var 1) (da_cons (de_var 2) (da_cons (de_var 3) (da_cons (de_var 6) da_nil))))))) (by decide)) da_nil)))
    (ds_cons (ds_if (dt_cmp od_notN (de_var 5) de_non) (ds_one (ds_ret (de_var 5))) ds_nil)
    (ds_one (ds_ret (de_call (ok_greatest_of T) (hr.mono (by decide)) T.m_greatest_of T.F_greatest_of.kp T.b_greatest_of pass0 len_greatest_of (da_cons (de_lc (own := [("party", 6)]) rfl sc_greatest_divisor.nd (di_rngV 4) (blkOk_by (N := N_greatest_divisor) (sc := (defScope s_greatest_divisor)) (by decide +kernel)) (fun _ _ _ _ _ => (dg_nm 6 sc_greatest_divisor.nd)) (fun _ _ _ _ _ => dts_nil) (fun _ _ _ _ _ => (de_call (ok_next_ratio T) hr T.m_next_ratio T.F_next_ratio.kp T.b_next_ratio pass0 len_next_ratio (da_cons (de_var 0) (da_cons (de_var 1) (da_cons (de_var 3) (da_cons (de_var 6) da_nil)))))) (by decide)) da_nil)))))))
theorem ok_find_minimal (T : Txt K mg f_is_whole f_fraction f_whole f_plus f_times f_over f_is_less f_square f_is_strict f_square_of f_is_above f_first_lacking f_next_ratio f_least_of f_greatest_of f_is_next f_next_party f_first_seats f_check_minimums f_first_less f_bars_minimal f_first_barring f_free_ratio f_greatest_divisor f_find_minimal f_seats_with_minimums f_law_cell_u f_law_numbers_u f_law_common_u f_law_frac_u f_law_plus_u f_law_times_u f_law_less_u f_law_same_u f_law_are_whole_u f_law_rule_u f_law_square_u f_law_strict_u f_law_with_minimums_u f_law_word_u f_law_due_word_u f_law_told_u f_law c_InvalidMinimums c_SeatError c_TooFewSeats c_WrongCount fd_is_whole fd_fraction fd_whole fd_plus fd_times fd_over fd_is_less fd_square fd_is_strict fd_square_of fd_is_above fd_first_lacking fd_next_ratio fd_least_of fd_greatest_of fd_is_next fd_next_party fd_first_seats fd_check_minimums fd_first_less fd_bars_minimal fd_first_barring fd_free_ratio fd_greatest_divisor fd_find_minimal fd_seats_with_minimums fd_law_cell_u fd_law_numbers_u fd_law_common_u fd_law_frac_u fd_law_plus_u fd_law_times_u fd_law_less_u fd_law_same_u fd_law_are_whole_u fd_law_rule_u fd_law_square_u fd_law_strict_u fd_law_with_minimums_u fd_law_word_u fd_law_due_word_u fd_law_told_u fd_law u_MOST_MINIMUMS u_ZERO) : FnOk P w K mg base CX0 6 f_find_minimal fd_find_minimal ["votes", "rule", "minimums", "seats"] (spD ⟨P, w, K⟩ 4 φ_find_minimal) :=
  fn_ok (n := 4) (m := 6) (h := b_find_minimal) T.F_find_minimal sc_find_minimal (by rfl) (by rfl) fun cdv A outer s H E hr =>
    (ds_cons (ds_set 4 sc_find_minimal.nd (de_call (ok_first_less T) (hr.mono (by decide)) T.m_first_less T.F_first_less.kp T.b_first_less pass0 len_first_less (da_cons (de_var 2) (da_cons (de_var 3) da_nil))))
    (ds_cons (ds_if (dt_cmp od_notN (de_var 4) de_non) (ds_one (ds_frz [4] (ds_ret (de_tup (da_cons de_str (da_cons (de_var 4) da_nil)))))) ds_nil)
    (ds_cons (ds_set 4 sc_find_minimal.nd (de_call (ok_first_lacking T) hr T.m_first_lacking T.F_first_lacking.kp T.b_first_lacking pass0 len_first_lacking (da_cons (de_var 1) (da_cons (de_var 3) da_nil))))
    (ds_cons (ds_if (dt_cmp od_notN (de_var 4) de_non) (ds_one (ds_frz [4] (ds_ret (de_tup (da_cons de_str (da_cons (de_var 4) da_nil)))))) ds_nil)
    (ds_cons (ds_set 5 sc_find_minimal.nd (de_call (ok_first_barring T) hr T.m_first_barring T.F_first_barring.kp T.b_first_barring pass0 len_first_barring (da_cons (de_var 0) (da_cons (de_var 1) (da_cons (de_var 2) (da_cons (de_var 3) da_nil))))))
    (ds_cons (ds_if (dt_cmp od_notN (de_var 5) de_non) (ds_one (ds_ret (de_tup (da_cons de_str (da_cons (de_subs (hu_of hr) (de_var 5) de_int) (da_cons (de_subs (hu_of hr) (de_var 5) de_int) da_nil)))))) ds_nil)
    (ds_one (ds_ret (de_tup (da_cons de_str (da_cons (de_call (ok_greatest_divisor T) hr T.m_greatest_divisor T.F_greatest_divisor.kp T.b_greatest_divisor pass0 len_greatest_divisor (da_cons (de_var 0) (da_cons (de_var 1) (da_cons (de_var 2) (da_cons (de_var 3) da_nil))))) da_nil)))))))))))
theorem okx_seats_with_minimums (T : Txt K mg f_is_whole f_fraction f_whole f_plus f_times f_over f_is_less f_square f_is_strict f_square_of f_is_above f_first_lacking f_next_ratio f_least_of f_greatest_of f_is_next f_next_party f_first_seats f_check_minimums f_first_less f_bars_minimal f_first_barring f_free_ratio f_greatest_divisor f_find_minimal f_seats_with_minimums f_law_cell_u f_law_numbers_u f_law_common_u f_law_frac_u f_law_plus_u f_law_times_u f_law_less_u f_law_same_u f_law_are_whole_u f_law_rule_u f_law_square_u f_law_strict_u f_law_with_minimums_u f_law_word_u f_law_due_word_u f_law_told_u f_law c_InvalidMinimums c_SeatError c_TooFewSeats c_WrongCount fd_is_whole fd_fraction fd_whole fd_plus fd_times fd_over fd_is_less fd_square fd_is_strict fd_square_of fd_is_above fd_first_lacking fd_next_ratio fd_least_of fd_greatest_of fd_is_next fd_next_party fd_first_seats fd_check_minimums fd_first_less fd_bars_minimal fd_first_barring fd_free_ratio fd_greatest_divisor fd_find_minimal fd_seats_with_minimums fd_law_cell_u fd_law_numbers_u fd_law_common_u fd_law_frac_u fd_law_plus_u fd_law_times_u fd_law_less_u fd_law_same_u fd_law_are_whole_u fd_law_rule_u fd_law_square_u fd_law_strict_u fd_law_with_minimums_u fd_law_word_u fd_law_due_word_u fd_law_told_u fd_law u_MOST_MINIMUMS u_ZERO) : FnOk P w K mg base (L2.CX P w) 7 f_seats_with_minimums fd_seats_with_minimums ["votes", "rule", "minimums", "house"] (spX ⟨P, w, K⟩ (mvT mg) 4 φx_seats_with_minimums) :=
  fn_okX (n := 4) (m := 7) (h := b_seats_with_minimums) T.F_seats_with_minimums sc_seats_with_minimums (by rfl) (by rfl) fun cdv A outer s H E hr =>
    (dx_cons (dx_up (ds_set 4 sc_seats_with_minimums.nd (de_op od_sub (de_var 3) (de_bltB (cd_sum rfl) T.z_sum (by decide +kernel) (dv_cons (de_var 2) dv_nil)))))
    (dx_cons (dx_if (DW.dt (dw_or (dt_cmp (od_ltD hr.units0) (de_var 4) de_int) (dw_or1 (DW.dt (dw_and (dt_val (de_sc (de_call (ok_is_strict T) (hr.mono (by decide)) T.m_is_strict T.F_is_strict.kp T.b_is_strict pass0 len_is_strict (da_cons (de_var 1) da_nil)))) (dw_and1 (dt_cmp (od_ltD hr.units0) (de_var 4) (de_count (de_var 2) de_int)))))))) (dx_one (dx_raise rfl (takes_of rfl rfl rfl rfl) T.x_TooFewSeats T.m_c_TooFewSeats (mvT_of T.m_c_TooFewSeats))) dx_nil)
    (dx_cons (dx_up (ds_set 5 sc_seats_with_minimums.nd (de_bltT (cd_list rfl) T.z_list (by decide +kernel) (dv_cons (de_var 2) dv_nil))))
    (dx_cons (dx_up (ds_for (passes_of rfl) rfl (di_rng1 T.z_range (de_var 4)) (dg_nm 6 sc_seats_with_minimums.nd) (dss_fgt [6] (ds_one (ds_augI 5 (de_sc (de_call (ok_next_party T) hr T.m_next_party T.F_next_party.kp T.b_next_party pass0 len_next_party (da_cons (de_var 0) (da_cons (de_var 1) (da_cons (de_var 5) da_nil))))) ipd_add de_int)))))
    (dx_one (dx_up (ds_ret (de_var 5))))))))
theorem ok_seats_with_minimums (T : Txt K mg f_is_whole f_fraction f_whole f_plus f_times f_over f_is_less f_square f_is_strict f_square_of f_is_above f_first_lacking f_next_ratio f_least_of f_greatest_of f_is_next f_next_party f_first_seats f_check_minimums f_first_less f_bars_minimal f_first_barring f_free_ratio f_greatest_divisor f_find_minimal f_seats_with_minimums f_law_cell_u f_law_numbers_u f_law_common_u f_law_frac_u f_law_plus_u f_law_times_u f_law_less_u f_law_same_u f_law_are_whole_u f_law_rule_u f_law_square_u f_law_strict_u f_law_with_minimums_u f_law_word_u f_law_due_word_u f_law_told_u f_law c_InvalidMinimums c_SeatError c_TooFewSeats c_WrongCount fd_is_whole fd_fraction fd_whole fd_plus fd_times fd_over fd_is_less fd_square fd_is_strict fd_square_of fd_is_above fd_first_lacking fd_next_ratio fd_least_of fd_greatest_of fd_is_next fd_next_party fd_first_seats fd_check_minimums fd_first_less fd_bars_minimal fd_first_barring fd_free_ratio fd_greatest_divisor fd_find_minimal fd_seats_with_minimums fd_law_cell_u fd_law_numbers_u fd_law_common_u fd_law_frac_u fd_law_plus_u fd_law_times_u fd_law_less_u fd_law_same_u fd_law_are_whole_u fd_law_rule_u fd_law_square_u fd_law_strict_u fd_law_with_minimums_u fd_law_word_u fd_law_due_word_u fd_law_told_u fd_law u_MOST_MINIMUMS u_ZERO) : FnOk P w K mg base (L2.CX P w) 7 f_seats_with_minimums fd_seats_with_minimums ["votes", "rule", "minimums", "house"] (spD ⟨P, w, K⟩ 4 φ_seats_with_minimums) := fn_nv (okx_seats_with_minimums T)
theorem ok_law_cell_u (T : Txt K mg f_is_whole f_fraction f_whole f_plus f_times f_over f_is_less f_square f_is_strict f_square_of f_is_above f_first_lacking f_next_ratio f_least_of f_greatest_of f_is_next f_next_party f_first_seats f_check_minimums f_first_less f_bars_minimal f_first_barring f_free_ratio f_greatest_divisor f_find_minimal f_seats_with_minimums f_law_cell_u f_law_numbers_u f_law_common_u f_law_frac_u f_law_plus_u f_law_times_u f_law_less_u f_law_same_u f_law_are_whole_u f_law_rule_u f_law_square_u f_law_strict_u f_law_with_minimums_u f_law_word_u f_law_due_word_u f_law_told_u f_law c_InvalidMinimums c_SeatError c_TooFewSeats c_WrongCount fd_is_whole fd_fraction fd_whole fd_plus fd_times fd_over fd_is_less fd_square fd_is_strict fd_square_of fd_is_above fd_first_lacking fd_next_ratio fd_least_of fd_greatest_of fd_is_next fd_next_party fd_first_seats fd_check_minimums fd_first_less fd_bars_minimal fd_first_barring fd_free_ratio fd_greatest_divisor fd_find_minimal fd_seats_with_minimums fd_law_cell_u fd_law_numbers_u fd_law_common_u fd_law_frac_u fd_law_plus_u fd_law_times_u fd_law_less_u fd_law_same_u fd_law_are_whole_u fd_law_rule_u fd_law_square_u fd_law_strict_u fd_law_with_minimums_u fd_law_word_u fd_law_due_word_u fd_law_told_u fd_law u_MOST_MINIMUMS u_ZERO) : FnOk P w K mg base CX0 1 f_law_cell_u fd_law_cell_u ["script", "k"] (spD ⟨P, w, K⟩ 2 φ_law_cell_u) :=
  fn_ok (n := 2) (m := 2) (h := b_law_cell_u) T.F_law_cell_u sc_law_cell_u (by rfl) (by rfl) fun cdv A outer s H E hr =>
    (ds_cons (ds_if (dt_cmp (od_ltD hr.units0) (de_var 1) (de_bltB cd_len T.z_len PySem.boot_len (dv_cons (de_var 0) dv_nil))) (ds_one (ds_ret (de_bltT cd_int T.z_int (by decide +kernel) (dv_cons (de_subs (hu_of hr) (de_var 0) (de_var 1)) dv_nil)))) ds_nil)
    (ds_one (ds_ret de_int)))
theorem ok_law_numbers_u (T : Txt K mg f_is_whole f_fraction f_whole f_plus f_times f_over f_is_less f_square f_is_strict f_square_of f_is_above f_first_lacking f_next_ratio f_least_of f_greatest_of f_is_next f_next_party f_first_seats f_check_minimums f_first_less f_bars_minimal f_first_barring f_free_ratio f_greatest_divisor f_find_minimal f_seats_with_minimums f_law_cell_u f_law_numbers_u f_law_common_u f_law_frac_u f_law_plus_u f_law_times_u f_law_less_u f_law_same_u f_law_are_whole_u f_law_rule_u f_law_square_u f_law_strict_u f_law_with_minimums_u f_law_word_u f_law_due_word_u f_law_told_u f_law c_InvalidMinimums c_SeatError c_TooFewSeats c_WrongCount fd_is_whole fd_fraction fd_whole fd_plus fd_times fd_over fd_is_less fd_square fd_is_strict fd_square_of fd_is_above fd_first_lacking fd_next_ratio fd_least_of fd_greatest_of fd_is_next fd_next_party fd_first_seats fd_check_minimums fd_first_less fd_bars_minimal fd_first_barring fd_free_ratio fd_greatest_divisor fd_find_minimal fd_seats_with_minimums fd_law_cell_u fd_law_numbers_u fd_law_common_u fd_law_frac_u fd_law_plus_u fd_law_times_u fd_law_less_u fd_law_same_u fd_law_are_whole_u fd_law_rule_u fd_law_square_u fd_law_strict_u fd_law_with_minimums_u fd_law_word_u fd_law_due_word_u fd_law_told_u fd_law u_MOST_MINIMUMS u_ZERO) : FnOk P w K mg base CX0 1 f_law_numbers_u fd_law_numbers_u ["cell", "count", "limit"] (spD ⟨P, w, K⟩ 3 φ_law_numbers_u) :=
  fn_ok (n := 3) (m := 6) (h := b_law_numbers_u) T.F_law_numbers_u sc_law_numbers_u (by rfl) (by rfl) fun cdv A outer s H E hr =>
    (ds_cons (ds_set 3 sc_law_numbers_u.nd (de_lst da_nil))
    (ds_cons (ds_if (dt_cmp (od_geD hr.units) (de_var 0) (de_op od_pow de_int de_int)) (ds_cons (ds_for PassesOwn.never rfl (di_rng1 T.z_range (de_var 1)) (dg_nm 4 sc_law_numbers_u.nd) (dss_fgt [4] (ds_cons (ds_app 3 (de_op od_mod (de_bltT cd_int T.z_int (by decide +kernel) (dv_cons (de_var 0) dv_nil)) (de_var 2)))
    (ds_one (ds_set 0 sc_law_numbers_u.nd (de_op od_fdiv (de_bltT cd_int T.z_int (by decide +kernel) (dv_cons (de_var 0) dv_nil)) (de_var 2)))))))
    (ds_one (ds_ret (de_var 3)))) ds_nil)
    (ds_cons (ds_for PassesOwn.never rfl (di_rng1 T.z_range (de_var 1)) (dg_nm 4 sc_law_numbers_u.nd) (dss_fgt [4, 5] (ds_cons (ds_set 5 sc_law_numbers_u.nd (de_op od_mod (de_bltT cd_int T.z_int (by decide +kernel) (dv_cons (de_op od_add (de_op od_add (de_op od_mul (de_var 0) de_int) (de_op od_mul (de_var 4) de_int)) de_int) dv_nil)) de_int))
    (ds_cons (ds_set 5 sc_law_numbers_u.nd (de_op od_mod (de_bltT cd_int T.z_int (by decide +kernel) (dv_cons (de_op od_add (de_op od_add (de_op od_add (de_op od_mul (de_var 5) (de_var 5)) (de_op od_mul (de_var 5) de_int)) (de_op od_mul (de_var 4) de_int)) de_int) dv_nil)) de_int))
    (ds_one (ds_app 3 (de_op od_mod (de_bltT cd_int T.z_int (by decide +kernel) (dv_cons (de_op od_fdiv (de_var 5) de_int) dv_nil)) (de_var 2))))))))
    (ds_one (ds_ret (de_var 3))))))
theorem ok_law_common_u (T : Txt K mg f_is_whole f_fraction f_whole f_plus f_times f_over f_is_less f_square f_is_strict f_square_of f_is_above f_first_lacking f_next_ratio f_least_of f_greatest_of f_is_next f_next_party f_first_seats f_check_minimums f_first_less f_bars_minimal f_first_barring f_free_ratio f_greatest_divisor f_find_minimal f_seats_with_minimums f_law_cell_u f_law_numbers_u f_law_common_u f_law_frac_u f_law_plus_u f_law_times_u f_law_less_u f_law_same_u f_law_are_whole_u f_law_rule_u f_law_square_u f_law_strict_u f_law_with_minimums_u f_law_word_u f_law_due_word_u f_law_told_u f_law c_InvalidMinimums c_SeatError c_TooFewSeats c_WrongCount fd_is_whole fd_fraction fd_whole fd_plus fd_times fd_over fd_is_less fd_square fd_is_strict fd_square_of fd_is_above fd_first_lacking fd_next_ratio fd_least_of fd_greatest_of fd_is_next fd_next_party fd_first_seats fd_check_minimums fd_first_less fd_bars_minimal fd_first_barring fd_free_ratio fd_greatest_divisor fd_find_minimal fd_seats_with_minimums fd_law_cell_u fd_law_numbers_u fd_law_common_u fd_law_frac_u fd_law_plus_u fd_law_times_u fd_law_less_u fd_law_same_u fd_law_are_whole_u fd_law_rule_u fd_law_square_u fd_law_strict_u fd_law_with_minimums_u fd_law_word_u fd_law_due_word_u fd_law_told_u fd_law u_MOST_MINIMUMS u_ZERO) : FnOk P w K mg base CX0 1 f_law_common_u fd_law_common_u ["one", "other"] (spD ⟨P, w, K⟩ 2 φ_law_common_u) :=
  fn_ok (n := 2) (m := 3) (h := b_law_common_u) T.F_law_common_u sc_law_common_u (by rfl) (by rfl) fun cdv A outer s H E hr =>
    (ds_cons (ds_set 0 sc_law_common_u.nd (de_bltB cd_abs T.z_abs PyProof.Rows.boot_abs (dv_cons (de_var 0) dv_nil)))
    (ds_cons (ds_set 1 sc_law_common_u.nd (de_bltB cd_abs T.z_abs PyProof.Rows.boot_abs (dv_cons (de_var 1) dv_nil)))
    (ds_cons (ds_for PassesOwn.never rfl (di_rng1 T.z_range de_int) (dg_nm 2 sc_law_common_u.nd) (dss_fgt [2] (ds_cons (ds_if (dt_cmp (od_eq hr.units) (de_var 1) de_int) (ds_one (ds_ret (de_var 0))) ds_nil)
    (ds_one (ds_par 0 1 rfl sc_law_common_u.nd (da_cons (de_var 1) (da_cons (de_op od_mod (de_bltT cd_int T.z_int (by decide +kernel) (dv_cons (de_var 0) dv_nil)) (de_var 1)) da_nil)))))))
    (ds_one (ds_ret (de_var 0))))))
theorem ok_law_frac_u (T : Txt K mg f_is_whole f_fraction f_whole f_plus f_times f_over f_is_less f_square f_is_strict f_square_of f_is_above f_first_lacking f_next_ratio f_least_of f_greatest_of f_is_next f_next_party f_first_seats f_check_minimums f_first_less f_bars_minimal f_first_barring f_free_ratio f_greatest_divisor f_find_minimal f_seats_with_minimums f_law_cell_u f_law_numbers_u f_law_common_u f_law_frac_u f_law_plus_u f_law_times_u f_law_less_u f_law_same_u f_law_are_whole_u f_law_rule_u f_law_square_u f_law_strict_u f_law_with_minimums_u f_law_word_u f_law_due_word_u f_law_told_u f_law c_InvalidMinimums c_SeatError c_TooFewSeats c_WrongCount fd_is_whole fd_fraction fd_whole fd_plus fd_times fd_over fd_is_less fd_square fd_is_strict fd_square_of fd_is_above fd_first_lacking fd_next_ratio fd_least_of fd_greatest_of fd_is_next fd_next_party fd_first_seats fd_check_minimums fd_first_less fd_bars_minimal fd_first_barring fd_free_ratio fd_greatest_divisor fd_find_minimal fd_seats_with_minimums fd_law_cell_u fd_law_numbers_u fd_law_common_u fd_law_frac_u fd_law_plus_u fd_law_times_u fd_law_less_u fd_law_same_u fd_law_are_whole_u fd_law_rule_u fd_law_square_u fd_law_strict_u fd_law_with_minimums_u fd_law_word_u fd_law_due_word_u fd_law_told_u fd_law u_MOST_MINIMUMS u_ZERO) : FnOk P w K mg base CX0 2 f_law_frac_u fd_law_frac_u ["top", "bottom"] (spD ⟨P, w, K⟩ 2 φ_law_frac_u) :=
  fn_ok (n := 2) (m := 3) (h := b_law_frac_u) T.F_law_frac_u sc_law_frac_u (by rfl) (by rfl) fun cdv A outer s H E hr =>
    (ds_cons (ds_if (dt_cmp (od_ltD hr.units0) (de_var 1) de_int) (ds_cons (ds_set 0 sc_law_frac_u.nd (de_op od_sub de_int (de_var 0)))
    (ds_one (ds_set 1 sc_law_frac_u.nd (de_op od_sub de_int (de_var 1))))) ds_nil)
    (ds_cons (ds_set 2 sc_law_frac_u.nd (de_call (ok_law_common_u T) hr T.m_law_common_u T.F_law_common_u.kp T.b_law_common_u pass0 len_law_common_u (da_cons (de_var 0) (da_cons (de_var 1) da_nil))))
    (ds_one (ds_ret (de_tup (da_cons (de_op od_fdiv (de_var 0) (de_var 2)) (da_cons (de_op od_fdiv (de_var 1) (de_var 2)) da_nil)))))))
theorem ok_law_plus_u (T : Txt K mg f_is_whole f_fraction f_whole f_plus f_times f_over f_is_less f_square f_is_strict f_square_of f_is_above f_first_lacking f_next_ratio f_least_of f_greatest_of f_is_next f_next_party f_first_seats f_check_minimums f_first_less f_bars_minimal f_first_barring f_free_ratio f_greatest_divisor f_find_minimal f_seats_with_minimums f_law_cell_u f_law_numbers_u f_law_common_u f_law_frac_u f_law_plus_u f_law_times_u f_law_less_u f_law_same_u f_law_are_whole_u f_law_rule_u f_law_square_u f_law_strict_u f_law_with_minimums_u f_law_word_u f_law_due_word_u f_law_told_u f_law c_InvalidMinimums c_SeatError c_TooFewSeats c_WrongCount fd_is_whole fd_fraction fd_whole fd_plus fd_times fd_over fd_is_less fd_square fd_is_strict fd_square_of fd_is_above fd_first_lacking fd_next_ratio fd_least_of fd_greatest_of fd_is_next fd_next_party fd_first_seats fd_check_minimums fd_first_less fd_bars_minimal fd_first_barring fd_free_ratio fd_greatest_divisor fd_find_minimal fd_seats_with_minimums fd_law_cell_u fd_law_numbers_u fd_law_common_u fd_law_frac_u fd_law_plus_u fd_law_times_u fd_law_less_u fd_law_same_u fd_law_are_whole_u fd_law_rule_u fd_law_square_u fd_law_strict_u fd_law_with_minimums_u fd_law_word_u fd_law_due_word_u fd_law_told_u fd_law u_MOST_MINIMUMS u_ZERO) : FnOk P w K mg base CX0 3 f_law_plus_u fd_law_plus_u ["one", "other"] (spD ⟨P, w, K⟩ 2 φ_law_plus_u) :=
  fn_ok (n := 2) (m := 2) (h := b_law_plus_u) T.F_law_plus_u sc_law_plus_u (by rfl) (by rfl) fun cdv A outer s H E hr =>
    (ds_one (ds_ret (de_call (ok_law_frac_u T) hr T.m_law_frac_u T.F_law_frac_u.kp T.b_law_frac_u pass0 len_law_frac_u (da_cons (de_op od_add (de_op od_mul (de_subs (hu_of hr) (de_var 0) de_int) (de_subs (hu_of hr) (de_var 1) de_int)) (de_op od_mul (de_subs (hu_of hr) (de_var 1) de_int) (de_subs (hu_of hr) (de_var 0) de_int))) (da_cons (de_op od_mul (de_subs (hu_of hr) (de_var 0) de_int) (de_subs (hu_of hr) (de_var 1) de_int)) da_nil)))))
theorem ok_law_times_u (T : Txt K mg f_is_whole f_fraction f_whole f_plus f_times f_over f_is_less f_square f_is_strict f_square_of f_is_above f_first_lacking f_next_ratio f_least_of f_greatest_of f_is_next f_next_party f_first_seats f_check_minimums f_first_less f_bars_minimal f_first_barring f_free_ratio f_greatest_divisor f_find_minimal f_seats_with_minimums f_law_cell_u f_law_numbers_u f_law_common_u f_law_frac_u f_law_plus_u f_law_times_u f_law_less_u f_law_same_u f_law_are_whole_u f_law_rule_u f_law_square_u f_law_strict_u f_law_with_minimums_u f_law_word_u f_law_due_word_u f_law_told_u f_law c_InvalidMinimums c_SeatError c_TooFewSeats c_WrongCount fd_is_whole fd_fraction fd_whole fd_plus fd_times fd_over fd_is_less fd_square fd_is_strict fd_square_of fd_is_above fd_first_lacking fd_next_ratio fd_least_of fd_greatest_of fd_is_next fd_next_party fd_first_seats fd_check_minimums fd_first_less fd_bars_minimal fd_first_barring fd_free_ratio fd_greatest_divisor fd_find_minimal fd_seats_with_minimums fd_law_cell_u fd_law_numbers_u fd_law_common_u fd_law_frac_u fd_law_plus_u fd_law_times_u fd_law_less_u fd_law_same_u fd_law_are_whole_u fd_law_rule_u fd_law_square_u fd_law_strict_u fd_law_with_minimums_u fd_law_word_u fd_law_due_word_u fd_law_told_u fd_law u_MOST_MINIMUMS u_ZERO) : FnOk P w K mg base CX0 3 f_law_times_u fd_law_times_u ["one", "other"] (spD ⟨P, w, K⟩ 2 φ_law_times_u) :=
  fn_ok (n := 2) (m := 2) (h := b_law_times_u) T.F_law_times_u sc_law_times_u (by rfl) (by rfl) fun cdv A outer s H E hr =>
    (ds_one (ds_ret (de_call (ok_law_frac_u T) hr T.m_law_frac_u T.F_law_frac_u.kp T.b_law_frac_u pass0 len_law_frac_u (da_cons (de_op od_mul (de_subs (hu_of hr) (de_var 0) de_int) (de_subs (hu_of hr) (de_var 1) de_int)) (da_cons (de_op od_mul (de_subs (hu_of hr) (de_var 0) de_int) (de_subs (hu_of hr) (de_var 1) de_int)) da_nil)))))
theorem ok_law_less_u (T : Txt K mg f_is_whole f_fraction f_whole f_plus f_times f_over f_is_less f_square f_is_strict f_square_of f_is_above f_first_lacking f_next_ratio f_least_of f_greatest_of f_is_next f_next_party f_first_seats f_check_minimums f_first_less f_bars_minimal f_first_barring f_free_ratio f_greatest_divisor f_find_minimal f_seats_with_minimums f_law_cell_u f_law_numbers_u f_law_common_u f_law_frac_u f_law_plus_u f_law_times_u f_law_less_u f_law_same_u f_law_are_whole_u f_law_rule_u f_law_square_u f_law_strict_u f_law_with_minimums_u f_law_word_u f_law_due_word_u f_law_told_u f_law c_InvalidMinimums c_SeatError c_TooFewSeats c_WrongCount fd_is_whole fd_fraction fd_whole fd_plus fd_times fd_over fd_is_less fd_square fd_is_strict fd_square_of fd_is_above fd_first_lacking fd_next_ratio fd_least_of fd_greatest_of fd_is_next fd_next_party fd_first_seats fd_check_minimums fd_first_less fd_bars_minimal fd_first_barring fd_free_ratio fd_greatest_divisor fd_find_minimal fd_seats_with_minimums fd_law_cell_u fd_law_numbers_u fd_law_common_u fd_law_frac_u fd_law_plus_u fd_law_times_u fd_law_less_u fd_law_same_u fd_law_are_whole_u fd_law_rule_u fd_law_square_u fd_law_strict_u fd_law_with_minimums_u fd_law_word_u fd_law_due_word_u fd_law_told_u fd_law u_MOST_MINIMUMS u_ZERO) : FnOk P w K mg base CX0 1 f_law_less_u fd_law_less_u ["one", "other"] (spD ⟨P, w, K⟩ 2 φ_law_less_u) :=
  fn_ok (n := 2) (m := 2) (h := b_law_less_u) T.F_law_less_u sc_law_less_u (by rfl) (by rfl) fun cdv A outer s H E hr =>
    (ds_one (ds_ret (de_cmp (od_ltD hr.units0) (de_op od_mul (de_subs (hu_of hr) (de_var 0) de_int) (de_subs (hu_of hr) (de_var 1) de_int)) (de_op od_mul (de_subs (hu_of hr) (de_var 1) de_int) (de_subs (hu_of hr) (de_var 0) de_int)))))
theorem okr_law_same_u (T : Txt K mg f_is_whole f_fraction f_whole f_plus f_times f_over f_is_less f_square f_is_strict f_square_of f_is_above f_first_lacking f_next_ratio f_least_of f_greatest_of f_is_next f_next_party f_first_seats f_check_minimums f_first_less f_bars_minimal f_first_barring f_free_ratio f_greatest_divisor f_find_minimal f_seats_with_minimums f_law_cell_u f_law_numbers_u f_law_common_u f_law_frac_u f_law_plus_u f_law_times_u f_law_less_u f_law_same_u f_law_are_whole_u f_law_rule_u f_law_square_u f_law_strict_u f_law_with_minimums_u f_law_word_u f_law_due_word_u f_law_told_u f_law c_InvalidMinimums c_SeatError c_TooFewSeats c_WrongCount fd_is_whole fd_fraction fd_whole fd_plus fd_times fd_over fd_is_less fd_square fd_is_strict fd_square_of fd_is_above fd_first_lacking fd_next_ratio fd_least_of fd_greatest_of fd_is_next fd_next_party fd_first_seats fd_check_minimums fd_first_less fd_bars_minimal fd_first_barring fd_free_ratio fd_greatest_divisor fd_find_minimal fd_seats_with_minimums fd_law_cell_u fd_law_numbers_u fd_law_common_u fd_law_frac_u fd_law_plus_u fd_law_times_u fd_law_less_u fd_law_same_u fd_law_are_whole_u fd_law_rule_u fd_law_square_u fd_law_strict_u fd_law_with_minimums_u fd_law_word_u fd_law_due_word_u fd_law_told_u fd_law u_MOST_MINIMUMS u_ZERO) : ∀ k : Nat, FnOk P w K mg base CX0 (k + 0) f_law_same_u fd_law_same_u ["told", "due"] (spD ⟨P, w, K⟩ 2 (φ_law_same_u k))
  | 0 => ⟨fun vs H Q E h => h.1, fun _ _ _ _ _ _ _ _ _ _ _ _ _ h => by obtain ⟨_, _, _, _, _, _, _, e, _⟩ := h; cases e⟩
  | k + 1 => by
    have G : FnOk P w K mg base CX0 (k + 0) f_law_same_u fd_law_same_u ["told", "due"] (spD ⟨P, w, K⟩ 2 (φ_law_same_u k)) := okr_law_same_u T k
    have hself : ∀ ds x, φ_law_same_u k ds = some x → ds.length = 2 := len_law_same_u
    rw [show k + 1 + 0 = (k + 0) + 1 by omega]
    exact fn_ok (K := K) (n := 2) (m := 3) (h := b_law_same_u (φ_law_same_u k)) T.F_law_same_u sc_law_same_u (by rfl) (by rfl) fun cdv A outer s H E hr =>
    (ds_cons (ds_if (dt_val (de_isi T.z_isinstance T.z_list (de_var 1) (by decide +kernel))) (ds_one (ds_if (DW.dt (dw_or (dt_not (dt_val (de_isi T.z_isinstance T.z_list (de_var 0) (by decide +kernel)))) (dw_or1 (dt_cmp (od_ne hr.units) (de_bltB cd_len T.z_len PySem.boot_len (dv_cons (de_var 0) dv_nil)) (de_bltB cd_len T.z_len PySem.boot_len (dv_cons (de_var 1) dv_nil)))))) (ds_one (ds_ret de_bl)) ds_nil)) (ds_one (ds_if (dt_val (de_isi T.z_isinstance T.z_tuple (de_var 1) (by decide +kernel))) (ds_one (ds_if (DW.dt (dw_or (dt_not (dt_val (de_isi T.z_isinstance T.z_tuple (de_var 0) (by decide +kernel)))) (dw_or1 (dt_cmp (od_ne hr.units) (de_bltB cd_len T.z_len PySem.boot_len (dv_cons (de_var 0) dv_nil)) (de_bltB cd_len T.z_len PySem.boot_len (dv_cons (de_var 1) dv_nil)))))) (ds_one (ds_ret de_bl)) ds_nil)) (ds_one (ds_if (dt_cmp od_isN (de_var 1) de_non) (ds_one (ds_ret (de_cmp od_isN (de_var 0) de_non))) (ds_one (ds_if (dt_val (de_isi T.z_isinstance T.z_bool (de_var 1) (by decide +kernel))) (ds_one (ds_ret (de_and (de_isi T.z_isinstance T.z_bool (de_var 0) (by decide +kernel)) (de_one (de_cmp (od_eq hr.units) (de_var 0) (de_var 1)))))) (ds_one (ds_if (dt_val (de_isi T.z_isinstance T.z_int (de_var 1) (by decide +kernel))) (ds_one (ds_ret (de_and (de_isi T.z_isinstance T.z_int (de_var 0) (by decide +kernel)) (de_and (de_not (de_isi T.z_isinstance T.z_bool (de_var 0) (by decide +kernel))) (de_one (de_cmp (od_eq hr.units) (de_var 0) (de_var 1))))))) (ds_one (ds_ret (de_and (de_isi T.z_isinstance T.z_str (de_var 0) (by decide +kernel)) (de_one (de_cmp (od_eq hr.units) (de_var 0) (de_var 1)))))))))))))))
    (ds_cons (ds_for PassesOwn.never rfl (di_rng1 T.z_range (de_bltB cd_len T.z_len PySem.boot_len (dv_cons (de_var 1) dv_nil))) (dg_nm 2 sc_law_same_u.nd) (dss_fgt [2] (ds_one (ds_if (dt_not (dt_val (de_call G hr T.m_law_same_u T.F_law_same_u.kp T.b_law_same_u pass0 hself (da_cons (de_subs (hu_of hr) (de_var 0) (de_var 2)) (da_cons (de_subs (hu_of hr) (de_var 1) (de_var 2)) da_nil))))) (ds_one (ds_ret de_bl)) ds_nil))))
    (ds_one (ds_ret de_bl))))
theorem ok_law_same_u (T : Txt K mg f_is_whole f_fraction f_whole f_plus f_times f_over f_is_less f_square f_is_strict f_square_of f_is_above f_first_lacking f_next_ratio f_least_of f_greatest_of f_is_next f_next_party f_first_seats f_check_minimums f_first_less f_bars_minimal f_first_barring f_free_ratio f_greatest_divisor f_find_minimal f_seats_with_minimums f_law_cell_u f_law_numbers_u f_law_common_u f_law_frac_u f_law_plus_u f_law_times_u f_law_less_u f_law_same_u f_law_are_whole_u f_law_rule_u f_law_square_u f_law_strict_u f_law_with_minimums_u f_law_word_u f_law_due_word_u f_law_told_u f_law c_InvalidMinimums c_SeatError c_TooFewSeats c_WrongCount fd_is_whole fd_fraction fd_whole fd_plus fd_times fd_over fd_is_less fd_square fd_is_strict fd_square_of fd_is_above fd_first_lacking fd_next_ratio fd_least_of fd_greatest_of fd_is_next fd_next_party fd_first_seats fd_check_minimums fd_first_less fd_bars_minimal fd_first_barring fd_free_ratio fd_greatest_divisor fd_find_minimal fd_seats_with_minimums fd_law_cell_u fd_law_numbers_u fd_law_common_u fd_law_frac_u fd_law_plus_u fd_law_times_u fd_law_less_u fd_law_same_u fd_law_are_whole_u fd_law_rule_u fd_law_square_u fd_law_strict_u fd_law_with_minimums_u fd_law_word_u fd_law_due_word_u fd_law_told_u fd_law u_MOST_MINIMUMS u_ZERO) : FnOk P w K mg base CX0 12 f_law_same_u fd_law_same_u ["told", "due"] (spD ⟨P, w, K⟩ 2 (φ_law_same_u 12)) := okr_law_same_u T 12
theorem ok_law_are_whole_u (T : Txt K mg f_is_whole f_fraction f_whole f_plus f_times f_over f_is_less f_square f_is_strict f_square_of f_is_above f_first_lacking f_next_ratio f_least_of f_greatest_of f_is_next f_next_party f_first_seats f_check_minimums f_first_less f_bars_minimal f_first_barring f_free_ratio f_greatest_divisor f_find_minimal f_seats_with_minimums f_law_cell_u f_law_numbers_u f_law_common_u f_law_frac_u f_law_plus_u f_law_times_u f_law_less_u f_law_same_u f_law_are_whole_u f_law_rule_u f_law_square_u f_law_strict_u f_law_with_minimums_u f_law_word_u f_law_due_word_u f_law_told_u f_law c_InvalidMinimums c_SeatError c_TooFewSeats c_WrongCount fd_is_whole fd_fraction fd_whole fd_plus fd_times fd_over fd_is_less fd_square fd_is_strict fd_square_of fd_is_above fd_first_lacking fd_next_ratio fd_least_of fd_greatest_of fd_is_next fd_next_party fd_first_seats fd_check_minimums fd_first_less fd_bars_minimal fd_first_barring fd_free_ratio fd_greatest_divisor fd_find_minimal fd_seats_with_minimums fd_law_cell_u fd_law_numbers_u fd_law_common_u fd_law_frac_u fd_law_plus_u fd_law_times_u fd_law_less_u fd_law_same_u fd_law_are_whole_u fd_law_rule_u fd_law_square_u fd_law_strict_u fd_law_with_minimums_u fd_law_word_u fd_law_due_word_u fd_law_told_u fd_law u_MOST_MINIMUMS u_ZERO) : FnOk P w K mg base CX0 1 f_law_are_whole_u fd_law_are_whole_u ["some"] (spD ⟨P, w, K⟩ 1 φ_law_are_whole_u) :=
  fn_ok (n := 1) (m := 2) (h := b_law_are_whole_u) T.F_law_are_whole_u sc_law_are_whole_u (by rfl) (by rfl) fun cdv A outer s H E hr =>
    (ds_one (ds_ret (de_and (de_isi T.z_isinstance T.z_list (de_var 0) (by decide +kernel)) (de_one (de_cmp (od_eq hr.units) (de_bltB cd_len T.z_len PySem.boot_len (dv_cons (de_lc (own := [("one", 1)]) rfl sc_law_are_whole_u.nd (di_seq (de_var 0)) (blkOk_by (N := N_law_are_whole_u) (sc := (defScope s_law_are_whole_u)) (by decide +kernel)) (fun _ _ _ _ _ => (dg_nm 1 sc_law_are_whole_u.nd)) (fun _ _ _ _ _ => (dts_one (DW.dt (dw_or (dt_val (de_isi T.z_isinstance T.z_bool (de_var 1) (by decide +kernel))) (dw_or1 (dt_not (dt_val (de_isi T.z_isinstance T.z_int (de_var 1) (by decide +kernel))))))))) (fun _ _ _ _ _ => (de_var 1)) (by decide)) dv_nil)) de_int)))))
theorem ok_law_rule_u (T : Txt K mg f_is_whole f_fraction f_whole f_plus f_times f_over f_is_less f_square f_is_strict f_square_of f_is_above f_first_lacking f_next_ratio f_least_of f_greatest_of f_is_next f_next_party f_first_seats f_check_minimums f_first_less f_bars_minimal f_first_barring f_free_ratio f_greatest_divisor f_find_minimal f_seats_with_minimums f_law_cell_u f_law_numbers_u f_law_common_u f_law_frac_u f_law_plus_u f_law_times_u f_law_less_u f_law_same_u f_law_are_whole_u f_law_rule_u f_law_square_u f_law_strict_u f_law_with_minimums_u f_law_word_u f_law_due_word_u f_law_told_u f_law c_InvalidMinimums c_SeatError c_TooFewSeats c_WrongCount fd_is_whole fd_fraction fd_whole fd_plus fd_times fd_over fd_is_less fd_square fd_is_strict fd_square_of fd_is_above fd_first_lacking fd_next_ratio fd_least_of fd_greatest_of fd_is_next fd_next_party fd_first_seats fd_check_minimums fd_first_less fd_bars_minimal fd_first_barring fd_free_ratio fd_greatest_divisor fd_find_minimal fd_seats_with_minimums fd_law_cell_u fd_law_numbers_u fd_law_common_u fd_law_frac_u fd_law_plus_u fd_law_times_u fd_law_less_u fd_law_same_u fd_law_are_whole_u fd_law_rule_u fd_law_square_u fd_law_strict_u fd_law_with_minimums_u fd_law_word_u fd_law_due_word_u fd_law_told_u fd_law u_MOST_MINIMUMS u_ZERO) : FnOk P w K mg base CX0 3 f_law_rule_u fd_law_rule_u ["draws", "at"] (spD ⟨P, w, K⟩ 2 φ_law_rule_u) :=
  fn_ok (n := 2) (m := 4) (h := b_law_rule_u) T.F_law_rule_u sc_law_rule_u (by rfl) (by rfl) fun cdv A outer s H E hr =>
    (ds_cons (ds_set 2 sc_law_rule_u.nd (de_op od_mod (de_subs (hu_of hr) (de_var 0) (de_var 1)) de_int))
    (ds_cons (ds_if (dt_cmp (od_eq hr.units) (de_var 2) de_int) (ds_one (ds_ret (de_tup (da_cons de_str da_nil)))) ds_nil)
    (ds_cons (ds_if (dt_cmp (od_eq hr.units) (de_var 2) de_int) (ds_one (ds_ret (de_tup (da_cons de_str da_nil)))) ds_nil)
    (ds_cons (ds_if (dt_cmp (od_eq hr.units) (de_var 2) de_int) (ds_one (ds_ret (de_tup (da_cons de_str (da_cons (de_subs (hu_of hr) (de_lst (da_cons (de_tup (da_cons de_int (da_cons de_int da_nil))) (da_cons (de_tup (da_cons de_int (da_cons de_int da_nil))) da_nil))) (de_op od_mod (de_subs (hu_of hr) (de_var 0) (de_op od_add (de_var 1) de_int)) de_int)) da_nil))))) ds_nil)
    (ds_cons (ds_if (dt_cmp (od_eq hr.units) (de_var 2) de_int) (ds_one (ds_ret (de_tup (da_cons de_str (da_cons (de_tup (da_cons de_int (da_cons de_int da_nil))) da_nil))))) ds_nil)
    (ds_cons (ds_set 3 sc_law_rule_u.nd (de_op od_add de_int (de_op od_mod (de_subs (hu_of hr) (de_var 0) (de_op od_add (de_var 1) de_int)) de_int)))
    (ds_one (ds_ret (de_tup (da_cons de_str (da_cons (de_call (ok_law_frac_u T) hr T.m_law_frac_u T.F_law_frac_u.kp T.b_law_frac_u pass0 len_law_frac_u (da_cons (de_op od_mod (de_subs (hu_of hr) (de_var 0) (de_op od_add (de_var 1) de_int)) (de_op od_add (de_var 3) de_int)) (da_cons (de_var 3) da_nil))) da_nil)))))))))))
theorem ok_law_square_u (T : Txt K mg f_is_whole f_fraction f_whole f_plus f_times f_over f_is_less f_square f_is_strict f_square_of f_is_above f_first_lacking f_next_ratio f_least_of f_greatest_of f_is_next f_next_party f_first_seats f_check_minimums f_first_less f_bars_minimal f_first_barring f_free_ratio f_greatest_divisor f_find_minimal f_seats_with_minimums f_law_cell_u f_law_numbers_u f_law_common_u f_law_frac_u f_law_plus_u f_law_times_u f_law_less_u f_law_same_u f_law_are_whole_u f_law_rule_u f_law_square_u f_law_strict_u f_law_with_minimums_u f_law_word_u f_law_due_word_u f_law_told_u f_law c_InvalidMinimums c_SeatError c_TooFewSeats c_WrongCount fd_is_whole fd_fraction fd_whole fd_plus fd_times fd_over fd_is_less fd_square fd_is_strict fd_square_of fd_is_above fd_first_lacking fd_next_ratio fd_least_of fd_greatest_of fd_is_next fd_next_party fd_first_seats fd_check_minimums fd_first_less fd_bars_minimal fd_first_barring fd_free_ratio fd_greatest_divisor fd_find_minimal fd_seats_with_minimums fd_law_cell_u fd_law_numbers_u fd_law_common_u fd_law_frac_u fd_law_plus_u fd_law_times_u fd_law_less_u fd_law_same_u fd_law_are_whole_u fd_law_rule_u fd_law_square_u fd_law_strict_u fd_law_with_minimums_u fd_law_word_u fd_law_due_word_u fd_law_told_u fd_law u_MOST_MINIMUMS u_ZERO) : FnOk P w K mg base CX0 4 f_law_square_u fd_law_square_u ["rule", "k"] (spD ⟨P, w, K⟩ 2 φ_law_square_u) :=
  fn_ok (n := 2) (m := 3) (h := b_law_square_u) T.F_law_square_u sc_law_square_u (by rfl) (by rfl) fun cdv A outer s H E hr =>
    (ds_cons (ds_if (dt_cmp (od_eq hr.units) (de_subs (hu_of hr) (de_var 0) de_int) de_str) (ds_cons (ds_set 2 sc_law_square_u.nd (de_call (ok_law_plus_u T) hr T.m_law_plus_u T.F_law_plus_u.kp T.b_law_plus_u pass0 len_law_plus_u (da_cons (de_tup (da_cons (de_var 1) (da_cons de_int da_nil))) (da_cons (de_subs (hu_of hr) (de_var 0) de_int) da_nil))))
    (ds_one (ds_frz [2] (ds_ret (de_call (ok_law_times_u T) hr T.m_law_times_u T.F_law_times_u.kp T.b_law_times_u pass0 len_law_times_u (da_cons (de_var 2) (da_cons (de_var 2) da_nil))))))) ds_nil)
    (ds_cons (ds_if (dt_cmp (od_eq hr.units) (de_subs (hu_of hr) (de_var 0) de_int) de_str) (ds_one (ds_ret (de_tup (da_cons (de_op od_mul (de_var 1) (de_op od_add (de_var 1) de_int)) (da_cons de_int da_nil))))) ds_nil)
    (ds_cons (ds_set 2 sc_law_square_u.nd (de_call (ok_law_frac_u T) (hr.mono (by decide)) T.m_law_frac_u T.F_law_frac_u.kp T.b_law_frac_u pass0 len_law_frac_u (da_cons (de_op od_mul (de_op od_mul de_int (de_var 1)) (de_op od_add (de_var 1) de_int)) (da_cons (de_op od_add (de_op od_mul de_int (de_var 1)) de_int) da_nil))))
    (ds_one (ds_frz [2] (ds_ret (de_call (ok_law_times_u T) hr T.m_law_times_u T.F_law_times_u.kp T.b_law_times_u pass0 len_law_times_u (da_cons (de_var 2) (da_cons (de_var 2) da_nil)))))))))
theorem ok_law_strict_u (T : Txt K mg f_is_whole f_fraction f_whole f_plus f_times f_over f_is_less f_square f_is_strict f_square_of f_is_above f_first_lacking f_next_ratio f_least_of f_greatest_of f_is_next f_next_party f_first_seats f_check_minimums f_first_less f_bars_minimal f_first_barring f_free_ratio f_greatest_divisor f_find_minimal f_seats_with_minimums f_law_cell_u f_law_numbers_u f_law_common_u f_law_frac_u f_law_plus_u f_law_times_u f_law_less_u f_law_same_u f_law_are_whole_u f_law_rule_u f_law_square_u f_law_strict_u f_law_with_minimums_u f_law_word_u f_law_due_word_u f_law_told_u f_law c_InvalidMinimums c_SeatError c_TooFewSeats c_WrongCount fd_is_whole fd_fraction fd_whole fd_plus fd_times fd_over fd_is_less fd_square fd_is_strict fd_square_of fd_is_above fd_first_lacking fd_next_ratio fd_least_of fd_greatest_of fd_is_next fd_next_party fd_first_seats fd_check_minimums fd_first_less fd_bars_minimal fd_first_barring fd_free_ratio fd_greatest_divisor fd_find_minimal fd_seats_with_minimums fd_law_cell_u fd_law_numbers_u fd_law_common_u fd_law_frac_u fd_law_plus_u fd_law_times_u fd_law_less_u fd_law_same_u fd_law_are_whole_u fd_law_rule_u fd_law_square_u fd_law_strict_u fd_law_with_minimums_u fd_law_word_u fd_law_due_word_u fd_law_told_u fd_law u_MOST_MINIMUMS u_ZERO) : FnOk P w K mg base CX0 5 f_law_strict_u fd_law_strict_u ["rule"] (spD ⟨P, w, K⟩ 1 φ_law_strict_u) :=
  fn_ok (n := 1) (m := 1) (h := b_law_strict_u) T.F_law_strict_u sc_law_strict_u (by rfl) (by rfl) fun cdv A outer s H E hr =>
    (ds_one (ds_ret (de_cmp (od_eq hr.units) (de_call (ok_law_square_u T) hr T.m_law_square_u T.F_law_square_u.kp T.b_law_square_u pass0 len_law_square_u (da_cons (de_var 0) (da_cons de_int da_nil))) (de_tup (da_cons de_int (da_cons de_int da_nil))))))
theorem ok_law_with_minimums_u (T : Txt K mg f_is_whole f_fraction f_whole f_plus f_times f_over f_is_less f_square f_is_strict f_square_of f_is_above f_first_lacking f_next_ratio f_least_of f_greatest_of f_is_next f_next_party f_first_seats f_check_minimums f_first_less f_bars_minimal f_first_barring f_free_ratio f_greatest_divisor f_find_minimal f_seats_with_minimums f_law_cell_u f_law_numbers_u f_law_common_u f_law_frac_u f_law_plus_u f_law_times_u f_law_less_u f_law_same_u f_law_are_whole_u f_law_rule_u f_law_square_u f_law_strict_u f_law_with_minimums_u f_law_word_u f_law_due_word_u f_law_told_u f_law c_InvalidMinimums c_SeatError c_TooFewSeats c_WrongCount fd_is_whole fd_fraction fd_whole fd_plus fd_times fd_over fd_is_less fd_square fd_is_strict fd_square_of fd_is_above fd_first_lacking fd_next_ratio fd_least_of fd_greatest_of fd_is_next fd_next_party fd_first_seats fd_check_minimums fd_first_less fd_bars_minimal fd_first_barring fd_free_ratio fd_greatest_divisor fd_find_minimal fd_seats_with_minimums fd_law_cell_u fd_law_numbers_u fd_law_common_u fd_law_frac_u fd_law_plus_u fd_law_times_u fd_law_less_u fd_law_same_u fd_law_are_whole_u fd_law_rule_u fd_law_square_u fd_law_strict_u fd_law_with_minimums_u fd_law_word_u fd_law_due_word_u fd_law_told_u fd_law u_MOST_MINIMUMS u_ZERO) : FnOk P w K mg base CX0 5 f_law_with_minimums_u fd_law_with_minimums_u ["votes", "rule", "minimums", "house"] (spD ⟨P, w, K⟩ 4 φ_law_with_minimums_u) :=
  fn_ok (n := 4) (m := 12) (h := b_law_with_minimums_u) T.F_law_with_minimums_u sc_law_with_minimums_u (by rfl) (by rfl) fun cdv A outer s H E hr =>
    (ds_cons (ds_set 4 sc_law_with_minimums_u.nd (de_bltT (cd_list rfl) T.z_list (by decide +kernel) (dv_cons (de_var 2) dv_nil)))
    (ds_cons (ds_for PassesOwn.never rfl (di_rng1 T.z_range (de_op od_sub (de_var 3) (de_bltB (cd_sum rfl) T.z_sum (by decide +kernel) (dv_cons (de_var 2) dv_nil)))) (dg_nm 5 sc_law_with_minimums_u.nd) (dss_fgt [5, 6, 7, 8, 9, 10, 11] (ds_cons (ds_set 6 sc_law_with_minimums_u.nd de_int)
    (ds_cons (ds_for PassesOwn.never rfl (di_rng2 T.z_range de_int (de_bltB cd_len T.z_len PySem.boot_len (dv_cons (de_var 0) dv_nil))) (dg_nm 7 sc_law_with_minimums_u.nd) (dss_fgt [7, 8, 9, 10, 11] (ds_cons (ds_set 8 sc_law_with_minimums_u.nd (de_call (ok_law_square_u T) hr T.m_law_square_u T.F_law_square_u.kp T.b_law_square_u pass0 len_law_square_u (da_cons (de_var 1) (da_cons (de_subs (hu_of hr) (de_var 4) (de_var 7)) da_nil))))
    (ds_cons (ds_set 9 sc_law_with_minimums_u.nd (de_call (ok_law_square_u T) hr T.m_law_square_u T.F_law_square_u.kp T.b_law_square_u pass0 len_law_square_u (da_cons (de_var 1) (da_cons (de_subs (hu_of hr) (de_var 4) (de_var 6)) da_nil))))
    (ds_cons (ds_frz [9] (ds_set 10 sc_law_with_minimums_u.nd (de_call (ok_law_times_u T) (hr.mono (by decide)) T.m_law_times_u T.F_law_times_u.kp T.b_law_times_u pass0 len_law_times_u (da_cons (de_tup (da_cons (de_op od_mul (de_subs (hu_of hr) (de_var 0) (de_var 7)) (de_subs (hu_of hr) (de_var 0) (de_var 7))) (da_cons de_int da_nil))) (da_cons (de_var 9) da_nil)))))
    (ds_cons (ds_frz [8] (ds_set 11 sc_law_with_minimums_u.nd (de_call (ok_law_times_u T) (hr.mono (by decide)) T.m_law_times_u T.F_law_times_u.kp T.b_law_times_u pass0 len_law_times_u (da_cons (de_tup (da_cons (de_op od_mul (de_subs (hu_of hr) (de_var 0) (de_var 6)) (de_subs (hu_of hr) (de_var 0) (de_var 6))) (da_cons de_int da_nil))) (da_cons (de_var 8) da_nil)))))
    (ds_one (ds_if (DW.dt (dw_and (dt_cmp (od_eq hr.units) (de_subs (hu_of hr) (de_var 8) de_int) de_int) (dw_and1 (dt_cmp (od_eq hr.units) (de_subs (hu_of hr) (de_var 9) de_int) de_int)))) (ds_one (ds_if (dt_cmp (od_gtD hr.units) (de_subs (hu_of hr) (de_var 0) (de_var 7)) (de_subs (hu_of hr) (de_var 0) (de_var 6))) (ds_one (ds_set 6 sc_law_with_minimums_u.nd (de_var 7))) ds_nil)) (ds_one (ds_if (dt_val (de_sc (de_call (ok_law_less_u T) (hr.mono (by decide)) T.m_law_less_u T.F_law_less_u.kp T.b_law_less_u pass0 len_law_less_u (da_cons (de_var 11) (da_cons (de_var 10) da_nil))))) (ds_one (ds_set 6 sc_law_with_minimums_u.nd (de_var 7))) ds_nil))))))))))
    (ds_one (ds_put 4 (hu_of hr) (de_var 6) (de_op od_add (de_subs (hu_of hr) (de_var 4) (de_var 6)) de_int)))))))
    (ds_one (ds_ret (de_var 4)))))
theorem ok_law_word_u (T : Txt K mg f_is_whole f_fraction f_whole f_plus f_times f_over f_is_less f_square f_is_strict f_square_of f_is_above f_first_lacking f_next_ratio f_least_of f_greatest_of f_is_next f_next_party f_first_seats f_check_minimums f_first_less f_bars_minimal f_first_barring f_free_ratio f_greatest_divisor f_find_minimal f_seats_with_minimums f_law_cell_u f_law_numbers_u f_law_common_u f_law_frac_u f_law_plus_u f_law_times_u f_law_less_u f_law_same_u f_law_are_whole_u f_law_rule_u f_law_square_u f_law_strict_u f_law_with_minimums_u f_law_word_u f_law_due_word_u f_law_told_u f_law c_InvalidMinimums c_SeatError c_TooFewSeats c_WrongCount fd_is_whole fd_fraction fd_whole fd_plus fd_times fd_over fd_is_less fd_square fd_is_strict fd_square_of fd_is_above fd_first_lacking fd_next_ratio fd_least_of fd_greatest_of fd_is_next fd_next_party fd_first_seats fd_check_minimums fd_first_less fd_bars_minimal fd_first_barring fd_free_ratio fd_greatest_divisor fd_find_minimal fd_seats_with_minimums fd_law_cell_u fd_law_numbers_u fd_law_common_u fd_law_frac_u fd_law_plus_u fd_law_times_u fd_law_less_u fd_law_same_u fd_law_are_whole_u fd_law_rule_u fd_law_square_u fd_law_strict_u fd_law_with_minimums_u fd_law_word_u fd_law_due_word_u fd_law_told_u fd_law u_MOST_MINIMUMS u_ZERO) : FnOk P w K mg base CX0 3 f_law_word_u fd_law_word_u ["votes", "minimums"] (spD ⟨P, w, K⟩ 2 φ_law_word_u) :=
  fn_ok (n := 2) (m := 3) (h := b_law_word_u) T.F_law_word_u sc_law_word_u (by rfl) (by rfl) fun cdv A outer s H E hr =>
    (ds_one (ds_tryN sc_law_word_u.nd (fun W pn xe tk => (dx_one (dx_ret (dex_ix (de_lst (da_cons de_str (da_cons de_str da_nil))) (dex_bltT cd_int T.z_int (by decide +kernel) (dex_cmpL od_isN (dex_call tk (okx_check_minimums T) hr T.m_check_minimums T.F_check_minimums.kp T.b_check_minimums lenx_check_minimums (da_cons (de_var 0) (da_cons (de_var 1) da_nil))) de_non)))))) (.cons T.m_c_WrongCount (by rfl) (by decide) (mvT_of T.m_c_WrongCount) (exm_of T.y_WrongCount T.k_WrongCount_WrongCount) (List.forall_mem_cons.mpr ⟨⟨_, mvT_of T.m_c_InvalidMinimums, exm_of T.y_WrongCount T.k_InvalidMinimums_WrongCount⟩, (List.forall_mem_nil _)⟩) ⟨rfl, rfl⟩ (fun a Γ => by unfold lb_law_word_u_1; simp) (fun a oe pn hz hv => (ds_one (ds_ret (de_subs (have q := hu_of hr; q) (de_lst (da_cons de_str (da_cons de_str da_nil))) (de_bltT cd_int T.z_int (by decide +kernel) (dv_cons (de_or (de_not (de_isX 2 T.n_WrongCount hz hv (kit_of T.y_SeatError T.k_WrongCount_SeatError) T.z_isinstance T.m_c_SeatError)) (de_one (de_isX 2 T.n_WrongCount hz hv (kit_of T.y_InvalidMinimums T.k_WrongCount_InvalidMinimums) T.z_isinstance T.m_c_InvalidMinimums))) dv_nil)))))) (.cons T.m_c_InvalidMinimums (by rfl) (by decide) (mvT_of T.m_c_InvalidMinimums) (exm_of T.y_InvalidMinimums T.k_InvalidMinimums_InvalidMinimums) (List.forall_mem_nil _) ⟨rfl, rfl⟩ (fun a Γ => by unfold lb_law_word_u_2; simp) (fun a oe pn hz hv => (ds_one (ds_ret (de_subs (have q := hu_of hr; q) (de_lst (da_cons de_str (da_cons de_str da_nil))) (de_bltT cd_int T.z_int (by decide +kernel) (dv_cons (de_or (de_not (de_isX 2 T.n_InvalidMinimums hz hv (kit_of T.y_SeatError T.k_InvalidMinimums_SeatError) T.z_isinstance T.m_c_SeatError)) (de_one (de_isX 2 T.n_InvalidMinimums hz hv (kit_of T.y_TooFewSeats T.k_InvalidMinimums_TooFewSeats) T.z_isinstance T.m_c_TooFewSeats))) dv_nil)))))) .nil))))
theorem ok_law_due_word_u (T : Txt K mg f_is_whole f_fraction f_whole f_plus f_times f_over f_is_less f_square f_is_strict f_square_of f_is_above f_first_lacking f_next_ratio f_least_of f_greatest_of f_is_next f_next_party f_first_seats f_check_minimums f_first_less f_bars_minimal f_first_barring f_free_ratio f_greatest_divisor f_find_minimal f_seats_with_minimums f_law_cell_u f_law_numbers_u f_law_common_u f_law_frac_u f_law_plus_u f_law_times_u f_law_less_u f_law_same_u f_law_are_whole_u f_law_rule_u f_law_square_u f_law_strict_u f_law_with_minimums_u f_law_word_u f_law_due_word_u f_law_told_u f_law c_InvalidMinimums c_SeatError c_TooFewSeats c_WrongCount fd_is_whole fd_fraction fd_whole fd_plus fd_times fd_over fd_is_less fd_square fd_is_strict fd_square_of fd_is_above fd_first_lacking fd_next_ratio fd_least_of fd_greatest_of fd_is_next fd_next_party fd_first_seats fd_check_minimums fd_first_less fd_bars_minimal fd_first_barring fd_free_ratio fd_greatest_divisor fd_find_minimal fd_seats_with_minimums fd_law_cell_u fd_law_numbers_u fd_law_common_u fd_law_frac_u fd_law_plus_u fd_law_times_u fd_law_less_u fd_law_same_u fd_law_are_whole_u fd_law_rule_u fd_law_square_u fd_law_strict_u fd_law_with_minimums_u fd_law_word_u fd_law_due_word_u fd_law_told_u fd_law u_MOST_MINIMUMS u_ZERO) : FnOk P w K mg base CX0 2 f_law_due_word_u fd_law_due_word_u ["votes", "minimums"] (spD ⟨P, w, K⟩ 2 φ_law_due_word_u) :=
  fn_ok (n := 2) (m := 3) (h := b_law_due_word_u) T.F_law_due_word_u sc_law_due_word_u (by rfl) (by rfl) fun cdv A outer s H E hr =>
    (ds_cons (ds_if (dt_cmp (od_ne hr.units) (de_bltB cd_len T.z_len PySem.boot_len (dv_cons (de_var 1) dv_nil)) (de_bltB cd_len T.z_len PySem.boot_len (dv_cons (de_var 0) dv_nil))) (ds_one (ds_ret de_str)) ds_nil)
    (ds_cons (ds_if (DW.dt (dw_or (dt_not (dt_val (de_sc (de_call (ok_law_are_whole_u T) hr T.m_law_are_whole_u T.F_law_are_whole_u.kp T.b_law_are_whole_u pass0 len_law_are_whole_u (da_cons (de_var 1) da_nil))))) (dw_or (dt_cmp (od_gtD hr.units) (de_bltB cd_len T.z_len PySem.boot_len (dv_cons (de_lc (own := [("number", 2)]) rfl sc_law_due_word_u.nd (di_seq (de_var 1)) (blkOk_by (N := N_law_due_word_u) (sc := (defScope s_law_due_word_u)) (by decide +kernel)) (fun _ _ _ _ _ => (dg_nm 2 sc_law_due_word_u.nd)) (fun _ _ _ _ _ => (dts_one (dt_cmp (od_ltD hr.units0) (de_var 2) de_int))) (fun _ _ _ _ _ => (de_var 2)) (by decide)) dv_nil)) de_int) (dw_or1 (dt_cmp (od_gtD hr.units) (de_bltB (cd_sum rfl) T.z_sum (by decide +kernel) (dv_cons (de_var 1) dv_nil)) de_int))))) (ds_one (ds_ret de_str)) ds_nil)
    (ds_one (ds_ret de_str))))
theorem ok_law_told_u (T : Txt K mg f_is_whole f_fraction f_whole f_plus f_times f_over f_is_less f_square f_is_strict f_square_of f_is_above f_first_lacking f_next_ratio f_least_of f_greatest_of f_is_next f_next_party f_first_seats f_check_minimums f_first_less f_bars_minimal f_first_barring f_free_ratio f_greatest_divisor f_find_minimal f_seats_with_minimums f_law_cell_u f_law_numbers_u f_law_common_u f_law_frac_u f_law_plus_u f_law_times_u f_law_less_u f_law_same_u f_law_are_whole_u f_law_rule_u f_law_square_u f_law_strict_u f_law_with_minimums_u f_law_word_u f_law_due_word_u f_law_told_u f_law c_InvalidMinimums c_SeatError c_TooFewSeats c_WrongCount fd_is_whole fd_fraction fd_whole fd_plus fd_times fd_over fd_is_less fd_square fd_is_strict fd_square_of fd_is_above fd_first_lacking fd_next_ratio fd_least_of fd_greatest_of fd_is_next fd_next_party fd_first_seats fd_check_minimums fd_first_less fd_bars_minimal fd_first_barring fd_free_ratio fd_greatest_divisor fd_find_minimal fd_seats_with_minimums fd_law_cell_u fd_law_numbers_u fd_law_common_u fd_law_frac_u fd_law_plus_u fd_law_times_u fd_law_less_u fd_law_same_u fd_law_are_whole_u fd_law_rule_u fd_law_square_u fd_law_strict_u fd_law_with_minimums_u fd_law_word_u fd_law_due_word_u fd_law_told_u fd_law u_MOST_MINIMUMS u_ZERO) : FnOk P w K mg base CX0 8 f_law_told_u fd_law_told_u ["votes", "rule", "minimums", "house"] (spD ⟨P, w, K⟩ 4 φ_law_told_u) :=
  fn_ok (n := 4) (m := 5) (h := b_law_told_u) T.F_law_told_u sc_law_told_u (by rfl) (by rfl) fun cdv A outer s H E hr =>
    (ds_one (ds_tryA 4 sc_law_told_u.nd T.m_c_TooFewSeats (mvT_of T.m_c_TooFewSeats) (exm_of T.y_TooFewSeats T.k_TooFewSeats_TooFewSeats) (fun W pn xe tk => (dx_one (dx_ret (dex_call tk (okx_seats_with_minimums T) hr T.m_seats_with_minimums T.F_seats_with_minimums.kp T.b_seats_with_minimums lenx_seats_with_minimums (da_cons (de_var 0) (da_cons (de_var 1) (da_cons (de_var 2) (da_cons (de_var 3) da_nil)))))))) (fun a oe pn hz hv => (ds_one (ds_ret (de_subs (have q := hu_of hr; q) (de_lst (da_cons de_str (da_cons de_str da_nil))) (de_bltT cd_int T.z_int (by decide +kernel) (dv_cons (de_or (de_not (de_isX 4 T.n_TooFewSeats hz hv (kit_of T.y_SeatError T.k_TooFewSeats_SeatError) T.z_isinstance T.m_c_SeatError)) (de_one (de_isX 4 T.n_TooFewSeats hz hv (kit_of T.y_WrongCount T.k_TooFewSeats_WrongCount) T.z_isinstance T.m_c_WrongCount))) dv_nil)))))) (fun a Γ => by unfold lb_law_told_u_1; simp)))
theorem ok_law (T : Txt K mg f_is_whole f_fraction f_whole f_plus f_times f_over f_is_less f_square f_is_strict f_square_of f_is_above f_first_lacking f_next_ratio f_least_of f_greatest_of f_is_next f_next_party f_first_seats f_check_minimums f_first_less f_bars_minimal f_first_barring f_free_ratio f_greatest_divisor f_find_minimal f_seats_with_minimums f_law_cell_u f_law_numbers_u f_law_common_u f_law_frac_u f_law_plus_u f_law_times_u f_law_less_u f_law_same_u f_law_are_whole_u f_law_rule_u f_law_square_u f_law_strict_u f_law_with_minimums_u f_law_word_u f_law_due_word_u f_law_told_u f_law c_InvalidMinimums c_SeatError c_TooFewSeats c_WrongCount fd_is_whole fd_fraction fd_whole fd_plus fd_times fd_over fd_is_less fd_square fd_is_strict fd_square_of fd_is_above fd_first_lacking fd_next_ratio fd_least_of fd_greatest_of fd_is_next fd_next_party fd_first_seats fd_check_minimums fd_first_less fd_bars_minimal fd_first_barring fd_free_ratio fd_greatest_divisor fd_find_minimal fd_seats_with_minimums fd_law_cell_u fd_law_numbers_u fd_law_common_u fd_law_frac_u fd_law_plus_u fd_law_times_u fd_law_less_u fd_law_same_u fd_law_are_whole_u fd_law_rule_u fd_law_square_u fd_law_strict_u fd_law_with_minimums_u fd_law_word_u fd_law_due_word_u fd_law_told_u fd_law u_MOST_MINIMUMS u_ZERO) : FnG P w K mg base 13 f_law fd_law ["script"] (spD ⟨P, w, K⟩ 1 φ_law) :=
  fn_okG (n := 1) (m := 20) (h := b_law) T.F_law sc_law (by rfl) (by rfl) fun cdv A outer s H E hr hG =>
    (ds_cons (ds_set 1 sc_law.nd (de_call (ok_law_numbers_u T) (hr.mono (by decide)) T.m_law_numbers_u T.F_law_numbers_u.kp T.b_law_numbers_u pass0 len_law_numbers_u (da_cons (de_sc (de_call (ok_law_cell_u T) (hr.mono (by decide)) T.m_law_cell_u T.F_law_cell_u.kp T.b_law_cell_u pass0 len_law_cell_u (da_cons (de_var 0) (da_cons de_int da_nil)))) (da_cons de_int (da_cons de_int da_nil)))))
    (ds_cons (ds_frz [1] (ds_set 2 sc_law.nd (de_call (ok_law_rule_u T) (hr.mono (by decide)) T.m_law_rule_u T.F_law_rule_u.kp T.b_law_rule_u pass0 len_law_rule_u (da_cons (de_var 1) (da_cons de_int da_nil)))))
    (ds_cons (ds_set 3 sc_law.nd (de_op od_add de_int (de_op od_mod (de_subs (hu_of hr) (de_var 1) de_int) de_int)))
    (ds_cons (ds_setLc 4 (own := [("k", 5)]) rfl sc_law.nd (di_rng1 T.z_range (de_var 3)) (blkOk_by (N := N_law) (sc := (defScope s_law)) (by decide +kernel)) (fun _ _ _ _ _ => (dg_nm 5 sc_law.nd)) (fun _ _ _ _ _ => dts_nil) (fun _ _ _ _ _ => (de_op od_add de_int (de_op od_mod (de_subs (hu_of hr) (de_var 1) (de_op od_add de_int (de_var 5))) (de_subs (hu_of hr) (de_lst (da_cons de_int (da_cons de_int (da_cons de_int da_nil)))) (de_op od_mod (de_subs (hu_of hr) (de_var 1) de_int) de_int))))) (by decide) (sw_true rfl rfl rfl (by decide +kernel)))
    (ds_cons (ds_setLc 6 (own := [("k", 5)]) rfl sc_law.nd (di_rng1 T.z_range (de_var 3)) (blkOk_by (N := N_law) (sc := (defScope s_law)) (by decide +kernel)) (fun _ _ _ _ _ => (dg_nm 5 sc_law.nd)) (fun _ _ _ _ _ => dts_nil) (fun _ _ _ _ _ => (de_op od_mod (de_subs (hu_of hr) (de_var 1) (de_op od_add de_int (de_var 5))) (de_subs (hu_of hr) (de_lst (da_cons de_int (da_cons de_int (da_cons de_int da_nil)))) (de_op od_mod (de_subs (hu_of hr) (de_var 1) de_int) de_int)))) (by decide) (sw_true rfl rfl rfl (by decide +kernel)))
    (ds_cons (ds_frz [4, 6] (ds_set 7 sc_law.nd (de_repr hG hr T.z_repr (de_tup (da_cons (de_var 4) (da_cons (de_var 6) da_nil))))))
    (ds_cons (ds_set 8 sc_law.nd (de_op od_mod (de_subs (hu_of hr) (de_var 1) de_int) (de_var 3)))
    (ds_cons (ds_frz [6] (ds_set 9 sc_law.nd (de_lst (da_cons (de_var 6) (da_cons (de_slice (de_var 6) (do_some de_int) do_none) (da_cons (de_op od_add (de_var 6) (de_lst (da_cons de_int da_nil))) (da_cons (de_lst da_nil) (da_cons (de_op od_add (de_lst (da_cons de_int da_nil)) (de_lc (own := [("k", 5)]) rfl sc_law.nd (di_rng1 T.z_range (de_op od_sub (de_var 3) de_int)) (blkOk_by (N := N_law) (sc := (defScope s_law)) (by decide +kernel)) (fun _ _ _ _ _ => (dg_nm 5 sc_law.nd)) (fun _ _ _ _ _ => dts_nil) (fun _ _ _ _ _ => de_int) (by decide))) (da_cons (de_op od_add (de_lst (da_cons de_int da_nil)) (de_lc (own := [("k", 5)]) rfl sc_law.nd (di_rng1 T.z_range (de_op od_sub (de_var 3) de_int)) (blkOk_by (N := N_law) (sc := (defScope s_law)) (by decide +kernel)) (fun _ _ _ _ _ => (dg_nm 5 sc_law.nd)) (fun _ _ _ _ _ => dts_nil) (fun _ _ _ _ _ => de_int) (by decide))) (da_cons (de_lc (own := [("k", 5)]) rfl sc_law.nd (di_rng1 T.z_range (de_var 3)) (blkOk_by (N := N_law) (sc := (defScope s_law)) (by decide +kernel)) (fun _ _ _ _ _ => (dg_nm 5 sc_law.nd)) (fun _ _ _ _ _ => dts_nil) (fun _ _ _ _ _ => (de_op od_fdiv de_int (de_var 3))) (by decide)) (da_cons (de_lc (own := [("k", 5)]) rfl sc_law.nd (di_rng1 T.z_range (de_op od_add (de_var 3) de_int)) (blkOk_by (N := N_law) (sc := (defScope s_law)) (by decide +kernel)) (fun _ _ _ _ _ => (dg_nm 5 sc_law.nd)) (fun _ _ _ _ _ => dts_nil) (fun _ _ _ _ _ => de_non) (by decide)) da_nil)))))))))))
    (ds_cons (ds_for PassesOwn.never rfl (di_seq (de_lst (da_cons (de_neg de_int) (da_cons de_bl (da_cons de_non (da_cons de_str (da_cons (de_tup (da_cons de_int da_nil)) (da_cons (de_op od_pow de_int de_int) (da_cons (de_lst (da_cons de_int da_nil)) da_nil))))))))) (dg_nm 10 sc_law.nd) (dss_fgt [10] (ds_one (ds_app 9 (de_op od_add (de_op od_add (de_slice (de_var 6) (do_some de_int) (do_some (de_var 8))) (de_lst (da_cons (de_var 10) da_nil))) (de_slice (de_var 6) (do_some (de_op od_add (de_var 8) de_int)) do_none))))))
    (ds_cons (ds_frz [9] (ds_for PassesOwn.never rfl (di_seq (de_var 9)) (dg_nm 11 sc_law.nd) (dss_fgt [11] (ds_one (ds_frz [4] (ds_if (dt_cmp (od_ne hr.units) (de_call (ok_law_word_u T) (hr.mono (by decide)) T.m_law_word_u T.F_law_word_u.kp T.b_law_word_u pass0 len_law_word_u (da_cons (de_var 4) (da_cons (de_var 11) da_nil))) (de_sc (de_call (ok_law_due_word_u T) (hr.mono (by decide)) T.m_law_due_word_u T.F_law_due_word_u.kp T.b_law_due_word_u pass0 len_law_due_word_u (da_cons (de_var 4) (da_cons (de_var 11) da_nil))))) (ds_one (ds_ret de_bl)) ds_nil))))))
    (ds_cons (ds_set 12 sc_law.nd (de_op od_mod (de_subs (hu_of hr) (de_var 1) de_int) de_int))
    (ds_cons (ds_if (dt_cmp (od_eq hr.units) (de_op od_mod (de_subs (hu_of hr) (de_var 1) de_int) de_int) de_int) (ds_one (ds_set 12 sc_law.nd (de_op od_mod (de_subs (hu_of hr) (de_var 1) de_int) de_int))) ds_nil)
    (ds_cons (ds_frz [6] (ds_for PassesOwn.never rfl (di_seq (de_lst (da_cons (de_tup (da_cons (de_var 6) (da_cons (de_var 12) da_nil))) (da_cons (de_tup (da_cons (de_lc (own := [("k", 5)]) rfl sc_law.nd (di_rng1 T.z_range (de_var 3)) (blkOk_by (N := N_law) (sc := (defScope s_law)) (by decide +kernel)) (fun _ _ _ _ _ => (dg_nm 5 sc_law.nd)) (fun _ _ _ _ _ => dts_nil) (fun _ _ _ _ _ => de_int) (by decide)) (da_cons (de_var 12) da_nil))) (da_cons (de_tup (da_cons (de_var 6) (da_cons (de_bltB (cd_sum rfl) T.z_sum (by decide +kernel) (dv_cons (de_var 6) dv_nil)) da_nil))) (da_cons (de_tup (da_cons (de_var 6) (da_cons (de_op od_add (de_bltB (cd_sum rfl) T.z_sum (by decide +kernel) (dv_cons (de_var 6) dv_nil)) (de_count (de_var 6) de_int)) da_nil))) da_nil)))))) (dg_tp rfl (dgs_cons (dg_nm 13 sc_law.nd) (dgs_cons (dg_nm 14 sc_law.nd) dgs_nil))) (dss_fgt [13, 14, 15, 16, 17, 18, 19] (ds_cons (ds_set 15 sc_law.nd (de_op od_sub (de_var 14) (de_bltB (cd_sum rfl) T.z_sum (by decide +kernel) (dv_cons (de_var 13) dv_nil))))
    (ds_cons (ds_set 16 sc_law.nd de_str)
    (ds_cons (ds_if (DW.dt (dw_and (dt_cmp (od_geD hr.units) (de_var 15) de_int) (dw_and1 (DW.dt (dw_or (dt_not (dt_val (de_sc (de_call (ok_law_strict_u T) (hr.mono (by decide)) T.m_law_strict_u T.F_law_strict_u.kp T.b_law_strict_u pass0 len_law_strict_u (da_cons (de_var 2) da_nil))))) (dw_or1 (dt_cmp (od_geD hr.units) (de_var 15) (de_count (de_var 13) de_int)))))))) (ds_one (ds_frz [4, 2] (ds_set 16 sc_law.nd (de_call (ok_law_with_minimums_u T) (hr.mono (by decide)) T.m_law_with_minimums_u T.F_law_with_minimums_u.kp T.b_law_with_minimums_u pass0 len_law_with_minimums_u (da_cons (de_var 4) (da_cons (de_var 2) (da_cons (de_var 13) (da_cons (de_var 14) da_nil)))))))) ds_nil)
    (ds_cons (ds_frz [4, 2] (ds_set 17 sc_law.nd (de_call (ok_law_told_u T) (hr.mono (by decide)) T.m_law_told_u T.F_law_told_u.kp T.b_law_told_u pass0 len_law_told_u (da_cons (de_var 4) (da_cons (de_var 2) (da_cons (de_var 13) (da_cons (de_var 14) da_nil)))))))
    (ds_cons (ds_frz [4, 6] (ds_if (DW.dt (dw_or (dt_not (dt_val (de_sc (de_call (ok_law_same_u T) hr T.m_law_same_u T.F_law_same_u.kp T.b_law_same_u pass0 len_law_same_u (da_cons (de_var 17) (da_cons (de_var 16) da_nil)))))) (dw_or1 (dt_cmp (od_ne hr.units) (de_repr hG hr T.z_repr (de_tup (da_cons (de_var 4) (da_cons (de_var 6) da_nil)))) (de_var 7))))) (ds_one (ds_ret de_bl)) ds_nil))
    (ds_one (ds_if (dt_cmp (od_ne hr.units) (de_var 16) de_str) (ds_cons (ds_frz [4, 2, 16] (ds_if (DW.dt (dw_or (DW.dt (dw_and (dt_cmp (od_gtD hr.units) (de_var 14) de_int) (dw_and1 (dt_cmp (od_ne hr.units) (de_subs (hu_of hr) (de_call (ok_find_minimal T) (hr.mono (by decide)) T.m_find_minimal T.F_find_minimal.kp T.b_find_minimal pass0 len_find_minimal (da_cons (de_var 4) (da_cons (de_var 2) (da_cons (de_var 13) (da_cons (de_var 16) da_nil))))) de_int) de_str)))) (dw_or1 (DW.dt (dw_and (dt_cmp (od_eq hr.units) (de_bltB (cd_max rfl) T.z_max (by decide +kernel) (dv_cons (de_var 13) dv_nil)) de_int) (dw_and1 (dt_not (dt_val (de_sc (de_call (ok_law_same_u T) hr T.m_law_same_u T.F_law_same_u.kp T.b_law_same_u pass0 len_law_same_u (da_cons (de_call (ok_first_seats T) (hr.mono (by decide)) T.m_first_seats T.F_first_seats.kp T.b_first_seats pass0 len_first_seats (da_cons (de_var 4) (da_cons (de_var 2) (da_cons (de_var 14) da_nil)))) (da_cons (de_var 16) da_nil)))))))))))) (ds_one (ds_ret de_bl)) ds_nil))
    (ds_cons (ds_set 18 sc_law.nd (de_op od_add (de_op od_add (de_slice (de_var 13) (do_some de_int) (do_some (de_var 8))) (de_lst (da_cons (de_op od_add (de_subs (hu_of hr) (de_var 13) (de_var 8)) de_int) da_nil))) (de_slice (de_var 13) (do_some (de_op od_add (de_var 8) de_int)) do_none)))
    (ds_cons (ds_frz [4, 2, 18] (ds_set 19 sc_law.nd (de_call (ok_law_told_u T) (hr.mono (by decide)) T.m_law_told_u T.F_law_told_u.kp T.b_law_told_u pass0 len_law_told_u (da_cons (de_var 4) (da_cons (de_var 2) (da_cons (de_var 18) (da_cons (de_var 14) da_nil)))))))
    (ds_cons (ds_if (DW.dt (dw_and (dt_val (de_isi T.z_isinstance T.z_list (de_var 19) (by decide +kernel))) (dw_and1 (dt_cmp (od_ltD hr.units0) (de_subs (hu_of hr) (de_var 19) (de_var 8)) (de_subs (hu_of hr) (de_var 17) (de_var 8)))))) (ds_one (ds_ret de_bl)) ds_nil)
    (ds_one (ds_app 17 de_int)))))) ds_nil))))))))))
    (ds_one (ds_ret de_bl)))))))))))))))
end
set_option maxHeartbeats 0 in
theorem all_mk {l : PySem.W.OpenLaw} {w : World} {K : PySem.W.Frag} {h : Heap} {mg : Str → Option Value} {fa f_is_whole f_fraction f_whole f_plus f_times f_over f_is_less f_square f_is_strict f_square_of f_is_above f_first_lacking f_next_ratio f_least_of f_greatest_of f_is_next f_next_party f_first_seats f_check_minimums f_first_less f_bars_minimal f_first_barring f_free_ratio f_greatest_divisor f_find_minimal f_seats_with_minimums f_law_cell_u f_law_numbers_u f_law_common_u f_law_frac_u f_law_plus_u f_law_times_u f_law_less_u f_law_same_u f_law_are_whole_u f_law_rule_u f_law_square_u f_law_strict_u f_law_with_minimums_u f_law_word_u f_law_due_word_u f_law_told_u f_law c_InvalidMinimums c_SeatError c_TooFewSeats c_WrongCount : Addr} { u_MOST_MINIMUMS u_ZERO : Value} (X : K.In h) (G : h.Ns mainGlobals mg) (hfa : mg "law" = some (.ref fa))
    {od0 an0 : Option Addr} {sl0 : Array (Option Value)} {oc0 kV0 dc0 pm0 cd0 ct0 : Value} {od1 an1 : Option Addr} {sl1 : Array (Option Value)} {oc1 kV1 dc1 pm1 cd1 ct1 : Value} {od2 an2 : Option Addr} {sl2 : Array (Option Value)} {oc2 kV2 dc2 pm2 cd2 ct2 : Value} {od3 an3 : Option Addr} {sl3 : Array (Option Value)} {oc3 kV3 dc3 pm3 cd3 ct3 : Value} {od4 an4 : Option Addr} {sl4 : Array (Option Value)} {oc4 kV4 dc4 pm4 cd4 ct4 : Value} {od5 an5 : Option Addr} {sl5 : Array (Option Value)} {oc5 kV5 dc5 pm5 cd5 ct5 : Value} {od6 an6 : Option Addr} {sl6 : Array (Option Value)} {oc6 kV6 dc6 pm6 cd6 ct6 : Value} {od7 an7 : Option Addr} {sl7 : Array (Option Value)} {oc7 kV7 dc7 pm7 cd7 ct7 : Value} {od8 an8 : Option Addr} {sl8 : Array (Option Value)} {oc8 kV8 dc8 pm8 cd8 ct8 : Value} {od9 an9 : Option Addr} {sl9 : Array (Option Value)} {oc9 kV9 dc9 pm9 cd9 ct9 : Value} {od10 an10 : Option Addr} {sl10 : Array (Option Value)} {oc10 kV10 dc10 pm10 cd10 ct10 : Value} {od11 an11 : Option Addr} {sl11 : Array (Option Value)} {oc11 kV11 dc11 pm11 cd11 ct11 : Value} {od12 an12 : Option Addr} {sl12 : Array (Option Value)} {oc12 kV12 dc12 pm12 cd12 ct12 : Value} {od13 an13 : Option Addr} {sl13 : Array (Option Value)} {oc13 kV13 dc13 pm13 cd13 ct13 : Value} {od14 an14 : Option Addr} {sl14 : Array (Option Value)} {oc14 kV14 dc14 pm14 cd14 ct14 : Value} {od15 an15 : Option Addr} {sl15 : Array (Option Value)} {oc15 kV15 dc15 pm15 cd15 ct15 : Value} {od16 an16 : Option Addr} {sl16 : Array (Option Value)} {oc16 kV16 dc16 pm16 cd16 ct16 : Value} {od17 an17 : Option Addr} {sl17 : Array (Option Value)} {oc17 kV17 dc17 pm17 cd17 ct17 : Value} {od18 an18 : Option Addr} {sl18 : Array (Option Value)} {oc18 kV18 dc18 pm18 cd18 ct18 : Value} {od19 an19 : Option Addr} {sl19 : Array (Option Value)} {oc19 kV19 dc19 pm19 cd19 ct19 : Value} {od20 an20 : Option Addr} {sl20 : Array (Option Value)} {oc20 kV20 dc20 pm20 cd20 ct20 : Value} {od21 an21 : Option Addr} {sl21 : Array (Option Value)} {oc21 kV21 dc21 pm21 cd21 ct21 : Value} {od22 an22 : Option Addr} {sl22 : Array (Option Value)} {oc22 kV22 dc22 pm22 cd22 ct22 : Value} {od23 an23 : Option Addr} {sl23 : Array (Option Value)} {oc23 kV23 dc23 pm23 cd23 ct23 : Value} {od24 an24 : Option Addr} {sl24 : Array (Option Value)} {oc24 kV24 dc24 pm24 cd24 ct24 : Value} {od25 an25 : Option Addr} {sl25 : Array (Option Value)} {oc25 kV25 dc25 pm25 cd25 ct25 : Value} {od26 an26 : Option Addr} {sl26 : Array (Option Value)} {oc26 kV26 dc26 pm26 cd26 ct26 : Value} {od27 an27 : Option Addr} {sl27 : Array (Option Value)} {oc27 kV27 dc27 pm27 cd27 ct27 : Value} {od28 an28 : Option Addr} {sl28 : Array (Option Value)} {oc28 kV28 dc28 pm28 cd28 ct28 : Value} {od29 an29 : Option Addr} {sl29 : Array (Option Value)} {oc29 kV29 dc29 pm29 cd29 ct29 : Value} {od30 an30 : Option Addr} {sl30 : Array (Option Value)} {oc30 kV30 dc30 pm30 cd30 ct30 : Value} {od31 an31 : Option Addr} {sl31 : Array (Option Value)} {oc31 kV31 dc31 pm31 cd31 ct31 : Value} {od32 an32 : Option Addr} {sl32 : Array (Option Value)} {oc32 kV32 dc32 pm32 cd32 ct32 : Value} {od33 an33 : Option Addr} {sl33 : Array (Option Value)} {oc33 kV33 dc33 pm33 cd33 ct33 : Value} {od34 an34 : Option Addr} {sl34 : Array (Option Value)} {oc34 kV34 dc34 pm34 cd34 ct34 : Value} {od35 an35 : Option Addr} {sl35 : Array (Option Value)} {oc35 kV35 dc35 pm35 cd35 ct35 : Value} {od36 an36 : Option Addr} {sl36 : Array (Option Value)} {oc36 kV36 dc36 pm36 cd36 ct36 : Value} {od37 an37 : Option Addr} {sl37 : Array (Option Value)} {oc37 kV37 dc37 pm37 cd37 ct37 : Value} {od38 an38 : Option Addr} {sl38 : Array (Option Value)} {oc38 kV38 dc38 pm38 cd38 ct38 : Value} {od39 an39 : Option Addr} {sl39 : Array (Option Value)} {oc39 kV39 dc39 pm39 cd39 ct39 : Value} {od40 an40 : Option Addr} {sl40 : Array (Option Value)} {oc40 kV40 dc40 pm40 cd40 ct40 : Value} {od41 an41 : Option Addr} {sl41 : Array (Option Value)} {oc41 kV41 dc41 pm41 cd41 ct41 : Value} {od42 an42 : Option Addr} {sl42 : Array (Option Value)} {oc42 kV42 dc42 pm42 cd42 ct42 : Value}
    (a0 : PySem.W.nsIn K mainGlobals "is_whole" = some (some (.ref f_is_whole))) (l0 : K.lookup f_is_whole = some ⟨oc0, od0, .func (PySem.W.fnOf "is_whole" "is_whole" (defArgs s_is_whole) (defBody s_is_whole) (defScope s_is_whole) .none kV0 dc0 pm0 an0 cd0 ct0), sl0⟩) (c0 : PySem.W.codeIn K cd0 "is_whole" = true) (k0 : PySem.W.keepIn K (.ref f_is_whole) = true)
    (a1 : PySem.W.nsIn K mainGlobals "fraction" = some (some (.ref f_fraction))) (l1 : K.lookup f_fraction = some ⟨oc1, od1, .func (PySem.W.fnOf "fraction" "fraction" (defArgs s_fraction) (defBody s_fraction) (defScope s_fraction) .none kV1 dc1 pm1 an1 cd1 ct1), sl1⟩) (c1 : PySem.W.codeIn K cd1 "fraction" = true) (k1 : PySem.W.keepIn K (.ref f_fraction) = true)
    (a2 : PySem.W.nsIn K mainGlobals "whole" = some (some (.ref f_whole))) (l2 : K.lookup f_whole = some ⟨oc2, od2, .func (PySem.W.fnOf "whole" "whole" (defArgs s_whole) (defBody s_whole) (defScope s_whole) .none kV2 dc2 pm2 an2 cd2 ct2), sl2⟩) (c2 : PySem.W.codeIn K cd2 "whole" = true) (k2 : PySem.W.keepIn K (.ref f_whole) = true)
    (a3 : PySem.W.nsIn K mainGlobals "plus" = some (some (.ref f_plus))) (l3 : K.lookup f_plus = some ⟨oc3, od3, .func (PySem.W.fnOf "plus" "plus" (defArgs s_plus) (defBody s_plus) (defScope s_plus) .none kV3 dc3 pm3 an3 cd3 ct3), sl3⟩) (c3 : PySem.W.codeIn K cd3 "plus" = true) (k3 : PySem.W.keepIn K (.ref f_plus) = true)
    (a4 : PySem.W.nsIn K mainGlobals "times" = some (some (.ref f_times))) (l4 : K.lookup f_times = some ⟨oc4, od4, .func (PySem.W.fnOf "times" "times" (defArgs s_times) (defBody s_times) (defScope s_times) .none kV4 dc4 pm4 an4 cd4 ct4), sl4⟩) (c4 : PySem.W.codeIn K cd4 "times" = true) (k4 : PySem.W.keepIn K (.ref f_times) = true)
    (a5 : PySem.W.nsIn K mainGlobals "over" = some (some (.ref f_over))) (l5 : K.lookup f_over = some ⟨oc5, od5, .func (PySem.W.fnOf "over" "over" (defArgs s_over) (defBody s_over) (defScope s_over) .none kV5 dc5 pm5 an5 cd5 ct5), sl5⟩) (c5 : PySem.W.codeIn K cd5 "over" = true) (k5 : PySem.W.keepIn K (.ref f_over) = true)
    (a6 : PySem.W.nsIn K mainGlobals "is_less" = some (some (.ref f_is_less))) (l6 : K.lookup f_is_less = some ⟨oc6, od6, .func (PySem.W.fnOf "is_less" "is_less" (defArgs s_is_less) (defBody s_is_less) (defScope s_is_less) .none kV6 dc6 pm6 an6 cd6 ct6), sl6⟩) (c6 : PySem.W.codeIn K cd6 "is_less" = true) (k6 : PySem.W.keepIn K (.ref f_is_less) = true)
    (a7 : PySem.W.nsIn K mainGlobals "square" = some (some (.ref f_square))) (l7 : K.lookup f_square = some ⟨oc7, od7, .func (PySem.W.fnOf "square" "square" (defArgs s_square) (defBody s_square) (defScope s_square) .none kV7 dc7 pm7 an7 cd7 ct7), sl7⟩) (c7 : PySem.W.codeIn K cd7 "square" = true) (k7 : PySem.W.keepIn K (.ref f_square) = true)
    (a8 : PySem.W.nsIn K mainGlobals "is_strict" = some (some (.ref f_is_strict))) (l8 : K.lookup f_is_strict = some ⟨oc8, od8, .func (PySem.W.fnOf "is_strict" "is_strict" (defArgs s_is_strict) (defBody s_is_strict) (defScope s_is_strict) .none kV8 dc8 pm8 an8 cd8 ct8), sl8⟩) (c8 : PySem.W.codeIn K cd8 "is_strict" = true) (k8 : PySem.W.keepIn K (.ref f_is_strict) = true)
    (a9 : PySem.W.nsIn K mainGlobals "square_of" = some (some (.ref f_square_of))) (l9 : K.lookup f_square_of = some ⟨oc9, od9, .func (PySem.W.fnOf "square_of" "square_of" (defArgs s_square_of) (defBody s_square_of) (defScope s_square_of) .none kV9 dc9 pm9 an9 cd9 ct9), sl9⟩) (c9 : PySem.W.codeIn K cd9 "square_of" = true) (k9 : PySem.W.keepIn K (.ref f_square_of) = true)
    (a10 : PySem.W.nsIn K mainGlobals "is_above" = some (some (.ref f_is_above))) (l10 : K.lookup f_is_above = some ⟨oc10, od10, .func (PySem.W.fnOf "is_above" "is_above" (defArgs s_is_above) (defBody s_is_above) (defScope s_is_above) .none kV10 dc10 pm10 an10 cd10 ct10), sl10⟩) (c10 : PySem.W.codeIn K cd10 "is_above" = true) (k10 : PySem.W.keepIn K (.ref f_is_above) = true)
    (a11 : PySem.W.nsIn K mainGlobals "first_lacking" = some (some (.ref f_first_lacking))) (l11 : K.lookup f_first_lacking = some ⟨oc11, od11, .func (PySem.W.fnOf "first_lacking" "first_lacking" (defArgs s_first_lacking) (defBody s_first_lacking) (defScope s_first_lacking) .none kV11 dc11 pm11 an11 cd11 ct11), sl11⟩) (c11 : PySem.W.codeIn K cd11 "first_lacking" = true) (k11 : PySem.W.keepIn K (.ref f_first_lacking) = true)
    (a12 : PySem.W.nsIn K mainGlobals "next_ratio" = some (some (.ref f_next_ratio))) (l12 : K.lookup f_next_ratio = some ⟨oc12, od12, .func (PySem.W.fnOf "next_ratio" "next_ratio" (defArgs s_next_ratio) (defBody s_next_ratio) (defScope s_next_ratio) .none kV12 dc12 pm12 an12 cd12 ct12), sl12⟩) (c12 : PySem.W.codeIn K cd12 "next_ratio" = true) (k12 : PySem.W.keepIn K (.ref f_next_ratio) = true)
    (a13 : PySem.W.nsIn K mainGlobals "least_of" = some (some (.ref f_least_of))) (l13 : K.lookup f_least_of = some ⟨oc13, od13, .func (PySem.W.fnOf "least_of" "least_of" (defArgs s_least_of) (defBody s_least_of) (defScope s_least_of) .none kV13 dc13 pm13 an13 cd13 ct13), sl13⟩) (c13 : PySem.W.codeIn K cd13 "least_of" = true) (k13 : PySem.W.keepIn K (.ref f_least_of) = true)
    (a14 : PySem.W.nsIn K mainGlobals "greatest_of" = some (some (.ref f_greatest_of))) (l14 : K.lookup f_greatest_of = some ⟨oc14, od14, .func (PySem.W.fnOf "greatest_of" "greatest_of" (defArgs s_greatest_of) (defBody s_greatest_of) (defScope s_greatest_of) .none kV14 dc14 pm14 an14 cd14 ct14), sl14⟩) (c14 : PySem.W.codeIn K cd14 "greatest_of" = true) (k14 : PySem.W.keepIn K (.ref f_greatest_of) = true)
    (a15 : PySem.W.nsIn K mainGlobals "is_next" = some (some (.ref f_is_next))) (l15 : K.lookup f_is_next = some ⟨oc15, od15, .func (PySem.W.fnOf "is_next" "is_next" (defArgs s_is_next) (defBody s_is_next) (defScope s_is_next) .none kV15 dc15 pm15 an15 cd15 ct15), sl15⟩) (c15 : PySem.W.codeIn K cd15 "is_next" = true) (k15 : PySem.W.keepIn K (.ref f_is_next) = true)
    (a16 : PySem.W.nsIn K mainGlobals "next_party" = some (some (.ref f_next_party))) (l16 : K.lookup f_next_party = some ⟨oc16, od16, .func (PySem.W.fnOf "next_party" "next_party" (defArgs s_next_party) (defBody s_next_party) (defScope s_next_party) .none kV16 dc16 pm16 an16 cd16 ct16), sl16⟩) (c16 : PySem.W.codeIn K cd16 "next_party" = true) (k16 : PySem.W.keepIn K (.ref f_next_party) = true)
    (a17 : PySem.W.nsIn K mainGlobals "first_seats" = some (some (.ref f_first_seats))) (l17 : K.lookup f_first_seats = some ⟨oc17, od17, .func (PySem.W.fnOf "first_seats" "first_seats" (defArgs s_first_seats) (defBody s_first_seats) (defScope s_first_seats) .none kV17 dc17 pm17 an17 cd17 ct17), sl17⟩) (c17 : PySem.W.codeIn K cd17 "first_seats" = true) (k17 : PySem.W.keepIn K (.ref f_first_seats) = true)
    (a18 : PySem.W.nsIn K mainGlobals "check_minimums" = some (some (.ref f_check_minimums))) (l18 : K.lookup f_check_minimums = some ⟨oc18, od18, .func (PySem.W.fnOf "check_minimums" "check_minimums" (defArgs s_check_minimums) (defBody s_check_minimums) (defScope s_check_minimums) .none kV18 dc18 pm18 an18 cd18 ct18), sl18⟩) (c18 : PySem.W.codeIn K cd18 "check_minimums" = true) (k18 : PySem.W.keepIn K (.ref f_check_minimums) = true)
    (a19 : PySem.W.nsIn K mainGlobals "first_less" = some (some (.ref f_first_less))) (l19 : K.lookup f_first_less = some ⟨oc19, od19, .func (PySem.W.fnOf "first_less" "first_less" (defArgs s_first_less) (defBody s_first_less) (defScope s_first_less) .none kV19 dc19 pm19 an19 cd19 ct19), sl19⟩) (c19 : PySem.W.codeIn K cd19 "first_less" = true) (k19 : PySem.W.keepIn K (.ref f_first_less) = true)
    (a20 : PySem.W.nsIn K mainGlobals "bars_minimal" = some (some (.ref f_bars_minimal))) (l20 : K.lookup f_bars_minimal = some ⟨oc20, od20, .func (PySem.W.fnOf "bars_minimal" "bars_minimal" (defArgs s_bars_minimal) (defBody s_bars_minimal) (defScope s_bars_minimal) .none kV20 dc20 pm20 an20 cd20 ct20), sl20⟩) (c20 : PySem.W.codeIn K cd20 "bars_minimal" = true) (k20 : PySem.W.keepIn K (.ref f_bars_minimal) = true)
    (a21 : PySem.W.nsIn K mainGlobals "first_barring" = some (some (.ref f_first_barring))) (l21 : K.lookup f_first_barring = some ⟨oc21, od21, .func (PySem.W.fnOf "first_barring" "first_barring" (defArgs s_first_barring) (defBody s_first_barring) (defScope s_first_barring) .none kV21 dc21 pm21 an21 cd21 ct21), sl21⟩) (c21 : PySem.W.codeIn K cd21 "first_barring" = true) (k21 : PySem.W.keepIn K (.ref f_first_barring) = true)
    (a22 : PySem.W.nsIn K mainGlobals "free_ratio" = some (some (.ref f_free_ratio))) (l22 : K.lookup f_free_ratio = some ⟨oc22, od22, .func (PySem.W.fnOf "free_ratio" "free_ratio" (defArgs s_free_ratio) (defBody s_free_ratio) (defScope s_free_ratio) .none kV22 dc22 pm22 an22 cd22 ct22), sl22⟩) (c22 : PySem.W.codeIn K cd22 "free_ratio" = true) (k22 : PySem.W.keepIn K (.ref f_free_ratio) = true)
    (a23 : PySem.W.nsIn K mainGlobals "greatest_divisor" = some (some (.ref f_greatest_divisor))) (l23 : K.lookup f_greatest_divisor = some ⟨oc23, od23, .func (PySem.W.fnOf "greatest_divisor" "greatest_divisor" (defArgs s_greatest_divisor) (defBody s_greatest_divisor) (defScope s_greatest_divisor) .none kV23 dc23 pm23 an23 cd23 ct23), sl23⟩) (c23 : PySem.W.codeIn K cd23 "greatest_divisor" = true) (k23 : PySem.W.keepIn K (.ref f_greatest_divisor) = true)
    (a24 : PySem.W.nsIn K mainGlobals "find_minimal" = some (some (.ref f_find_minimal))) (l24 : K.lookup f_find_minimal = some ⟨oc24, od24, .func (PySem.W.fnOf "find_minimal" "find_minimal" (defArgs s_find_minimal) (defBody s_find_minimal) (defScope s_find_minimal) .none kV24 dc24 pm24 an24 cd24 ct24), sl24⟩) (c24 : PySem.W.codeIn K cd24 "find_minimal" = true) (k24 : PySem.W.keepIn K (.ref f_find_minimal) = true)
    (a25 : PySem.W.nsIn K mainGlobals "seats_with_minimums" = some (some (.ref f_seats_with_minimums))) (l25 : K.lookup f_seats_with_minimums = some ⟨oc25, od25, .func (PySem.W.fnOf "seats_with_minimums" "seats_with_minimums" (defArgs s_seats_with_minimums) (defBody s_seats_with_minimums) (defScope s_seats_with_minimums) .none kV25 dc25 pm25 an25 cd25 ct25), sl25⟩) (c25 : PySem.W.codeIn K cd25 "seats_with_minimums" = true) (k25 : PySem.W.keepIn K (.ref f_seats_with_minimums) = true)
    (a26 : PySem.W.nsIn K mainGlobals "_law_cell" = some (some (.ref f_law_cell_u))) (l26 : K.lookup f_law_cell_u = some ⟨oc26, od26, .func (PySem.W.fnOf "_law_cell" "_law_cell" (defArgs s_law_cell_u) (defBody s_law_cell_u) (defScope s_law_cell_u) .none kV26 dc26 pm26 an26 cd26 ct26), sl26⟩) (c26 : PySem.W.codeIn K cd26 "_law_cell" = true) (k26 : PySem.W.keepIn K (.ref f_law_cell_u) = true)
    (a27 : PySem.W.nsIn K mainGlobals "_law_numbers" = some (some (.ref f_law_numbers_u))) (l27 : K.lookup f_law_numbers_u = some ⟨oc27, od27, .func (PySem.W.fnOf "_law_numbers" "_law_numbers" (defArgs s_law_numbers_u) (defBody s_law_numbers_u) (defScope s_law_numbers_u) .none kV27 dc27 pm27 an27 cd27 ct27), sl27⟩) (c27 : PySem.W.codeIn K cd27 "_law_numbers" = true) (k27 : PySem.W.keepIn K (.ref f_law_numbers_u) = true)
    (a28 : PySem.W.nsIn K mainGlobals "_law_common" = some (some (.ref f_law_common_u))) (l28 : K.lookup f_law_common_u = some ⟨oc28, od28, .func (PySem.W.fnOf "_law_common" "_law_common" (defArgs s_law_common_u) (defBody s_law_common_u) (defScope s_law_common_u) .none kV28 dc28 pm28 an28 cd28 ct28), sl28⟩) (c28 : PySem.W.codeIn K cd28 "_law_common" = true) (k28 : PySem.W.keepIn K (.ref f_law_common_u) = true)
    (a29 : PySem.W.nsIn K mainGlobals "_law_frac" = some (some (.ref f_law_frac_u))) (l29 : K.lookup f_law_frac_u = some ⟨oc29, od29, .func (PySem.W.fnOf "_law_frac" "_law_frac" (defArgs s_law_frac_u) (defBody s_law_frac_u) (defScope s_law_frac_u) .none kV29 dc29 pm29 an29 cd29 ct29), sl29⟩) (c29 : PySem.W.codeIn K cd29 "_law_frac" = true) (k29 : PySem.W.keepIn K (.ref f_law_frac_u) = true)
    (a30 : PySem.W.nsIn K mainGlobals "_law_plus" = some (some (.ref f_law_plus_u))) (l30 : K.lookup f_law_plus_u = some ⟨oc30, od30, .func (PySem.W.fnOf "_law_plus" "_law_plus" (defArgs s_law_plus_u) (defBody s_law_plus_u) (defScope s_law_plus_u) .none kV30 dc30 pm30 an30 cd30 ct30), sl30⟩) (c30 : PySem.W.codeIn K cd30 "_law_plus" = true) (k30 : PySem.W.keepIn K (.ref f_law_plus_u) = true)
    (a31 : PySem.W.nsIn K mainGlobals "_law_times" = some (some (.ref f_law_times_u))) (l31 : K.lookup f_law_times_u = some ⟨oc31, od31, .func (PySem.W.fnOf "_law_times" "_law_times" (defArgs s_law_times_u) (defBody s_law_times_u) (defScope s_law_times_u) .none kV31 dc31 pm31 an31 cd31 ct31), sl31⟩) (c31 : PySem.W.codeIn K cd31 "_law_times" = true) (k31 : PySem.W.keepIn K (.ref f_law_times_u) = true)
    (a32 : PySem.W.nsIn K mainGlobals "_law_less" = some (some (.ref f_law_less_u))) (l32 : K.lookup f_law_less_u = some ⟨oc32, od32, .func (PySem.W.fnOf "_law_less" "_law_less" (defArgs s_law_less_u) (defBody s_law_less_u) (defScope s_law_less_u) .none kV32 dc32 pm32 an32 cd32 ct32), sl32⟩) (c32 : PySem.W.codeIn K cd32 "_law_less" = true) (k32 : PySem.W.keepIn K (.ref f_law_less_u) = true)
    (a33 : PySem.W.nsIn K mainGlobals "_law_same" = some (some (.ref f_law_same_u))) (l33 : K.lookup f_law_same_u = some ⟨oc33, od33, .func (PySem.W.fnOf "_law_same" "_law_same" (defArgs s_law_same_u) (defBody s_law_same_u) (defScope s_law_same_u) .none kV33 dc33 pm33 an33 cd33 ct33), sl33⟩) (c33 : PySem.W.codeIn K cd33 "_law_same" = true) (k33 : PySem.W.keepIn K (.ref f_law_same_u) = true)
    (a34 : PySem.W.nsIn K mainGlobals "_law_are_whole" = some (some (.ref f_law_are_whole_u))) (l34 : K.lookup f_law_are_whole_u = some ⟨oc34, od34, .func (PySem.W.fnOf "_law_are_whole" "_law_are_whole" (defArgs s_law_are_whole_u) (defBody s_law_are_whole_u) (defScope s_law_are_whole_u) .none kV34 dc34 pm34 an34 cd34 ct34), sl34⟩) (c34 : PySem.W.codeIn K cd34 "_law_are_whole" = true) (k34 : PySem.W.keepIn K (.ref f_law_are_whole_u) = true)
    (a35 : PySem.W.nsIn K mainGlobals "_law_rule" = some (some (.ref f_law_rule_u))) (l35 : K.lookup f_law_rule_u = some ⟨oc35, od35, .func (PySem.W.fnOf "_law_rule" "_law_rule" (defArgs s_law_rule_u) (defBody s_law_rule_u) (defScope s_law_rule_u) .none kV35 dc35 pm35 an35 cd35 ct35), sl35⟩) (c35 : PySem.W.codeIn K cd35 "_law_rule" = true) (k35 : PySem.W.keepIn K (.ref f_law_rule_u) = true)
    (a36 : PySem.W.nsIn K mainGlobals "_law_square" = some (some (.ref f_law_square_u))) (l36 : K.lookup f_law_square_u = some ⟨oc36, od36, .func (PySem.W.fnOf "_law_square" "_law_square" (defArgs s_law_square_u) (defBody s_law_square_u) (defScope s_law_square_u) .none kV36 dc36 pm36 an36 cd36 ct36), sl36⟩) (c36 : PySem.W.codeIn K cd36 "_law_square" = true) (k36 : PySem.W.keepIn K (.ref f_law_square_u) = true)
    (a37 : PySem.W.nsIn K mainGlobals "_law_strict" = some (some (.ref f_law_strict_u))) (l37 : K.lookup f_law_strict_u = some ⟨oc37, od37, .func (PySem.W.fnOf "_law_strict" "_law_strict" (defArgs s_law_strict_u) (defBody s_law_strict_u) (defScope s_law_strict_u) .none kV37 dc37 pm37 an37 cd37 ct37), sl37⟩) (c37 : PySem.W.codeIn K cd37 "_law_strict" = true) (k37 : PySem.W.keepIn K (.ref f_law_strict_u) = true)
    (a38 : PySem.W.nsIn K mainGlobals "_law_with_minimums" = some (some (.ref f_law_with_minimums_u))) (l38 : K.lookup f_law_with_minimums_u = some ⟨oc38, od38, .func (PySem.W.fnOf "_law_with_minimums" "_law_with_minimums" (defArgs s_law_with_minimums_u) (defBody s_law_with_minimums_u) (defScope s_law_with_minimums_u) .none kV38 dc38 pm38 an38 cd38 ct38), sl38⟩) (c38 : PySem.W.codeIn K cd38 "_law_with_minimums" = true) (k38 : PySem.W.keepIn K (.ref f_law_with_minimums_u) = true)
    (a39 : PySem.W.nsIn K mainGlobals "_law_word" = some (some (.ref f_law_word_u))) (l39 : K.lookup f_law_word_u = some ⟨oc39, od39, .func (PySem.W.fnOf "_law_word" "_law_word" (defArgs s_law_word_u) (defBody s_law_word_u) (defScope s_law_word_u) .none kV39 dc39 pm39 an39 cd39 ct39), sl39⟩) (c39 : PySem.W.codeIn K cd39 "_law_word" = true) (k39 : PySem.W.keepIn K (.ref f_law_word_u) = true)
    (a40 : PySem.W.nsIn K mainGlobals "_law_due_word" = some (some (.ref f_law_due_word_u))) (l40 : K.lookup f_law_due_word_u = some ⟨oc40, od40, .func (PySem.W.fnOf "_law_due_word" "_law_due_word" (defArgs s_law_due_word_u) (defBody s_law_due_word_u) (defScope s_law_due_word_u) .none kV40 dc40 pm40 an40 cd40 ct40), sl40⟩) (c40 : PySem.W.codeIn K cd40 "_law_due_word" = true) (k40 : PySem.W.keepIn K (.ref f_law_due_word_u) = true)
    (a41 : PySem.W.nsIn K mainGlobals "_law_told" = some (some (.ref f_law_told_u))) (l41 : K.lookup f_law_told_u = some ⟨oc41, od41, .func (PySem.W.fnOf "_law_told" "_law_told" (defArgs s_law_told_u) (defBody s_law_told_u) (defScope s_law_told_u) .none kV41 dc41 pm41 an41 cd41 ct41), sl41⟩) (c41 : PySem.W.codeIn K cd41 "_law_told" = true) (k41 : PySem.W.keepIn K (.ref f_law_told_u) = true)
    (a42 : PySem.W.nsIn K mainGlobals "law" = some (some (.ref f_law))) (l42 : K.lookup f_law = some ⟨oc42, od42, .func (PySem.W.fnOf "law" "law" (defArgs s_law) (defBody s_law) (defScope s_law) .none kV42 dc42 pm42 an42 cd42 ct42), sl42⟩) (c42 : PySem.W.codeIn K cd42 "law" = true) (k42 : PySem.W.keepIn K (.ref f_law) = true)
    (gc_InvalidMinimums : PySem.W.nsIn K mainGlobals "InvalidMinimums" = some (some (.ref c_InvalidMinimums)))
    (gc_SeatError : PySem.W.nsIn K mainGlobals "SeatError" = some (some (.ref c_SeatError)))
    (gc_TooFewSeats : PySem.W.nsIn K mainGlobals "TooFewSeats" = some (some (.ref c_TooFewSeats)))
    (gc_WrongCount : PySem.W.nsIn K mainGlobals "WrongCount" = some (some (.ref c_WrongCount)))
    (xq_InvalidMinimums : PySem.W.excIn K c_InvalidMinimums veT "ValueError.__new__" = true) (xk_InvalidMinimums : PySem.W.keepIn K (.ref c_InvalidMinimums) = true) (xb_InvalidMinimums : PySem.W.subIn K (.ref c_InvalidMinimums) (.type "BaseException") = some true) (xt_InvalidMinimums : PySem.W.typeIn K (.ref c_InvalidMinimums) = some (.type "type"))
    (xq_TooFewSeats : PySem.W.excIn K c_TooFewSeats veT "ValueError.__new__" = true) (xk_TooFewSeats : PySem.W.keepIn K (.ref c_TooFewSeats) = true) (xb_TooFewSeats : PySem.W.subIn K (.ref c_TooFewSeats) (.type "BaseException") = some true) (xt_TooFewSeats : PySem.W.typeIn K (.ref c_TooFewSeats) = some (.type "type"))
    (xq_WrongCount : PySem.W.excIn K c_WrongCount veT "ValueError.__new__" = true) (xk_WrongCount : PySem.W.keepIn K (.ref c_WrongCount) = true) (xb_WrongCount : PySem.W.subIn K (.ref c_WrongCount) (.type "BaseException") = some true) (xt_WrongCount : PySem.W.typeIn K (.ref c_WrongCount) = some (.type "type"))
    (yb_InvalidMinimums : PySem.W.subIn K (.ref c_InvalidMinimums) (.type "BaseException") = some true) (yi_InvalidMinimums : PySem.W.isClsIn K c_InvalidMinimums = true) (yt_InvalidMinimums : PySem.W.typeIn K (.ref c_InvalidMinimums) = some (.type "type")) (ys_InvalidMinimums : PySem.W.subIn K (.ref c_InvalidMinimums) (.ref c_InvalidMinimums) = some true)
    (yb_SeatError : PySem.W.subIn K (.ref c_SeatError) (.type "BaseException") = some true) (yi_SeatError : PySem.W.isClsIn K c_SeatError = true) (yt_SeatError : PySem.W.typeIn K (.ref c_SeatError) = some (.type "type")) (ys_SeatError : PySem.W.subIn K (.ref c_SeatError) (.ref c_SeatError) = some true)
    (yb_TooFewSeats : PySem.W.subIn K (.ref c_TooFewSeats) (.type "BaseException") = some true) (yi_TooFewSeats : PySem.W.isClsIn K c_TooFewSeats = true) (yt_TooFewSeats : PySem.W.typeIn K (.ref c_TooFewSeats) = some (.type "type")) (ys_TooFewSeats : PySem.W.subIn K (.ref c_TooFewSeats) (.ref c_TooFewSeats) = some true)
    (yb_WrongCount : PySem.W.subIn K (.ref c_WrongCount) (.type "BaseException") = some true) (yi_WrongCount : PySem.W.isClsIn K c_WrongCount = true) (yt_WrongCount : PySem.W.typeIn K (.ref c_WrongCount) = some (.type "type")) (ys_WrongCount : PySem.W.subIn K (.ref c_WrongCount) (.ref c_WrongCount) = some true)
    (na_InvalidMinimums : PySem.W.findIn K (.ref c_InvalidMinimums) "__getattribute__" = some (some (.builtin "BaseException.__getattribute__"))) (nb_InvalidMinimums : PySem.W.findIn K (.ref c_InvalidMinimums) "__getattr__" = some none) (nc_InvalidMinimums : PySem.W.subIn K (.ref c_InvalidMinimums) (.type "BaseException") = some true) (nd_InvalidMinimums : PySem.W.hasDictIn K c_InvalidMinimums = true) (ne_InvalidMinimums : PySem.W.findIn K (.ref c_InvalidMinimums) "__class__" = some (some (.builtin "object.__class__"))) (nf_InvalidMinimums : PySem.W.specialIn K (.builtin "object.__class__") "__get__" = some (some (.builtin "getset_descriptor.__get__"))) (ng_InvalidMinimums : PySem.W.takesIn K (.builtin "object.__class__") = some true) (nh_InvalidMinimums : PySem.W.mroIn K c_InvalidMinimums (.type "object") = some true)
    (na_TooFewSeats : PySem.W.findIn K (.ref c_TooFewSeats) "__getattribute__" = some (some (.builtin "BaseException.__getattribute__"))) (nb_TooFewSeats : PySem.W.findIn K (.ref c_TooFewSeats) "__getattr__" = some none) (nc_TooFewSeats : PySem.W.subIn K (.ref c_TooFewSeats) (.type "BaseException") = some true) (nd_TooFewSeats : PySem.W.hasDictIn K c_TooFewSeats = true) (ne_TooFewSeats : PySem.W.findIn K (.ref c_TooFewSeats) "__class__" = some (some (.builtin "object.__class__"))) (nf_TooFewSeats : PySem.W.specialIn K (.builtin "object.__class__") "__get__" = some (some (.builtin "getset_descriptor.__get__"))) (ng_TooFewSeats : PySem.W.takesIn K (.builtin "object.__class__") = some true) (nh_TooFewSeats : PySem.W.mroIn K c_TooFewSeats (.type "object") = some true)
    (na_WrongCount : PySem.W.findIn K (.ref c_WrongCount) "__getattribute__" = some (some (.builtin "BaseException.__getattribute__"))) (nb_WrongCount : PySem.W.findIn K (.ref c_WrongCount) "__getattr__" = some none) (nc_WrongCount : PySem.W.subIn K (.ref c_WrongCount) (.type "BaseException") = some true) (nd_WrongCount : PySem.W.hasDictIn K c_WrongCount = true) (ne_WrongCount : PySem.W.findIn K (.ref c_WrongCount) "__class__" = some (some (.builtin "object.__class__"))) (nf_WrongCount : PySem.W.specialIn K (.builtin "object.__class__") "__get__" = some (some (.builtin "getset_descriptor.__get__"))) (ng_WrongCount : PySem.W.takesIn K (.builtin "object.__class__") = some true) (nh_WrongCount : PySem.W.mroIn K c_WrongCount (.type "object") = some true)
    (kk_InvalidMinimums_InvalidMinimums : PySem.W.subIn K (.ref c_InvalidMinimums) (.ref c_InvalidMinimums) = some true)
    (kk_InvalidMinimums_SeatError : PySem.W.subIn K (.ref c_InvalidMinimums) (.ref c_SeatError) = some true)
    (kk_InvalidMinimums_TooFewSeats : PySem.W.subIn K (.ref c_InvalidMinimums) (.ref c_TooFewSeats) = some false)
    (kk_InvalidMinimums_WrongCount : PySem.W.subIn K (.ref c_InvalidMinimums) (.ref c_WrongCount) = some false)
    (kk_TooFewSeats_SeatError : PySem.W.subIn K (.ref c_TooFewSeats) (.ref c_SeatError) = some true)
    (kk_TooFewSeats_TooFewSeats : PySem.W.subIn K (.ref c_TooFewSeats) (.ref c_TooFewSeats) = some true)
    (kk_TooFewSeats_WrongCount : PySem.W.subIn K (.ref c_TooFewSeats) (.ref c_WrongCount) = some false)
    (kk_WrongCount_InvalidMinimums : PySem.W.subIn K (.ref c_WrongCount) (.ref c_InvalidMinimums) = some false)
    (kk_WrongCount_SeatError : PySem.W.subIn K (.ref c_WrongCount) (.ref c_SeatError) = some true)
    (kk_WrongCount_WrongCount : PySem.W.subIn K (.ref c_WrongCount) (.ref c_WrongCount) = some true)
    (z_abs : PySem.W.nsIn K mainGlobals "abs" = some none)
    (z_all : PySem.W.nsIn K mainGlobals "all" = some none)
    (z_bool : PySem.W.nsIn K mainGlobals "bool" = some none)
    (z_enumerate : PySem.W.nsIn K mainGlobals "enumerate" = some none)
    (z_int : PySem.W.nsIn K mainGlobals "int" = some none)
    (z_isinstance : PySem.W.nsIn K mainGlobals "isinstance" = some none)
    (z_len : PySem.W.nsIn K mainGlobals "len" = some none)
    (z_list : PySem.W.nsIn K mainGlobals "list" = some none)
    (z_max : PySem.W.nsIn K mainGlobals "max" = some none)
    (z_range : PySem.W.nsIn K mainGlobals "range" = some none)
    (z_repr : PySem.W.nsIn K mainGlobals "repr" = some none)
    (z_str : PySem.W.nsIn K mainGlobals "str" = some none)
    (z_sum : PySem.W.nsIn K mainGlobals "sum" = some none)
    (z_tuple : PySem.W.nsIn K mainGlobals "tuple" = some none)
    (i_gcd : PySem.W.nsIn K mainGlobals "gcd" = some (some (.builtin "math.gcd")))
    (m_MOST_MINIMUMS : PySem.W.nsIn K mainGlobals "MOST_MINIMUMS" = some (some u_MOST_MINIMUMS)) (rc_MOST_MINIMUMS : KConst K u_MOST_MINIMUMS c_MOST_MINIMUMS)
    (m_ZERO : PySem.W.nsIn K mainGlobals "ZERO" = some (some u_ZERO)) (rc_ZERO : KConst K u_ZERO c_ZERO) :
    ∃ fd : FuncData, (∀ (s : Shared) (v : Value), BindsTo s fd ⟨[v], []⟩ [("script", v)]) ∧ ∀ base : Heap, K.In base → base.Ns mainGlobals mg → FnG l.prog w K mg base 13 fa fd ["script"] (spD ⟨l.prog, w, K⟩ 1 φ_law) := by
  have e := hfa.symm.trans (PySem.W.mg_of X G a42)
  cases e
  refine ⟨PySem.W.fnOf "law" "law" (defArgs s_law) (defBody s_law) (defScope s_law) .none kV42 dc42 pm42 an42 cd42 ct42, fun s v => .of_eq rfl, fun base _ _ => ?_⟩
  have F0 := fun_mk (st := s_is_whole) l0 c0 k0
  have F1 := fun_mk (st := s_fraction) l1 c1 k1
  have F2 := fun_mk (st := s_whole) l2 c2 k2
  have F3 := fun_mk (st := s_plus) l3 c3 k3
  have F4 := fun_mk (st := s_times) l4 c4 k4
  have F5 := fun_mk (st := s_over) l5 c5 k5
  have F6 := fun_mk (st := s_is_less) l6 c6 k6
  have F7 := fun_mk (st := s_square) l7 c7 k7
  have F8 := fun_mk (st := s_is_strict) l8 c8 k8
  have F9 := fun_mk (st := s_square_of) l9 c9 k9
  have F10 := fun_mk (st := s_is_above) l10 c10 k10
  have F11 := fun_mk (st := s_first_lacking) l11 c11 k11
  have F12 := fun_mk (st := s_next_ratio) l12 c12 k12
  have F13 := fun_mk (st := s_least_of) l13 c13 k13
  have F14 := fun_mk (st := s_greatest_of) l14 c14 k14
  have F15 := fun_mk (st := s_is_next) l15 c15 k15
  have F16 := fun_mk (st := s_next_party) l16 c16 k16
  have F17 := fun_mk (st := s_first_seats) l17 c17 k17
  have F18 := fun_mk (st := s_check_minimums) l18 c18 k18
  have F19 := fun_mk (st := s_first_less) l19 c19 k19
  have F20 := fun_mk (st := s_bars_minimal) l20 c20 k20
  have F21 := fun_mk (st := s_first_barring) l21 c21 k21
  have F22 := fun_mk (st := s_free_ratio) l22 c22 k22
  have F23 := fun_mk (st := s_greatest_divisor) l23 c23 k23
  have F24 := fun_mk (st := s_find_minimal) l24 c24 k24
  have F25 := fun_mk (st := s_seats_with_minimums) l25 c25 k25
  have F26 := fun_mk (st := s_law_cell_u) l26 c26 k26
  have F27 := fun_mk (st := s_law_numbers_u) l27 c27 k27
  have F28 := fun_mk (st := s_law_common_u) l28 c28 k28
  have F29 := fun_mk (st := s_law_frac_u) l29 c29 k29
  have F30 := fun_mk (st := s_law_plus_u) l30 c30 k30
  have F31 := fun_mk (st := s_law_times_u) l31 c31 k31
  have F32 := fun_mk (st := s_law_less_u) l32 c32 k32
  have F33 := fun_mk (st := s_law_same_u) l33 c33 k33
  have F34 := fun_mk (st := s_law_are_whole_u) l34 c34 k34
  have F35 := fun_mk (st := s_law_rule_u) l35 c35 k35
  have F36 := fun_mk (st := s_law_square_u) l36 c36 k36
  have F37 := fun_mk (st := s_law_strict_u) l37 c37 k37
  have F38 := fun_mk (st := s_law_with_minimums_u) l38 c38 k38
  have F39 := fun_mk (st := s_law_word_u) l39 c39 k39
  have F40 := fun_mk (st := s_law_due_word_u) l40 c40 k40
  have F41 := fun_mk (st := s_law_told_u) l41 c41 k41
  have F42 := fun_mk (st := s_law) l42 c42 k42
  exact ok_law ⟨PySem.W.mg_of X G gc_InvalidMinimums,
    PySem.W.mg_of X G gc_SeatError,
    PySem.W.mg_of X G gc_TooFewSeats,
    PySem.W.mg_of X G gc_WrongCount,
    ⟨xq_InvalidMinimums, xk_InvalidMinimums, xb_InvalidMinimums, xt_InvalidMinimums⟩,
    ⟨xq_TooFewSeats, xk_TooFewSeats, xb_TooFewSeats, xt_TooFewSeats⟩,
    ⟨xq_WrongCount, xk_WrongCount, xb_WrongCount, xt_WrongCount⟩,
    ⟨yb_InvalidMinimums, yi_InvalidMinimums, yt_InvalidMinimums, ys_InvalidMinimums⟩,
    ⟨yb_SeatError, yi_SeatError, yt_SeatError, ys_SeatError⟩,
    ⟨yb_TooFewSeats, yi_TooFewSeats, yt_TooFewSeats, ys_TooFewSeats⟩,
    ⟨yb_WrongCount, yi_WrongCount, yt_WrongCount, ys_WrongCount⟩,
    ⟨na_InvalidMinimums, nb_InvalidMinimums, nc_InvalidMinimums, nd_InvalidMinimums, ne_InvalidMinimums, nf_InvalidMinimums, ng_InvalidMinimums, nh_InvalidMinimums⟩,
    ⟨na_TooFewSeats, nb_TooFewSeats, nc_TooFewSeats, nd_TooFewSeats, ne_TooFewSeats, nf_TooFewSeats, ng_TooFewSeats, nh_TooFewSeats⟩,
    ⟨na_WrongCount, nb_WrongCount, nc_WrongCount, nd_WrongCount, ne_WrongCount, nf_WrongCount, ng_WrongCount, nh_WrongCount⟩,
    kk_InvalidMinimums_InvalidMinimums,
    kk_InvalidMinimums_SeatError,
    kk_InvalidMinimums_TooFewSeats,
    kk_InvalidMinimums_WrongCount,
    kk_TooFewSeats_SeatError,
    kk_TooFewSeats_TooFewSeats,
    kk_TooFewSeats_WrongCount,
    kk_WrongCount_InvalidMinimums,
    kk_WrongCount_SeatError,
    kk_WrongCount_WrongCount,
    F0, PySem.W.mg_of X G a0, F0.binds (ps := ["value"]) fun _ _ _ _ _ _ us hl => match us, hl with | [_], _ => rfl,
    F1, PySem.W.mg_of X G a1, F1.binds (ps := ["top", "bottom"]) fun _ _ _ _ _ _ us hl => match us, hl with | [_, _], _ => rfl,
    F2, PySem.W.mg_of X G a2, F2.binds (ps := ["number"]) fun _ _ _ _ _ _ us hl => match us, hl with | [_], _ => rfl,
    F3, PySem.W.mg_of X G a3, F3.binds (ps := ["one", "other"]) fun _ _ _ _ _ _ us hl => match us, hl with | [_, _], _ => rfl,
    F4, PySem.W.mg_of X G a4, F4.binds (ps := ["one", "other"]) fun _ _ _ _ _ _ us hl => match us, hl with | [_, _], _ => rfl,
    F5, PySem.W.mg_of X G a5, F5.binds (ps := ["one", "other"]) fun _ _ _ _ _ _ us hl => match us, hl with | [_, _], _ => rfl,
    F6, PySem.W.mg_of X G a6, F6.binds (ps := ["one", "other"]) fun _ _ _ _ _ _ us hl => match us, hl with | [_, _], _ => rfl,
    F7, PySem.W.mg_of X G a7, F7.binds (ps := ["rule", "k"]) fun _ _ _ _ _ _ us hl => match us, hl with | [_, _], _ => rfl,
    F8, PySem.W.mg_of X G a8, F8.binds (ps := ["rule"]) fun _ _ _ _ _ _ us hl => match us, hl with | [_], _ => rfl,
    F9, PySem.W.mg_of X G a9, F9.binds (ps := ["number"]) fun _ _ _ _ _ _ us hl => match us, hl with | [_], _ => rfl,
    F10, PySem.W.mg_of X G a10, F10.binds (ps := ["one", "other"]) fun _ _ _ _ _ _ us hl => match us, hl with | [_, _], _ => rfl,
    F11, PySem.W.mg_of X G a11, F11.binds (ps := ["rule", "seats"]) fun _ _ _ _ _ _ us hl => match us, hl with | [_, _], _ => rfl,
    F12, PySem.W.mg_of X G a12, F12.binds (ps := ["votes", "rule", "seats", "party"]) fun _ _ _ _ _ _ us hl => match us, hl with | [_, _, _, _], _ => rfl,
    F13, PySem.W.mg_of X G a13, F13.binds (ps := ["values"]) fun _ _ _ _ _ _ us hl => match us, hl with | [_], _ => rfl,
    F14, PySem.W.mg_of X G a14, F14.binds (ps := ["values"]) fun _ _ _ _ _ _ us hl => match us, hl with | [_], _ => rfl,
    F15, PySem.W.mg_of X G a15, F15.binds (ps := ["votes", "rule", "seats", "one", "other"]) fun _ _ _ _ _ _ us hl => match us, hl with | [_, _, _, _, _], _ => rfl,
    F16, PySem.W.mg_of X G a16, F16.binds (ps := ["votes", "rule", "seats"]) fun _ _ _ _ _ _ us hl => match us, hl with | [_, _, _], _ => rfl,
    F17, PySem.W.mg_of X G a17, F17.binds (ps := ["votes", "rule", "house"]) fun _ _ _ _ _ _ us hl => match us, hl with | [_, _, _], _ => rfl,
    F18, PySem.W.mg_of X G a18, F18.binds (ps := ["votes", "minimums"]) fun _ _ _ _ _ _ us hl => match us, hl with | [_, _], _ => rfl,
    F19, PySem.W.mg_of X G a19, F19.binds (ps := ["minimums", "seats"]) fun _ _ _ _ _ _ us hl => match us, hl with | [_, _], _ => rfl,
    F20, PySem.W.mg_of X G a20, F20.binds (ps := ["votes", "rule", "minimums", "seats", "first", "second"]) fun _ _ _ _ _ _ us hl => match us, hl with | [_, _, _, _, _, _], _ => rfl,
    F21, PySem.W.mg_of X G a21, F21.binds (ps := ["votes", "rule", "minimums", "seats"]) fun _ _ _ _ _ _ us hl => match us, hl with | [_, _, _, _], _ => rfl,
    F22, PySem.W.mg_of X G a22, F22.binds (ps := ["votes", "rule", "minimums", "seats", "party"]) fun _ _ _ _ _ _ us hl => match us, hl with | [_, _, _, _, _], _ => rfl,
    F23, PySem.W.mg_of X G a23, F23.binds (ps := ["votes", "rule", "minimums", "seats"]) fun _ _ _ _ _ _ us hl => match us, hl with | [_, _, _, _], _ => rfl,
    F24, PySem.W.mg_of X G a24, F24.binds (ps := ["votes", "rule", "minimums", "seats"]) fun _ _ _ _ _ _ us hl => match us, hl with | [_, _, _, _], _ => rfl,
    F25, PySem.W.mg_of X G a25, F25.binds (ps := ["votes", "rule", "minimums", "house"]) fun _ _ _ _ _ _ us hl => match us, hl with | [_, _, _, _], _ => rfl,
    F26, PySem.W.mg_of X G a26, F26.binds (ps := ["script", "k"]) fun _ _ _ _ _ _ us hl => match us, hl with | [_, _], _ => rfl,
    F27, PySem.W.mg_of X G a27, F27.binds (ps := ["cell", "count", "limit"]) fun _ _ _ _ _ _ us hl => match us, hl with | [_, _, _], _ => rfl,
    F28, PySem.W.mg_of X G a28, F28.binds (ps := ["one", "other"]) fun _ _ _ _ _ _ us hl => match us, hl with | [_, _], _ => rfl,
    F29, PySem.W.mg_of X G a29, F29.binds (ps := ["top", "bottom"]) fun _ _ _ _ _ _ us hl => match us, hl with | [_, _], _ => rfl,
    F30, PySem.W.mg_of X G a30, F30.binds (ps := ["one", "other"]) fun _ _ _ _ _ _ us hl => match us, hl with | [_, _], _ => rfl,
    F31, PySem.W.mg_of X G a31, F31.binds (ps := ["one", "other"]) fun _ _ _ _ _ _ us hl => match us, hl with | [_, _], _ => rfl,
    F32, PySem.W.mg_of X G a32, F32.binds (ps := ["one", "other"]) fun _ _ _ _ _ _ us hl => match us, hl with | [_, _], _ => rfl,
    F33, PySem.W.mg_of X G a33, F33.binds (ps := ["told", "due"]) fun _ _ _ _ _ _ us hl => match us, hl with | [_, _], _ => rfl,
    F34, PySem.W.mg_of X G a34, F34.binds (ps := ["some"]) fun _ _ _ _ _ _ us hl => match us, hl with | [_], _ => rfl,
    F35, PySem.W.mg_of X G a35, F35.binds (ps := ["draws", "at"]) fun _ _ _ _ _ _ us hl => match us, hl with | [_, _], _ => rfl,
    F36, PySem.W.mg_of X G a36, F36.binds (ps := ["rule", "k"]) fun _ _ _ _ _ _ us hl => match us, hl with | [_, _], _ => rfl,
    F37, PySem.W.mg_of X G a37, F37.binds (ps := ["rule"]) fun _ _ _ _ _ _ us hl => match us, hl with | [_], _ => rfl,
    F38, PySem.W.mg_of X G a38, F38.binds (ps := ["votes", "rule", "minimums", "house"]) fun _ _ _ _ _ _ us hl => match us, hl with | [_, _, _, _], _ => rfl,
    F39, PySem.W.mg_of X G a39, F39.binds (ps := ["votes", "minimums"]) fun _ _ _ _ _ _ us hl => match us, hl with | [_, _], _ => rfl,
    F40, PySem.W.mg_of X G a40, F40.binds (ps := ["votes", "minimums"]) fun _ _ _ _ _ _ us hl => match us, hl with | [_, _], _ => rfl,
    F41, PySem.W.mg_of X G a41, F41.binds (ps := ["votes", "rule", "minimums", "house"]) fun _ _ _ _ _ _ us hl => match us, hl with | [_, _, _, _], _ => rfl,
    F42, PySem.W.mg_of X G a42, F42.binds (ps := ["script"]) fun _ _ _ _ _ _ us hl => match us, hl with | [_], _ => rfl,
    PySem.W.mg_none_of X G z_abs,
    PySem.W.mg_none_of X G z_all,
    PySem.W.mg_none_of X G z_bool,
    PySem.W.mg_none_of X G z_enumerate,
    PySem.W.mg_none_of X G z_int,
    PySem.W.mg_none_of X G z_isinstance,
    PySem.W.mg_none_of X G z_len,
    PySem.W.mg_none_of X G z_list,
    PySem.W.mg_none_of X G z_max,
    PySem.W.mg_none_of X G z_range,
    PySem.W.mg_none_of X G z_repr,
    PySem.W.mg_none_of X G z_str,
    PySem.W.mg_none_of X G z_sum,
    PySem.W.mg_none_of X G z_tuple,
    PySem.W.mg_of X G i_gcd,
    PySem.W.mg_of X G m_MOST_MINIMUMS, rc_MOST_MINIMUMS,
    PySem.W.mg_of X G m_ZERO, rc_ZERO⟩
end
end La
namespace La
open PySem PySem.Spec L2 Dn
open PyProof.Rows hiding St
/-! ### sizes -/
def Bn (k : Nat) (i : Int) : Prop := i.natAbs < 2 ^ k
theorem Bn.mono {j k : Nat} {i : Int} (h : Bn j i) (hk : j ≤ k) : Bn k i := Nat.lt_of_lt_of_le h (Nat.pow_le_pow_right (by omega) hk)
theorem Bn.mul {j k : Nat} {a b : Int} (ha : Bn j a) (hb : Bn k b) : Bn (j + k) (a * b) := by
  unfold Bn at *
  rw [Int.natAbs_mul, Nat.pow_add]
  exact Nat.mul_lt_mul'' ha hb
theorem Bn.add {k : Nat} {a b : Int} (ha : Bn k a) (hb : Bn k b) : Bn (k + 1) (a + b) := by
  unfold Bn at *
  rw [Nat.pow_succ]
  omega
theorem Bn.sub {k : Nat} {a b : Int} (ha : Bn k a) (hb : Bn k b) : Bn (k + 1) (a - b) := by
  unfold Bn at *
  rw [Nat.pow_succ]
  omega
theorem Bn.log {k : Nat} {a : Int} (h : Bn k a) (hk : 0 < k) : a.natAbs.log2 < k := by
  by_cases z : a.natAbs = 0
  · rw [z]; exact hk
  · exact (Nat.log2_lt z).mpr h
theorem bn_mulOk {j k : Nat} {a b : Int} (ha : Bn j a) (hb : Bn k b) (hj : 0 < j ∧ j ≤ 400000) (hk : 0 < k ∧ k ≤ 400000) : mulOk a b := by
  refine .inr (.inr ?_)
  have := ha.log hj.1
  have := hb.log hk.1
  omega
theorem bn_divOk {k : Nat} {b : Int} (h : 0 < b) (hb : Bn k b) (hk : 0 < k ∧ k ≤ 9000) : divOk b := by
  refine ⟨h, .inr ?_⟩
  have := hb.log hk.1
  omega
theorem bn_of {i : Int} (h : -1000000000000 ≤ i ∧ i ≤ 1000000000000) : Bn 40 i := by
  have : (2 : Nat) ^ 40 = 1099511627776 := by decide
  unfold Bn; omega
/-! ### fractions -/
def eR (r : Rat) : D := .tup [.int r.num, .int r.den]
def Bq (k : Nat) (r : Rat) : Prop := Bn k r.num ∧ Bn k r.den
theorem Bq.mono {j k : Nat} {r : Rat} (h : Bq j r) (hk : j ≤ k) : Bq k r := ⟨h.1.mono hk, h.2.mono hk⟩
def gc (a b : Int) : Int := ((Nat.gcd a.natAbs b.natAbs : Nat) : Int)
theorem gc_pos {a b : Int} (h : 0 < b) : 0 < gc a b := by
  have := Nat.gcd_pos_of_pos_right (m := a.natAbs) (n := b.natAbs) (by omega)
  unfold gc; omega
theorem gc_le {a b : Int} (h : 0 < b) : gc a b ≤ b := by
  have := Nat.le_of_dvd (by omega) (Nat.gcd_dvd_right a.natAbs b.natAbs)
  unfold gc; omega
theorem div_num {a b : Int} (hb : 0 < b) : ((a : Rat) / (b : Rat)).num = a / gc a b ∧ ((((a : Rat) / (b : Rat)).den : Nat) : Int) = b / gc a b := by
  have e : ((Int.gcd b a : Nat) : Int) = gc a b := by unfold gc; rw [Int.gcd_comm]; rfl
  rw [← Rat.divInt_eq_div, Rat.num_divInt, Rat.den_divInt, Int.sign_eq_one_of_pos hb, Int.one_mul, e, if_neg (by omega)]
  refine ⟨rfl, ?_⟩
  rw [Int.natCast_ediv, e]
  congr 1
  omega
theorem den_p (r : Rat) : 0 < ((r.den : Nat) : Int) := by have := r.den_pos; omega
theorem self_div (r : Rat) : (r.num : Rat) / (((r.den : Nat) : Int) : Rat) = r := by rw [← Rat.divInt_eq_div]; exact Rat.num_divInt_den r
theorem den_ne (r : Rat) : (((r.den : Nat) : Int) : Rat) ≠ 0 := fun z => by
  have := (Rat.intCast_inj (a := ((r.den : Nat) : Int)) (b := 0)).mp z
  have := den_p r
  omega
theorem bq_div {k : Nat} {a b : Int} (hb : 0 < b) (h1 : Bn k a) (h2 : Bn k b) : Bq k ((a : Rat) / (b : Rat)) := by
  have g := gc_pos (a := a) hb
  have e := div_num (a := a) hb
  have q : ∀ x : Int, Bn k x → Bn k (x / gc a b) := fun x hx => by
    unfold Bn at *
    refine Nat.lt_of_le_of_lt ?_ hx
    exact Int.natAbs_ediv_le_natAbs x _
  exact ⟨by rw [e.1]; exact q a h1, by unfold Bn; rw [e.2]; exact q b h2⟩
theorem bq_int {k : Nat} {i : Int} (h : Bn k i) (hk : 0 < k) : Bq k (i : Rat) := by
  refine ⟨by rw [Rat.num_intCast]; exact h, ?_⟩
  rw [Rat.den_intCast]
  exact Nat.lt_of_lt_of_le (m := 2) (by decide) (Nat.pow_le_pow_right (n := 2) (by omega) hk)
theorem add_div (p q : Rat) : ((p.num * (q.den : Int) + q.num * (p.den : Int) : Int) : Rat) / ((((p.den : Nat) : Int) * ((q.den : Nat) : Int) : Int) : Rat) = p + q := by
  have hp := den_ne p
  have hq := den_ne q
  have ep := self_div p
  have eq := self_div q
  rw [Rat.intCast_add, Rat.intCast_mul, Rat.intCast_mul, Rat.intCast_mul]
  grind
theorem sub_div (p q : Rat) : ((p.num * (q.den : Int) - q.num * (p.den : Int) : Int) : Rat) / ((((p.den : Nat) : Int) * ((q.den : Nat) : Int) : Int) : Rat) = p - q := by
  have hp := den_ne p
  have hq := den_ne q
  have ep := self_div p
  have eq := self_div q
  rw [Rat.intCast_sub, Rat.intCast_mul, Rat.intCast_mul, Rat.intCast_mul]
  grind
theorem mul_div (p q : Rat) : ((p.num * q.num : Int) : Rat) / ((((p.den : Nat) : Int) * ((q.den : Nat) : Int) : Int) : Rat) = p * q := by
  have hp := den_ne p
  have hq := den_ne q
  have ep := self_div p
  have eq := self_div q
  rw [Rat.intCast_mul, Rat.intCast_mul]
  grind
theorem div_div (p q : Rat) (h : 0 < q.num) : ((p.num * (q.den : Int) : Int) : Rat) / ((((p.den : Nat) : Int) * q.num : Int) : Rat) = p / q := by
  have hp := den_ne p
  have hq := den_ne q
  have ep := self_div p
  have eq := self_div q
  have hn : (q.num : Rat) ≠ 0 := fun z => by
    have := (Rat.intCast_inj (a := q.num) (b := 0)).mp z
    omega
  rw [Rat.intCast_mul, Rat.intCast_mul]
  grind
theorem num_pos {q : Rat} : 0 < q.num ↔ 0 < q := by
  have h1 := Rat.num_nonneg (q := q)
  have h2 := Rat.num_eq_zero (q := q)
  have h3 : 0 < q ↔ 0 ≤ q ∧ q ≠ 0 := by grind
  rw [h3]
  constructor
  · intro h
    exact ⟨h1.mp (by omega), fun z => by have := h2.mpr z; omega⟩
  · rintro ⟨h4, h5⟩
    have := h1.mpr h4
    have : q.num ≠ 0 := fun z => h5 (h2.mp z)
    omega
theorem bq_add {p q : Rat} {j k : Nat} (hp : Bq j p) (hq : Bq k q) : Bq (j + k + 1) (p + q) := by
  rw [← add_div]
  refine bq_div (Int.mul_pos (den_p p) (den_p q)) ?_ ((hp.2.mul hq.2).mono (by omega))
  exact Bn.add (hp.1.mul hq.2) ((hq.1.mul hp.2).mono (by omega))
theorem bq_sub {p q : Rat} {j k : Nat} (hp : Bq j p) (hq : Bq k q) : Bq (j + k + 1) (p - q) := by
  rw [← sub_div]
  refine bq_div (Int.mul_pos (den_p p) (den_p q)) ?_ ((hp.2.mul hq.2).mono (by omega))
  exact Bn.sub (hp.1.mul hq.2) ((hq.1.mul hp.2).mono (by omega))
theorem bq_mul {p q : Rat} {j k : Nat} (hp : Bq j p) (hq : Bq k q) : Bq (j + k) (p * q) := by
  rw [← mul_div]
  exact bq_div (Int.mul_pos (den_p p) (den_p q)) (hp.1.mul hq.1) (hp.2.mul hq.2)
theorem bq_quo {p q : Rat} {j k : Nat} (hp : Bq j p) (hq : Bq k q) (h : 0 < q) : Bq (j + k) (p / q) := by
  rw [← div_div p q (num_pos.mpr h)]
  exact bq_div (Int.mul_pos (den_p p) (num_pos.mpr h)) (hp.1.mul hq.2) (hp.2.mul hq.1)
theorem eR_0 (r : Rat) (m n : Bool) : subsD (eR r) m (.int 0) n = some (.int r.num, .frz m) := by simp [eR]
theorem eR_1 (r : Rat) (m n : Bool) : subsD (eR r) m (.int 1) n = some (.int ((r.den : Nat) : Int), .frz m) := by simp [eR]
theorem eR_inj {p q : Rat} : eR p = eR q ↔ p = q := by
  constructor
  · intro h
    simp only [eR, D.tup.injEq, List.cons.injEq, D.int.injEq, and_true] at h
    exact Rat.ext h.1 (by omega)
  · rintro rfl; rfl
instance : EqE eR 1 := ⟨fun p => by simp [eR], fun p q => by
  simp only [eR, eqv_tup, eqvs_cons, eqv_int, eqvs_nil, Bool.and_true]
  by_cases h : p = q
  · subst h; simp
  · rw [decide_eq_false h]
    by_cases h1 : p.num = q.num
    · rw [decide_eq_true h1, Bool.true_and, decide_eq_false]
      intro z
      exact h (Rat.ext h1 (by omega))
    · rw [decide_eq_false h1, Bool.false_and]⟩
theorem qR (b m n : Bool) (p q : Rat) : eqD b (eR p) m (eR q) n = some (.bl (if b then !decide (p = q) else decide (p = q)), .frz true) := eqD_enc (inferInstance : EqE eR 1) (by omega) (b := b) (m := m) (n := n) p q
theorem z_R : D.tup [.int 0, .int 1] = eR 0 := rfl
theorem o_R : D.tup [.int 1, .int 1] = eR 1 := rfl
theorem i_R (i : Int) : D.tup [.int i, .int 1] = eR (i : Rat) := by unfold eR; rw [Rat.num_intCast, Rat.den_intCast]; rfl
theorem fit_R (r : Rat) : fit 11 (eR r) = true := by simp [eR]
theorem frac_ok (a b : Int) (hb : 0 < b) (hs : Bn 4000 b) : φ_fraction [.int a, .int b] = some (eR ((a : Rat) / (b : Rat)), .frz false) := by
  have hg := gc_pos (a := a) hb
  have hle := gc_le (a := a) hb
  have dg : divOk (gc a b) := bn_divOk hg (k := 4000) (by unfold Bn at *; omega) (by omega)
  have e1 := div_num (a := a) hb
  unfold φ_fraction
  refine runB_rt rfl ?_
  unfold b_fraction
  have hn : ¬ b < 0 := by omega
  have e : gcdF [(.int a, false), (.int b, false)] = some (.int (gc a b), .frz true) := rfl
  unfold eR
  rw [e1.1, e1.2]
  generalize gc a b = g at *
  simp [hn, e, dg, hg]
theorem whole_ok (i : Int) : φ_whole [.int i] = some (eR (i : Rat), .frz false) := by
  rw [← i_R]
  unfold φ_whole
  refine runB_rt rfl ?_
  unfold b_whole
  simp
theorem plus_ok {p q : Rat} (hp : Bq 1000 p) (hq : Bq 1000 q) : φ_plus [eR p, eR q] = some (eR (p + q), .frz false) := by
  have f := frac_ok (p.num * (q.den : Int) + q.num * (p.den : Int)) ((p.den : Int) * (q.den : Int)) (Int.mul_pos (den_p p) (den_p q)) ((hp.2.mul hq.2).mono (by omega))
  rw [add_div] at f
  have m1 := bn_mulOk hp.1 hq.2 (by omega) (by omega)
  have m2 := bn_mulOk hq.1 hp.2 (by omega) (by omega)
  have m3 := bn_mulOk hp.2 hq.2 (by omega) (by omega)
  unfold φ_plus
  refine runB_rt rfl ?_
  unfold b_plus
  simp [eR_0, eR_1, m1, m2, m3, f]
theorem times_ok {p q : Rat} (hp : Bq 1000 p) (hq : Bq 1000 q) : φ_times [eR p, eR q] = some (eR (p * q), .frz false) := by
  have f := frac_ok (p.num * q.num) ((p.den : Int) * (q.den : Int)) (Int.mul_pos (den_p p) (den_p q)) ((hp.2.mul hq.2).mono (by omega))
  rw [mul_div] at f
  have m1 := bn_mulOk hp.1 hq.1 (by omega) (by omega)
  have m3 := bn_mulOk hp.2 hq.2 (by omega) (by omega)
  unfold φ_times
  refine runB_rt rfl ?_
  unfold b_times
  simp [eR_0, eR_1, m1, m3, f]
theorem less_cmp (p q : Rat) : decide (p.num * (q.den : Int) < q.num * (p.den : Int)) = decide (p < q) := by
  rw [decide_eq_decide, Rat.lt_iff]
theorem is_less_ok {p q : Rat} (hp : Bq 1000 p) (hq : Bq 1000 q) : φ_is_less [eR p, eR q] = some (.bl (decide (p < q)), .frz false) := by
  have m1 := bn_mulOk hp.1 hq.2 (by omega) (by omega)
  have m2 := bn_mulOk hq.1 hp.2 (by omega) (by omega)
  have c := less_cmp p q
  unfold φ_is_less
  refine runB_rt rfl ?_
  unfold b_is_less
  simp [eR_0, eR_1, m1, m2, c]
theorem over_ok {p q : Rat} (hp : Bq 1000 p) (hq : Bq 1000 q) (h : 0 < q) : φ_over [eR p, eR q] = some (eR (p / q), .frz false) := by
  have h' := num_pos.mpr h
  have f := frac_ok (p.num * (q.den : Int)) ((p.den : Int) * q.num) (Int.mul_pos (den_p p) h') ((hp.2.mul hq.1).mono (by omega))
  rw [div_div p q h'] at f
  have m1 := bn_mulOk hp.1 hq.2 (by omega) (by omega)
  have m3 := bn_mulOk hp.2 hq.1 (by omega) (by omega)
  unfold φ_over
  refine runB_rt rfl ?_
  unfold b_over
  simp [eR_0, eR_1, m1, m3, f]
/-! ### the law's fractions -/
theorem com_go : ∀ (k : Nat), k ≤ 4000 → ∀ (a b : Nat), b < 2 ^ k → ∀ (xs : List D) (s : Slot), 2 * k < xs.length → forGo (.nm 2) lb_law_common_u_1 xs [.val (.int a) false, .val (.int b) false, s] = .rt (.int (Nat.gcd a b)) (.frz false) := by
  have brk : ∀ (a : Nat) (x : D) (xs : List D) (s : Slot), forGo (.nm 2) lb_law_common_u_1 (x :: xs) [.val (.int a) false, .val (.int 0) false, s] = .rt (.int a) (.frz false) := fun a x xs s =>
    forGo_rt rfl (by unfold lb_law_common_u_1; simp)
  have stp : ∀ (a b : Nat) (x : D) (xs : List D) (s : Slot), 0 < b → Bn 4000 (b : Int) → forGo (.nm 2) lb_law_common_u_1 (x :: xs) [.val (.int a) false, .val (.int b) false, s] = forGo (.nm 2) lb_law_common_u_1 xs [.val (.int b) false, .val (.int (a % b : Nat)) false, .no] := fun a b x xs s hb hs => by
    refine forGo_nx rfl ?_
    unfold lb_law_common_u_1
    have h1 : ¬ (b : Int) = 0 := by omega
    have h2 : ¬ b = 0 := by omega
    have hd : divOk (b : Int) := bn_divOk (k := 4000) (by omega) hs (by omega)
    simp [h1, h2, hd, hb]
  intro k
  induction k with
  | zero =>
    intro _ a b hb xs s hx
    have : b = 0 := by simpa using hb
    subst this
    cases xs with
    | nil => simp at hx
    | cons x xs => rw [Nat.gcd_zero_right]; exact brk a x xs s
  | succ k ih =>
    intro hk a b hb xs s hx
    match xs, hx with
    | [], hx => simp at hx
    | [_], hx => simp at hx
    | [_, _], hx => simp at hx; omega
    | x :: y :: w :: xs, hx =>
      by_cases b0 : b = 0
      · subst b0
        rw [Nat.gcd_zero_right]; exact brk a x (y :: w :: xs) s
      · have hb0 : 0 < b := by omega
        have sm : ∀ c : Nat, c ≤ b → Bn 4000 (c : Int) := fun c hc => (show Bn (k + 1) (c : Int) by unfold Bn; rw [Int.natAbs_natCast]; exact Nat.lt_of_le_of_lt hc hb).mono hk
        have g1 : Nat.gcd a b = Nat.gcd b (a % b) := by rw [Nat.gcd_comm a b, Nat.gcd_rec b a, Nat.gcd_comm]
        rw [stp a b x _ s hb0 (sm b (Nat.le_refl _)), g1]
        by_cases r0 : a % b = 0
        · rw [r0, Nat.gcd_zero_right]; exact brk b y (w :: xs) .no
        · have hr : 0 < a % b := by omega
          have hlt := Nat.mod_lt a hb0
          have sr := sm (a % b) (by omega)
          generalize a % b = r at *
          have g2 : Nat.gcd b r = Nat.gcd r (b % r) := by rw [Nat.gcd_comm b r, Nat.gcd_rec r b, Nat.gcd_comm]
          rw [stp b r y _ .no hr sr, g2]
          have h3 := Nat.mod_lt b hr
          have h4 : 2 * (b % r) < b := by
            have := Nat.div_add_mod b r
            have d1 : 1 ≤ b / r := Nat.div_pos (by omega) hr
            have : r * 1 ≤ r * (b / r) := Nat.mul_le_mul_left r d1
            omega
          exact ih (by omega) r (b % r) (by rw [Nat.pow_succ] at hb; omega) (w :: xs) .no (by simp at hx ⊢; omega)
theorem abs_i (a : Int) : (if a < 0 then -a else a) = (a.natAbs : Int) := by split <;> omega
theorem common_ok (a b : Int) (h : Bn 440 b) : φ_law_common_u [.int a, .int b] = some (.int (gc a b), .frz false) := by
  have r : rOk 900 := rOk_of (by omega)
  have q := com_go 440 (by omega) a.natAbs b.natAbs h (rngD 0 900) .no (by unfold rngD; simp)
  unfold φ_law_common_u
  refine runB_rt rfl ?_
  · unfold b_law_common_u
    rw [seq_nx (f := dSet 0 _) (Γ' := [.val (.int (a.natAbs : Int)) false, .val (.int b) false, .no]) (by simp [abs_i])]
    rw [seq_nx (f := dSet 1 _) (Γ' := [.val (.int (a.natAbs : Int)) false, .val (.int (b.natAbs : Int)) false, .no]) (by simp [abs_i])]
    exact seq_rt ((for_src (ds := rngD 0 900) (n := true) (by simp; exact r)).trans q)
theorem lfrac_ok (a b : Int) (hb : 0 < b) (hs : Bn 440 b) : φ_law_frac_u [.int a, .int b] = some (eR ((a : Rat) / (b : Rat)), .frz false) := by
  have hg := gc_pos (a := a) hb
  have hle := gc_le (a := a) hb
  have dg : divOk (gc a b) := bn_divOk hg (k := 440) (by unfold Bn at *; omega) (by omega)
  have l := common_ok a b hs
  have e1 := div_num (a := a) hb
  unfold φ_law_frac_u
  refine runB_rt rfl ?_
  unfold b_law_frac_u
  have hn : ¬ b < 0 := by omega
  unfold eR
  rw [e1.1, e1.2]
  generalize gc a b = g at *
  simp [hn, l, dg, hg]
theorem lplus_ok {p q : Rat} (hp : Bq 200 p) (hq : Bq 200 q) : φ_law_plus_u [eR p, eR q] = some (eR (p + q), .frz false) := by
  have f := lfrac_ok (p.num * (q.den : Int) + q.num * (p.den : Int)) ((p.den : Int) * (q.den : Int)) (Int.mul_pos (den_p p) (den_p q)) ((hp.2.mul hq.2).mono (by omega))
  rw [add_div] at f
  have m1 := bn_mulOk hp.1 hq.2 (by omega) (by omega)
  have m2 := bn_mulOk hq.1 hp.2 (by omega) (by omega)
  have m3 := bn_mulOk hp.2 hq.2 (by omega) (by omega)
  unfold φ_law_plus_u
  refine runB_rt rfl ?_
  unfold b_law_plus_u
  simp [eR_0, eR_1, m1, m2, m3, f]
theorem ltimes_ok {p q : Rat} (hp : Bq 200 p) (hq : Bq 200 q) : φ_law_times_u [eR p, eR q] = some (eR (p * q), .frz false) := by
  have f := lfrac_ok (p.num * q.num) ((p.den : Int) * (q.den : Int)) (Int.mul_pos (den_p p) (den_p q)) ((hp.2.mul hq.2).mono (by omega))
  rw [mul_div] at f
  have m1 := bn_mulOk hp.1 hq.1 (by omega) (by omega)
  have m3 := bn_mulOk hp.2 hq.2 (by omega) (by omega)
  unfold φ_law_times_u
  refine runB_rt rfl ?_
  unfold b_law_times_u
  simp [eR_0, eR_1, m1, m3, f]
theorem lless_ok {p q : Rat} (hp : Bq 1000 p) (hq : Bq 1000 q) : φ_law_less_u [eR p, eR q] = some (.bl (decide (p < q)), .frz false) := by
  have m1 := bn_mulOk hp.1 hq.2 (by omega) (by omega)
  have m2 := bn_mulOk hq.1 hp.2 (by omega) (by omega)
  have c := less_cmp p q
  unfold φ_law_less_u
  refine runB_rt rfl ?_
  unfold b_law_less_u
  simp [eR_0, eR_1, m1, m2, c]
end La
namespace La
open PySem PySem.Spec L2 Dn
open PyProof.Rows hiding St
/-! ### rules -/
inductive Ru where
  | mean | harm | plus (r : Rat)
  deriving DecidableEq
def eRu : Ru → D
  | .mean => .tup [.str "mean"]
  | .harm => .tup [.str "harmonic"]
  | .plus r => .tup [.str "plus", eR r]
def Ru.ok : Ru → Prop
  | .plus r => 0 ≤ r ∧ r ≤ 1 ∧ Bq 4 r
  | _ => True
/-- the mark, where there is one -/
def mrk : Ru → Int → Rat
  | .mean, k => (k : Rat)
  | .harm, k => ((2 * k * (k + 1) : Int) : Rat) / ((2 * k + 1 : Int) : Rat)
  | .plus r, k => (k : Rat) + r
def sq : Ru → Int → Rat
  | .mean, k => ((k * (k + 1) : Int) : Rat)
  | .harm, k => mrk .harm k * mrk .harm k
  | .plus r, k => mrk (.plus r) k * mrk (.plus r) k
def stc (u : Ru) : Bool := decide (sq u 0 = 0)
theorem eRu_0 (u : Ru) (m n : Bool) : subsD (eRu u) m (.int 0) n = some (match u with | .mean => .str "mean" | .harm => .str "harmonic" | .plus _ => .str "plus", .frz m) := by cases u <;> simp [eRu]
theorem eRu_1 (r : Rat) (m n : Bool) : subsD (eRu (.plus r)) m (.int 1) n = some (eR r, .frz m) := by simp [eRu]
theorem ne_ph : ¬ (("harmonic" : Str) = "plus") := by decide
theorem ne_pm : ¬ (("mean" : Str) = "plus") := by decide
theorem ne_mh : ¬ (("harmonic" : Str) = "mean") := by decide
theorem ne_hm : ¬ (("mean" : Str) = "harmonic") := by decide
theorem ne_hp : ¬ (("plus" : Str) = "harmonic") := by decide
theorem ne_mp : ¬ (("plus" : Str) = "mean") := by decide
theorem bn_i {i : Int} {k : Nat} (h : -2048 < i ∧ i < 2048) (hk : 11 ≤ k) : Bn k i := by
  have : (2 : Nat) ^ 11 = 2048 := by decide
  exact (show Bn 11 i by unfold Bn; omega).mono hk
theorem bq_mark {u : Ru} (h : u.ok) {k : Int} (hk : 0 ≤ k ∧ k ≤ 2000) : Bq 24 (mrk u k) := by
  have bk : Bn 11 k := bn_i (by omega) (by omega)
  have bk1 : Bn 11 (k + 1) := bn_i (by omega) (by omega)
  cases u with
  | mean => exact (bq_int bk (by omega)).mono (by omega)
  | harm =>
    refine bq_div (by omega) ?_ ?_
    · exact ((Bn.mul (Bn.mul (j := 2) (k := 11) (by unfold Bn; decide) bk) bk1)).mono (by omega)
    · exact (Bn.add (k := 13) ((Bn.mul (j := 2) (k := 11) (by unfold Bn; decide) bk)) (by unfold Bn; decide)).mono (by omega)
  | plus r => exact (bq_add (bq_int bk (by omega)) h.2.2).mono (by omega)
theorem bq_sq {u : Ru} (h : u.ok) {k : Int} (hk : 0 ≤ k ∧ k ≤ 2000) : Bq 48 (sq u k) := by
  cases u with
  | mean => exact bq_int ((Bn.mul (j := 11) (k := 11) (bn_i (by omega) (by omega)) (bn_i (by omega) (by omega))).mono (by omega)) (by omega)
  | harm => exact bq_mul (bq_mark h hk) (bq_mark h hk)
  | plus r => exact bq_mul (bq_mark h hk) (bq_mark h hk)
theorem mul_i {a b : Int} {j k : Nat} (ha : Bn j a) (hb : Bn k b) (hj : 0 < j ∧ j ≤ 1000) (hk : 0 < k ∧ k ≤ 1000) : mulOk a b := bn_mulOk ha hb (by omega) (by omega)
theorem square_ok {u : Ru} (h : u.ok) {k : Int} (hk : 0 ≤ k ∧ k ≤ 2000) : φ_square [eRu u, .int k] = some (eR (sq u k), .frz false) := by
  have bk : Bn 11 k := bn_i (by omega) (by omega)
  have bk1 : Bn 11 (k + 1) := bn_i (by omega) (by omega)
  have bm := bq_mark h hk
  unfold φ_square
  refine runB_rt rfl ?_
  unfold b_square
  cases u with
  | mean =>
    have w := whole_ok (k * (k + 1))
    have m := mul_i bk bk1 (by omega) (by omega)
    simp [eRu_0, ne_pm, w, m, sq]
  | harm =>
    have f := frac_ok (2 * k * (k + 1)) (2 * k + 1) (by omega) ((Bn.add (k := 13) ((Bn.mul (j := 2) (k := 11) (by unfold Bn; decide) bk)) (by unfold Bn; decide)).mono (by omega))
    have t := times_ok (bm.mono (k := 1000) (by omega)) (bm.mono (k := 1000) (by omega))
    have m1 : mulOk 2 k := mul_i (j := 2) (by unfold Bn; decide) bk (by omega) (by omega)
    have m2 : mulOk (2 * k) (k + 1) := mul_i (Bn.mul (j := 2) (by unfold Bn; decide) bk) bk1 (by omega) (by omega)
    simp [eRu_0, ne_ph, ne_mh, m1, m2, f]
    unfold mrk at t
    simp at t
    simp [t, sq, mrk]
  | plus r =>
    have w := whole_ok k
    have p := plus_ok ((bq_int bk (by omega)).mono (k := 1000) (by omega)) (h.2.2.mono (k := 1000) (by omega))
    have t := times_ok (bm.mono (k := 1000) (by omega)) (bm.mono (k := 1000) (by omega))
    unfold mrk at t
    simp [eRu_0, eRu_1, w, p, t, sq, mrk]
theorem strict_ok {u : Ru} (h : u.ok) : φ_is_strict [eRu u] = some (.bl (stc u), .frz false) := by
  have s := square_ok h (k := 0) (by omega)
  unfold φ_is_strict
  refine runB_rt rfl ?_
  unfold b_is_strict c_ZERO
  simp [s, z_R, qR, stc]
theorem lsquare_ok {u : Ru} (h : u.ok) {k : Int} (hk : 0 ≤ k ∧ k ≤ 2000) : φ_law_square_u [eRu u, .int k] = some (eR (sq u k), .frz false) := by
  have bk : Bn 11 k := bn_i (by omega) (by omega)
  have bk1 : Bn 11 (k + 1) := bn_i (by omega) (by omega)
  have bm := bq_mark h hk
  unfold φ_law_square_u
  refine runB_rt rfl ?_
  unfold b_law_square_u
  cases u with
  | mean =>
    have m := mul_i bk bk1 (by omega) (by omega)
    simp [eRu_0, ne_pm, m, sq, i_R]
  | harm =>
    have f := lfrac_ok (2 * k * (k + 1)) (2 * k + 1) (by omega) ((Bn.add (k := 13) ((Bn.mul (j := 2) (k := 11) (by unfold Bn; decide) bk)) (by unfold Bn; decide)).mono (by omega))
    have t := ltimes_ok (bm.mono (k := 200) (by omega)) (bm.mono (k := 200) (by omega))
    have m1 : mulOk 2 k := mul_i (j := 2) (by unfold Bn; decide) bk (by omega) (by omega)
    have m2 : mulOk (2 * k) (k + 1) := mul_i (Bn.mul (j := 2) (by unfold Bn; decide) bk) bk1 (by omega) (by omega)
    simp [eRu_0, ne_ph, ne_mh, m1, m2, f]
    unfold mrk at t
    simp at t
    simp [t, sq, mrk]
  | plus r =>
    have p := lplus_ok ((bq_int bk (by omega)).mono (k := 200) (by omega)) (h.2.2.mono (k := 200) (by omega))
    have t := ltimes_ok (bm.mono (k := 200) (by omega)) (bm.mono (k := 200) (by omega))
    unfold mrk at t
    simp [eRu_0, eRu_1, i_R, p, t, sq, mrk]
theorem lstrict_ok {u : Ru} (h : u.ok) : φ_law_strict_u [eRu u] = some (.bl (stc u), .frz false) := by
  have s := lsquare_ok h (k := 0) (by omega)
  unfold φ_law_strict_u
  refine runB_rt rfl ?_
  unfold b_law_strict_u
  simp [s, z_R, qR, stc]
theorem eqv_R (p q : Rat) : D.eqv (eR p) (eR q) = decide (p = q) := (inferInstance : EqE eR 1).eqv p q
instance : EqE eRu 2 := ⟨fun u => by cases u <;> simp [eRu, eR], fun u v => by
  cases u <;> cases v <;> simp [eRu, ne_ph, ne_pm, ne_mh, ne_mp, ne_hm, ne_hp, eqv_R]⟩
theorem qRu (b m n : Bool) (p q : Ru) : eqD b (eRu p) m (eRu q) n = some (.bl (if b then !decide (p = q) else decide (p = q)), .frz true) := eqD_enc (inferInstance : EqE eRu 2) (by omega) (b := b) (m := m) (n := n) p q
/-! ### squares grow -/
theorem ci {a b : Int} (h : a ≤ b) : (a : Rat) ≤ (b : Rat) := Rat.intCast_le_intCast.mpr h
theorem cl {a b : Int} (h : a < b) : (a : Rat) < (b : Rat) := Rat.intCast_lt_intCast.mpr h
theorem cp {a : Int} (h : 0 < a) : 0 < (a : Rat) := Rat.intCast_pos.mpr h
theorem cn {a : Int} (h : 0 ≤ a) : 0 ≤ (a : Rat) := Rat.intCast_nonneg.mpr h
theorem div_nn {a b : Rat} (ha : 0 ≤ a) (hb : 0 < b) : 0 ≤ a / b := by
  rw [Rat.div_def]
  exact Rat.mul_nonneg ha (Rat.le_of_lt (Rat.inv_pos.mpr hb))
theorem div_ps {a b : Rat} (ha : 0 < a) (hb : 0 < b) : 0 < a / b := by
  rw [Rat.div_def]
  exact Rat.mul_pos ha (Rat.inv_pos.mpr hb)
theorem unit_div {a b : Int} (ha : 0 ≤ a) (h : a ≤ b) (hb : 0 < b) : 0 ≤ (a : Rat) / (b : Rat) ∧ (a : Rat) / (b : Rat) ≤ 1 := by
  refine ⟨div_nn (cn ha) (cp hb), ?_⟩
  have c1 := cp hb
  have c2 := ci h
  have := Rat.mul_inv_cancel (b : Rat) (by intro z; rw [z] at c1; exact absurd c1 (by decide))
  rw [Rat.div_def]
  have := Rat.mul_le_mul_of_nonneg_right c2 (Rat.le_of_lt (Rat.inv_pos.mpr c1))
  grind
theorem mrk_nn {u : Ru} (h : u.ok) {k : Int} (hk : 0 ≤ k) : 0 ≤ mrk u k := by
  have k0 := cn hk
  cases u with
  | mean => exact k0
  | harm => exact div_nn (cn (Int.mul_nonneg (by omega) (by omega))) (cp (by omega))
  | plus r => unfold mrk; have := h.1; grind
theorem sq_lt {a b : Rat} (ha : 0 ≤ a) (h : a < b) : a * a < b * b := by
  have hb : 0 < b := by grind
  have h1 : a * a ≤ a * b := Rat.mul_le_mul_of_nonneg_left (Rat.le_of_lt h) ha
  have h2 : a * b < b * b := Rat.mul_lt_mul_of_pos_right h hb
  grind
theorem mrk_lt {u : Ru} (h : u.ok) {j k : Int} (hj : 0 ≤ j) (hk : j < k) : mrk u j < mrk u k := by
  have c := cl hk
  cases u with
  | mean => exact c
  | harm =>
    simp only [mrk]
    have h2 : (0 : Rat) < ((2 * j + 1 : Int) : Rat) := cp (by omega)
    have h3 : (0 : Rat) < ((2 * k + 1 : Int) : Rat) := cp (by omega)
    rw [Rat.div_lt_iff h2, Rat.div_def, Rat.mul_assoc, Rat.mul_comm _⁻¹, ← Rat.mul_assoc, ← Rat.div_def, Rat.lt_div_iff h3, ← Rat.intCast_mul, ← Rat.intCast_mul]
    refine cl ?_
    have e : 2 * k * (k + 1) * (2 * j + 1) - 2 * j * (j + 1) * (2 * k + 1) = 2 * ((k - j) * (2 * (j * k) + (k + j) + 1)) := by grind
    have : 0 < (k - j) * (2 * (j * k) + (k + j) + 1) := Int.mul_pos (by omega) (by have := Int.mul_nonneg hj (show 0 ≤ k by omega); omega)
    omega
  | plus r => unfold mrk; grind
theorem sq_nn {u : Ru} (h : u.ok) {k : Int} (hk : 0 ≤ k) : 0 ≤ sq u k := by
  cases u with
  | mean => exact cn (Int.mul_nonneg hk (by omega))
  | harm => exact Rat.mul_nonneg (mrk_nn h hk) (mrk_nn h hk)
  | plus r => exact Rat.mul_nonneg (mrk_nn h hk) (mrk_nn h hk)
theorem sq_mono {u : Ru} (h : u.ok) {j k : Int} (hj : 0 ≤ j) (hk : j < k) : sq u j < sq u k := by
  cases u with
  | mean =>
    refine cl ?_
    have e : k * (k + 1) - j * (j + 1) = (k - j) * (k + j + 1) := by grind
    have : 0 < (k - j) * (k + j + 1) := Int.mul_pos (by omega) (by omega)
    omega
  | harm => exact sq_lt (mrk_nn h hj) (mrk_lt h hj hk)
  | plus r => exact sq_lt (mrk_nn h hj) (mrk_lt h hj hk)
theorem sq_mono' {u : Ru} (h : u.ok) {j k : Int} (hj : 0 ≤ j) (hk : j ≤ k) : sq u j ≤ sq u k := by
  rcases Int.lt_or_eq_of_le hk with z | z
  · exact Rat.le_of_lt (sq_mono h hj z)
  · rw [z]; exact Rat.le_refl
theorem sq_pos {u : Ru} (h : u.ok) {k : Int} (hk : 0 < k) : 0 < sq u k := by
  have a := sq_mono h (Int.le_refl 0) hk
  have b := sq_nn h (Int.le_refl 0)
  grind
theorem sq_zero {u : Ru} (h : u.ok) {k : Int} (hk : 0 ≤ k) : sq u k = 0 ↔ (k = 0 ∧ stc u = true) := by
  unfold stc
  rw [decide_eq_true_eq]
  constructor
  · intro z
    have : k = 0 := by
      rcases Int.lt_or_eq_of_le hk with y | y
      · have := sq_pos h y; grind
      · exact y.symm
    subst this
    exact ⟨rfl, z⟩
  · rintro ⟨rfl, z⟩; exact z
/-! ### drawn rules -/
theorem rule_ok (ds : List Int) (hd : ∀ d ∈ ds, 0 ≤ d ∧ d < 5040) (p : Int) (hp : 0 ≤ p ∧ p + 2 < ds.length) : ∃ u : Ru, u.ok ∧ φ_law_rule_u [.lst (ds.map D.int), .int p] = some (eRu u, .frz false) := by
  have a0 := atI_dr (ds := ds) (i := p) (by omega) (by omega)
  have a1 := atI_dr (ds := ds) (i := p + 1) (by omega) (by omega)
  have a2 := atI_dr (ds := ds) (i := p + 2) (by omega) (by omega)
  have b1 := dr_in (i := p + 1) hd (by omega)
  have b2 := dr_in (i := p + 2) hd (by omega)
  have d6 : divOk 6 := Cm.divOk_s (by omega)
  have d7 : divOk 7 := Cm.divOk_s (by omega)
  have d2 : divOk 2 := Cm.divOk_s (by omega)
  generalize dr ds p = x at *
  generalize dr ds (p + 1) = y at *
  generalize dr ds (p + 2) = z at *
  have x6 := emod_in (a := x) (b := 6) (by omega)
  have y2 := emod_in (a := y) (b := 2) (by omega)
  have y7 := emod_in (a := y) (b := 7) (by omega)
  have tk : ∀ u : Ru, b_law_rule_u [.val (.lst (ds.map D.int)) false, .val (.int p) false, .no, .no] = .rt (eRu u) (.frz false) → φ_law_rule_u [.lst (ds.map D.int), .int p] = some (eRu u, .frz false) := fun u e => by
    unfold φ_law_rule_u
    exact runB_rt rfl e
  by_cases h0 : x % 6 = 0
  · exact ⟨.mean, trivial, tk _ (by unfold b_law_rule_u; simp [a0, d6, h0, eRu])⟩
  by_cases h1 : x % 6 = 1
  · exact ⟨.harm, trivial, tk _ (by unfold b_law_rule_u; simp [a0, d6, h0, h1, eRu])⟩
  by_cases h2 : x % 6 = 2
  · rcases (show y % 2 = 0 ∨ y % 2 = 1 by omega) with q | q
    · exact ⟨.plus 0, ⟨by decide, by decide, by constructor <;> (unfold Bn; decide)⟩, tk _ (by unfold b_law_rule_u; simp [a0, a1, d6, d2, h0, h1, h2, q, eRu, z_R, o_R])⟩
    · exact ⟨.plus 1, ⟨by decide, by decide, by constructor <;> (unfold Bn; decide)⟩, tk _ (by unfold b_law_rule_u; simp [a0, a1, d6, d2, h0, h1, h2, q, eRu, z_R, o_R])⟩
  by_cases h3 : x % 6 = 3
  · have hu := unit_div (a := 1) (b := 2) (by omega) (by omega) (by omega)
    exact ⟨.plus (((1 : Int) : Rat) / ((2 : Int) : Rat)), ⟨hu.1, hu.2, bq_div (by omega) (by unfold Bn; decide) (by unfold Bn; decide)⟩, tk _ (by
      have e : D.tup [.int 1, .int 2] = eR (((1 : Int) : Rat) / ((2 : Int) : Rat)) := by
        have d := div_num (a := 1) (b := 2) (by omega)
        unfold eR
        rw [d.1, d.2]; rfl
      generalize ((1 : Int) : Rat) / ((2 : Int) : Rat) = r at *
      unfold b_law_rule_u; simp [a0, d6, h0, h1, h2, h3, eRu, e])⟩
  have b3 : 0 < y % 7 + 1 := by omega
  have dv : divOk (1 + y % 7 + 1) := Cm.divOk_s (by omega)
  have w := emod_in (a := z) (b := 1 + y % 7 + 1) (by omega)
  have hb : 0 < 1 + y % 7 := by omega
  have b4 : 0 < 1 + y % 7 + 1 := by omega
  have hu := unit_div w.1 (show z % (1 + y % 7 + 1) ≤ 1 + y % 7 by omega) hb
  have f := lfrac_ok (z % (1 + y % 7 + 1)) (1 + y % 7) hb (bn_i (by omega) (by omega))
  have bi : ∀ i : Int, 0 ≤ i ∧ i < 16 → Bn 4 i := fun i h => by
    have : (2 : Nat) ^ 4 = 16 := by decide
    unfold Bn; omega
  refine ⟨.plus (((z % (1 + y % 7 + 1) : Int) : Rat) / ((1 + y % 7 : Int) : Rat)), ⟨hu.1, hu.2, bq_div hb (bi _ (by omega)) (bi _ (by omega))⟩, tk _ (by
    unfold b_law_rule_u
    simp only [Rat.intCast_add] at f
    simp [a0, a1, a2, d6, d7, h0, h1, h2, h3, dv, b4, f, eRu])⟩
end La
namespace La
open PySem PySem.Spec L2 Dn
open PyProof.Rows hiding St
/-! ### votes and seats -/
structure VS (vs ss : List Int) : Prop where
  l : ss.length = vs.length
  n : vs.length ≤ 20
  v : ∀ v ∈ vs, 0 ≤ v ∧ v ≤ 1000000000
  s : ∀ s ∈ ss, 0 ≤ s ∧ s ≤ 1000
def g (xs : List Int) (i : Nat) : Int := xs.getD i 0
theorem g_at {xs : List Int} {i : Nat} (h : i < xs.length) : atI (xs.map D.int) (i : Int) = some (.int (g xs i)) := atI_of (by omega) (by simp [g, h])
theorem g_mem {xs : List Int} {i : Nat} (h : i < xs.length) : g xs i ∈ xs := by
  unfold g
  rw [List.getD_eq_getElem?_getD, List.getElem?_eq_getElem h]
  exact List.getElem_mem ..
theorem VS.vb {vs ss : List Int} (h : VS vs ss) {i : Nat} (hi : i < vs.length) : 0 ≤ g vs i ∧ g vs i ≤ 1000000000 := h.v _ (g_mem hi)
theorem VS.sb {vs ss : List Int} (h : VS vs ss) {i : Nat} (hi : i < vs.length) : 0 ≤ g ss i ∧ g ss i ≤ 1000 := h.s _ (g_mem (by rw [h.l]; exact hi))
def W (vs : List Int) (i : Nat) : Rat := ((g vs i * g vs i : Int) : Rat)
theorem bn30 {v : Int} (h : 0 ≤ v ∧ v ≤ 1000000000) : Bn 30 v := by
  have : (2 : Nat) ^ 30 = 1073741824 := by decide
  unfold Bn; omega
theorem W_nn (vs : List Int) (i : Nat) : 0 ≤ W vs i := cn (by
  rcases Int.le_total 0 (g vs i) with z | z
  · exact Int.mul_nonneg z z
  · exact Int.mul_nonneg_of_nonpos_of_nonpos z z)
theorem bq_W {vs ss : List Int} (h : VS vs ss) {i : Nat} (hi : i < vs.length) : Bq 60 (W vs i) := bq_int (Bn.mul (bn30 (h.vb hi)) (bn30 (h.vb hi))) (by omega)
theorem sqof_ok {v : Int} (h : 0 ≤ v ∧ v ≤ 1000000000) : φ_square_of [.int v] = some (eR ((v * v : Int) : Rat), .frz false) := by
  have w := whole_ok (v * v)
  have m := mul_i (bn30 h) (bn30 h) (by omega) (by omega)
  unfold φ_square_of
  refine runB_rt rfl ?_
  unfold b_square_of
  simp only [Rat.intCast_mul] at w ⊢
  simp [w, m]
theorem sqW {vs ss : List Int} (h : VS vs ss) {i : Nat} (hi : i < vs.length) : φ_square_of [.int (g vs i)] = some (eR (W vs i), .frz false) := sqof_ok (h.vb hi)
theorem W_tup {vs : List Int} {i : Nat} : D.tup [.int (g vs i * g vs i), .int 1] = eR (W vs i) := i_R _
theorem W_mul {vs ss : List Int} (h : VS vs ss) {i : Nat} (hi : i < vs.length) : mulOk (g vs i) (g vs i) := mul_i (bn30 (h.vb hi)) (bn30 (h.vb hi)) (by omega) (by omega)
theorem above_ok {p q : Rat} (hp : Bq 1000 p) (hq : Bq 1000 q) : φ_is_above [eR p, eR q] = some (.bl (decide (q < p)), .frz false) := by
  have l := is_less_ok hq hp
  unfold φ_is_above
  refine runB_rt rfl ?_
  unfold b_is_above
  simp [l]
/-! ### loops that look for the first one -/
def findO {β : Type} (r : β → D) (Γ : Ev) : Option β → Out
  | some b => .rt (r b) (.frz false)
  | none => .nx Γ
@[simp] theorem findO_s {β : Type} {r : β → D} {Γ : Ev} {b : β} : findO r Γ (some b) = .rt (r b) (.frz false) := rfl
@[simp] theorem findO_n {β : Type} {r : β → D} {Γ : Ev} : findO r Γ none = .nx Γ := rfl
theorem go_find {β : Type} {t : Tg} {h : DenS} {Γ : Ev} (enc : β → D) (p : β → Bool) (r : β → D) : ∀ xs : List β, (∀ b ∈ xs, ∃ Γ1, asg t (enc b) false Γ = some Γ1 ∧ h Γ1 = if p b = true then .rt (r b) (.frz false) else .nx Γ) →
    forGo t h (xs.map enc) Γ = findO r Γ (xs.find? p)
  | [], _ => rfl
  | x :: xs, hs => by
    obtain ⟨Γ1, e1, e2⟩ := hs x List.mem_cons_self
    have ih := go_find enc p r xs fun b hb => hs b (List.mem_cons_of_mem _ hb)
    rw [List.map_cons, List.find?_cons]
    cases hp : p x with
    | true =>
      rw [if_pos hp] at e2
      exact forGo_rt e1 e2
    | false =>
      rw [if_neg (by rw [hp]; simp)] at e2
      rw [forGo_nx e1 e2]
      exact ih
def fp (p : Nat → Nat → Bool) (n : Nat) : Option (Nat × Nat) := ((List.range n).find? fun i => ((List.range n).find? (p i)).isSome).bind fun i => ((List.range n).find? (p i)).map fun j => (i, j)
theorem fp_some {p : Nat → Nat → Bool} {n i j : Nat} (h : fp p n = some (i, j)) : i < n ∧ j < n ∧ p i j = true := by
  unfold fp at h
  cases e : (List.range n).find? fun i => ((List.range n).find? (p i)).isSome with
  | none => rw [e] at h; cases h
  | some a =>
    rw [e] at h
    cases e2 : (List.range n).find? (p a) with
    | none => rw [Option.bind_some, e2] at h; cases h
    | some b =>
      rw [Option.bind_some, e2] at h
      cases h
      exact ⟨List.mem_range.mp (List.mem_of_find?_eq_some e), List.mem_range.mp (List.mem_of_find?_eq_some e2), List.find?_some e2⟩
theorem fp_none {p : Nat → Nat → Bool} {n : Nat} (h : fp p n = none) : ∀ i j, i < n → j < n → p i j = false := fun i j hi hj => by
  unfold fp at h
  cases e : (List.range n).find? fun i => ((List.range n).find? (p i)).isSome with
  | none =>
    have := List.find?_eq_none.mp e i (List.mem_range.mpr hi)
    cases e2 : (List.range n).find? (p i) with
    | none =>
      have := List.find?_eq_none.mp e2 j (List.mem_range.mpr hj)
      simpa using this
    | some b => rw [e2] at this; simp at this
  | some a =>
    rw [e] at h
    have := List.find?_some e
    cases e2 : (List.range n).find? (p a) with
    | none => rw [e2] at this; simp at this
    | some b => rw [Option.bind_some, e2] at h; cases h
/-! ### who bars whom -/
def bar (vs : List Int) (u : Ru) (ss : List Int) (i j : Nat) : Bool := decide (1 ≤ g ss j) && decide (W vs j * sq u (g ss i) < W vs i * sq u (g ss j - 1))
theorem bar_self {vs ss : List Int} {u : Ru} (hu : u.ok) (h : VS vs ss) {i : Nat} (hi : i < vs.length) : bar vs u ss i i = false := by
  unfold bar
  by_cases h1 : 1 ≤ g ss i
  · rw [decide_eq_true h1, Bool.true_and, decide_eq_false]
    have := sq_mono' hu (j := g ss i - 1) (k := g ss i) (by omega) (by omega)
    have := Rat.mul_le_mul_of_nonneg_left this (W_nn vs i)
    grind
  · rw [decide_eq_false h1, Bool.false_and]
section
variable {vs ss : List Int} {u : Ru} (hu : u.ok) (h : VS vs ss)
include hu h
end
end La
namespace La
open PySem PySem.Spec L2 Dn
open PyProof.Rows hiding St
def eQ : Option Rat → D
  | none => .non
  | some r => eR r
def BqO (k : Nat) : Option Rat → Prop
  | none => True
  | some r => Bq k r
def lr (vs : List Int) (u : Ru) (ss : List Int) (k : Nat) : Option Rat := if g ss k < 1 ∨ sq u (g ss k - 1) = 0 then none else some (W vs k / sq u (g ss k - 1))
def nr (vs : List Int) (u : Ru) (ss : List Int) (k : Nat) : Option Rat := if sq u (g ss k) = 0 then none else some (W vs k / sq u (g ss k))
@[simp] theorem eR_non (r : Rat) : (eR r).isNon = false := rfl
theorem isnR (b : Bool) (r : Rat) (m n : Bool) : isND b (eR r) m .non n = some (.bl b, .frz true) := by cases b <;> simp [eR]
theorem isnN (b : Bool) (m n : Bool) : isND b .non m .non n = some (.bl (!b), .frz true) := by cases b <;> simp
def mnO : Option Rat → Option Rat → Option Rat
  | b, none => b
  | none, some x => some x
  | some b, some x => if x < b then some x else some b
def mxO : Option Rat → Option Rat → Option Rat
  | b, none => b
  | none, some x => some x
  | some b, some x => if b < x then some x else some b
theorem mnO_bq {k : Nat} {a b : Option Rat} (ha : BqO k a) (hb : BqO k b) : BqO k (mnO a b) := by
  cases a <;> cases b <;> simp only [mnO] <;> first | exact ha | exact hb | skip
  split <;> assumption
theorem mxO_bq {k : Nat} {a b : Option Rat} (ha : BqO k a) (hb : BqO k b) : BqO k (mxO a b) := by
  cases a <;> cases b <;> simp only [mxO] <;> first | exact ha | exact hb | skip
  split <;> assumption
theorem mn_fold : ∀ (L : List (Option Rat)) (a : Option Rat) (w : Rat), L.foldl mnO a = some w → (a = some w ∨ some w ∈ L) ∧ (∀ x, a = some x → w ≤ x) ∧ ∀ x, some x ∈ L → w ≤ x
  | [], a, w, e => ⟨.inl e, fun x h => by have e : a = some w := e; rw [e] at h; cases h; exact Rat.le_refl, fun _ h => nomatch h⟩
  | y :: L, a, w, e => by
    obtain ⟨h1, h2, h3⟩ := mn_fold L (mnO a y) w e
    refine ⟨?_, fun x hx => ?_, fun x hx => ?_⟩
    · rcases h1 with z | z
      · cases a <;> cases y <;> simp only [mnO] at z
        · cases z
        · exact .inr (by rw [← z]; exact List.mem_cons_self)
        · exact .inl z
        · split at z
          · exact .inr (by rw [← z]; exact List.mem_cons_self)
          · exact .inl z
      · exact .inr (List.mem_cons_of_mem _ z)
    · subst hx
      cases y with
      | none => exact h2 x rfl
      | some y =>
        simp only [mnO] at h2
        by_cases c : y < x
        · have := h2 y (by rw [if_pos c]); grind
        · exact h2 x (by rw [if_neg c])
    · rcases List.mem_cons.mp hx with z | z
      · subst z
        cases a with
        | none => exact h2 x rfl
        | some b =>
          simp only [mnO] at h2
          by_cases c : x < b
          · exact h2 x (by rw [if_pos c])
          · have := h2 b (by rw [if_neg c]); grind
      · exact h3 x z
theorem mx_fold : ∀ (L : List (Option Rat)) (a : Option Rat) (w : Rat), L.foldl mxO a = some w → (a = some w ∨ some w ∈ L) ∧ (∀ x, a = some x → x ≤ w) ∧ ∀ x, some x ∈ L → x ≤ w
  | [], a, w, e => ⟨.inl e, fun x h => by have e : a = some w := e; rw [e] at h; cases h; exact Rat.le_refl, fun _ h => nomatch h⟩
  | y :: L, a, w, e => by
    obtain ⟨h1, h2, h3⟩ := mx_fold L (mxO a y) w e
    refine ⟨?_, fun x hx => ?_, fun x hx => ?_⟩
    · rcases h1 with z | z
      · cases a <;> cases y <;> simp only [mxO] at z
        · cases z
        · exact .inr (by rw [← z]; exact List.mem_cons_self)
        · exact .inl z
        · split at z
          · exact .inr (by rw [← z]; exact List.mem_cons_self)
          · exact .inl z
      · exact .inr (List.mem_cons_of_mem _ z)
    · subst hx
      cases y with
      | none => exact h2 x rfl
      | some y =>
        simp only [mxO] at h2
        by_cases c : x < y
        · have := h2 y (by rw [if_pos c]); grind
        · exact h2 x (by rw [if_neg c])
    · rcases List.mem_cons.mp hx with z | z
      · subst z
        cases a with
        | none => exact h2 x rfl
        | some b =>
          simp only [mxO] at h2
          by_cases c : b < x
          · exact h2 x (by rw [if_pos c])
          · have := h2 b (by rw [if_neg c]); grind
      · exact h3 x z
theorem fold_ne {f : Option Rat → Option Rat → Option Rat} (hf : ∀ a b, f a b = none ↔ a = none ∧ b = none) : ∀ (L : List (Option Rat)) (a : Option Rat), L.foldl f a = none ↔ a = none ∧ ∀ x ∈ L, x = none
  | [], a => ⟨fun e => ⟨e, fun _ h => nomatch h⟩, fun e => e.1⟩
  | y :: L, a => by
    rw [List.foldl_cons, fold_ne hf L, hf]
    constructor
    · rintro ⟨⟨h1, h2⟩, h3⟩
      exact ⟨h1, fun x hx => by rcases List.mem_cons.mp hx with z | z; exact z ▸ h2; exact h3 x z⟩
    · rintro ⟨h1, h2⟩
      exact ⟨⟨h1, h2 y List.mem_cons_self⟩, fun x hx => h2 x (List.mem_cons_of_mem _ hx)⟩
theorem mnO_ne (a b : Option Rat) : mnO a b = none ↔ a = none ∧ b = none := by cases a <;> cases b <;> simp [mnO]; split <;> simp
theorem mxO_ne (a b : Option Rat) : mxO a b = none ↔ a = none ∧ b = none := by cases a <;> cases b <;> simp [mxO]; split <;> simp
theorem least_ok (L : List (Option Rat)) (hb : ∀ x ∈ L, BqO 400 x) : φ_least_of [.lst (L.map eQ)] = some (eQ (L.foldl mnO none), .frz false) := by
  have loop := forGo_fold (t := .nm 2) (h := lb_least_of_1) eQ (fun a => [.val (.lst (L.map eQ)) false, .val (eQ a) false, .no]) mnO (BqO 400) L none trivial fun a x hx ha => ⟨_, rfl, .inl (by
    have bx := hb x hx
    unfold lb_least_of_1
    cases x with
    | none => simp [eQ, isnN, mnO]
    | some x =>
      cases a with
      | none => simp [eQ, isnN, isnR, mnO]
      | some a =>
        have l := is_less_ok (p := x) (q := a) (bx.mono (by omega)) ((show Bq 400 a from ha).mono (by omega))
        by_cases c : x < a
        · rw [decide_eq_true c] at l; simp [eQ, isnR, mnO, l, c]
        · rw [decide_eq_false c] at l; simp [eQ, isnR, mnO, l, c]), mnO_bq ha (hb x hx)⟩
  unfold φ_least_of
  refine runB_rt rfl ?_
  unfold b_least_of
  refine Eq.trans (seq_nx (f := dSet 1 _) (Γ' := [.val (.lst (L.map eQ)) false, .val (eQ none) false, .no]) (by simp [eQ])) ?_
  refine Eq.trans (seq_nx ((for_src (ds := L.map eQ) (n := false) (by simp)).trans loop.1)) ?_
  simp
theorem greatest_ok (L : List (Option Rat)) (hb : ∀ x ∈ L, BqO 400 x) : φ_greatest_of [.lst (L.map eQ)] = some (eQ (L.foldl mxO none), .frz false) := by
  have loop := forGo_fold (t := .nm 2) (h := lb_greatest_of_1) eQ (fun a => [.val (.lst (L.map eQ)) false, .val (eQ a) false, .no]) mxO (BqO 400) L none trivial fun a x hx ha => ⟨_, rfl, .inl (by
    have bx := hb x hx
    unfold lb_greatest_of_1
    cases x with
    | none => simp [eQ, isnN, mxO]
    | some x =>
      cases a with
      | none => simp [eQ, isnN, isnR, mxO]
      | some a =>
        have l := is_less_ok (p := a) (q := x) ((show Bq 400 a from ha).mono (by omega)) (bx.mono (by omega))
        by_cases c : a < x
        · rw [decide_eq_true c] at l; simp [eQ, isnR, mxO, l, c]
        · rw [decide_eq_false c] at l; simp [eQ, isnR, mxO, l, c]), mxO_bq ha (hb x hx)⟩
  unfold φ_greatest_of
  refine runB_rt rfl ?_
  unfold b_greatest_of
  refine Eq.trans (seq_nx (f := dSet 1 _) (Γ' := [.val (.lst (L.map eQ)) false, .val (eQ none) false, .no]) (by simp [eQ])) ?_
  refine Eq.trans (seq_nx ((for_src (ds := L.map eQ) (n := false) (by simp)).trans loop.1)) ?_
  simp
theorem enum_g (xs : List Int) : enumD (xs.map D.int) = (List.range xs.length).map fun (k : Nat) => D.tup [.int (k : Int), .int (g xs k)] := by
  refine List.ext_getElem? fun i => ?_
  rw [enumD_F, enumF_at, List.getElem?_map, List.getElem?_map]
  by_cases h : i < xs.length
  · rw [List.getElem?_range h, List.getElem?_eq_getElem h]
    have e : g xs i = xs[i] := by simp [g, h]
    rw [Option.map_some, Option.map_some, Option.map_some, e]
    simp
  · simp [h]
section
variable {vs ss : List Int} {u : Ru} (hu : u.ok) (h : VS vs ss)
include hu h
theorem lr_bq {k : Nat} (hk : k < vs.length) : BqO 400 (lr vs u ss k) := by
  have b := h.sb hk
  unfold lr
  split
  · trivial
  · rename_i c
    have p : 0 < sq u (g ss k - 1) := by
      have := sq_nn hu (k := g ss k - 1) (by omega)
      grind
    exact (bq_quo (bq_W h hk) (bq_sq hu (k := g ss k - 1) (by omega)) p).mono (by omega)
theorem nr_bq {k : Nat} (hk : k < vs.length) : BqO 400 (nr vs u ss k) := by
  have b := h.sb hk
  unfold nr
  split
  · trivial
  · rename_i c
    have p : 0 < sq u (g ss k) := by
      have := sq_nn hu (k := g ss k) (by omega)
      grind
    exact (bq_quo (bq_W h hk) (bq_sq hu (k := g ss k) (by omega)) p).mono (by omega)
theorem next_ratio_ok {k : Nat} (hk : k < vs.length) : φ_next_ratio [.lst (vs.map D.int), eRu u, .lst (ss.map D.int), .int (k : Int)] = some (eQ (nr vs u ss k), .frz false) := by
  have vi := g_at hk
  have si := g_at (xs := ss) (i := k) (by rw [h.l]; exact hk)
  have b := h.sb hk
  unfold φ_next_ratio
  refine runB_rt rfl ?_
  unfold b_next_ratio nr c_ZERO
  have q := square_ok hu (k := g ss k) (by omega)
  by_cases h2 : sq u (g ss k) = 0
  · simp [si, q, z_R, qR, h2, eQ]
  · have p : 0 < sq u (g ss k) := by
      have := sq_nn hu (k := g ss k) (by omega)
      grind
    have w := sqW h hk
    have o := over_ok ((bq_W h hk).mono (k := 1000) (by omega)) ((bq_sq hu (k := g ss k) (by omega)).mono (k := 1000) (by omega)) p
    simp [si, vi, q, z_R, qR, h2, w, o, eQ]
def fz (ss : List Int) : Option Nat := (List.range ss.length).find? fun k => decide (g ss k = 0)
def eO : Option Nat → D
  | none => .non
  | some i => .int (i : Int)
theorem lacking_ok : φ_first_lacking [eRu u, .lst (ss.map D.int)] = some (eO (if stc u = true then fz ss else none), .frz false) := by
  have s := strict_ok hu
  have zs : ss.length ≤ sizeLine := small_le (by rw [h.l]; have := h.n; omega)
  unfold φ_first_lacking
  refine runB_rt rfl ?_
  unfold b_first_lacking
  cases hs : stc u with
  | false => rw [hs] at s; simp [s, eO]
  | true =>
    rw [hs] at s
    have lc : lcGo (.tp [.nm 3, .nm 4]) (dB (dOp (eqD false) (dVar 4) (dC (.int 0)))) (dVar 3) [.val (eRu u) false, .val (.lst (ss.map D.int)) false, .no, .no, .no] ((List.range ss.length).map fun (k : Nat) => D.tup [.int (k : Int), .int (g ss k)]) = some ((((List.range ss.length).filter fun k => decide (g ss k = 0)).map fun (k : Nat) => (k : Int)).map D.int) :=
      lcGo_int (fun (k : Nat) => D.tup [.int (k : Int), .int (g ss k)]) (fun k => decide (g ss k = 0)) (fun (k : Nat) => (k : Int)) (List.range ss.length) _ rfl fun k hk => ⟨_, rfl, by simp, fun _ => ⟨_, by simp; rfl⟩⟩
    have hd : fz ss = ((List.range ss.length).filter fun k => decide (g ss k = 0)).head? := List.head?_filter.symm
    have hl := List.length_filter_le (fun k => decide (g ss k = 0)) (List.range ss.length)
    rw [List.length_range] at hl
    rw [hd]
    generalize ((List.range ss.length).filter fun k => decide (g ss k = 0)) = L at *
    have zL : L.length ≤ sizeLine := by omega
    refine Eq.trans (seq_nx (f := dIf _ _ _) (Γ' := [.val (eRu u) false, .val (.lst (ss.map D.int)) false, .no, .no, .no]) (by simp [s])) ?_
    refine Eq.trans (seq_nx (f := dSet 2 _) (Γ' := [.val (eRu u) false, .val (.lst (ss.map D.int)) false, .own (.lst ((L.map fun (k : Nat) => (k : Int)).map D.int)) false, .no, .no]) (by simp [enum_g, zs, lc, zL, -List.map_map])) ?_
    cases L with
    | nil => simp [eO]
    | cons a L => simp [eO]
/-- what find_right tells -/
inductive Vd where
  | lack (i : Nat) | bard (i j : Nat) | rght (w : Option Rat)
def eVd : Vd → D
  | .lack i => .tup [.str "lacking", .int (i : Int)]
  | .bard i j => .tup [.str "barred", .int (i : Int), .int (j : Int)]
  | .rght w => .tup [.str "right", eQ w]
end
end La
namespace La
open PySem PySem.Spec L2 Dn
open PyProof.Rows hiding St
/-! ### the first seats of the program, and who comes ahead -/
def ik (u : Ru) (s : Int) : Nat := if sq u s = 0 then 1 else 0
def vv (v : Int) : Rat := ((v * v : Int) : Rat)
def xk (u : Ru) (v s : Int) : Rat := if sq u s = 0 then (v : Rat) else vv v / sq u s
/-- party i with v votes and s seats comes ahead of party j -/
def Bt (u : Ru) (v s : Int) (i : Nat) (w t : Int) (j : Nat) : Prop := ik u t < ik u s ∨ (ik u t = ik u s ∧ (xk u w t < xk u v s ∨ (xk u w t = xk u v s ∧ i < j)))
instance {u : Ru} {v s : Int} {i : Nat} {w t : Int} {j : Nat} : Decidable (Bt u v s i w t j) := by unfold Bt; infer_instance
/-- not ahead, whatever the numbers -/
def Lk (u : Ru) (v s w t : Int) : Prop := ik u s < ik u t ∨ (ik u s = ik u t ∧ xk u v s ≤ xk u w t)
theorem Bt.trans {u : Ru} {v s w t x r : Int} {i j k : Nat} (a : Bt u v s i w t j) (b : Bt u w t j x r k) : Bt u v s i x r k := by
  unfold Bt at *
  rcases a with a | ⟨a1, a | ⟨a2, a3⟩⟩ <;> rcases b with b | ⟨b1, b | ⟨b2, b3⟩⟩
  · exact .inl (by omega)
  · exact .inl (by omega)
  · exact .inl (by omega)
  · exact .inl (by omega)
  · exact .inr ⟨by omega, .inl (by grind)⟩
  · exact .inr ⟨by omega, .inl (by grind)⟩
  · exact .inl (by omega)
  · exact .inr ⟨by omega, .inl (by grind)⟩
  · exact .inr ⟨by omega, .inr ⟨by grind, by omega⟩⟩
theorem Bt.irr {u : Ru} {v s : Int} {i : Nat} (a : Bt u v s i v s i) : False := by
  unfold Bt at a
  rcases a with a | ⟨_, a | ⟨_, a⟩⟩
  · omega
  · grind
  · omega
theorem Bt.tot {u : Ru} {v s w t : Int} {i j : Nat} (h : i ≠ j) : Bt u v s i w t j ∨ Bt u w t j v s i := by
  unfold Bt
  rcases Nat.lt_trichotomy (ik u t) (ik u s) with a | a | a
  · exact .inl (.inl a)
  · by_cases c : xk u w t < xk u v s
    · exact .inl (.inr ⟨a, .inl c⟩)
    · by_cases d : xk u v s < xk u w t
      · exact .inr (.inr ⟨a.symm, .inl d⟩)
      · have e : xk u w t = xk u v s := by grind
        by_cases f : i < j
        · exact .inl (.inr ⟨a, .inr ⟨e, f⟩⟩)
        · exact .inr (.inr ⟨a.symm, .inr ⟨e.symm, by omega⟩⟩)
  · exact .inr (.inl a)
theorem Bt.le {u : Ru} {v s w t v' s' w' t' : Int} {i j : Nat} (a : Bt u v s i w t j) (h1 : Lk u v s v' s') (h2 : Lk u w' t' w t) : Bt u v' s' i w' t' j := by
  unfold Bt Lk at *
  rcases a with a | ⟨a1, a | ⟨a2, a3⟩⟩ <;> rcases h1 with b | ⟨b1, b2⟩ <;> rcases h2 with c | ⟨c1, c2⟩
  · exact .inl (by omega)
  · exact .inl (by omega)
  · exact .inl (by omega)
  · exact .inl (by omega)
  · exact .inl (by omega)
  · exact .inl (by omega)
  · exact .inl (by omega)
  · exact .inr ⟨by omega, .inl (by grind)⟩
  · exact .inl (by omega)
  · exact .inl (by omega)
  · exact .inl (by omega)
  · by_cases d : xk u w' t' < xk u v' s'
    · exact .inr ⟨by omega, .inl d⟩
    · exact .inr ⟨by omega, .inr ⟨by grind, a3⟩⟩
theorem Lk.rfl' {u : Ru} {v s : Int} : Lk u v s v s := .inr ⟨rfl, by grind⟩
theorem Lk.trans {u : Ru} {v s w t x r : Int} (a : Lk u v s w t) (b : Lk u w t x r) : Lk u v s x r := by
  unfold Lk at *
  rcases a with a | ⟨a1, a2⟩ <;> rcases b with b | ⟨b1, b2⟩
  · exact .inl (by omega)
  · exact .inl (by omega)
  · exact .inl (by omega)
  · exact .inr ⟨by omega, by grind⟩
theorem sqv_le {v w : Int} (h : 0 ≤ v ∧ v ≤ w) : vv v ≤ vv w := ci (Int.mul_le_mul h.2 h.2 h.1 (by omega))
theorem div_le {a b c : Rat} (h : a ≤ b) (hc : 0 < c) : a / c ≤ b / c := by
  have i : 0 ≤ c⁻¹ := Rat.le_of_lt (Rat.inv_pos.mpr hc)
  have := Rat.mul_le_mul_of_nonneg_right h i
  grind
theorem Lk.votes {u : Ru} (hu : u.ok) {v w s : Int} (hs : 0 ≤ s) (h : 0 ≤ v ∧ v ≤ w) : Lk u v s w s := by
  refine .inr ⟨rfl, ?_⟩
  unfold xk
  split
  · exact ci h.2
  · rename_i c
    have p : 0 < sq u s := by
      have := sq_nn hu hs
      grind
    exact div_le (sqv_le h) p
theorem Lk.seats {u : Ru} (hu : u.ok) {v s t : Int} (hv : 0 ≤ v) (hs : 0 ≤ s) (h : s ≤ t) : Lk u v t v s := by
  have m := sq_mono' hu hs h
  have s0 := sq_nn hu hs
  unfold Lk ik xk
  by_cases c : sq u s = 0
  · by_cases d : sq u t = 0
    · rw [if_pos c, if_pos d, if_pos d, if_pos c]; exact .inr ⟨rfl, by grind⟩
    · rw [if_pos c, if_neg d]; exact .inl (by omega)
  · have d : sq u t ≠ 0 := by grind
    rw [if_neg c, if_neg d, if_neg d, if_neg c]
    refine .inr ⟨rfl, ?_⟩
    have p : 0 < sq u s := by grind
    have p2 : 0 < sq u t := by grind
    have w0 : 0 ≤ vv v := cn (Int.mul_nonneg hv hv)
    have q0 := div_nn w0 p
    have e : vv v / sq u s * sq u s = vv v := by grind
    have m2 := Rat.mul_le_mul_of_nonneg_left m q0
    have i2 : 0 ≤ (sq u t)⁻¹ := Rat.le_of_lt (Rat.inv_pos.mpr p2)
    have m3 := Rat.mul_le_mul_of_nonneg_right m2 i2
    have c1 : sq u t * (sq u t)⁻¹ = 1 := Rat.mul_inv_cancel _ d
    rw [e, Rat.mul_assoc, c1, Rat.mul_one] at m3
    rw [Rat.div_def]
    exact m3
/-! ### the best one of a fold -/
theorem fold_best {R : Nat → Nat → Prop} [DecidableRel R] (tr : ∀ a b c, R a b → R b c → R a c) (tt : ∀ a b, a ≠ b → R a b ∨ R b a) : ∀ (ks : List Nat) (b : Nat),
    ∃ r, ks.foldl (fun b k => if decide (R k b) = true then k else b) b = r ∧ (r = b ∨ r ∈ ks) ∧ (r = b ∨ R r b) ∧ ∀ k ∈ ks, k = r ∨ R r k
  | [], b => ⟨b, rfl, .inl rfl, .inl rfl, fun k hk => nomatch hk⟩
  | k :: ks, b => by
    rw [List.foldl_cons]
    by_cases c : R k b
    · rw [if_pos (decide_eq_true c)]
      obtain ⟨r, h1, h2, h3, h4⟩ := fold_best tr tt ks k
      refine ⟨r, h1, .inr ?_, .inr ?_, fun j hj => ?_⟩
      · rcases h2 with z | z
        · rw [z]; exact List.mem_cons_self
        · exact List.mem_cons_of_mem _ z
      · rcases h3 with z | z
        · rw [z]; exact c
        · exact tr _ _ _ z c
      · rcases List.mem_cons.mp hj with z | z
        · rw [z]
          rcases h3 with y | y
          · exact .inl y.symm
          · exact .inr y
        · exact h4 j z
    · rw [if_neg (by rw [decide_eq_false c]; exact fun z => nomatch z)]
      obtain ⟨r, h1, h2, h3, h4⟩ := fold_best tr tt ks b
      refine ⟨r, h1, ?_, h3, fun j hj => ?_⟩
      · rcases h2 with z | z
        · exact .inl z
        · exact .inr (List.mem_cons_of_mem _ z)
      · rcases List.mem_cons.mp hj with z | z
        · rw [z]
          by_cases y : k = b
          · rcases h3 with x | x
            · exact .inl (y.trans x.symm)
            · rw [y]; exact .inr x
          · have bk : R b k := (tt k b y).resolve_left c
            rcases h3 with x | x
            · rw [x]; exact .inr bk
            · exact .inr (tr _ _ _ x bk)
        · exact h4 j z
def upsP (n : Nat) : List Nat := (List.range (n - 1)).map (· + 1)
theorem upsP_D {n : Nat} (hn : 1 ≤ n) : rngD 1 ((n : Int) - 1).toNat = (upsP n).map fun (k : Nat) => D.int (k : Int) := by
  have : ((n : Int) - 1).toNat = n - 1 := by omega
  rw [this]
  unfold rngD upsP
  rw [List.map_map]
  refine List.map_congr_left fun i _ => ?_
  show D.int (1 + (i : Int)) = D.int ((i + 1 : Nat) : Int)
  congr 1
  omega
theorem upsP_mem {n k : Nat} : k ∈ upsP n ↔ k < n ∧ 1 ≤ k := by
  unfold upsP
  rw [List.mem_map]
  constructor
  · rintro ⟨i, hi, rfl⟩
    have := List.mem_range.mp hi
    omega
  · intro h
    exact ⟨k - 1, List.mem_range.mpr (by omega), by omega⟩
abbrev BtL (u : Ru) (vs ss : List Int) (i j : Nat) : Prop := Bt u (g vs i) (g ss i) i (g vs j) (g ss j) j
def bsP (u : Ru) (vs ss : List Int) : Nat := (upsP vs.length).foldl (fun b k => if decide (BtL u vs ss k b) = true then k else b) 0
theorem bsP_ok {u : Ru} {vs ss : List Int} (hn : 1 ≤ vs.length) : bsP u vs ss < vs.length ∧ ∀ k, k < vs.length → k ≠ bsP u vs ss → BtL u vs ss (bsP u vs ss) k := by
  obtain ⟨r, h1, h2, h3, h4⟩ := fold_best (R := BtL u vs ss) (fun a b c x y => Bt.trans x y) (fun a b h => Bt.tot h) (upsP vs.length) 0
  have e : bsP u vs ss = r := h1
  rw [e]
  refine ⟨?_, fun k hk hne => ?_⟩
  · rcases h2 with z | z
    · omega
    · exact (upsP_mem.mp z).1
  · by_cases k0 : k = 0
    · subst k0
      rcases h3 with z | z
      · exact absurd z.symm hne
      · exact z
    · rcases h4 k (upsP_mem.mpr ⟨hk, by omega⟩) with z | z
      · exact absurd z hne
      · exact z
def incP (ss : List Int) (b : Nat) : List Int := ss.set b (g ss b + 1)
def fsP (u : Ru) (vs : List Int) : Nat → List Int
  | 0 => List.replicate vs.length 0
  | h + 1 => incP (fsP u vs h) (bsP u vs (fsP u vs h))
theorem incP_g {ss : List Int} {b : Nat} (hb : b < ss.length) (k : Nat) : g (incP ss b) k = if k = b then g ss b + 1 else g ss k := by
  by_cases c : k = b
  · subst c
    rw [if_pos rfl]
    unfold incP g
    rw [List.getD_eq_getElem?_getD, List.getElem?_set_self hb]; rfl
  · rw [if_neg c]
    unfold incP g
    rw [List.getD_eq_getElem?_getD, List.getElem?_set_ne (Ne.symm c), List.getD_eq_getElem?_getD]
theorem fsP_len (u : Ru) (vs : List Int) : ∀ h : Nat, (fsP u vs h).length = vs.length
  | 0 => List.length_replicate ..
  | h + 1 => by unfold fsP incP; rw [List.length_set]; exact fsP_len u vs h
theorem fsP_0 (u : Ru) (vs : List Int) (k : Nat) : g (fsP u vs 0) k = 0 := by
  unfold fsP g
  rw [List.getD_eq_getElem?_getD, List.getElem?_replicate]
  split <;> rfl
theorem fsP_b (u : Ru) {vs : List Int} (hn : 1 ≤ vs.length) : ∀ (h : Nat) (k : Nat), 0 ≤ g (fsP u vs h) k ∧ g (fsP u vs h) k ≤ (h : Int)
  | 0, k => by rw [fsP_0]; omega
  | h + 1, k => by
    have i1 := fsP_b u hn h k
    have b := (bsP_ok (u := u) (ss := fsP u vs h) hn).1
    have i2 := fsP_b u hn h (bsP u vs (fsP u vs h))
    unfold fsP
    rw [incP_g (by rw [fsP_len]; exact b)]
    split <;> omega
theorem sum_set : ∀ (ss : List Int) (b : Nat), b < ss.length → (incP ss b).sum = ss.sum + 1
  | [], b, h => nomatch h
  | x :: ss, 0, h => by simp [incP, g]; omega
  | x :: ss, b + 1, h => by
    have := sum_set ss b (by simpa using h)
    unfold incP g at *
    simp at this ⊢
    omega
theorem fsP_sum (u : Ru) {vs : List Int} (hn : 1 ≤ vs.length) : ∀ h : Nat, (fsP u vs h).sum = (h : Int)
  | 0 => by unfold fsP; simp
  | h + 1 => by
    have b := (bsP_ok (u := u) (ss := fsP u vs h) hn).1
    unfold fsP
    rw [sum_set _ _ (by rw [fsP_len]; exact b), fsP_sum u hn h]
    omega
/-- the last seat of each party comes ahead of the next seat of each other one -/
theorem fsP_right {u : Ru} (hu : u.ok) {vs : List Int} (hn : 1 ≤ vs.length) (hv : ∀ v ∈ vs, 0 ≤ v) : ∀ (h : Nat) (a b : Nat), a < vs.length → b < vs.length → a ≠ b → 1 ≤ g (fsP u vs h) b →
    Bt u (g vs b) (g (fsP u vs h) b - 1) b (g vs a) (g (fsP u vs h) a) a
  | 0, a, b, ha, hb, hab, h1 => by rw [fsP_0] at h1; omega
  | h + 1, a, b, ha, hb, hab, h1 => by
    have ih := fsP_right hu hn hv h a b ha hb hab
    obtain ⟨t1, t2⟩ := bsP_ok (u := u) (ss := fsP u vs h) hn
    have nn := fsP_b u hn h
    unfold fsP at h1 ⊢
    rw [incP_g (by rw [fsP_len]; exact t1)] at h1 ⊢
    rw [incP_g (by rw [fsP_len]; exact t1)]
    by_cases c : b = bsP u vs (fsP u vs h)
    · have c2 : ¬ a = bsP u vs (fsP u vs h) := fun z => hab (z.trans c.symm)
      rw [if_pos c, if_neg c2]
      have := t2 a ha c2
      rw [← c] at this ⊢
      rw [show g (fsP u vs h) b + 1 - 1 = g (fsP u vs h) b by omega]
      exact this
    · rw [if_neg c] at h1 ⊢
      have ih := ih h1
      by_cases d : a = bsP u vs (fsP u vs h)
      · rw [if_pos d]
        rw [← d]
        exact ih.le Lk.rfl' (Lk.seats hu (hv _ (g_mem ha)) (nn a).1 (by omega))
      · rw [if_neg d]; exact ih
theorem sum_eq_lt {n : Nat} : ∀ (xs ys : List Int), xs.length = ys.length → xs.sum = ys.sum → ∀ o, g xs o < g ys o → ∃ j, j < xs.length ∧ g ys j < g xs j
  | [], ys, hl, _, o, h => by
    have : ys = [] := List.length_eq_zero_iff.mp hl.symm
    subst this
    exact absurd h (by simp)
  | x :: xs, [], hl, _, o, h => by simp at hl
  | x :: xs, y :: ys, hl, hs, o, h => by
    by_cases c : y < x
    · exact ⟨0, by simp, by simpa [g] using c⟩
    · have key : ∀ (a b : List Int), a.length = b.length → (∀ j, j < a.length → g a j ≤ g b j) → a.sum ≤ b.sum ∧ ((∃ o, g a o < g b o) → a.sum < b.sum) := by
        intro a
        induction a with
        | nil =>
          intro b hl _
          have : b = [] := List.length_eq_zero_iff.mp hl.symm
          subst this
          exact ⟨by simp, fun ⟨o, z⟩ => absurd z (by simp)⟩
        | cons p a ih =>
          intro b hl hj
          cases b with
          | nil => simp at hl
          | cons q b =>
            have h0 := hj 0 (by simp)
            have := ih b (by simpa using hl) fun j hj' => by simpa [g] using hj (j + 1) (by simpa using hj')
            have h0 : p ≤ q := by simpa [g] using h0
            rw [List.sum_cons, List.sum_cons]
            refine ⟨by omega, fun ⟨o, z⟩ => ?_⟩
            cases o with
            | zero => have : p < q := by simpa [g] using z
                      omega
            | succ o => have := this.2 ⟨o, by simpa [g] using z⟩
                        omega
      apply Classical.byContradiction
      intro no
      have := (key (x :: xs) (y :: ys) hl fun j hj => by
        rcases Int.lt_or_le (g (y :: ys) j) (g (x :: xs) j) with z | z
        · exact absurd ⟨j, hj, z⟩ no
        · exact z).2 ⟨o, h⟩
      omega
/-- with more votes for one party, and no more for any other one, it has no fewer seats -/
theorem fsP_mono {u : Ru} (hu : u.ok) {vs ws : List Int} (hl : ws.length = vs.length) (hv : ∀ v ∈ vs, 0 ≤ v) (hw : ∀ v ∈ ws, 0 ≤ v) {o : Nat} (ho : o < vs.length) (h1 : g vs o ≤ g ws o) (h2 : ∀ j, j ≠ o → g ws j ≤ g vs j) (h : Nat) :
    g (fsP u vs h) o ≤ g (fsP u ws h) o := by
  rcases Int.lt_or_le (g (fsP u ws h) o) (g (fsP u vs h) o) with c | c
  · have hn : 1 ≤ vs.length := by omega
    have hn' : 1 ≤ ws.length := by omega
    obtain ⟨j, hj, z⟩ := sum_eq_lt (n := 0) (fsP u ws h) (fsP u vs h) (by rw [fsP_len, fsP_len, hl]) (by rw [fsP_sum u hn', fsP_sum u hn]) o c
    rw [fsP_len, hl] at hj
    have nv := fsP_b u hn h
    have nw := fsP_b u hn' h
    have hjo : j ≠ o := fun e => by rw [e] at z; omega
    have a := fsP_right hu hn hv h j o hj ho hjo (by have := (nw o).1; omega)
    have b := fsP_right hu hn' hw h o j (by rw [hl]; exact ho) (by rw [hl]; exact hj) hjo.symm (by have := (nv j).1; omega)
    have k1 : Lk u (g vs o) (g (fsP u vs h) o - 1) (g ws o) (g (fsP u ws h) o) := (Lk.seats hu (hv _ (g_mem ho)) (nw o).1 (by omega)).trans (Lk.votes hu (nw o).1 ⟨hv _ (g_mem ho), h1⟩)
    have k2 : Lk u (g ws j) (g (fsP u ws h) j - 1) (g vs j) (g (fsP u vs h) j) := (Lk.seats hu (hw _ (g_mem (by rw [hl]; exact hj))) (nv j).1 (by omega)).trans (Lk.votes hu (nv j).1 ⟨hw _ (g_mem (by rw [hl]; exact hj)), h2 j hjo⟩)
    exact ((a.le k1 k2).trans b).irr.elim
  · exact c
theorem ik_ne {u : Ru} {s t : Int} : ik u s = 1 ↔ sq u s = 0 := by unfold ik; split <;> simp_all
section
variable {vs ss : List Int} {u : Ru} (hu : u.ok) (h : VS vs ss)
include hu h
theorem is_next_ok {i j : Nat} (hi : i < vs.length) (hj : j < vs.length) : φ_is_next [.lst (vs.map D.int), eRu u, .lst (ss.map D.int), .int (i : Int), .int (j : Int)] = some (.bl (decide (BtL u vs ss i j)), .frz false) := by
  have vi := g_at hi
  have vj := g_at hj
  have n1 := next_ratio_ok hu h hi
  have n2 := next_ratio_ok hu h hj
  have b1 := nr_bq hu h hi
  have b2 := nr_bq hu h hj
  unfold nr at n1 n2 b1 b2
  unfold φ_is_next
  refine runB_rt rfl ?_
  unfold b_is_next
  by_cases c1 : sq u (g ss i) = 0 <;> by_cases c2 : sq u (g ss j) = 0
  · rw [if_pos c1] at n1
    rw [if_pos c2] at n2
    have k : BtL u vs ss i j ↔ (g vs j < g vs i ∨ (g vs i = g vs j ∧ i < j)) := by
      unfold BtL Bt ik xk
      rw [if_pos c1, if_pos c2, if_pos c1, if_pos c2]
      rw [Rat.intCast_lt_intCast, Rat.intCast_inj]
      omega
    rw [show decide (BtL u vs ss i j) = decide (g vs j < g vs i ∨ (g vs i = g vs j ∧ i < j)) from decide_eq_decide.mpr k]
    by_cases d : g vs j < g vs i
    · simp [n1, n2, eQ, isnN, vi, vj, d]
    · by_cases e : g vs i = g vs j
      · simp [n1, n2, eQ, isnN, vi, vj, e]
      · simp [n1, n2, eQ, isnN, vi, vj, d, e]
  · rw [if_pos c1] at n1
    rw [if_neg c2] at n2
    have k : BtL u vs ss i j := by
      unfold BtL Bt ik
      rw [if_pos c1, if_neg c2]; exact .inl (by omega)
    rw [decide_eq_true k]
    simp [n1, n2, eQ, isnN, isnR]
  · rw [if_neg c1] at n1
    rw [if_pos c2] at n2
    have k : ¬ BtL u vs ss i j := by
      unfold BtL Bt ik
      rw [if_neg c1, if_pos c2]
      omega
    rw [decide_eq_false k]
    simp [n1, n2, eQ, isnN, isnR]
  · rw [if_neg c1] at n1 b1
    rw [if_neg c2] at n2 b2
    have k : BtL u vs ss i j ↔ (W vs j / sq u (g ss j) < W vs i / sq u (g ss i) ∨ (W vs j / sq u (g ss j) = W vs i / sq u (g ss i) ∧ i < j)) := by
      unfold BtL Bt ik xk
      rw [if_neg c1, if_neg c2, if_neg c1, if_neg c2]
      constructor
      · rintro (z | z)
        · omega
        · exact z.2
      · exact fun z => .inr ⟨rfl, z⟩
    rw [show decide (BtL u vs ss i j) = decide (W vs j / sq u (g ss j) < W vs i / sq u (g ss i) ∨ (W vs j / sq u (g ss j) = W vs i / sq u (g ss i) ∧ i < j)) from decide_eq_decide.mpr k]
    have l := is_less_ok ((show Bq 400 _ from b2).mono (k := 1000) (by omega)) ((show Bq 400 _ from b1).mono (k := 1000) (by omega))
    clear k b1 b2
    generalize W vs j / sq u (g ss j) = y at *
    generalize W vs i / sq u (g ss i) = x at *
    by_cases d : y < x
    · rw [decide_eq_true d] at l
      simp [n1, n2, eQ, isnR, l, d]
    · rw [decide_eq_false d] at l
      by_cases d2 : y = x
      · subst d2
        simp [n1, n2, eQ, isnR, l, d, qR]
      · simp [n1, n2, eQ, isnR, l, d, d2, qR]
theorem next_party_ok (hn : 1 ≤ vs.length) : φ_next_party [.lst (vs.map D.int), eRu u, .lst (ss.map D.int)] = some (.int ((bsP u vs ss : Nat) : Int), .frz false) := by
  have zv : vs.length ≤ sizeLine := small_le (by have := h.n; omega)
  have r1 : rOk 1 := rOk_of (by omega)
  have rv : rOk (vs.length : Int) := rOk_of (by have := h.n; omega)
  have loop := forGo_fold (t := .nm 4) (h := lb_next_party_1) (fun (k : Nat) => D.int (k : Int)) (fun b : Nat => [.val (.lst (vs.map D.int)) false, .val (eRu u) false, .val (.lst (ss.map D.int)) false, .val (.int (b : Int)) false, .no]) (fun b k => if decide (BtL u vs ss k b) = true then k else b) (fun b => b < vs.length) (upsP vs.length) 0 (by omega) fun b k hk hb => ⟨_, rfl, .inl (by
      have q := is_next_ok hu h (upsP_mem.mp hk).1 hb
      unfold lb_next_party_1
      by_cases c : BtL u vs ss k b
      · rw [decide_eq_true c] at q; simp [q, c]
      · rw [decide_eq_false c] at q; simp [q, c]), by
    split
    · exact (upsP_mem.mp hk).1
    · exact hb⟩
  have loop := loop.1
  rw [show (upsP vs.length).foldl (fun b k => if decide (BtL u vs ss k b) = true then k else b) 0 = bsP u vs ss from rfl] at loop
  unfold φ_next_party
  refine runB_rt rfl ?_
  unfold b_next_party
  refine Eq.trans (seq_nx (f := dSet 3 _) (Γ' := [.val (.lst (vs.map D.int)) false, .val (eRu u) false, .val (.lst (ss.map D.int)) false, .val (.int ((0 : Nat) : Int)) false, .no]) (by simp)) ?_
  refine Eq.trans (seq_nx ((for_src (ds := (upsP vs.length).map fun (k : Nat) => D.int (k : Int)) (n := true) (by rw [← upsP_D hn]; simp [zv, r1, rv])).trans loop)) ?_
  simp
end
theorem fsP_VS {u : Ru} {vs : List Int} (hn : 1 ≤ vs.length ∧ vs.length ≤ 20) (hv : ∀ v ∈ vs, 0 ≤ v ∧ v ≤ 1000000000) {h : Nat} (hh : h ≤ 1000) : VS vs (fsP u vs h) := ⟨fsP_len u vs h, hn.2, hv, fun s hs => by
  obtain ⟨i, hi, rfl⟩ := List.getElem_of_mem hs
  have := fsP_b u hn.1 h i
  simp [g, hi] at this
  omega⟩
theorem first_ok {u : Ru} (hu : u.ok) {vs : List Int} (hn : 1 ≤ vs.length ∧ vs.length ≤ 20) (hv : ∀ v ∈ vs, 0 ≤ v ∧ v ≤ 1000000000) {h : Nat} (hh : h ≤ 1000) (hs : stc u = true → vs.length ≤ h) :
    φ_first_seats [.lst (vs.map D.int), eRu u, .int (h : Int)] = some (.lst ((fsP u vs h).map D.int), .new false) := by
  have zv : vs.length ≤ sizeLine := small_le (by omega)
  have rh : rOk (h : Int) := rOk_of (by omega)
  have st := strict_ok hu
  have loop : ∀ m t : Nat, t + m ≤ 1000 → forGo (.nm 4) lb_first_seats_1 ((List.range' t m).map fun (k : Nat) => D.int (k : Int)) [.val (.lst (vs.map D.int)) false, .val (eRu u) false, .val (.int (h : Int)) false, .own (.lst ((fsP u vs t).map D.int)) false, .no] =
      .nx [.val (.lst (vs.map D.int)) false, .val (eRu u) false, .val (.int (h : Int)) false, .own (.lst ((fsP u vs (t + m)).map D.int)) false, .no] := by
    intro m
    induction m with
    | zero => intro t _; simp
    | succ m ih =>
      intro t ht
      have V := fsP_VS (u := u) hn hv (h := t) (by omega)
      have q := next_party_ok hu V hn.1
      have b := (bsP_ok (u := u) (ss := fsP u vs t) hn.1).1
      have sb := g_at (xs := fsP u vs t) (i := bsP u vs (fsP u vs t)) (by rw [fsP_len]; exact b)
      have gb : (fsP u vs t)[bsP u vs (fsP u vs t)]? = some (g (fsP u vs t) (bsP u vs (fsP u vs t))) := by
        have : bsP u vs (fsP u vs t) < (fsP u vs t).length := by rw [fsP_len]; exact b
        simp [g, this]
      have ix : ixN (fsP u vs t).length ((bsP u vs (fsP u vs t) : Nat) : Int) = some (bsP u vs (fsP u vs t)) := by
        unfold ixN
        rw [if_pos (by omega), if_pos (by rw [fsP_len]; omega)]; simp
      rw [List.range'_succ, List.map_cons, forGo_nx (Γ2 := [.val (.lst (vs.map D.int)) false, .val (eRu u) false, .val (.int (h : Int)) false, .own (.lst ((fsP u vs (t + 1)).map D.int)) false, .no]) rfl (by
        unfold lb_first_seats_1
        rw [show fsP u vs (t + 1) = incP (fsP u vs t) (bsP u vs (fsP u vs t)) from rfl]
        unfold incP
        simp [dAugI, augItem, putItem, q, gb, ix, List.map_set])]
      have := ih (t + 1) (by omega)
      rw [show t + 1 + m = t + (m + 1) by omega] at this
      exact this
  have loop := loop h 0 (by omega)
  rw [Nat.zero_add, ← List.range_eq_range'] at loop
  have z2 : (vs.length : Int) ≤ 16777216 := by omega
  unfold φ_first_seats
  refine runB_rt rfl ?_
  unfold b_first_seats
  refine Eq.trans (seq_nx (f := dIf _ _ _) (Γ' := [.val (.lst (vs.map D.int)) false, .val (eRu u) false, .val (.int (h : Int)) false, .no, .no]) (by
    cases c : stc u with
    | false => rw [c] at st; simp [st]
    | true =>
      rw [c] at st
      have := hs c
      have c2 : ¬ h < vs.length := by omega
      simp [st, zv, c2])) ?_
  refine Eq.trans (seq_nx (f := dSet 3 _) (Γ' := [.val (.lst (vs.map D.int)) false, .val (eRu u) false, .val (.int (h : Int)) false, .own (.lst ((fsP u vs 0).map D.int)) false, .no]) (by
    unfold fsP
    simp [zv, z2])) ?_
  refine Eq.trans (seq_nx ((for_src (ds := (List.range h).map fun (k : Nat) => D.int (k : Int)) (n := true) (by rw [show h = ((h : Int)).toNat by omega, ← rngD_map]; simp [rh])).trans loop)) ?_
  simp
end La
namespace La
open PySem PySem.Spec L2 Dn
open PyProof.Rows hiding St
/-! ### the first seats, one after another -/
def ahd (vs : List Int) (u : Ru) (ss : List Int) (k b : Nat) : Bool := if sq u (g ss k) = 0 ∧ sq u (g ss b) = 0 then decide (g vs b < g vs k) else decide (W vs b * sq u (g ss k) < W vs k * sq u (g ss b))
def ups (n : Nat) : List Nat := (List.range (n - 1)).map (· + 1)
theorem ups_D {n : Nat} (hn : 1 ≤ n) : rngD 1 ((n : Int) - 1).toNat = (ups n).map fun (k : Nat) => D.int (k : Int) := by
  have : ((n : Int) - 1).toNat = n - 1 := by omega
  rw [this]
  unfold rngD ups
  rw [List.map_map]
  refine List.map_congr_left fun i _ => ?_
  show D.int (1 + (i : Int)) = D.int ((i + 1 : Nat) : Int)
  congr 1
  omega
theorem ups_lt {n k : Nat} (h : k ∈ ups n) : k < n ∧ 1 ≤ k := by
  obtain ⟨i, hi, rfl⟩ := List.mem_map.mp h
  have := List.mem_range.mp hi
  omega
def bst (vs : List Int) (u : Ru) (ss : List Int) : Nat := (ups vs.length).foldl (fun b k => if ahd vs u ss k b = true then k else b) 0
theorem fold_lt (f : Nat → Nat → Bool) (n : Nat) : ∀ (ks : List Nat) (b : Nat), (∀ k ∈ ks, k < n) → b < n → ks.foldl (fun b k => if f k b = true then k else b) b < n
  | [], b, _, hb => hb
  | k :: ks, b, hk, hb => fold_lt f n ks _ (fun j hj => hk j (List.mem_cons_of_mem _ hj)) (by
    show (if f k b = true then k else b) < n
    split
    · exact hk k List.mem_cons_self
    · exact hb)
theorem bst_lt {vs : List Int} {u : Ru} {ss : List Int} (hn : 1 ≤ vs.length) : bst vs u ss < vs.length := fold_lt _ _ _ _ (fun k hk => (ups_lt hk).1) (by omega)
def inc (ss : List Int) (b : Nat) : List Int := ss.set b (g ss b + 1)
def fsF (vs : List Int) (u : Ru) : Nat → List Int
  | 0 => List.replicate vs.length 0
  | h + 1 => inc (fsF vs u h) (bst vs u (fsF vs u h))
theorem inc_mem {ss : List Int} {b : Nat} {m : Int} (hs : ∀ s ∈ ss, 0 ≤ s ∧ s ≤ m) : ∀ s ∈ inc ss b, 0 ≤ s ∧ s ≤ m + 1 := fun s hs' => by
  rcases List.mem_or_eq_of_mem_set hs' with z | z
  · have := hs s z; omega
  · by_cases hb : b < ss.length
    · have := hs _ (g_mem hb); omega
    · unfold inc at hs'
      rw [List.set_eq_of_length_le (by omega)] at hs'
      have := hs s hs'; omega
theorem fsF_b (vs : List Int) (u : Ru) : ∀ h : Nat, (fsF vs u h).length = vs.length ∧ ∀ s ∈ fsF vs u h, 0 ≤ s ∧ s ≤ (h : Int)
  | 0 => ⟨List.length_replicate .., fun s hs => by have := (List.mem_replicate.mp hs).2; omega⟩
  | h + 1 => by
    obtain ⟨h1, h2⟩ := fsF_b vs u h
    exact ⟨by unfold fsF inc; rw [List.length_set]; exact h1, fun s hs => by
      have := inc_mem h2 s hs
      omega⟩
theorem fsF_VS {vs : List Int} {u : Ru} (hn : vs.length ≤ 20) (hv : ∀ v ∈ vs, 0 ≤ v ∧ v ≤ 1000000000) {h : Nat} (hh : h ≤ 1000) : VS vs (fsF vs u h) := ⟨(fsF_b vs u h).1, hn, hv, fun s hs => by have := (fsF_b vs u h).2 s hs; omega⟩
theorem ixN_n {n b : Nat} (h : b < n) : ixN n (b : Int) = some b := by
  unfold ixN
  rw [if_pos (by omega), if_pos (by omega)]; simp
theorem set_g {ss : List Int} {b : Nat} (x : Int) : (ss.map D.int).set b (.int x) = (ss.set b x).map D.int := by rw [List.map_set]
end La
namespace La
open PySem PySem.Spec L2 Dn
open PyProof.Rows hiding St
/-! ### with minimums -/
structure VM (vs ms ss : List Int) : Prop where
  h : VS vs ss
  ml : ms.length = vs.length
  mb : ∀ m ∈ ms, 0 ≤ m ∧ m ≤ 1000
theorem VM.mg {vs ms ss : List Int} (h : VM vs ms ss) {i : Nat} (hi : i < vs.length) : 0 ≤ g ms i ∧ g ms i ≤ 1000 := h.mb _ (g_mem (by rw [h.ml]; exact hi))
def barM (vs : List Int) (u : Ru) (ms ss : List Int) (i j : Nat) : Bool := decide (g ms j < g ss j) && decide (W vs j * sq u (g ss i) < W vs i * sq u (g ss j - 1))
def lrM (vs : List Int) (u : Ru) (ms ss : List Int) (k : Nat) : Option Rat := if g ss k ≤ g ms k ∨ sq u (g ss k - 1) = 0 then none else some (W vs k / sq u (g ss k - 1))
def fl (ms ss : List Int) : Option Nat := (List.range ss.length).find? fun k => decide (g ss k < g ms k)
def eP : Option (Nat × Nat) → D
  | none => .non
  | some p => .tup [.int (p.1 : Int), .int (p.2 : Int)]
inductive Vm where
  | less (i : Nat) | vd (v : Vd)
def eVm : Vm → D
  | .less i => .tup [.str "less", .int (i : Int)]
  | .vd v => eVd v
def rgM (vs : List Int) (u : Ru) (ms ss : List Int) : Option Rat := match ((List.range vs.length).map (lrM vs u ms ss)).foldl mnO none with
  | some m => some m
  | none => ((List.range vs.length).map (nr vs u ss)).foldl mxO none
def frM (vs : List Int) (u : Ru) (ms ss : List Int) : Vm := match fl ms ss with
  | some i => .less i
  | none => .vd (match (if stc u = true then fz ss else none) with
    | some i => .lack i
    | none => match fp (barM vs u ms ss) vs.length with
      | some p => .bard p.1 p.2
      | none => .rght (rgM vs u ms ss))
theorem barM_self {vs ms ss : List Int} {u : Ru} (hu : u.ok) (h : VM vs ms ss) {i : Nat} (hi : i < vs.length) : barM vs u ms ss i i = false := by
  unfold barM
  by_cases h1 : g ms i < g ss i
  · rw [decide_eq_true h1, Bool.true_and, decide_eq_false]
    have m0 := h.mg hi
    have := sq_mono' hu (j := g ss i - 1) (k := g ss i) (by omega) (by omega)
    have := Rat.mul_le_mul_of_nonneg_left this (W_nn vs i)
    grind
  · rw [decide_eq_false h1, Bool.false_and]
section
variable {vs ms ss : List Int} {u : Ru} (hu : u.ok) (h : VM vs ms ss)
include hu h
theorem barsM_ok {i j : Nat} (hi : i < vs.length) (hj : j < vs.length) : φ_bars_minimal [.lst (vs.map D.int), eRu u, .lst (ms.map D.int), .lst (ss.map D.int), .int (i : Int), .int (j : Int)] = some (.bl (barM vs u ms ss i j), .frz false) := by
  have hs := h.h
  have vi := g_at hi
  have vj := g_at hj
  have si := g_at (xs := ss) (i := i) (by rw [hs.l]; exact hi)
  have sj := g_at (xs := ss) (i := j) (by rw [hs.l]; exact hj)
  have mj := g_at (xs := ms) (i := j) (by rw [h.ml]; exact hj)
  have bi := hs.sb hi
  have bj := hs.sb hj
  have cj := h.mg hj
  unfold φ_bars_minimal
  refine runB_rt rfl ?_
  unfold b_bars_minimal barM
  by_cases h1 : g ms j < g ss j
  · have q1 := square_ok hu (k := g ss j - 1) (by omega)
    have q2 := square_ok hu (k := g ss i) (by omega)
    have w1 := sqW hs hi
    have w2 := sqW hs hj
    have t1 := times_ok ((bq_W hs hi).mono (k := 1000) (by omega)) ((bq_sq hu (k := g ss j - 1) (by omega)).mono (k := 1000) (by omega))
    have t2 := times_ok ((bq_W hs hj).mono (k := 1000) (by omega)) ((bq_sq hu (k := g ss i) (by omega)).mono (k := 1000) (by omega))
    have ab := above_ok ((bq_mul (bq_W hs hi) (bq_sq hu (k := g ss j - 1) (by omega))).mono (k := 1000) (by omega)) ((bq_mul (bq_W hs hj) (bq_sq hu (k := g ss i) (by omega))).mono (k := 1000) (by omega))
    have h2 : ¬ g ss j ≤ g ms j := by omega
    simp [sj, si, mj, vi, vj, h1, h2, w1, w2, q1, q2, t1, t2, ab, frzS]
  · have h2 : g ss j ≤ g ms j := by omega
    simp [sj, mj, h1, h2]
theorem first_barring_ok : φ_first_barring [.lst (vs.map D.int), eRu u, .lst (ms.map D.int), .lst (ss.map D.int)] = some (eP (fp (barM vs u ms ss) vs.length), .frz false) := by
  have hs := h.h
  have rv : rOk (vs.length : Int) := rOk_of (by have := hs.n; omega)
  have zv : vs.length ≤ sizeLine := small_le (by have := hs.n; omega)
  have inner : ∀ i, i < vs.length → forGo (.nm 5) lb_first_barring_1 ((List.range vs.length).map fun (k : Nat) => D.int (k : Int)) [.val (.lst (vs.map D.int)) false, .val (eRu u) false, .val (.lst (ms.map D.int)) false, .val (.lst (ss.map D.int)) false, .val (.int (i : Int)) false, .no] = findO (fun (j : Nat) => .tup [.int (i : Int), .int (j : Int)]) [.val (.lst (vs.map D.int)) false, .val (eRu u) false, .val (.lst (ms.map D.int)) false, .val (.lst (ss.map D.int)) false, .val (.int (i : Int)) false, .no] ((List.range vs.length).find? (barM vs u ms ss i)) := fun i hi =>
    go_find (fun (k : Nat) => D.int (k : Int)) (barM vs u ms ss i) (fun (j : Nat) => .tup [.int (i : Int), .int (j : Int)]) (List.range vs.length) fun j hj => ⟨_, rfl, by
      have b := barsM_ok hu h hi (List.mem_range.mp hj)
      unfold lb_first_barring_1
      cases e : barM vs u ms ss i j <;> rw [e] at b <;> simp [b]⟩
  have outer := go_find (t := .nm 4) (h := lb_first_barring_2) (Γ := [.val (.lst (vs.map D.int)) false, .val (eRu u) false, .val (.lst (ms.map D.int)) false, .val (.lst (ss.map D.int)) false, .no, .no]) (fun (k : Nat) => D.int (k : Int)) (fun i => ((List.range vs.length).find? (barM vs u ms ss i)).isSome) (fun i => eP (((List.range vs.length).find? (barM vs u ms ss i)).map fun j => (i, j))) (List.range vs.length) fun i hi => ⟨_, rfl, by
      have n := inner i (List.mem_range.mp hi)
      unfold lb_first_barring_2
      rw [dFgt_eq, for_src (ds := (List.range vs.length).map fun (k : Nat) => D.int (k : Int)) (n := true) (by rw [← rngD_map]; simp [zv, rv])]
      refine (congrArg _ n).trans ?_
      cases e : (List.range vs.length).find? (barM vs u ms ss i) with
      | none => simp
      | some j => simp [eP]⟩
  unfold φ_first_barring
  refine runB_rt rfl ?_
  unfold b_first_barring fp
  cases e : (List.range vs.length).find? fun i => ((List.range vs.length).find? (barM vs u ms ss i)).isSome with
  | none =>
    rw [e] at outer
    refine Eq.trans (seq_nx ((for_src (ds := (List.range vs.length).map fun (k : Nat) => D.int (k : Int)) (n := true) (by rw [← rngD_map]; simp [zv, rv])).trans outer)) ?_
    simp [eP]
  | some i =>
    rw [e] at outer
    have is := List.find?_some e
    cases e2 : (List.range vs.length).find? (barM vs u ms ss i) with
    | none => rw [e2] at is; simp at is
    | some j =>
      simp only [e2, findO_s] at outer
      refine Eq.trans (seq_rt ((for_src (ds := (List.range vs.length).map fun (k : Nat) => D.int (k : Int)) (n := true) (by rw [← rngD_map]; simp [zv, rv])).trans outer)) ?_
      simp [eP, e2]
theorem lrM_bq {k : Nat} (hk : k < vs.length) : BqO 400 (lrM vs u ms ss k) := by
  have b := h.h.sb hk
  have m := h.mg hk
  unfold lrM
  split
  · trivial
  · rename_i c
    have c1 : ¬ g ss k ≤ g ms k := fun z => c (.inl z)
    have p : 0 < sq u (g ss k - 1) := by
      have := sq_nn hu (k := g ss k - 1) (by omega)
      grind
    exact (bq_quo (bq_W h.h hk) (bq_sq hu (k := g ss k - 1) (by omega)) p).mono (by omega)
theorem free_ok {k : Nat} (hk : k < vs.length) : φ_free_ratio [.lst (vs.map D.int), eRu u, .lst (ms.map D.int), .lst (ss.map D.int), .int (k : Int)] = some (eQ (lrM vs u ms ss k), .frz false) := by
  have hs := h.h
  have vi := g_at hk
  have si := g_at (xs := ss) (i := k) (by rw [hs.l]; exact hk)
  have mi := g_at (xs := ms) (i := k) (by rw [h.ml]; exact hk)
  have b := hs.sb hk
  have m := h.mg hk
  unfold φ_free_ratio
  refine runB_rt rfl ?_
  unfold b_free_ratio lrM c_ZERO
  by_cases h1 : g ss k ≤ g ms k
  · simp [si, mi, h1, eQ]
  · have q := square_ok hu (k := g ss k - 1) (by omega)
    by_cases h2 : sq u (g ss k - 1) = 0
    · simp [si, mi, h1, q, z_R, qR, h2, eQ]
    · have p : 0 < sq u (g ss k - 1) := by
        have := sq_nn hu (k := g ss k - 1) (by omega)
        grind
      have w := sqW hs hk
      have o := over_ok ((bq_W hs hk).mono (k := 1000) (by omega)) ((bq_sq hu (k := g ss k - 1) (by omega)).mono (k := 1000) (by omega)) p
      simp [si, mi, vi, h1, q, z_R, qR, h2, w, o, eQ]
theorem divisorM_ok : φ_greatest_divisor [.lst (vs.map D.int), eRu u, .lst (ms.map D.int), .lst (ss.map D.int)] = some (eQ (rgM vs u ms ss), .frz false) := by
  have hs := h.h
  have rv : rOk (vs.length : Int) := rOk_of (by have := hs.n; omega)
  have zv : vs.length ≤ sizeLine := small_le (by have := hs.n; omega)
  have l1 : lcGo (.nm 6) dYes (dCall φ_free_ratio (dACons (dVar 0) (dACons (dVar 1) (dACons (dVar 2) (dACons (dVar 3) (dACons (dVar 6) dANil)))))) [.val (.lst (vs.map D.int)) false, .val (eRu u) false, .val (.lst (ms.map D.int)) false, .val (.lst (ss.map D.int)) false, .rng (vs.length : Int), .no, .no] (rngD 0 vs.length) = some (((List.range vs.length).map (lrM vs u ms ss)).map eQ) := by
    rw [rngD_map, lcGo_all (fun (k : Nat) => D.int (k : Int)) (fun k => eQ (lrM vs u ms ss k)) (List.range vs.length) fun k hk => ⟨_, rfl, _, by
      have q := free_ok hu h (List.mem_range.mp hk)
      simp [q]; rfl⟩, List.map_map]; rfl
  have l2 : ∀ s5 : Slot, lcGo (.nm 6) dYes (dCall φ_next_ratio (dACons (dVar 0) (dACons (dVar 1) (dACons (dVar 3) (dACons (dVar 6) dANil))))) [.val (.lst (vs.map D.int)) false, .val (eRu u) false, .val (.lst (ms.map D.int)) false, .val (.lst (ss.map D.int)) false, .rng (vs.length : Int), s5, .no] (rngD 0 vs.length) = some (((List.range vs.length).map (nr vs u ss)).map eQ) := fun s5 => by
    rw [rngD_map, lcGo_all (fun (k : Nat) => D.int (k : Int)) (fun k => eQ (nr vs u ss k)) (List.range vs.length) fun k hk => ⟨_, rfl, _, by
      have q := next_ratio_ok hu hs (List.mem_range.mp hk)
      simp [q]; rfl⟩, List.map_map]; rfl
  have ls := least_ok ((List.range vs.length).map (lrM vs u ms ss)) fun x hx => by
    obtain ⟨k, hk, rfl⟩ := List.mem_map.mp hx
    exact lrM_bq hu h (List.mem_range.mp hk)
  have gs := greatest_ok ((List.range vs.length).map (nr vs u ss)) fun x hx => by
    obtain ⟨k, hk, rfl⟩ := List.mem_map.mp hx
    exact nr_bq hu hs (List.mem_range.mp hk)
  have z1 : ((List.range vs.length).map (lrM vs u ms ss)).length ≤ sizeLine := by simpa using zv
  have z2 : ((List.range vs.length).map (nr vs u ss)).length ≤ sizeLine := by simpa using zv
  unfold φ_greatest_divisor
  refine runB_rt rfl ?_
  unfold b_greatest_divisor rgM
  refine Eq.trans (seq_nx (f := dSetR 4 _) (Γ' := [.val (.lst (vs.map D.int)) false, .val (eRu u) false, .val (.lst (ms.map D.int)) false, .val (.lst (ss.map D.int)) false, .rng (vs.length : Int), .no, .no]) (by simp [dSetR, zv])) ?_
  generalize (List.range vs.length).map (lrM vs u ms ss) = A at *
  generalize (List.range vs.length).map (nr vs u ss) = B at *
  refine Eq.trans (seq_nx (f := dSet 5 _) (Γ' := [.val (.lst (vs.map D.int)) false, .val (eRu u) false, .val (.lst (ms.map D.int)) false, .val (.lst (ss.map D.int)) false, .rng (vs.length : Int), .val (eQ (A.foldl mnO none)) false, .no]) (by simp [rv, l1, z1, ls, -List.map_map])) ?_
  cases e3 : A.foldl mnO none with
  | some m => simp [eQ, isnR]
  | none =>
    have l2 := l2 (.val .non false)
    simp [eQ, isnN, rv, l2, z2, gs, -List.map_map]
theorem first_less_ok : φ_first_less [.lst (ms.map D.int), .lst (ss.map D.int)] = some (eO (fl ms ss), .frz false) := by
  have hs := h.h
  have zs : ss.length ≤ sizeLine := small_le (by rw [hs.l]; have := hs.n; omega)
  have lc : lcGo (.tp [.nm 3, .nm 4]) (dB (dOp ltD (dVar 4) (dOp subsD (dVar 0) (dVar 3)))) (dVar 3) [.val (.lst (ms.map D.int)) false, .val (.lst (ss.map D.int)) false, .no, .no, .no] ((List.range ss.length).map fun (k : Nat) => D.tup [.int (k : Int), .int (g ss k)]) = some ((((List.range ss.length).filter fun k => decide (g ss k < g ms k)).map fun (k : Nat) => (k : Int)).map D.int) :=
    lcGo_int (fun (k : Nat) => D.tup [.int (k : Int), .int (g ss k)]) (fun k => decide (g ss k < g ms k)) (fun (k : Nat) => (k : Int)) (List.range ss.length) _ rfl fun k hk => ⟨_, rfl, by
      have mk := g_at (xs := ms) (i := k) (by rw [h.ml, ← hs.l]; exact List.mem_range.mp hk)
      simp [mk], fun _ => ⟨_, by simp; rfl⟩⟩
  have hd : fl ms ss = ((List.range ss.length).filter fun k => decide (g ss k < g ms k)).head? := List.head?_filter.symm
  have hl := List.length_filter_le (fun k => decide (g ss k < g ms k)) (List.range ss.length)
  rw [List.length_range] at hl
  unfold φ_first_less
  refine runB_rt rfl ?_
  unfold b_first_less
  rw [hd]
  generalize ((List.range ss.length).filter fun k => decide (g ss k < g ms k)) = L at *
  have zL : L.length ≤ sizeLine := by omega
  refine Eq.trans (seq_nx (f := dSet 2 _) (Γ' := [.val (.lst (ms.map D.int)) false, .val (.lst (ss.map D.int)) false, .own (.lst ((L.map fun (k : Nat) => (k : Int)).map D.int)) false, .no, .no]) (by simp [enum_g, zs, lc, zL, -List.map_map])) ?_
  cases L with
  | nil => simp [eO]
  | cons a L => simp [eO]
theorem find_minimal_ok : φ_find_minimal [.lst (vs.map D.int), eRu u, .lst (ms.map D.int), .lst (ss.map D.int)] = some (eVm (frM vs u ms ss), .frz false) := by
  have hs := h.h
  have fl' := first_less_ok hu h
  have la := lacking_ok hu hs
  have pr := first_barring_ok hu h
  have dv := divisorM_ok hu h
  unfold φ_find_minimal
  refine runB_rt rfl ?_
  unfold b_find_minimal frM
  cases e0 : fl ms ss with
  | some i => rw [e0] at fl'; simp [fl', eO, eVm, frzS]
  | none =>
    rw [e0] at fl'
    cases e1 : (if stc u = true then fz ss else none) with
    | some i => rw [e1] at la; simp [fl', la, eO, eVm, eVd, frzS]
    | none =>
      rw [e1] at la
      cases e2 : fp (barM vs u ms ss) vs.length with
      | some p => rw [e2] at pr; simp [fl', la, eO, pr, eP, eVm, eVd, frzS]
      | none =>
        rw [e2] at pr
        simp [fl', la, eO, pr, eP, eVm, eVd, dv]
end
end La
namespace La
open PySem PySem.Spec L2 Dn
open PyProof.Rows hiding St
def Vd.isR : Vd → Bool
  | .rght _ => true
  | _ => false
def Vm.isR : Vm → Bool
  | .vd v => v.isR
  | _ => false
section
variable {vs ms ss : List Int} {u : Ru} (hu : u.ok) (h : VM vs ms ss) (hv : ∀ v ∈ vs, 1 ≤ v)
include hu h hv
theorem bar_iff {i j : Nat} : barM vs u ms ss i j = true ↔ g ms j < g ss j ∧ W vs j * sq u (g ss i) < W vs i * sq u (g ss j - 1) := by
  unfold barM
  rw [Bool.and_eq_true, decide_eq_true_eq, decide_eq_true_eq]
theorem fz_at {i : Nat} (e : fz ss = some i) : i < vs.length ∧ g ss i = 0 := by
  unfold fz at e
  have := List.mem_range.mp (List.mem_of_find?_eq_some e)
  obtain ⟨q, _, _⟩ := List.find?_range_eq_some.mp e
  exact ⟨by rw [← h.h.l]; exact this, of_decide_eq_true q⟩
/-- when it is right -/
theorem frM_right : (frM vs u ms ss).isR = true ↔ (∀ i, i < vs.length → ¬ g ss i < g ms i) ∧ (stc u = true → ∀ i, i < vs.length → g ss i ≠ 0) ∧ ∀ i j, i < vs.length → j < vs.length → barM vs u ms ss i j = false := by
  unfold frM
  constructor
  · intro q
    cases e0 : fl ms ss with
    | some i => rw [e0] at q; cases q
    | none =>
    rw [e0] at q
    have q0 : ∀ i, i < vs.length → ¬ g ss i < g ms i := fun i hi z => by
      unfold fl at e0
      exact List.find?_eq_none.mp e0 i (List.mem_range.mpr (by rw [h.h.l]; exact hi)) (decide_eq_true z)
    cases e : (if stc u = true then fz ss else none) with
    | some i => rw [e] at q; cases q
    | none =>
      rw [e] at q
      cases e2 : fp (barM vs u ms ss) vs.length with
      | some p => rw [e2] at q; cases q
      | none =>
        refine ⟨q0, fun hs i hi z => ?_, fun i j hi hj => fp_none e2 i j hi hj⟩
        rw [if_pos hs] at e
        unfold fz at e
        have := List.find?_eq_none.mp e i (List.mem_range.mpr (by rw [h.h.l]; exact hi))
        exact this (decide_eq_true z)
  · rintro ⟨q0, q1, q2⟩
    have e0 : fl ms ss = none := by
      unfold fl
      rw [List.find?_eq_none]
      intro i hi
      have := q0 i (by rw [← h.h.l]; exact List.mem_range.mp hi)
      simpa using this
    rw [e0]
    have e : (if stc u = true then fz ss else none) = none := by
      by_cases hs : stc u = true
      · rw [if_pos hs]
        cases e : fz ss with
        | none => rfl
        | some i =>
          obtain ⟨a, b⟩ := fz_at hu h hv e
          exact absurd b (q1 hs i a)
      · rw [if_neg hs]
    rw [e]
    cases e2 : fp (barM vs u ms ss) vs.length with
    | none => rfl
    | some p =>
      obtain ⟨a, b, c⟩ := fp_some (i := p.1) (j := p.2) e2
      rw [q2 _ _ a b] at c; cases c
end
theorem sum_le_lt : ∀ (a b : List Int), a.length = b.length → (∀ j, j < a.length → g a j ≤ g b j) → a.sum ≤ b.sum ∧ ((∃ o, o < a.length ∧ g a o < g b o) → a.sum < b.sum)
  | [], b, hl, _ => by
    have : b = [] := List.length_eq_zero_iff.mp hl.symm
    subst this
    exact ⟨by simp, fun ⟨o, z, _⟩ => absurd z (by simp)⟩
  | p :: a, [], hl, _ => by simp at hl
  | p :: a, q :: b, hl, hj => by
    have h0 : p ≤ q := by simpa [g] using hj 0 (by simp)
    have ih := sum_le_lt a b (by simpa using hl) fun j hj' => by simpa [g] using hj (j + 1) (by simpa using hj')
    rw [List.sum_cons, List.sum_cons]
    refine ⟨by omega, fun ⟨o, z1, z2⟩ => ?_⟩
    cases o with
    | zero => have : p < q := by simpa [g] using z2
              omega
    | succ o => have := ih.2 ⟨o, by simpa using z1, by simpa [g] using z2⟩
                omega
/-- strictly ahead, whatever the numbers -/
def Sa (u : Ru) (vs ss : List Int) (k b : Nat) : Prop := ik u (g ss b) < ik u (g ss k) ∨ (ik u (g ss b) = ik u (g ss k) ∧ xk u (g vs b) (g ss b) < xk u (g vs k) (g ss k))
theorem Sa.bt {u : Ru} {vs ss : List Int} {k b : Nat} (h : Sa u vs ss k b) : BtL u vs ss k b := by
  unfold BtL Bt
  rcases h with h | ⟨h1, h2⟩
  · exact .inl h
  · exact .inr ⟨h1, .inl h2⟩
theorem Sa.of {u : Ru} {vs ss : List Int} {k b : Nat} (hkb : b < k) (h : BtL u vs ss k b) : Sa u vs ss k b := by
  unfold BtL Bt at h
  rcases h with h | ⟨h1, h2 | ⟨_, h2⟩⟩
  · exact .inl h
  · exact .inr ⟨h1, h2⟩
  · omega
theorem ahd_st {u : Ru} (hu : u.ok) {vs ss : List Int} (hv : ∀ v ∈ vs, 1 ≤ v) {k b : Nat} (hk : k < vs.length) (hb : b < vs.length) (h0 : 0 ≤ g ss k) (h1 : 0 ≤ g ss b) : (ahd vs u ss k b = true) ↔ Sa u vs ss k b := by
  have n1 := sq_nn hu h0
  have n2 := sq_nn hu h1
  have vk := hv _ (g_mem hk)
  have vb := hv _ (g_mem hb)
  have wk : 0 < W vs k := cp (Int.mul_pos (by omega) (by omega))
  have wb : 0 < W vs b := cp (Int.mul_pos (by omega) (by omega))
  have e1 : vv (g vs k) = W vs k := rfl
  have e2 : vv (g vs b) = W vs b := rfl
  unfold ahd Sa ik xk
  rw [e1, e2]
  by_cases c1 : sq u (g ss k) = 0 <;> by_cases c2 : sq u (g ss b) = 0
  · rw [if_pos ⟨c1, c2⟩, if_pos c1, if_pos c2, if_pos c1, if_pos c2, decide_eq_true_eq, Rat.intCast_lt_intCast]
    omega
  · rw [if_neg (fun z => c2 z.2), if_pos c1, if_neg c2, decide_eq_true_eq, c1, Rat.mul_zero]
    have p : 0 < sq u (g ss b) := by grind
    exact ⟨fun _ => .inl (by omega), fun _ => Rat.mul_pos wk p⟩
  · rw [if_neg (fun z => c1 z.1), if_neg c1, if_pos c2, decide_eq_true_eq, c2, Rat.mul_zero]
    have := Rat.mul_nonneg (Rat.le_of_lt wb) n1
    refine ⟨fun z => by grind, fun z => ?_⟩
    rcases z with z | z <;> omega
  · rw [if_neg (fun z => c1 z.1), if_neg c1, if_neg c2, if_neg c1, if_neg c2, decide_eq_true_eq]
    have p1 : 0 < sq u (g ss k) := by grind
    have p2 : 0 < sq u (g ss b) := by grind
    have key : W vs b / sq u (g ss b) < W vs k / sq u (g ss k) ↔ W vs b * sq u (g ss k) < W vs k * sq u (g ss b) := by
      rw [Rat.div_lt_iff p2, Rat.div_def, Rat.mul_assoc, Rat.mul_comm _⁻¹, ← Rat.mul_assoc, ← Rat.div_def, Rat.lt_div_iff p1]
    rw [← key]
    constructor
    · exact fun z => .inr ⟨rfl, z⟩
    · rintro (z | ⟨_, z⟩)
      · omega
      · exact z
theorem ahd_bt {u : Ru} (hu : u.ok) {vs ss : List Int} (hv : ∀ v ∈ vs, 1 ≤ v) {k b : Nat} (hk : k < vs.length) (hb : b < vs.length) (hkb : b < k) (h0 : 0 ≤ g ss k) (h1 : 0 ≤ g ss b) : (ahd vs u ss k b = true) ↔ BtL u vs ss k b := by
  rw [ahd_st hu hv hk hb h0 h1]
  exact ⟨Sa.bt, Sa.of hkb⟩
theorem bst_bs {u : Ru} (hu : u.ok) {vs ss : List Int} (hv : ∀ v ∈ vs, 1 ≤ v) (h0 : ∀ k, 0 ≤ g ss k) : bst vs u ss = bsP u vs ss := by
  have key : ∀ m : Nat, m < vs.length → ((List.range m).map (· + 1)).foldl (fun b k => if ahd vs u ss k b = true then k else b) 0 = ((List.range m).map (· + 1)).foldl (fun b k => if decide (BtL u vs ss k b) = true then k else b) 0 ∧
      ((List.range m).map (· + 1)).foldl (fun b k => if ahd vs u ss k b = true then k else b) 0 ≤ m := by
    intro m
    induction m with
    | zero => intro _; exact ⟨rfl, Nat.le_refl _⟩
    | succ m ih =>
      intro hm
      obtain ⟨e, l⟩ := ih (by omega)
      rw [List.range_succ, List.map_append, List.foldl_append, List.foldl_append, ← e]
      generalize ((List.range m).map (· + 1)).foldl (fun b k => if ahd vs u ss k b = true then k else b) 0 = b at *
      have q := ahd_bt hu (ss := ss) hv (k := m + 1) (b := b) hm (by omega) (by omega) (h0 _) (h0 _)
      simp only [List.map_cons, List.map_nil, List.foldl_cons, List.foldl_nil]
      by_cases c : ahd vs u ss (m + 1) b = true
      · rw [if_pos c, if_pos (by simpa using q.mp c)]; exact ⟨rfl, Nat.le_refl _⟩
      · rw [if_neg c, if_neg (by simpa using fun z => c (q.mpr z))]; exact ⟨rfl, by omega⟩
  unfold bst bsP
  rcases Nat.eq_zero_or_pos vs.length with z | z
  · unfold ups upsP; rw [z]; rfl
  · exact (key (vs.length - 1) (by omega)).1

/-! ### the greedy seats from the minimums on -/
def gm (u : Ru) (vs ms : List Int) : Nat → List Int
  | 0 => ms
  | t + 1 => incP (gm u vs ms t) (bsP u vs (gm u vs ms t))
theorem gm_fs (u : Ru) (vs : List Int) : ∀ t, gm u vs (List.replicate vs.length 0) t = fsP u vs t
  | 0 => rfl
  | t + 1 => by unfold gm fsP; rw [gm_fs u vs t]
theorem gm_len (u : Ru) {vs ms : List Int} (hl : ms.length = vs.length) : ∀ t, (gm u vs ms t).length = vs.length
  | 0 => hl
  | t + 1 => by unfold gm incP; rw [List.length_set]; exact gm_len u hl t
theorem gm_b (u : Ru) {vs ms : List Int} (hl : ms.length = vs.length) (hn : 1 ≤ vs.length) : ∀ (t : Nat) (k : Nat), g ms k ≤ g (gm u vs ms t) k ∧ g (gm u vs ms t) k ≤ g ms k + (t : Int)
  | 0, k => by unfold gm; omega
  | t + 1, k => by
    have i1 := gm_b u hl hn t k
    have b := (bsP_ok (u := u) (ss := gm u vs ms t) hn).1
    have i2 := gm_b u hl hn t (bsP u vs (gm u vs ms t))
    unfold gm
    rw [incP_g (by rw [gm_len u hl]; exact b)]
    split
    · rename_i c; rw [← c] at i2 ⊢; omega
    · omega
theorem gm_sum (u : Ru) {vs ms : List Int} (hl : ms.length = vs.length) (hn : 1 ≤ vs.length) : ∀ t : Nat, (gm u vs ms t).sum = ms.sum + (t : Int)
  | 0 => by unfold gm; omega
  | t + 1 => by
    have b := (bsP_ok (u := u) (ss := gm u vs ms t) hn).1
    unfold gm
    rw [sum_set _ _ (by rw [gm_len u hl]; exact b), gm_sum u hl hn t]
    omega
theorem g_nn {ms : List Int} (h : ∀ m ∈ ms, 0 ≤ m) (k : Nat) : 0 ≤ g ms k := by
  by_cases c : k < ms.length
  · exact h _ (g_mem c)
  · unfold g; rw [List.getD_eq_getElem?_getD, List.getElem?_eq_none (by omega)]; exact Int.le_refl 0
/-- the last seat of each party beyond its minimum comes ahead of the next seat of each other one -/
theorem gm_right {u : Ru} (hu : u.ok) {vs ms : List Int} (hl : ms.length = vs.length) (hn : 1 ≤ vs.length) (hv : ∀ v ∈ vs, 0 ≤ v) (hm : ∀ m ∈ ms, 0 ≤ m) : ∀ (t : Nat) (a b : Nat), a < vs.length → b < vs.length → a ≠ b → g ms b < g (gm u vs ms t) b →
    Bt u (g vs b) (g (gm u vs ms t) b - 1) b (g vs a) (g (gm u vs ms t) a) a
  | 0, a, b, ha, hb, hab, h1 => by unfold gm at h1; omega
  | t + 1, a, b, ha, hb, hab, h1 => by
    have ih := gm_right hu hl hn hv hm t a b ha hb hab
    obtain ⟨t1, t2⟩ := bsP_ok (u := u) (ss := gm u vs ms t) hn
    have nn : ∀ k, 0 ≤ g (gm u vs ms t) k := fun k => Int.le_trans (g_nn hm k) (gm_b u hl hn t k).1
    unfold gm at h1 ⊢
    rw [incP_g (by rw [gm_len u hl]; exact t1)] at h1 ⊢
    rw [incP_g (by rw [gm_len u hl]; exact t1)]
    by_cases c : b = bsP u vs (gm u vs ms t)
    · have c2 : ¬ a = bsP u vs (gm u vs ms t) := fun z => hab (z.trans c.symm)
      rw [if_pos c, if_neg c2]
      have := t2 a ha c2
      rw [← c] at this ⊢
      rw [show g (gm u vs ms t) b + 1 - 1 = g (gm u vs ms t) b by omega]
      exact this
    · rw [if_neg c] at h1 ⊢
      have ih := ih h1
      by_cases d : a = bsP u vs (gm u vs ms t)
      · rw [if_pos d]
        rw [← d]
        exact ih.le Lk.rfl' (Lk.seats hu (hv _ (g_mem ha)) (nn a) (by omega))
      · rw [if_neg d]; exact ih
/-- one more minimum for a party never gives it fewer seats -/
theorem gm_mono {u : Ru} (hu : u.ok) {vs ms : List Int} (hl : ms.length = vs.length) (hn : 1 ≤ vs.length) (hv : ∀ v ∈ vs, 0 ≤ v) (hm : ∀ m ∈ ms, 0 ≤ m) {o : Nat} (ho : o < vs.length) (t : Nat) :
    g (gm u vs ms (t + 1)) o ≤ g (gm u vs (incP ms o) t) o := by
  rcases Int.lt_or_le (g (gm u vs (incP ms o) t) o) (g (gm u vs ms (t + 1)) o) with c | c
  · have hl' : (incP ms o).length = vs.length := by unfold incP; rw [List.length_set]; exact hl
    have hm' : ∀ m ∈ incP ms o, 0 ≤ m := fun m h => by
      rcases List.mem_or_eq_of_mem_set h with z | z
      · exact hm m z
      · have := g_nn hm o; omega
    have ig := incP_g (ss := ms) (b := o) (by rw [hl]; exact ho)
    have eo := ig o
    rw [if_pos rfl] at eo
    obtain ⟨j, hj, z⟩ := sum_eq_lt (n := 0) (gm u vs (incP ms o) t) (gm u vs ms (t + 1)) (by rw [gm_len u hl', gm_len u hl]) (by rw [gm_sum u hl' hn, gm_sum u hl hn, sum_set _ _ (by rw [hl]; exact ho)]; omega) o c
    rw [gm_len u hl'] at hj
    have hjo : j ≠ o := fun e => by rw [e] at z; omega
    have ej := ig j
    rw [if_neg hjo] at ej
    have b1 := gm_b u hl' hn t
    have b2 := gm_b u hl hn (t + 1)
    have bo := (b1 o).1
    have bj := (b2 j).1
    have n1 := g_nn hm o
    have n2 := g_nn hm j
    have x := gm_right hu hl' hn hv hm' t o j ho hj hjo.symm (by omega)
    have y := gm_right hu hl hn hv hm (t + 1) j o hj ho hjo (by omega)
    have k1 : Lk u (g vs o) (g (gm u vs ms (t + 1)) o - 1) (g vs o) (g (gm u vs (incP ms o) t) o) := Lk.seats hu (hv _ (g_mem ho)) (by omega) (by omega)
    have k2 : Lk u (g vs j) (g (gm u vs (incP ms o) t) j - 1) (g vs j) (g (gm u vs ms (t + 1)) j) := Lk.seats hu (hv _ (g_mem hj)) (by omega) (by omega)
    exact ((y.le k1 k2).trans x).irr.elim
  · exact c
theorem sum_zeros : ∀ (ms : List Int), (ms.map fun m => if m = 0 then (1 : Int) else m).sum = ms.sum + (ms.countP (fun m => decide (m = 0)) : Int)
  | [] => rfl
  | m :: ms => by
    have ih := sum_zeros ms
    rw [List.map_cons, List.sum_cons, List.sum_cons, List.countP_cons, ih]
    by_cases c : m = 0
    · rw [if_pos c, decide_eq_true c, if_pos rfl]; omega
    · rw [if_neg c, decide_eq_false c, if_neg (by decide)]; omega
theorem g_map0 (f : Int → Int) {ms : List Int} {k : Nat} (h : k < ms.length) : g (ms.map f) k = f (g ms k) := by simp [g, h]
/-- by a strict rule the first seats go to those who have none -/
theorem gm_full {u : Ru} (hu : u.ok) {vs ms : List Int} (hl : ms.length = vs.length) (hn : 1 ≤ vs.length) (hv : ∀ v ∈ vs, 0 ≤ v) (hm : ∀ m ∈ ms, 0 ≤ m) (hs : stc u = true) {t : Nat} (ht : ms.countP (fun m => decide (m = 0)) ≤ t) {i : Nat} (hi : i < vs.length) : g (gm u vs ms t) i ≠ 0 := by
  intro z
  have bd := gm_b u hl hn t
  have z0 : sq u 0 = 0 := of_decide_eq_true hs
  have up : ∀ b, b < vs.length → g (gm u vs ms t) b ≤ (if g ms b = 0 then (1 : Int) else g ms b) := fun b hb => by
    by_cases hbi : b = i
    · subst hbi; rw [z]; have := (bd b).1; have := g_nn hm b; split <;> omega
    · rcases Int.lt_or_le (g ms b) (g (gm u vs ms t) b) with c | c
      · have r := gm_right hu hl hn hv hm t i b hi hb (Ne.symm hbi) c
        rw [z] at r
        have n1 := g_nn hm b
        have q : sq u (g (gm u vs ms t) b - 1) = 0 := by
          have : ik u 0 = 1 := (ik_ne (t := 0)).mpr z0
          unfold Bt at r
          rw [this] at r
          have l : ik u (g (gm u vs ms t) b - 1) ≤ 1 := by unfold ik; split <;> omega
          exact (ik_ne (t := 0)).mp (by omega)
        have := ((sq_zero hu (by omega)).mp q).1
        rw [if_pos (by omega)]; omega
      · split <;> omega
  have hlm : (gm u vs ms t).length = vs.length := gm_len u hl t
  have m0 : g ms i = 0 := by have := (bd i).1; have := g_nn hm i; omega
  have sl := (sum_le_lt (gm u vs ms t) (ms.map fun m => if m = 0 then (1 : Int) else m) (by rw [List.length_map, hlm, hl]) fun j hj => by
    rw [g_map0 _ (by omega)]; exact up j (by omega)).2 ⟨i, by omega, by rw [g_map0 _ (by omega), m0, z]; decide⟩
  rw [sum_zeros, gm_sum u hl hn] at sl
  omega
theorem gm_VM {u : Ru} {vs ms : List Int} (hl : ms.length = vs.length) (hn : 1 ≤ vs.length ∧ vs.length ≤ 20) (hv : ∀ v ∈ vs, 0 ≤ v ∧ v ≤ 1000000000) (hm : ∀ m ∈ ms, 0 ≤ m ∧ m ≤ 500) {t : Nat} (ht : t ≤ 500) : VM vs ms (gm u vs ms t) := ⟨⟨gm_len u hl t, hn.2, hv, fun s hs => by
  obtain ⟨i, hi, rfl⟩ := List.getElem_of_mem hs
  have b := gm_b u hl hn.1 t i
  rw [gm_len u hl] at hi
  have := hm _ (g_mem (xs := ms) (i := i) (by omega))
  have e : g (gm u vs ms t) i = (gm u vs ms t)[i]'(by rw [gm_len u hl]; exact hi) := by unfold g; rw [List.getD_eq_getElem?_getD, List.getElem?_eq_getElem (by rw [gm_len u hl]; exact hi)]; rfl
  omega⟩, hl, fun m h => by have := hm m h; omega⟩
/-- the greedy seats are right -/
theorem gm_isR {u : Ru} (hu : u.ok) {vs ms : List Int} (hl : ms.length = vs.length) (hn : 1 ≤ vs.length ∧ vs.length ≤ 20) (hv : ∀ v ∈ vs, 1 ≤ v ∧ v ≤ 1000000000) (hm : ∀ m ∈ ms, 0 ≤ m ∧ m ≤ 500) {t : Nat} (ht : t ≤ 500) (hs : stc u = true → ms.countP (fun m => decide (m = 0)) ≤ t) : (frM vs u ms (gm u vs ms t)).isR = true := by
  have hv0 : ∀ v ∈ vs, 0 ≤ v := fun v h => by have := hv v h; omega
  have hm0 : ∀ m ∈ ms, 0 ≤ m := fun v h => by have := hm v h; omega
  have V := gm_VM (u := u) hl hn (fun v h => by have := hv v h; omega) hm ht
  refine (frM_right hu V fun v h => (hv v h).1).mpr ⟨fun i hi z => ?_, fun s i hi => gm_full hu hl hn.1 hv0 hm0 s (hs s) hi, fun i j hi hj => ?_⟩
  · have := (gm_b u hl hn.1 t i).1; omega
  · by_cases e : i = j
    · subst e; exact barM_self hu V hi
    · refine Bool.eq_false_iff.mpr fun b => ?_
      obtain ⟨b1, b2⟩ := (bar_iff hu V fun v h => (hv v h).1).mp b
      have r := gm_right hu hl hn.1 hv0 hm0 t i j hi hj e b1
      have nj := V.mg hj
      have s1 := sq_nn hu (k := g (gm u vs ms t) j - 1) (by omega)
      have s2 := sq_nn hu (k := g (gm u vs ms t) i) (V.h.sb hi).1
      have w1 : vv (g vs i) = W vs i := rfl
      have w2 : vv (g vs j) = W vs j := rfl
      have c1 : sq u (g (gm u vs ms t) j - 1) ≠ 0 := fun z => by
        rw [z, Rat.mul_zero] at b2
        have := Rat.mul_nonneg (W_nn vs j) s2
        grind
      unfold Bt ik xk at r
      rw [if_neg c1, if_neg c1, w1, w2] at r
      by_cases c2 : sq u (g (gm u vs ms t) i) = 0
      · rw [if_pos c2] at r
        rcases r with r | r
        · omega
        · omega
      · rw [if_neg c2, if_neg c2] at r
        have p1 : 0 < sq u (g (gm u vs ms t) j - 1) := by grind
        have p2 : 0 < sq u (g (gm u vs ms t) i) := by grind
        have le : W vs i / sq u (g (gm u vs ms t) i) ≤ W vs j / sq u (g (gm u vs ms t) j - 1) := by
          rcases r with r | ⟨_, r | ⟨r, _⟩⟩
          · omega
          · exact Rat.le_of_lt r
          · rw [r]; exact Rat.le_refl
        have m1 := Rat.mul_le_mul_of_nonneg_right le (Rat.le_of_lt p1)
        have m2 := Rat.mul_le_mul_of_nonneg_right m1 (Rat.le_of_lt p2)
        have e1 : W vs j / sq u (g (gm u vs ms t) j - 1) * sq u (g (gm u vs ms t) j - 1) = W vs j := by grind
        have e2 : W vs i / sq u (g (gm u vs ms t) i) * sq u (g (gm u vs ms t) j - 1) * sq u (g (gm u vs ms t) i) = W vs i * sq u (g (gm u vs ms t) j - 1) := by grind
        rw [e1, e2] at m2
        grind
end La
namespace La
open PySem PySem.Spec L2 Dn
open PyProof.Rows hiding St
/-! ### seats with minimums: the program and the law -/
theorem xseq_nx {f h : DenX} {Γ Γ' : Ev} (e : f Γ = .o (.nx Γ')) : xSeq f h Γ = h Γ' := by unfold xSeq; rw [e]
theorem xseq_ex {f h : DenX} {Γ Γ' : Ev} {c : Str} (e : f Γ = .ex c Γ') : xSeq f h Γ = .ex c Γ' := by unfold xSeq; rw [e]
theorem runX_rt {n N : Nat} {f : DenX} {ds : List D} {d : D} {m : Md} (hl : ds.length = n) (e : f (ds.map (fun d => Slot.val d false) ++ List.replicate (N - n) Slot.no) = .o (.rt d m)) : runX n N f ds = some (.v d m) := by unfold runX; rw [if_pos hl, e]
theorem runX_ex {n N : Nat} {f : DenX} {ds : List D} {c : Str} {Γ : Ev} (hl : ds.length = n) (e : f (ds.map (fun d => Slot.val d false) ++ List.replicate (N - n) Slot.no) = .ex c Γ) : runX n N f ds = some (.ex c) := by unfold runX; rw [if_pos hl, e]
theorem xup_nx {f : DenS} {Γ Γ' : Ev} (e : f Γ = .nx Γ') : xUp f Γ = .o (.nx Γ') := by unfold xUp; rw [e]
theorem xup_rt {f : DenS} {Γ : Ev} {d : D} {m : Md} (e : f Γ = .rt d m) : xUp f Γ = .o (.rt d m) := by unfold xUp; rw [e]
theorem xif_t {t : DenT} {f h : DenX} {Γ : Ev} (e : t Γ = some true) : xIf t f h Γ = f Γ := by unfold xIf; rw [e]
theorem xif_f {t : DenT} {f h : DenX} {Γ : Ev} (e : t Γ = some false) : xIf t f h Γ = h Γ := by unfold xIf; rw [e]

theorem cnt0 (ms : List Int) : ms.count 0 = ms.countP (fun m => decide (m = 0)) := by
  induction ms with
  | nil => rfl
  | cons m ms ih =>
    rw [List.count_cons, List.countP_cons, ih]
    by_cases c : m = 0
    · subst c; simp
    · simp [c]
section
variable {vs : List Int} {u : Ru} (hu : u.ok)
include hu
theorem lf_step {ss : List Int} (h : VS vs ss) (s2 s3 : Slot) {k b : Nat} (hk : k < vs.length) (hb : b < vs.length) (s5 : Slot) :
    lb_law_with_minimums_u_1 [.val (.lst (vs.map D.int)) false, .val (eRu u) false, s2, s3, .own (.lst (ss.map D.int)) false, s5, .val (.int (b : Int)) false, .val (.int (k : Int)) false, .no, .no, .no, .no] =
      .nx [.val (.lst (vs.map D.int)) false, .val (eRu u) false, s2, s3, .own (.lst (ss.map D.int)) false, s5, .val (.int ((if ahd vs u ss k b = true then k else b : Nat) : Int)) false, .no, .no, .no, .no, .no] := by
  have vk := g_at hk
  have vb := g_at hb
  have sk := g_at (xs := ss) (i := k) (by rw [h.l]; exact hk)
  have sb := g_at (xs := ss) (i := b) (by rw [h.l]; exact hb)
  have k1 := h.sb hk
  have b1 := h.sb hb
  have q1 := lsquare_ok hu (k := g ss k) (by omega)
  have q2 := lsquare_ok hu (k := g ss b) (by omega)
  have c1 := bq_sq hu (k := g ss k) (by omega)
  have c2 := bq_sq hu (k := g ss b) (by omega)
  have m1 := W_mul h hk
  have m2 := W_mul h hb
  have t1 := ltimes_ok ((bq_W h hk).mono (k := 200) (by omega)) (c2.mono (k := 200) (by omega))
  have t2 := ltimes_ok ((bq_W h hb).mono (k := 200) (by omega)) (c1.mono (k := 200) (by omega))
  have ls := lless_ok ((bq_mul (bq_W h hb) c1).mono (k := 1000) (by omega)) ((bq_mul (bq_W h hk) c2).mono (k := 1000) (by omega))
  have n1 : (sq u (g ss k)).num = 0 ↔ sq u (g ss k) = 0 := Rat.num_eq_zero
  have n2 : (sq u (g ss b)).num = 0 ↔ sq u (g ss b) = 0 := Rat.num_eq_zero
  have z0 : (0 : Rat).num = 0 := rfl
  unfold lb_law_with_minimums_u_1 ahd
  rw [dFgt_eq, seq_nx (f := dSet 8 _) (Γ' := [.val (.lst (vs.map D.int)) false, .val (eRu u) false, s2, s3, .own (.lst (ss.map D.int)) false, s5, .val (.int (b : Int)) false, .val (.int (k : Int)) false, .val (eR (sq u (g ss k))) false, .no, .no, .no]) (by simp [sk, q1])]
  rw [seq_nx (f := dSet 9 _) (Γ' := [.val (.lst (vs.map D.int)) false, .val (eRu u) false, s2, s3, .own (.lst (ss.map D.int)) false, s5, .val (.int (b : Int)) false, .val (.int (k : Int)) false, .val (eR (sq u (g ss k))) false, .val (eR (sq u (g ss b))) false, .no, .no]) (by simp [sb, q2])]
  rw [seq_nx (f := dFrz _ _) (Γ' := [.val (.lst (vs.map D.int)) false, .val (eRu u) false, s2, s3, .own (.lst (ss.map D.int)) false, s5, .val (.int (b : Int)) false, .val (.int (k : Int)) false, .val (eR (sq u (g ss k))) false, .val (eR (sq u (g ss b))) false, .val (eR (W vs k * sq u (g ss b))) false, .no]) (by simp [vk, m1, W_tup, t1, frzS])]
  rw [seq_nx (f := dFrz _ _) (Γ' := [.val (.lst (vs.map D.int)) false, .val (eRu u) false, s2, s3, .own (.lst (ss.map D.int)) false, s5, .val (.int (b : Int)) false, .val (.int (k : Int)) false, .val (eR (sq u (g ss k))) false, .val (eR (sq u (g ss b))) false, .val (eR (W vs k * sq u (g ss b))) false, .val (eR (W vs b * sq u (g ss k))) false]) (by simp [vb, m2, W_tup, t2, frzS])]
  by_cases c : sq u (g ss k) = 0 ∧ sq u (g ss b) = 0
  · rw [if_pos c]
    by_cases c3 : g vs b < g vs k
    · simp [eR_0, c.1, c.2, z0, vk, vb, c3]
    · simp [eR_0, c.1, c.2, z0, vk, vb, c3]
  · rw [if_neg c]
    have e : (decide ((sq u (g ss k)).num = 0) && decide ((sq u (g ss b)).num = 0)) = false := by
      rw [Bool.and_eq_false_iff, decide_eq_false_iff_not, decide_eq_false_iff_not, n1, n2]
      by_cases y : sq u (g ss k) = 0
      · exact .inr fun z => c ⟨y, z⟩
      · exact .inl y
    by_cases y : (sq u (g ss k)).num = 0
    · have y2 : ¬ (sq u (g ss b)).num = 0 := fun z => c ⟨n1.mp y, n2.mp z⟩
      by_cases c3 : W vs b * sq u (g ss k) < W vs k * sq u (g ss b)
      · rw [decide_eq_true c3] at ls
        simp [eR_0, y, y2, ls, c3]
      · rw [decide_eq_false c3] at ls
        simp [eR_0, y, y2, ls, c3]
    · by_cases c3 : W vs b * sq u (g ss k) < W vs k * sq u (g ss b)
      · rw [decide_eq_true c3] at ls
        simp [eR_0, y, ls, c3]
      · rw [decide_eq_false c3] at ls
        simp [eR_0, y, ls, c3]
theorem lf_turn {ss : List Int} (h : VS vs ss) (hn : 1 ≤ vs.length) (s2 s3 : Slot) (s5 : Slot) :
    lb_law_with_minimums_u_2 [.val (.lst (vs.map D.int)) false, .val (eRu u) false, s2, s3, .own (.lst (ss.map D.int)) false, s5, .no, .no, .no, .no, .no, .no] =
      .nx [.val (.lst (vs.map D.int)) false, .val (eRu u) false, s2, s3, .own (.lst ((inc ss (bst vs u ss)).map D.int)) false, .no, .no, .no, .no, .no, .no, .no] := by
  have zv : vs.length ≤ sizeLine := small_le (by have := h.n; omega)
  have r1 : rOk 1 := rOk_of (by omega)
  have rv : rOk (vs.length : Int) := rOk_of (by have := h.n; omega)
  have hb := bst_lt (u := u) (ss := ss) hn
  have loop := forGo_fold (t := .nm 7) (h := lb_law_with_minimums_u_1) (fun (k : Nat) => D.int (k : Int)) (fun b : Nat => [.val (.lst (vs.map D.int)) false, .val (eRu u) false, s2, s3, .own (.lst (ss.map D.int)) false, s5, .val (.int (b : Int)) false, .no, .no, .no, .no, .no]) (fun b k => if ahd vs u ss k b = true then k else b) (fun b => b < vs.length) (ups vs.length) 0 (by omega) fun b k hk hb => ⟨_, rfl, .inl (lf_step hu h s2 s3 (ups_lt hk).1 hb s5), by
    split
    · exact (ups_lt hk).1
    · exact hb⟩
  have loop := loop.1
  rw [show (ups vs.length).foldl (fun b k => if ahd vs u ss k b = true then k else b) 0 = bst vs u ss from rfl] at loop
  have sb := g_at (xs := ss) (i := bst vs u ss) (by rw [h.l]; exact hb)
  have ix : ixN ss.length ((bst vs u ss : Nat) : Int) = some (bst vs u ss) := ixN_n (by rw [h.l]; exact hb)
  unfold lb_law_with_minimums_u_2
  rw [dFgt_eq, seq_nx (f := dSet 6 _) (Γ' := [.val (.lst (vs.map D.int)) false, .val (eRu u) false, s2, s3, .own (.lst (ss.map D.int)) false, s5, .val (.int ((0 : Nat) : Int)) false, .no, .no, .no, .no, .no]) (by simp)]
  rw [seq_nx ((for_src (ds := (ups vs.length).map fun (k : Nat) => D.int (k : Int)) (n := true) (by rw [← ups_D hn]; simp [zv, r1, rv])).trans loop)]
  unfold inc
  simp [dPut, putItem, sb, ix]

theorem lwm_ok {ms : List Int} (hl : ms.length = vs.length) (hn : 1 ≤ vs.length ∧ vs.length ≤ 20) (hv : ∀ v ∈ vs, 1 ≤ v ∧ v ≤ 1000000000) (hm : ∀ m ∈ ms, 0 ≤ m ∧ m ≤ 500) {H : Int} (h0 : 0 ≤ H - ms.sum) (h1 : H - ms.sum ≤ 500) :
    φ_law_with_minimums_u [.lst (vs.map D.int), eRu u, .lst (ms.map D.int), .int H] = some (.lst ((gm u vs ms (H - ms.sum).toNat).map D.int), .new false) := by
  have zv : vs.length ≤ sizeLine := small_le (by omega)
  have rh : rOk (H - ms.sum) := rOk_of (by omega)
  have hv0 : ∀ v ∈ vs, 0 ≤ v ∧ v ≤ 1000000000 := fun v h => by have := hv v h; omega
  have loop : ∀ m t : Nat, t + m ≤ 500 → forGo (.nm 5) lb_law_with_minimums_u_2 ((List.range' t m).map fun (k : Nat) => D.int (k : Int)) [.val (.lst (vs.map D.int)) false, .val (eRu u) false, .val (.lst (ms.map D.int)) false, .val (.int H) false, .own (.lst ((gm u vs ms t).map D.int)) false, .no, .no, .no, .no, .no, .no, .no] =
      .nx [.val (.lst (vs.map D.int)) false, .val (eRu u) false, .val (.lst (ms.map D.int)) false, .val (.int H) false, .own (.lst ((gm u vs ms (t + m)).map D.int)) false, .no, .no, .no, .no, .no, .no, .no] := by
    intro m
    induction m with
    | zero => intro t _; rfl
    | succ m ih =>
      intro t ht
      have V := (gm_VM (u := u) hl hn hv0 hm (t := t) (by omega)).h
      have st := lf_turn hu V hn.1 (.val (.lst (ms.map D.int)) false) (.val (.int H) false) (.val (.int (t : Int)) false)
      rw [bst_bs hu (fun v h => (hv v h).1) fun k => Int.le_trans (g_nn (fun m h => (hm m h).1) k) (gm_b u hl hn.1 t k).1] at st
      rw [List.range'_succ, List.map_cons, forGo_nx rfl st]
      have := ih (t + 1) (by omega)
      rw [show t + 1 + m = t + (m + 1) by omega] at this
      exact this
  have loop := loop (H - ms.sum).toNat 0 (by omega)
  rw [Nat.zero_add, ← List.range_eq_range', ← rngD_map] at loop
  unfold φ_law_with_minimums_u
  refine runB_rt rfl ?_
  unfold b_law_with_minimums_u
  refine Eq.trans (seq_nx (f := dSet 4 _) (Γ' := [.val (.lst (vs.map D.int)) false, .val (eRu u) false, .val (.lst (ms.map D.int)) false, .val (.int H) false, .own (.lst ((gm u vs ms 0).map D.int)) false, .no, .no, .no, .no, .no, .no, .no]) (by unfold gm; simp)) ?_
  refine Eq.trans (seq_nx ((for_src (ds := rngD 0 (H - ms.sum).toNat) (n := true) (by simp [rh])).trans loop)) ?_
  simp
theorem swm_ok {ms : List Int} (hl : ms.length = vs.length) (hn : 1 ≤ vs.length ∧ vs.length ≤ 20) (hv : ∀ v ∈ vs, 1 ≤ v ∧ v ≤ 1000000000) (hm : ∀ m ∈ ms, 0 ≤ m ∧ m ≤ 500) {H : Int} (h1 : H - ms.sum ≤ 500) :
    φx_seats_with_minimums [.lst (vs.map D.int), eRu u, .lst (ms.map D.int), .int H] = some (if H - ms.sum < 0 ∨ (stc u = true ∧ H - ms.sum < (ms.count 0 : Int)) then .ex "TooFewSeats" else .v (.lst ((gm u vs ms (H - ms.sum).toNat).map D.int)) (.new false)) := by
  have zv : vs.length ≤ sizeLine := small_le (by omega)
  have hv0 : ∀ v ∈ vs, 0 ≤ v ∧ v ≤ 1000000000 := fun v h => by have := hv v h; omega
  have st := strict_ok hu
  unfold φx_seats_with_minimums
  by_cases c : H - ms.sum < 0 ∨ (stc u = true ∧ H - ms.sum < (ms.count 0 : Int))
  · rw [if_pos c]
    refine runX_ex rfl (Γ := [.val (.lst (vs.map D.int)) false, .val (eRu u) false, .val (.lst (ms.map D.int)) false, .val (.int H) false, .val (.int (H - ms.sum)) false, .no, .no]) ?_
    unfold b_seats_with_minimums
    rw [xseq_nx (Γ' := [.val (.lst (vs.map D.int)) false, .val (eRu u) false, .val (.lst (ms.map D.int)) false, .val (.int H) false, .val (.int (H - ms.sum)) false, .no, .no]) (xup_nx (by simp))]
    refine xseq_ex ?_
    refine (xif_t ?_).trans rfl
    by_cases c1 : H - ms.sum < 0
    · simp [c1]
    · have c2 := c.resolve_left c1
      rw [c2.1] at st
      simp [c1, st, c2.2]
  · rw [if_neg c]
    have c1 : ¬ H - ms.sum < 0 := fun z => c (.inl z)
    have rh : rOk (H - ms.sum) := rOk_of (by omega)
    have loop : ∀ m t : Nat, t + m ≤ 500 → forGo (.nm 6) lb_seats_with_minimums_1 ((List.range' t m).map fun (k : Nat) => D.int (k : Int)) [.val (.lst (vs.map D.int)) false, .val (eRu u) false, .val (.lst (ms.map D.int)) false, .val (.int H) false, .val (.int (H - ms.sum)) false, .own (.lst ((gm u vs ms t).map D.int)) false, .no] =
        .nx [.val (.lst (vs.map D.int)) false, .val (eRu u) false, .val (.lst (ms.map D.int)) false, .val (.int H) false, .val (.int (H - ms.sum)) false, .own (.lst ((gm u vs ms (t + m)).map D.int)) false, .no] := by
      intro m
      induction m with
      | zero => intro t _; rfl
      | succ m ih =>
        intro t ht
        have V := (gm_VM (u := u) hl hn hv0 hm (t := t) (by omega)).h
        have q := next_party_ok hu V hn.1
        have b := (bsP_ok (u := u) (ss := gm u vs ms t) hn.1).1
        have gb : (gm u vs ms t)[bsP u vs (gm u vs ms t)]? = some (g (gm u vs ms t) (bsP u vs (gm u vs ms t))) := by
          have : bsP u vs (gm u vs ms t) < (gm u vs ms t).length := by rw [gm_len u hl]; exact b
          simp [g, this]
        have ix : ixN (gm u vs ms t).length ((bsP u vs (gm u vs ms t) : Nat) : Int) = some (bsP u vs (gm u vs ms t)) := by
          unfold ixN
          rw [if_pos (by omega), if_pos (by rw [gm_len u hl]; omega)]; simp
        rw [List.range'_succ, List.map_cons, forGo_nx (Γ2 := [.val (.lst (vs.map D.int)) false, .val (eRu u) false, .val (.lst (ms.map D.int)) false, .val (.int H) false, .val (.int (H - ms.sum)) false, .own (.lst ((gm u vs ms (t + 1)).map D.int)) false, .no]) rfl (by
          unfold lb_seats_with_minimums_1
          rw [show gm u vs ms (t + 1) = incP (gm u vs ms t) (bsP u vs (gm u vs ms t)) from rfl]
          unfold incP
          simp [dAugI, augItem, putItem, q, gb, ix, List.map_set])]
        have := ih (t + 1) (by omega)
        rw [show t + 1 + m = t + (m + 1) by omega] at this
        exact this
    have loop := loop (H - ms.sum).toNat 0 (by omega)
    rw [Nat.zero_add, ← List.range_eq_range', ← rngD_map] at loop
    refine runX_rt rfl ?_
    unfold b_seats_with_minimums
    rw [xseq_nx (Γ' := [.val (.lst (vs.map D.int)) false, .val (eRu u) false, .val (.lst (ms.map D.int)) false, .val (.int H) false, .val (.int (H - ms.sum)) false, .no, .no]) (xup_nx (by simp))]
    rw [xseq_nx (Γ' := [.val (.lst (vs.map D.int)) false, .val (eRu u) false, .val (.lst (ms.map D.int)) false, .val (.int H) false, .val (.int (H - ms.sum)) false, .no, .no]) (by
      refine (xif_f ?_).trans rfl
      cases hs : stc u with
      | false => rw [hs] at st; simp [st, c1]
      | true =>
        rw [hs] at st
        have c2 : ¬ H - ms.sum < (ms.count 0 : Int) := fun z => c (.inr ⟨hs, z⟩)
        simp [st, c1, c2])]
    rw [xseq_nx (Γ' := [.val (.lst (vs.map D.int)) false, .val (eRu u) false, .val (.lst (ms.map D.int)) false, .val (.int H) false, .val (.int (H - ms.sum)) false, .own (.lst ((gm u vs ms 0).map D.int)) false, .no]) (xup_nx (by unfold gm; simp))]
    rw [xseq_nx (xup_nx ((for_src (ds := rngD 0 (H - ms.sum).toNat) (n := true) (by simp [rh])).trans loop))]
    unfold xUp
    simp
/-- what the law is told -/
theorem told_ok {ms : List Int} (hl : ms.length = vs.length) (hn : 1 ≤ vs.length ∧ vs.length ≤ 20) (hv : ∀ v ∈ vs, 1 ≤ v ∧ v ≤ 1000000000) (hm : ∀ m ∈ ms, 0 ≤ m ∧ m ≤ 500) {H : Int} (h1 : H - ms.sum ≤ 500) :
    φ_law_told_u [.lst (vs.map D.int), eRu u, .lst (ms.map D.int), .int H] = some (if H - ms.sum < 0 ∨ (stc u = true ∧ H - ms.sum < (ms.count 0 : Int)) then (.str "few", .frz false) else (.lst ((gm u vs ms (H - ms.sum).toNat).map D.int), .new false)) := by
  have c := swm_ok hu hl hn hv hm h1
  unfold φ_law_told_u
  by_cases e : H - ms.sum < 0 ∨ (stc u = true ∧ H - ms.sum < (ms.count 0 : Int))
  · rw [if_pos e] at c ⊢
    refine runB_rt rfl ?_
    unfold b_law_told_u xTryA xRet xCall lb_law_told_u_1
    simp [c, dIsX]
  · rw [if_neg e] at c ⊢
    refine runB_rt rfl ?_
    unfold b_law_told_u xTryA xRet xCall
    generalize gm u vs ms (H - ms.sum).toNat = G at *
    simp [c]
end
end La
namespace La
open PySem PySem.Spec L2 Dn
open PyProof.Rows hiding St
/-! ### lists that may be no minimums -/
theorem runX_nx {n N : Nat} {f : DenX} {ds : List D} {Γ : Ev} (hl : ds.length = n) (e : f (ds.map (fun d => Slot.val d false) ++ List.replicate (N - n) Slot.no) = .o (.nx Γ)) : runX n N f ds = some (.v .non (.frz false)) := by unfold runX; rw [if_pos hl, e]
/-- a thing in such a list -/
def Thing : D → Prop
  | .int _ => True
  | .bl _ => True
  | .non => True
  | .str _ => True
  | .tup xs => xs = [.int 1]
  | .lst xs => xs = [.int 0]
  | _ => False
def isI : D → Bool
  | .int _ => true
  | _ => false
def okM : D → Bool
  | .int i => decide (0 ≤ i)
  | _ => false
theorem isw_ok {d : D} (hd : Thing d) : φ_is_whole [d] = some (.bl (isI d), .frz false) := by
  unfold φ_is_whole
  refine runB_rt rfl ?_
  unfold b_is_whole isI
  cases d with
  | int i => simp
  | bl b => simp
  | non => simp
  | str s => simp
  | tup xs => simp
  | lst xs => simp
  | dk _ => exact hd.elim
  | dt _ => exact hd.elim
  | st _ => exact hd.elim
  | scr _ => exact hd.elim
theorem all_int : ∀ {L : List D}, L.all isI = true → ∃ xs : List Int, L = xs.map D.int
  | [], _ => ⟨[], rfl⟩
  | d :: L, h => by
    rw [List.all_cons, Bool.and_eq_true] at h
    obtain ⟨xs, e⟩ := all_int h.2
    cases d with
    | int i => exact ⟨i :: xs, by rw [e]; rfl⟩
    | _ => cases (show false = true from h.1)
theorem okM_isI {L : List D} (h : L.all okM = true) : L.all isI = true := by
  rw [List.all_eq_true] at h ⊢
  intro d hd
  have := h d hd
  cases d with
  | int i => rfl
  | _ => cases (show false = true from this)
def okL (L : List D) : Bool := L.all okM && decide (((D.asInts L).getD []).sum ≤ 60)
/-- what is told of such a list -/
def wd (n : Nat) (L : List D) : Str := if L.length = n then (if okL L = true then "good" else "none") else "count"
theorem check_ok {vs : List Int} {L : List D} (hn : vs.length ≤ 20) (h : ∀ d ∈ L, Thing d) (hl : L.length ≤ 100) : φx_check_minimums [.lst (vs.map D.int), .lst L] = some (if L.length = vs.length then (if okL L = true then .v .non (.frz false) else .ex "InvalidMinimums") else .ex "WrongCount") := by
  have zv : vs.length ≤ sizeLine := small_le (by omega)
  have zl : L.length ≤ sizeLine := small_le (by omega)
  have lc : lcGo (.nm 2) dYes (dAndV (dSc (dCall φ_is_whole (dACons (dVar 2) dANil))) (dOp geD (dVar 2) (dC (.int 0)))) [.val (.lst (vs.map D.int)) false, .val (.lst L) false, .no] L = some ((L.map okM).map D.bl) := by
    have := lcGo_all (t := .nm 2) (el := dAndV (dSc (dCall φ_is_whole (dACons (dVar 2) dANil))) (dOp geD (dVar 2) (dC (.int 0)))) (Γ := [.val (.lst (vs.map D.int)) false, .val (.lst L) false, .no]) (fun d : D => d) (fun d => D.bl (okM d)) L fun d hd => ⟨_, rfl, _, by
      have w := isw_ok (h d hd)
      cases d with
      | int i => simp [w, isI, okM]; rfl
      | bl b => simp [w, isI, okM]
      | non => simp [w, isI, okM]
      | str s => simp [w, isI, okM]
      | tup xs => simp [w, isI, okM]
      | lst xs => simp [w, isI, okM]
      | dk _ => exact (h _ hd).elim
      | dt _ => exact (h _ hd).elim
      | st _ => exact (h _ hd).elim
      | scr _ => exact (h _ hd).elim⟩
    rw [List.map_id'] at this
    rw [this, List.map_map]; rfl
  have zA : (L.map okM).length ≤ sizeLine := by simpa using zl
  have ea : (L.map okM).all id = L.all okM := by rw [List.all_map]; rfl
  unfold φx_check_minimums
  by_cases c0 : L.length = vs.length
  · rw [if_pos c0]
    by_cases c : okL L = true
    · rw [if_pos c]
      unfold okL at c
      rw [Bool.and_eq_true, decide_eq_true_eq] at c
      obtain ⟨xs, ex⟩ := all_int (okM_isI c.1)
      refine runX_nx rfl (Γ := [.val (.lst (vs.map D.int)) false, .val (.lst L) false, .no]) ?_
      unfold b_check_minimums
      rw [xseq_nx (Γ' := [.val (.lst (vs.map D.int)) false, .val (.lst L) false, .no]) ((xif_f (by simp [zv, zl, c0])).trans rfl)]
      refine (xif_f ?_).trans rfl
      have c1 := c.1
      have c2 := c.2
      have ai : D.asInts L = some xs := by rw [ex]; simp
      rw [ai] at c2
      have c2 : ¬ 60 < xs.sum := by have : xs.sum ≤ 60 := c2; omega
      rw [← ea] at c1
      generalize L.map okM = A at *
      simp [lc, zl, zA, c1, c_MOST_MINIMUMS, ai, c2]
    · rw [if_neg c]
      refine runX_ex rfl (Γ := [.val (.lst (vs.map D.int)) false, .val (.lst L) false, .no]) ?_
      unfold b_check_minimums
      rw [xseq_nx (Γ' := [.val (.lst (vs.map D.int)) false, .val (.lst L) false, .no]) ((xif_f (by simp [zv, zl, c0])).trans rfl)]
      refine (xif_t ?_).trans rfl
      unfold okL at c
      cases c1 : L.all okM with
      | true =>
        rw [c1, Bool.true_and, decide_eq_true_eq] at c
        obtain ⟨xs, ex⟩ := all_int (okM_isI c1)
        have ai : D.asInts L = some xs := by rw [ex]; simp
        rw [ai] at c
        have c2 : 60 < xs.sum := by have : ¬ xs.sum ≤ 60 := c; omega
        rw [← ea] at c1
        generalize L.map okM = A at *
        simp [lc, zl, zA, c1, c_MOST_MINIMUMS, ai, c2]
      | false =>
        rw [← ea] at c1
        generalize L.map okM = A at *
        simp [lc, zl, zA, c1]
  · rw [if_neg c0]
    refine runX_ex rfl (Γ := [.val (.lst (vs.map D.int)) false, .val (.lst L) false, .no]) ?_
    unfold b_check_minimums
    refine xseq_ex ?_
    have c0' : ¬ (L.length : Int) = (vs.length : Int) := by omega
    exact (xif_t (by simp [zv, zl, c0'])).trans rfl
theorem word_ok {vs : List Int} {L : List D} (hn : vs.length ≤ 20) (h : ∀ d ∈ L, Thing d) (hl : L.length ≤ 100) : φ_law_word_u [.lst (vs.map D.int), .lst L] = some (.str (wd vs.length L), .frz false) := by
  have c := check_ok hn h hl
  unfold wd φ_law_word_u
  refine runB_rt rfl ?_
  unfold b_law_word_u
  by_cases c0 : L.length = vs.length
  · rw [if_pos c0] at c ⊢
    by_cases c1 : okL L = true
    · rw [if_pos c1] at c ⊢
      unfold xTryN xRet xOpR xB1 xOpL xCall
      simp [c]
      rfl
    · rw [if_neg c1] at c ⊢
      have n1 : ¬ (("InvalidMinimums" : Str) = "WrongCount") := by decide
      unfold xTryN xRet xOpR xB1 xOpL xCall
      simp [c, xPick, n1, lb_law_word_u_2, dIsX]
  · rw [if_neg c0] at c ⊢
    unfold xTryN xRet xOpR xB1 xOpL xCall
    simp [c, xPick, lb_law_word_u_1, dIsX]
theorem are_ok {L : List D} (h : ∀ d ∈ L, Thing d) (hl : L.length ≤ 100) : φ_law_are_whole_u [.lst L] = some (.bl (L.all isI), .frz false) := by
  have zl : L.length ≤ sizeLine := small_le (by omega)
  have lc : lcGo (.nm 1) (dOr (dTru (dIsi (dVar 1) "bool")) (dNot (dTru (dIsi (dVar 1) "int")))) (dVar 1) [.val (.lst L) false, .no] L = some (L.filter fun d => !isI d) := by
    have := lcGo_map (γ := Int) (t := .nm 1) (tt := dOr (dTru (dIsi (dVar 1) "bool")) (dNot (dTru (dIsi (dVar 1) "int")))) (el := dVar 1) (Γ := [.val (.lst L) false, .no]) (fun d : D => d) (fun d => !isI d) (fun d => d) L fun d hd => ⟨_, rfl, by
      have hd := h d hd
      cases d with
      | int i => simp [isI]
      | bl b => simp [isI]
      | non => simp [isI]
      | str s => simp [isI]
      | tup xs => simp [isI]
      | lst xs => simp [isI]
      | dk _ => exact hd.elim
      | dt _ => exact hd.elim
      | st _ => exact hd.elim
      | scr _ => exact hd.elim, fun _ => by
      have hd := h d hd
      cases d with
      | int i => exact ⟨_, rfl⟩
      | bl b => exact ⟨_, rfl⟩
      | non => exact ⟨_, rfl⟩
      | str s => exact ⟨_, rfl⟩
      | tup xs => exact ⟨_, rfl⟩
      | lst xs => exact ⟨_, rfl⟩
      | dk _ => exact hd.elim
      | dt _ => exact hd.elim
      | st _ => exact hd.elim
      | scr _ => exact hd.elim⟩
    rw [List.map_id', List.map_id'] at this
    exact this
  have hf := List.length_filter_le (fun d => !isI d) L
  have e : L.all isI = decide ((L.filter fun d => !isI d).length = 0) := by
    cases c : L.all isI with
    | true =>
      rw [List.all_eq_true] at c
      rw [List.filter_eq_nil_iff.mpr (fun d hd => by rw [c d hd]; decide)]; rfl
    | false =>
      symm
      rw [decide_eq_false_iff_not]
      intro z
      rw [List.length_eq_zero_iff, List.filter_eq_nil_iff] at z
      have : L.all isI = true := List.all_eq_true.mpr fun d hd => by have := z d hd; simpa using this
      rw [this] at c; cases c
  unfold φ_law_are_whole_u
  refine runB_rt rfl ?_
  unfold b_law_are_whole_u
  rw [e]
  generalize (L.filter fun d => !isI d) = B at *
  have zB : B.length ≤ sizeLine := by omega
  have e2 : decide (B.length = 0) = decide ((B.length : Int) = 0) := decide_eq_decide.mpr (by omega)
  simp [lc, zl, zB]
theorem due_ok {vs : List Int} {L : List D} (hn : vs.length ≤ 20) (h : ∀ d ∈ L, Thing d) (hl : L.length ≤ 100) : φ_law_due_word_u [.lst (vs.map D.int), .lst L] = some (.str (wd vs.length L), .frz false) := by
  have zv : vs.length ≤ sizeLine := small_le (by omega)
  have zl : L.length ≤ sizeLine := small_le (by omega)
  have aw := are_ok h hl
  unfold wd φ_law_due_word_u
  refine runB_rt rfl ?_
  unfold b_law_due_word_u
  by_cases c0 : L.length = vs.length
  · rw [if_pos c0]
    refine Eq.trans (seq_nx (f := dIf _ _ _) (Γ' := [.val (.lst (vs.map D.int)) false, .val (.lst L) false, .no]) (by simp [zv, zl, c0])) ?_
    cases ci : L.all isI with
    | false =>
      rw [ci] at aw
      have : ¬ okL L = true := fun c => by
        unfold okL at c
        rw [Bool.and_eq_true] at c
        rw [okM_isI c.1] at ci; cases ci
      rw [if_neg this]
      simp [aw]
    | true =>
      rw [ci] at aw
      obtain ⟨xs, ex⟩ := all_int ci
      have ai : D.asInts L = some xs := by rw [ex]; simp
      have lc : lcGo (.nm 2) (dB (dOp ltD (dVar 2) (dC (.int 0)))) (dVar 2) [.val (.lst (vs.map D.int)) false, .val (.lst L) false, .no] L = some ((xs.filter fun x => decide (x < 0)).map D.int) := by
        have := lcGo_int (t := .nm 2) (tt := dB (dOp ltD (dVar 2) (dC (.int 0)))) (el := dVar 2) (Γ := [.val (.lst (vs.map D.int)) false, .val (.lst L) false, .no]) D.int (fun x => decide (x < 0)) id xs _ (by rw [List.map_id]) (fun k _ => ⟨_, rfl, by simp, fun _ => ⟨_, rfl⟩⟩)
        rw [← ex] at this
        exact this
      have hf := List.length_filter_le (fun x : Int => decide (x < 0)) xs
      have hxl : xs.length = L.length := by rw [ex, List.length_map]
      have e : L.all okM = decide ((xs.filter fun x => decide (x < 0)).length = 0) := by
        rw [ex, List.all_map]
        cases c : xs.all (okM ∘ D.int) with
        | true =>
          rw [List.all_eq_true] at c
          rw [List.filter_eq_nil_iff.mpr (fun d hd => by have : 0 ≤ d := of_decide_eq_true (c d hd); simpa using this)]; rfl
        | false =>
          symm
          rw [decide_eq_false_iff_not]
          intro z
          rw [List.length_eq_zero_iff, List.filter_eq_nil_iff] at z
          have : xs.all (okM ∘ D.int) = true := List.all_eq_true.mpr fun d hd => by have := z d hd; exact decide_eq_true (by simpa using this)
          rw [this] at c; cases c
      unfold okL
      rw [e, ai]
      generalize (xs.filter fun x => decide (x < 0)) = B at *
      have zB : B.length ≤ sizeLine := by omega
      show _ = Out.rt (D.str (if (decide (B.length = 0) && decide (xs.sum ≤ 60)) = true then _ else _)) _
      by_cases c1 : B.length = 0
      · have c1' : ¬ 0 < B.length := by omega
        by_cases c2 : xs.sum ≤ 60
        · have c2' : ¬ 60 < xs.sum := by omega
          simp [aw, lc, zB, zl, ai, c1, c2, c2']
        · have c2' : 60 < xs.sum := by omega
          simp [aw, lc, zB, zl, ai, c1, c2, c2']
      · have c1' : 0 < B.length := by omega
        simp [aw, lc, zB, zl, ai, c1, c1']
  · rw [if_neg c0]
    have c0' : ¬ (L.length : Int) = (vs.length : Int) := by omega
    simp [zv, zl, c0']
end La
namespace La
open PySem PySem.Spec L2 Dn
open PyProof.Rows hiding St
theorem cut_mem {α : Type} {xs : List α} {lo hi : Option Int} {x : α} (h : x ∈ Dn.cutD xs lo hi) : x ∈ xs := by
  unfold Dn.cutD at h
  exact List.mem_of_mem_drop (List.mem_of_mem_take h)
theorem cut_le {α : Type} (xs : List α) (lo hi : Option Int) : (Dn.cutD xs lo hi).length ≤ xs.length := by
  unfold Dn.cutD
  rw [List.length_take, List.length_drop]; omega
abbrev E9 (ns ds : List Int) (u : Ru) (vs ms : List Int) (KS : Str) (at' : Nat) (s9 s10 s11 s12 s13 s14 s15 s16 s17 s18 s19 : Slot) : Ev :=
  [.val (.scr ns) false, .val (.lst (ds.map D.int)) false, .val (eRu u) false, .val (.int (vs.length : Int)) false, .val (.lst (vs.map D.int)) false, .no, .val (.lst (ms.map D.int)) false, .val (.str KS) false, .val (.int (at' : Int)) false, s9, s10, s11, s12, s13, s14, s15, s16, s17, s18, s19]
structure Try (L : List D) : Prop where
  l : L.length ≤ 60
  t : ∀ d ∈ L, Thing d
section
variable (ns ds : List Int) (u : Ru) {vs : List Int} (ms : List Int) (KS : Str) (k : Nat) (hn : vs.length ≤ 6)
include hn
theorem word_step {L : List D} (h : Try L) (s9 : Slot) : lb_law_2 (E9 ns ds u vs ms KS k s9 .no (.val (.lst L) false) .no .no .no .no .no .no .no .no) = .nx (E9 ns ds u vs ms KS k s9 .no .no .no .no .no .no .no .no .no .no) := by
  have w := word_ok (vs := vs) (by omega) h.t (by have := h.l; omega)
  have d := due_ok (vs := vs) (by omega) h.t (by have := h.l; omega)
  unfold lb_law_2
  simp [frzS, w, d]
theorem word_go (s9 : Slot) : ∀ (M : List (List D)), (∀ L ∈ M, Try L) → forGo (.nm 11) lb_law_2 (M.map D.lst) (E9 ns ds u vs ms KS k s9 .no .no .no .no .no .no .no .no .no .no) = .nx (E9 ns ds u vs ms KS k s9 .no .no .no .no .no .no .no .no .no .no)
  | [], _ => rfl
  | L :: M, h => by
    rw [List.map_cons, forGo_nx rfl (word_step ns ds u ms KS k hn (h L List.mem_cons_self) s9)]
    exact word_go s9 M fun x hx => h x (List.mem_cons_of_mem _ hx)
/-- a list with one thing in place of another one -/
def putD (ms : List Int) (k : Nat) (d : D) : List D := Dn.cutD (ms.map D.int) (some 0) (some (k : Int)) ++ [d] ++ Dn.cutD (ms.map D.int) (some ((k : Int) + 1)) none
theorem putD_try (hm : ms.length ≤ 6) {d : D} (hd : Thing d) : Try (putD ms k d) := by
  have l1 := cut_le (ms.map D.int) (some 0) (some (k : Int))
  have l2 := cut_le (ms.map D.int) (some ((k : Int) + 1)) none
  rw [List.length_map] at l1 l2
  refine ⟨by unfold putD; rw [List.length_append, List.length_append]; simp; omega, fun x hx => ?_⟩
  have ti : ∀ y ∈ ms.map D.int, Thing y := fun y hy => by
    obtain ⟨i, _, rfl⟩ := List.mem_map.mp hy
    trivial
  unfold putD at hx
  rw [List.mem_append, List.mem_append] at hx
  rcases hx with (hx | hx) | hx
  · exact ti _ (cut_mem hx)
  · rw [List.mem_singleton.mp hx]; exact hd
  · exact ti _ (cut_mem hx)
theorem put_step (hm : ms.length ≤ 6) {d : D} (hd : Thing d) (M : List (List D)) (hM : M.length ≤ 50) : lb_law_1 (E9 ns ds u vs ms KS k (.own (.lst (M.map D.lst)) false) (.val d false) .no .no .no .no .no .no .no .no .no) = .nx (E9 ns ds u vs ms KS k (.own (.lst ((M ++ [putD ms k d]).map D.lst)) false) .no .no .no .no .no .no .no .no .no .no) := by
  have l1 := cut_le (ms.map D.int) (some 0) (some (k : Int))
  have l2 := cut_le (ms.map D.int) (some ((k : Int) + 1)) none
  rw [List.length_map] at l1 l2
  have z1 : (Dn.cutD (ms.map D.int) (some 0) (some (k : Int))).length + 1 ≤ sizeLine := small_le (by omega)
  have z2 : (Dn.cutD (ms.map D.int) (some 0) (some (k : Int))).length + 1 + (Dn.cutD (ms.map D.int) (some ((k : Int) + 1)) none).length ≤ sizeLine := small_le (by omega)
  have z3 : M.length < sizeLine := Nat.lt_of_lt_of_le (m := 200) (by omega) (small_le (by omega))
  unfold lb_law_1 putD
  simp [dApp, z1, z2, z3]
end
end La
namespace La
open PySem PySem.Spec L2 Dn
open PyProof.Rows hiding St
theorem e_cell : φ_law_cell_u = Cm.φ_cell := rfl
theorem e_num : φ_law_numbers_u = Cm.φ_numbers := rfl
theorem e_same : φ_law_same_u 12 = Cm.φ_same 12 := rfl
theorem dif_t {t : DenT} {f h : DenS} {Γ : Ev} (e : t Γ = some true) : dIf t f h Γ = f Γ := by
  rw [dIf_eq, e]; rfl
theorem eq_ls (xs : List Int) (x : Str) (m n : Bool) : eqD true (.lst (xs.map D.int)) m (.str x) n = some (.bl true, .frz true) := by
  have p : (D.lst (xs.map D.int)).pl 50 = true := by
    refine pl_mono (k := 1) ?_ (by omega)
    show (xs.map D.int).all (D.pl 0) = true
    rw [List.all_map, List.all_eq_true]; intro y _; simp [D.pl]
  rw [eqD_of p (by simp)]; simp [D.eqv, D.py, PyData.eqv]
theorem cut_to {α : Type} {xs : List α} {k : Nat} (h : k ≤ xs.length) : Dn.cutD xs (some 0) (some (k : Int)) = xs.take k := by
  unfold Dn.cutD
  have h1 : HT.sIx xs.length 0 (some 0) = min 0 xs.length := HT.sIx_nat xs.length 0 0
  have h2 : HT.sIx xs.length xs.length (some (k : Int)) = min k xs.length := HT.sIx_nat xs.length xs.length k
  rw [h1, h2, Nat.min_eq_left h]
  simp
theorem put_inc {os : List Int} {k : Nat} (h : k < os.length) : putD os k (.int (g os k + 1)) = (incP os k).map D.int := by
  unfold putD incP
  rw [cutD_map, cutD_map, cut_to (by omega), cut_from, List.set_eq_take_append_cons_drop, if_pos h]
  simp
theorem eVm_R {v : Vm} (h : v.isR = true) : ∃ w, eVm v = .tup [.str "right", eQ w] := by
  cases v with
  | less i => cases h
  | vd v => cases v with
    | lack i => cases h
    | bard i j => cases h
    | rght w => exact ⟨w, rfl⟩
theorem max0 {os : List Int} (hm : ∀ m ∈ os, 0 ≤ m) (h : maxL os = some 0) : os = List.replicate os.length 0 := by
  refine List.eq_replicate_iff.mpr ⟨rfl, fun x hx => ?_⟩
  have := (maxL_of h).2 x hx
  have := hm x hx
  omega
theorem nsc_ints (n : Nat) (xs : List Int) : (xs.map D.int).all (D.nsc n) = true := by
  rw [List.all_map, List.all_eq_true]
  intro x _
  cases n <;> rfl
theorem flat_ints (xs : List Int) : (xs.map D.int).all D.flat = true := by
  rw [List.all_map, List.all_eq_true]; exact fun _ _ => rfl
section
variable (ns ds : List Int) {u : Ru} (hu : u.ok) {vs ms : List Int} {KS : Str} {k : Nat} (hn : 1 ≤ vs.length ∧ vs.length ≤ 6) (hv : ∀ v ∈ vs, 1 ≤ v ∧ v ≤ 5040) (hk : k < vs.length) (rK : reprOk (.tup [.lst (vs.map D.int), .lst (ms.map D.int)])) (hKS : KS = (D.tup [.lst (vs.map D.int), .lst (ms.map D.int)]).py.shown)
include hu hn hv hk rK hKS
theorem case_step {os : List Int} (ol : os.length = vs.length) (ob : ∀ m ∈ os, 0 ≤ m ∧ m ≤ 20) {H : Int} (hH : 0 ≤ H ∧ H ≤ 300) (s9 s12 : Slot) :
    lb_law_3 (E9 ns ds u vs ms KS k s9 .no .no s12 (.val (.lst (os.map D.int)) false) (.val (.int H) false) .no .no .no .no .no) = .nx (E9 ns ds u vs ms KS k s9 .no .no s12 .no .no .no .no .no .no .no) := by
  have hv2 : ∀ v ∈ vs, 1 ≤ v ∧ v ≤ 1000000000 := fun v h => by have := hv v h; omega
  have ob2 : ∀ m ∈ os, 0 ≤ m ∧ m ≤ 500 := fun v h => by have := ob v h; omega
  have os0 : 0 ≤ os.sum := by
    have : ∀ (L : List Int), (∀ m ∈ L, 0 ≤ m) → 0 ≤ L.sum := fun L => by
      induction L with
      | nil => intro _; exact Int.le_refl 0
      | cons x L ih =>
        intro h
        have := ih fun y hy => h y (List.mem_cons_of_mem _ hy)
        have := h x List.mem_cons_self
        rw [List.sum_cons]; omega
    exact this os fun m h => (ob m h).1
  have st := lstrict_ok hu
  have zo : os.length ≤ sizeLine := small_le (by omega)
  have to := told_ok hu ol (by omega) hv2 ob2 (H := H) (by omega)
  unfold lb_law_3
  rw [dFgt_eq]
  rw [seq_nx (f := dSet 15 _) (Γ' := E9 ns ds u vs ms KS k s9 .no .no s12 (.val (.lst (os.map D.int)) false) (.val (.int H) false) (.val (.int (H - os.sum)) false) .no .no .no .no) (by simp)]
  rw [seq_nx (f := dSet 16 _) (Γ' := E9 ns ds u vs ms KS k s9 .no .no s12 (.val (.lst (os.map D.int)) false) (.val (.int H) false) (.val (.int (H - os.sum)) false) (.val (.str "few") false) .no .no .no) (by simp)]
  by_cases c : H - os.sum < 0 ∨ (stc u = true ∧ H - os.sum < (os.count 0 : Int))
  · rw [if_pos c] at to
    rw [seq_nx (f := dIf _ _ _) (Γ' := E9 ns ds u vs ms KS k s9 .no .no s12 (.val (.lst (os.map D.int)) false) (.val (.int H) false) (.val (.int (H - os.sum)) false) (.val (.str "few") false) .no .no .no) (by
      by_cases c1 : H - os.sum < 0
      · have c2 : ¬ os.sum ≤ H := by omega
        simp [c2]
      · have c3 := c.resolve_left c1
        have c2 : os.sum ≤ H := by omega
        have c4 : ¬ ((os.count 0 : Nat) : Int) ≤ H - os.sum := by omega
        rw [c3.1] at st
        simp [c2, st, c4])]
    rw [seq_nx (f := dFrz _ _) (Γ' := E9 ns ds u vs ms KS k s9 .no .no s12 (.val (.lst (os.map D.int)) false) (.val (.int H) false) (.val (.int (H - os.sum)) false) (.val (.str "few") false) (.val (.str "few") false) .no .no) (by simp [frzS, to])]
    have sm := Cm.same_refl 11 (.str "few") (by simp)
    rw [seq_nx (f := dFrz _ _) (Γ' := E9 ns ds u vs ms KS k s9 .no .no s12 (.val (.lst (os.map D.int)) false) (.val (.int H) false) (.val (.int (H - os.sum)) false) (.val (.str "few") false) (.val (.str "few") false) .no .no) (by simp [frzS, e_same, sm, rK, hKS])]
    simp
  · rw [if_neg c] at to
    have h0 : 0 ≤ H - os.sum := by omega
    have h0' : os.sum ≤ H := by omega
    obtain ⟨t, ht⟩ : ∃ t : Nat, H - os.sum = (t : Int) := ⟨(H - os.sum).toNat, by omega⟩
    have lw := lwm_ok hu ol (by omega) hv2 ob2 (H := H) (by omega) (by omega)
    rw [show (H - os.sum).toNat = t by omega] at to lw
    have gl := gm_len u ol t
    have gat := g_at (xs := gm u vs os t) (i := k) (by rw [gl]; exact hk)
    have hc : stc u = true → os.countP (fun m => decide (m = 0)) ≤ t := fun s => by
      rw [← cnt0]
      have : ¬ H - os.sum < (os.count 0 : Int) := fun z => c (.inr ⟨s, z⟩)
      omega
    have V := gm_VM (u := u) ol (vs := vs) (by omega) (fun v h => by have := hv v h; omega) ob2 (t := t) (by omega)
    have fm := find_minimal_ok hu V
    obtain ⟨w, ew⟩ := eVm_R (gm_isR hu ol (by omega) hv2 ob2 (t := t) (by omega) hc)
    rw [ew] at fm
    rw [seq_nx (f := dIf _ _ _) (Γ' := E9 ns ds u vs ms KS k s9 .no .no s12 (.val (.lst (os.map D.int)) false) (.val (.int H) false) (.val (.int (H - os.sum)) false) (.own (.lst ((gm u vs os t).map D.int)) false) .no .no .no) (by
      cases hs : stc u with
      | false => rw [hs] at st; simp [frzS, h0', st, lw]
      | true =>
        rw [hs] at st
        have c4 : ((os.count 0 : Nat) : Int) ≤ H - os.sum := by have := hc hs; rw [← cnt0] at this; omega
        simp [frzS, h0', st, c4, lw])]
    rw [seq_nx (f := dFrz _ _) (Γ' := E9 ns ds u vs ms KS k s9 .no .no s12 (.val (.lst (os.map D.int)) false) (.val (.int H) false) (.val (.int (H - os.sum)) false) (.own (.lst ((gm u vs os t).map D.int)) false) (.own (.lst ((gm u vs os t).map D.int)) false) .no .no) (by simp [frzS, to])]
    have f1 : fit 11 (.lst ((gm u vs os t).map D.int)) = true := fit_map (k := 10) (fun a => by simp) _ (small_le (by omega))
    have sm := Cm.same_refl 11 _ f1
    have n1 := nsc_ints 7 (gm u vs os t)
    have fl1 := flat_ints (gm u vs os t)
    have gm0 : maxL os = some 0 → φ_first_seats [.lst (vs.map D.int), eRu u, .int H] = some (.lst ((gm u vs os t).map D.int), .new false) := fun m0 => by
      have e := max0 (fun m h => (ob m h).1) m0
      have s0 : os.sum = 0 := by rw [e]; simp
      have := first_ok hu (vs := vs) (by omega) (fun v h => by have := hv v h; omega) (h := t) (by omega) (fun s => by
        have := hc s
        rw [e, List.countP_replicate] at this
        simp at this; omega)
      rw [show ((t : Nat) : Int) = H by omega, ← gm_fs, ← ol, ← e] at this
      exact this
    obtain ⟨mx, hmx⟩ := max_some (ns := os) (fun z => by rw [z] at ol; simp at ol; omega)
    rw [seq_nx (f := dFrz _ _) (Γ' := E9 ns ds u vs ms KS k s9 .no .no s12 (.val (.lst (os.map D.int)) false) (.val (.int H) false) (.val (.int (H - os.sum)) false) (.own (.lst ((gm u vs os t).map D.int)) false) (.own (.lst ((gm u vs os t).map D.int)) false) .no .no) (by
      simp [frzS, e_same, sm, rK, hKS])]
    have ml : (incP os k).length = vs.length := by unfold incP; rw [List.length_set]; exact ol
    have mb : ∀ m ∈ incP os k, 0 ≤ m ∧ m ≤ 500 := fun m h => by
      rcases List.mem_or_eq_of_mem_set h with z | z
      · exact ob2 m z
      · have := ob _ (g_mem (xs := os) (i := k) (by omega)); omega
    have ms' := sum_set os k (by omega)
    have to2 := told_ok hu ml (by omega) hv2 mb (H := H) (by omega)
    have oat := g_at (xs := os) (i := k) (by omega)
    have pi := put_inc (os := os) (k := k) (by omega)
    have e19 : ∃ s19 : Slot, dFrz [4, 2, 18] (dSet 19 (dCall φ_law_told_u (dACons (dVar 4) (dACons (dVar 2) (dACons (dVar 18) (dACons (dVar 14) dANil)))))) (E9 ns ds u vs ms KS k s9 .no .no s12 (.val (.lst (os.map D.int)) false) (.val (.int H) false) (.val (.int (H - os.sum)) false) (.val (.lst ((gm u vs os t).map D.int)) false) (.own (.lst ((gm u vs os t).map D.int)) false) (.own (.lst ((incP os k).map D.int)) false) .no) =
        .nx (E9 ns ds u vs ms KS k s9 .no .no s12 (.val (.lst (os.map D.int)) false) (.val (.int H) false) (.val (.int (H - os.sum)) false) (.val (.lst ((gm u vs os t).map D.int)) false) (.own (.lst ((gm u vs os t).map D.int)) false) (.val (.lst ((incP os k).map D.int)) false) s19) ∧
        (s19 = .val (.str "few") false ∨ ∃ G : List Int, s19 = .own (.lst (G.map D.int)) false ∧ k < G.length ∧ g (gm u vs os t) k ≤ g G k) := by
      by_cases d : H - (incP os k).sum < 0 ∨ (stc u = true ∧ H - (incP os k).sum < ((incP os k).count 0 : Int))
      · rw [if_pos d] at to2
        exact ⟨.val (.str "few") false, by simp [frzS, to2], .inl rfl⟩
      · rw [if_neg d] at to2
        obtain ⟨r, rfl⟩ : ∃ r, t = r + 1 := ⟨t - 1, by omega⟩
        rw [show (H - (incP os k).sum).toNat = r by omega] at to2
        refine ⟨.own (.lst ((gm u vs (incP os k) r).map D.int)) false, by simp [frzS, to2], .inr ⟨_, rfl, by rw [gm_len u ml]; exact hk, gm_mono hu ol (by omega) (fun v h => by have := hv v h; omega) (fun m h => (ob m h).1) hk r⟩⟩
    obtain ⟨s19, e19, h19⟩ := e19
    have zg : (gm u vs os t).length < sizeLine := Nat.lt_of_lt_of_le (m := 200) (by omega) (small_le (by omega))
    have l1 := cut_le (os.map D.int) (some 0) (some (k : Int))
    have l2 := cut_le (os.map D.int) (some ((k : Int) + 1)) none
    rw [List.length_map] at l1 l2
    have z1 : (Dn.cutD (os.map D.int) (some 0) (some (k : Int))).length + 1 ≤ sizeLine := small_le (by omega)
    have z2 : (Dn.cutD (os.map D.int) (some 0) (some (k : Int))).length + 1 + (Dn.cutD (os.map D.int) (some ((k : Int) + 1)) none).length ≤ sizeLine := small_le (by omega)
    have e18 : dSet 18 (dOp addD (dOp addD (dSlice (dVar 13) (dSoP (dC (.int 0))) (dSoP (dVar 8))) (dLst (dACons (dOp addD (dOp subsD (dVar 13) (dVar 8)) (dC (.int 1))) dANil))) (dSlice (dVar 13) (dSoP (dOp addD (dVar 8) (dC (.int 1)))) dNoP)) (E9 ns ds u vs ms KS k s9 .no .no s12 (.val (.lst (os.map D.int)) false) (.val (.int H) false) (.val (.int (H - os.sum)) false) (.val (.lst ((gm u vs os t).map D.int)) false) (.own (.lst ((gm u vs os t).map D.int)) false) .no .no) =
        .nx (E9 ns ds u vs ms KS k s9 .no .no s12 (.val (.lst (os.map D.int)) false) (.val (.int H) false) (.val (.int (H - os.sum)) false) (.val (.lst ((gm u vs os t).map D.int)) false) (.own (.lst ((gm u vs os t).map D.int)) false) (.own (.lst ((incP os k).map D.int)) false) .no) := by
      rw [← pi]
      unfold putD
      simp [oat, z1, z2]
    have a0 : atI [D.str "right", eQ w] 0 = some (.str "right") := rfl
    rw [dif_t (by simp [eq_ls])]
    rw [seq_nx (f := dFrz _ _) (Γ' := E9 ns ds u vs ms KS k s9 .no .no s12 (.val (.lst (os.map D.int)) false) (.val (.int H) false) (.val (.int (H - os.sum)) false) (.val (.lst ((gm u vs os t).map D.int)) false) (.own (.lst ((gm u vs os t).map D.int)) false) .no .no) (by
      by_cases hm0 : mx = 0
      · subst hm0
        have fs := gm0 hmx
        by_cases hp : 0 < H
        · simp [frzS, hp, fm, a0, hmx, fs, e_same, sm]
        · simp [frzS, hp, hmx, fs, e_same, sm]
      · by_cases hp : 0 < H
        · simp [frzS, hp, fm, a0, hmx, hm0]
        · simp [frzS, hp, hmx, hm0])]
    rw [seq_nx e18, seq_nx e19]
    rw [seq_nx (f := dIf _ _ _) (Γ' := E9 ns ds u vs ms KS k s9 .no .no s12 (.val (.lst (os.map D.int)) false) (.val (.int H) false) (.val (.int (H - os.sum)) false) (.val (.lst ((gm u vs os t).map D.int)) false) (.own (.lst ((gm u vs os t).map D.int)) false) (.val (.lst ((incP os k).map D.int)) false) s19) (by
      rcases h19 with rfl | ⟨G, rfl, kG, gG⟩
      · simp
      · have gG' : ¬ g G k < g (gm u vs os t) k := by omega
        have ga := g_at (xs := G) (i := k) kG
        simp [ga, gat, gG'])]
    simp [dApp, zg]
end
end La
namespace La
open PySem PySem.Spec L2 Dn
open PyProof.Rows hiding St
theorem sum_b : ∀ (xs : List Int) (b : Int), (∀ x ∈ xs, 0 ≤ x ∧ x ≤ b) → 0 ≤ xs.sum ∧ xs.sum ≤ b * xs.length
  | [], b, _ => by simp
  | x :: xs, b, h => by
    have := sum_b xs b fun y hy => h y (List.mem_cons_of_mem _ hy)
    have := h x List.mem_cons_self
    rw [List.sum_cons, List.length_cons, Int.natCast_add, Int.mul_add]
    omega
theorem law_true (ns : List Int) (hl : ns.length ≤ 63) : ∃ m, φ_law [.scr ns] = some (.bl true, m) := by
  have hc := Cm.cell_ok ns 0 (by omega)
  obtain ⟨ds, hlen, hb, hnm⟩ := Cm.numbers_ok (Cm.cellAt ns 0) 40 5040 (by omega) (by omega) (by omega) (by omega)
  have hlen : ds.length = 40 := hlen
  have at' : ∀ i : Int, 0 ≤ i → i < 40 → atI (ds.map D.int) i = some (.int (dr ds i)) := fun i h1 h2 => atI_dr h1 (by omega)
  have a3 := at' 3 (by omega) (by omega)
  have a4 := at' 4 (by omega) (by omega)
  have a17 := at' 17 (by omega) (by omega)
  have a18 := at' 18 (by omega) (by omega)
  have a19 := at' 19 (by omega) (by omega)
  have a20 := at' 20 (by omega) (by omega)
  have d3 : divOk 3 := Cm.divOk_s (by omega)
  have d6 : divOk 6 := Cm.divOk_s (by omega)
  have d8 : divOk 8 := Cm.divOk_s (by omega)
  have d31 : divOk 31 := Cm.divOk_s (by omega)
  have d101 : divOk 101 := Cm.divOk_s (by omega)
  have x6 := emod_in (a := dr ds 3) (b := 6) (by omega)
  have x31 := emod_in (a := dr ds 19) (b := 31) (by omega)
  have x101 := emod_in (a := dr ds 19) (b := 101) (by omega)
  obtain ⟨u, hu, eu⟩ := rule_ok ds hb 0 (by omega)
  obtain ⟨n, hn'⟩ : ∃ n : Nat, 1 + dr ds 3 % 6 = (n : Int) := ⟨(1 + dr ds 3 % 6).toNat, by omega⟩
  have n1 : 1 ≤ n ∧ n ≤ 6 := by omega
  have rn : rOk (n : Int) := rOk_of (by omega)
  have rn1 : rOk ((n : Int) - 1) := rOk_of (by omega)
  have rn2 : rOk ((n : Int) + 1) := rOk_of (by omega)
  have zn : n ≤ sizeLine := small_le (by omega)
  have x4 := emod_in (a := dr ds 4) (b := 3) (by omega)
  obtain ⟨wd, hw, hwb⟩ : ∃ wd : Int, atI [D.int 4, D.int 50, D.int 5040] (dr ds 4 % 3) = some (.int wd) ∧ (1 ≤ wd ∧ wd ≤ 5040) := by
    rcases (show dr ds 4 % 3 = 0 ∨ dr ds 4 % 3 = 1 ∨ dr ds 4 % 3 = 2 by omega) with q | q | q <;> rw [q]
    · exact ⟨4, rfl, by omega⟩
    · exact ⟨50, rfl, by omega⟩
    · exact ⟨5040, rfl, by omega⟩
  have dw : divOk wd := Cm.divOk_s (by omega)
  have w0 : 0 < wd := by omega
  obtain ⟨vs, hvs⟩ : ∃ vs : List Int, vs = (List.range n).map fun (k : Nat) => 1 + dr ds (5 + (k : Int)) % wd := ⟨_, rfl⟩
  have vl : vs.length = n := by rw [hvs]; simp
  have vb : ∀ v ∈ vs, 1 ≤ v ∧ v ≤ 5040 := fun v hv => by
    rw [hvs] at hv
    obtain ⟨k, _, rfl⟩ := List.mem_map.mp hv
    have := emod_in (a := dr ds (5 + (k : Int))) (b := wd) (by omega)
    omega
  have x17 := emod_in (a := dr ds 17) (b := 3) (by omega)
  obtain ⟨md, hm', hmb⟩ : ∃ md : Int, atI [D.int 1, D.int 3, D.int 10] (dr ds 17 % 3) = some (.int md) ∧ (1 ≤ md ∧ md ≤ 10) := by
    rcases (show dr ds 17 % 3 = 0 ∨ dr ds 17 % 3 = 1 ∨ dr ds 17 % 3 = 2 by omega) with q | q | q <;> rw [q]
    · exact ⟨1, rfl, by omega⟩
    · exact ⟨3, rfl, by omega⟩
    · exact ⟨10, rfl, by omega⟩
  have dm : divOk md := Cm.divOk_s (by omega)
  have m0 : 0 < md := by omega
  obtain ⟨ms, hms⟩ : ∃ ms : List Int, ms = (List.range n).map fun (k : Nat) => dr ds (11 + (k : Int)) % md := ⟨_, rfl⟩
  have ml : ms.length = n := by rw [hms]; simp
  have mb : ∀ m ∈ ms, 0 ≤ m ∧ m ≤ 10 := fun v hv => by
    rw [hms] at hv
    obtain ⟨k, _, rfl⟩ := List.mem_map.mp hv
    have := emod_in (a := dr ds (11 + (k : Int))) (b := md) (by omega)
    omega
  have l1 : lcGo (.nm 5) dYes (dOp addD (dC (.int 1)) (dOp modD (dOp subsD (dVar 1) (dOp addD (dC (.int 5)) (dVar 5))) (dOp subsD (dLst (dACons (dC (.int 4)) (dACons (dC (.int 50)) (dACons (dC (.int 5040)) dANil)))) (dOp modD (dOp subsD (dVar 1) (dC (.int 4))) (dC (.int 3)))))) [.val (.scr ns) false, .val (.lst (ds.map D.int)) false, .val (eRu u) false, .val (.int (n : Int)) false, .no, .no, .no, .no, .no, .no, .no, .no, .no, .no, .no, .no, .no, .no, .no, .no] (rngD 0 n) = some (vs.map D.int) := by
    rw [rngD_map, lcGo_all (fun (k : Nat) => D.int (k : Int)) (fun (k : Nat) => D.int (1 + dr ds (5 + (k : Int)) % wd)) (List.range n) fun k hk => ⟨_, rfl, _, by
      have := List.mem_range.mp hk
      have a := at' (5 + (k : Int)) (by omega) (by omega)
      simp [a, a4, d3, hw, dw, w0]; rfl⟩, hvs, List.map_map]; rfl
  have l2 : lcGo (.nm 5) dYes (dOp modD (dOp subsD (dVar 1) (dOp addD (dC (.int 11)) (dVar 5))) (dOp subsD (dLst (dACons (dC (.int 1)) (dACons (dC (.int 3)) (dACons (dC (.int 10)) dANil)))) (dOp modD (dOp subsD (dVar 1) (dC (.int 17))) (dC (.int 3))))) [.val (.scr ns) false, .val (.lst (ds.map D.int)) false, .val (eRu u) false, .val (.int (n : Int)) false, .own (.lst (vs.map D.int)) false, .no, .no, .no, .no, .no, .no, .no, .no, .no, .no, .no, .no, .no, .no, .no] (rngD 0 n) = some (ms.map D.int) := by
    rw [rngD_map, lcGo_all (fun (k : Nat) => D.int (k : Int)) (fun (k : Nat) => D.int (dr ds (11 + (k : Int)) % md)) (List.range n) fun k hk => ⟨_, rfl, _, by
      have := List.mem_range.mp hk
      have a := at' (11 + (k : Int)) (by omega) (by omega)
      simp [a, a17, d3, hm', dm, m0]; rfl⟩, hms, List.map_map]; rfl
  obtain ⟨k, hk⟩ : ∃ k : Nat, dr ds 18 % (n : Int) = (k : Int) := ⟨(dr ds 18 % (n : Int)).toNat, by have := emod_in (a := dr ds 18) (b := (n : Int)) (by omega); omega⟩
  have hkn : k < n := by have := emod_in (a := dr ds 18) (b := (n : Int)) (by omega); omega
  have dn : divOk (n : Int) := Cm.divOk_s (by omega)
  subst vl
  have nb : 0 < vs.length := by omega
  -- what is shown
  have rI : ∀ (xs : List Int), xs.length ≤ 20 → (∀ x ∈ xs, -999999999999 ≤ x ∧ x ≤ 999999999999) → Rp 1 400 (.lst (xs.map D.int)) := fun xs hx hb' => by
    have q : Rp (0 + 1) ((13 + 2) * (xs.map D.int).length + 4) (.lst (xs.map D.int)) := rp_lst fun d hd => by
      obtain ⟨i, hi, rfl⟩ := List.mem_map.mp hd
      exact rp_int (hb' i hi)
    refine q.mono (by omega) ?_
    rw [List.length_map]; omega
  have rK : reprOk (.tup [.lst (vs.map D.int), .lst (ms.map D.int)]) := by
    have q := rp_tup (k := 1) (m := 400) (xs := [.lst (vs.map D.int), .lst (ms.map D.int)]) fun d hd => by
      simp only [List.mem_cons, List.not_mem_nil, or_false] at hd
      rcases hd with rfl | rfl
      · exact rI vs (by omega) fun s hs => by have := vb s hs; omega
      · exact rI ms (by omega) fun s hs => by have := mb s hs; omega
    exact q.ok (by omega) (by simp)
  obtain ⟨KS, hKS⟩ : ∃ KS, KS = (D.tup [.lst (vs.map D.int), .lst (ms.map D.int)]).py.shown := ⟨_, rfl⟩
  -- the tries
  have ti : ∀ (xs : List Int), xs.length ≤ 20 → Try (xs.map D.int) := fun xs hx => ⟨by rw [List.length_map]; omega, fun y hy => by
    obtain ⟨i, _, rfl⟩ := List.mem_map.mp hy
    trivial⟩
  obtain ⟨Z, hZ⟩ : ∃ Z : List D, Z = (List.range (vs.length - 1)).map fun _ => D.int 0 := ⟨_, rfl⟩
  obtain ⟨Q, hQ⟩ : ∃ Q : List D, Q = (List.range vs.length).map fun _ => D.int (60 / (vs.length : Int)) := ⟨_, rfl⟩
  obtain ⟨O, hO⟩ : ∃ O : List D, O = (List.range (vs.length + 1)).map fun _ => D.non := ⟨_, rfl⟩
  have zl : Z.length = vs.length - 1 := by rw [hZ]; simp
  have ql : Q.length = vs.length := by rw [hQ]; simp
  have ol : O.length = vs.length + 1 := by rw [hO]; simp
  have lz : ∀ Γ : Ev, Γ.length = 20 → lcGo (.nm 5) dYes (dC (.int 0)) Γ (rngD 0 (vs.length - 1)) = some Z := fun Γ hΓ => by
    rw [rngD_map, lcGo_all (fun (k : Nat) => D.int (k : Int)) (fun _ => D.int 0) (List.range (vs.length - 1)) fun k hk => ⟨Γ.set 5 (.val (.int (k : Int)) false), by simp [asg, hΓ], _, by simp; rfl⟩, hZ]
  obtain ⟨M0, hM0⟩ : ∃ M0 : List (List D), M0 = [ms.map D.int, Dn.cutD (ms.map D.int) (some 1) none, ms.map D.int ++ [.int 0], [], .int 60 :: Z, .int 61 :: Z, Q, O] := ⟨_, rfl⟩
  have zm : ms.length ≤ sizeLine := small_le (by omega)
  have T0 : ∀ L ∈ M0, Try L := fun L hL => by
    rw [hM0] at hL
    simp only [List.mem_cons, List.not_mem_nil, or_false] at hL
    have tm := ti ms (by omega)
    have tz : ∀ y ∈ Z, Thing y := fun y hy => by
      rw [hZ] at hy
      obtain ⟨i, _, rfl⟩ := List.mem_map.mp hy
      trivial
    rcases hL with rfl | rfl | rfl | rfl | rfl | rfl | rfl | rfl
    · exact tm
    · exact ⟨Nat.le_trans (cut_le _ _ _) tm.l, fun y hy => tm.t y (cut_mem hy)⟩
    · refine ⟨by rw [List.length_append, List.length_map]; simp; omega, fun y hy => ?_⟩
      rcases List.mem_append.mp hy with z | z
      · exact tm.t y z
      · rw [List.mem_singleton.mp z]; trivial
    · exact ⟨by simp, fun y hy => nomatch hy⟩
    · refine ⟨by rw [List.length_cons]; omega, fun y hy => ?_⟩
      rcases List.mem_cons.mp hy with z | z
      · rw [z]; trivial
      · exact tz y z
    · refine ⟨by rw [List.length_cons]; omega, fun y hy => ?_⟩
      rcases List.mem_cons.mp hy with z | z
      · rw [z]; trivial
      · exact tz y z
    · refine ⟨by omega, fun y hy => ?_⟩
      rw [hQ] at hy
      obtain ⟨i, _, rfl⟩ := List.mem_map.mp hy
      trivial
    · refine ⟨by omega, fun y hy => ?_⟩
      rw [hO] at hy
      obtain ⟨i, _, rfl⟩ := List.mem_map.mp hy
      trivial
  have lM0 : M0.length = 8 := by rw [hM0]; rfl
  obtain ⟨bads, hbads⟩ : ∃ bads : List D, bads = [.int (-1), .bl true, .non, .str "1", .tup [.int 1], .int (10 ^ 20), .lst [.int 0]] := ⟨_, rfl⟩
  have tb : ∀ d ∈ bads, Thing d := fun d hd => by
    rw [hbads] at hd
    simp only [List.mem_cons, List.not_mem_nil, or_false] at hd
    rcases hd with rfl | rfl | rfl | rfl | rfl | rfl | rfl <;> first | trivial | rfl
  have puts : ∀ (L : List D) (M : List (List D)), (∀ d ∈ L, Thing d) → M.length + L.length ≤ 50 → forGo (.nm 10) lb_law_1 L (E9 ns ds u vs ms KS k (.own (.lst (M.map D.lst)) false) .no .no .no .no .no .no .no .no .no .no) = .nx (E9 ns ds u vs ms KS k (.own (.lst ((M ++ L.map (putD ms k)).map D.lst)) false) .no .no .no .no .no .no .no .no .no .no) := by
    intro L
    induction L with
    | nil => intro M _ _; simp [forGo]
    | cons d L ih =>
      intro M hL hM
      rw [List.length_cons] at hM
      rw [forGo_nx rfl (put_step ns ds u ms KS k (by omega) (by omega) (hL d List.mem_cons_self) M (by omega))]
      have := ih (M ++ [putD ms k d]) (fun x hx => hL x (List.mem_cons_of_mem _ hx)) (by rw [List.length_append]; simp; omega)
      rw [this, List.map_cons, List.append_assoc]; rfl
  have puts := puts bads M0 tb (by rw [hbads, lM0]; decide)
  obtain ⟨M1, hM1⟩ : ∃ M1, M1 = M0 ++ bads.map (putD ms k) := ⟨_, rfl⟩
  rw [← hM1] at puts
  have T1 : ∀ L ∈ M1, Try L := fun L hL => by
    rw [hM1] at hL
    rcases List.mem_append.mp hL with z | z
    · exact T0 L z
    · obtain ⟨d, hd, rfl⟩ := List.mem_map.mp z
      exact putD_try (vs := vs) ms k (by omega) (by omega) (tb d hd)
  have words := word_go ns ds u ms KS k (vs := vs) (by omega) (.val (.lst (M1.map D.lst)) false) M1 T1
  -- the house
  obtain ⟨H, hH, eH⟩ : ∃ H : Int, (0 ≤ H ∧ H ≤ 100) ∧ dIf (dB (dOp (eqD false) (dOp modD (dOp subsD (dVar 1) (dC (.int 20))) (dC (.int 8))) (dC (.int 1)))) (dSet 12 (dOp modD (dOp subsD (dVar 1) (dC (.int 19))) (dC (.int 101)))) dSkip (E9 ns ds u vs ms KS k (.val (.lst (M1.map D.lst)) false) .no .no (.val (.int (dr ds 19 % 31)) false) .no .no .no .no .no .no .no) =
      .nx (E9 ns ds u vs ms KS k (.val (.lst (M1.map D.lst)) false) .no .no (.val (.int H) false) .no .no .no .no .no .no .no) := by
    by_cases c : dr ds 20 % 8 = 1
    · exact ⟨dr ds 19 % 101, by omega, by simp [a20, a19, d8, d101, c]⟩
    · exact ⟨dr ds 19 % 31, by omega, by simp [a20, a19, d8, d101, c]⟩
  have sm := sum_b ms 10 mb
  have cm : ms.count 0 ≤ ms.length := List.count_le_length
  have step := fun (os : List Int) (o1 : os.length = vs.length) (o2 : ∀ m ∈ os, 0 ≤ m ∧ m ≤ 20) (h : Int) (hh : 0 ≤ h ∧ h ≤ 300) => case_step ns ds hu ⟨n1.1, n1.2⟩ vb hkn rK hKS (KS := KS) (ms := ms) o1 o2 hh (.val (.lst (M1.map D.lst)) false) (.val (.int H) false)
  have s1 := step ms ml (fun m h => by have := mb m h; omega) H (by omega)
  have s2 := step (List.replicate vs.length 0) (by simp) (fun m h => by have := (List.mem_replicate.mp h).2; omega) H (by omega)
  have s3 := step ms ml (fun m h => by have := mb m h; omega) ms.sum (by omega)
  have s4 := step ms ml (fun m h => by have := mb m h; omega) (ms.sum + (ms.count 0 : Int)) (by omega)
  have cases4 : forGo (.tp [.nm 13, .nm 14]) lb_law_3 [.tup [.lst (ms.map D.int), .int H], .tup [.lst ((List.replicate vs.length (0 : Int)).map D.int), .int H], .tup [.lst (ms.map D.int), .int ms.sum], .tup [.lst (ms.map D.int), .int (ms.sum + (ms.count 0 : Int))]] (E9 ns ds u vs ms KS k (.val (.lst (M1.map D.lst)) false) .no .no (.val (.int H) false) .no .no .no .no .no .no .no) =
      .nx (E9 ns ds u vs ms KS k (.val (.lst (M1.map D.lst)) false) .no .no (.val (.int H) false) .no .no .no .no .no .no .no) := by
    rw [forGo_nx rfl s1, forGo_nx rfl s2, forGo_nx rfl s3, forGo_nx rfl s4]; rfl
  have lr : lcGo (.nm 5) dYes (dC (.int 0)) (E9 ns ds u vs ms KS k (.val (.lst (M1.map D.lst)) false) .no .no (.val (.int H) false) .no .no .no .no .no .no .no) (rngD 0 vs.length) = some ((List.replicate vs.length (0 : Int)).map D.int) := by
    rw [rngD_map, lcGo_all (fun (k : Nat) => D.int (k : Int)) (fun _ => D.int 0) (List.range vs.length) fun k hk => ⟨_, rfl, _, by simp; rfl⟩, List.map_replicate, List.map_const', List.length_range]
  have lq : lcGo (.nm 5) dYes (dOp fdivD (dC (.int 60)) (dVar 3)) [.val (.scr ns) false, .val (.lst (ds.map D.int)) false, .val (eRu u) false, .val (.int (vs.length : Int)) false, .val (.lst (vs.map D.int)) false, .no, .val (.lst (ms.map D.int)) false, .val (.str KS) false, .val (.int (k : Int)) false, .no, .no, .no, .no, .no, .no, .no, .no, .no, .no, .no] (rngD 0 vs.length) = some Q := by
    rw [rngD_map, lcGo_all (fun (k : Nat) => D.int (k : Int)) (fun _ => D.int (60 / (vs.length : Int))) (List.range vs.length) fun k hk => ⟨_, rfl, _, by simp [dn]; rfl⟩, hQ]
  have lo : lcGo (.nm 5) dYes (dC .non) [.val (.scr ns) false, .val (.lst (ds.map D.int)) false, .val (eRu u) false, .val (.int (vs.length : Int)) false, .val (.lst (vs.map D.int)) false, .no, .val (.lst (ms.map D.int)) false, .val (.str KS) false, .val (.int (k : Int)) false, .no, .no, .no, .no, .no, .no, .no, .no, .no, .no, .no] (rngD 0 (vs.length + 1)) = some O := by
    rw [rngD_map, lcGo_all (fun (k : Nat) => D.int (k : Int)) (fun _ => D.non) (List.range (vs.length + 1)) fun k hk => ⟨_, rfl, _, by simp; rfl⟩, hO]
  refine ⟨.frz false, runB_rt rfl ?_⟩
  unfold b_law
  rw [seq_nx (f := dSet 1 _) (Γ' := [.val (.scr ns) false, .own (.lst (ds.map D.int)) false, .no, .no, .no, .no, .no, .no, .no, .no, .no, .no, .no, .no, .no, .no, .no, .no, .no, .no]) (by
    rw [e_cell, e_num]
    simp [hc, hnm])]
  rw [seq_nx (f := dFrz _ _) (Γ' := [.val (.scr ns) false, .val (.lst (ds.map D.int)) false, .val (eRu u) false, .no, .no, .no, .no, .no, .no, .no, .no, .no, .no, .no, .no, .no, .no, .no, .no, .no]) (by simp [frzS, eu])]
  rw [seq_nx (f := dSet 3 _) (Γ' := [.val (.scr ns) false, .val (.lst (ds.map D.int)) false, .val (eRu u) false, .val (.int (vs.length : Int)) false, .no, .no, .no, .no, .no, .no, .no, .no, .no, .no, .no, .no, .no, .no, .no, .no]) (by simp [a3, d6, hn'])]
  rw [seq_nx (f := dSet 4 _) (Γ' := [.val (.scr ns) false, .val (.lst (ds.map D.int)) false, .val (eRu u) false, .val (.int (vs.length : Int)) false, .own (.lst (vs.map D.int)) false, .no, .no, .no, .no, .no, .no, .no, .no, .no, .no, .no, .no, .no, .no, .no]) (by simp [rn, l1, zn])]
  rw [seq_nx (f := dSet 6 _) (Γ' := [.val (.scr ns) false, .val (.lst (ds.map D.int)) false, .val (eRu u) false, .val (.int (vs.length : Int)) false, .own (.lst (vs.map D.int)) false, .no, .own (.lst (ms.map D.int)) false, .no, .no, .no, .no, .no, .no, .no, .no, .no, .no, .no, .no, .no]) (by simp [rn, l2, zm])]
  rw [seq_nx (f := dFrz _ _) (Γ' := [.val (.scr ns) false, .val (.lst (ds.map D.int)) false, .val (eRu u) false, .val (.int (vs.length : Int)) false, .val (.lst (vs.map D.int)) false, .no, .val (.lst (ms.map D.int)) false, .val (.str KS) false, .no, .no, .no, .no, .no, .no, .no, .no, .no, .no, .no, .no]) (by simp [frzS, rK, hKS])]
  rw [seq_nx (f := dSet 8 _) (Γ' := [.val (.scr ns) false, .val (.lst (ds.map D.int)) false, .val (eRu u) false, .val (.int (vs.length : Int)) false, .val (.lst (vs.map D.int)) false, .no, .val (.lst (ms.map D.int)) false, .val (.str KS) false, .val (.int (k : Int)) false, .no, .no, .no, .no, .no, .no, .no, .no, .no, .no, .no]) (by simp [a18, dn, nb, hk])]
  rw [seq_nx (f := dFrz _ _) (Γ' := E9 ns ds u vs ms KS k (.own (.lst (M0.map D.lst)) false) .no .no .no .no .no .no .no .no .no .no) (by
    have zz := lz [.val (.scr ns) false, .val (.lst (ds.map D.int)) false, .val (eRu u) false, .val (.int (vs.length : Int)) false, .val (.lst (vs.map D.int)) false, .no, .val (.lst (ms.map D.int)) false, .val (.str KS) false, .val (.int (k : Int)) false, .no, .no, .no, .no, .no, .no, .no, .no, .no, .no, .no] rfl
    have zZ : Z.length ≤ sizeLine := small_le (by omega)
    have zZ1 : 1 + Z.length ≤ sizeLine := small_le (by omega)
    have zQ : Q.length ≤ sizeLine := small_le (by omega)
    have zO : O.length ≤ sizeLine := small_le (by omega)
    have zm1 : ms.length + 1 ≤ sizeLine := small_le (by omega)
    simp [frzS, rn, rn1, rn2, zz, lq, lo, hM0, zZ, zZ1, zQ, zO, zm1])]
  rw [seq_nx ((for_src (ds := bads) (n := true) (by simp [hbads])).trans puts)]
  rw [seq_nx (f := dFrz _ _) (Γ' := E9 ns ds u vs ms KS k (.val (.lst (M1.map D.lst)) false) .no .no .no .no .no .no .no .no .no .no) (by
    refine Eq.trans (for_src (ds := M1.map D.lst) (n := false) ?_) words
    simp [frzS])]
  rw [seq_nx (f := dSet 12 _) (Γ' := E9 ns ds u vs ms KS k (.val (.lst (M1.map D.lst)) false) .no .no (.val (.int (dr ds 19 % 31)) false) .no .no .no .no .no .no .no) (by simp [a19, d31])]
  rw [seq_nx eH]
  rw [seq_nx (f := dFrz _ _) (Γ' := E9 ns ds u vs ms KS k (.val (.lst (M1.map D.lst)) false) .no .no (.val (.int H) false) .no .no .no .no .no .no .no) (by
    refine Eq.trans (b := dFor _ (.tp [.nm 13, .nm 14]) lb_law_3 (E9 ns ds u vs ms KS k (.val (.lst (M1.map D.lst)) false) .no .no (.val (.int H) false) .no .no .no .no .no .no .no)) rfl ?_
    exact (for_src (n := false) (by simp [rn, lr, zn])).trans cases4)]
  simp
end La
open PySem PySem.W PyProof.Rows
set_option maxRecDepth 100000 in
set_option maxHeartbeats 0 in
theorem PySem.Challenge.cw_seatsbyrule_k26_first_seats_with_minimum_holds : PySem.Challenge.rw_seatsbyrule_k26_first_seats_with_minimum.Holds := by
  w_on; o_law; k_head; (case hw => w_witness2)
  k_fill
  refine Dn.walk_ofG (l := PySem.Challenge.rw_seatsbyrule_k26_first_seats_with_minimum) (n := 63) (k := 13) (x := "script") (sp := fun w => Dn.spD ⟨PySem.Challenge.rw_seatsbyrule_k26_first_seats_with_minimum.prog, w, _⟩ 1 La.φ_law) rfl (by decide) rfl ⟨rfl, by decide, by decide⟩ (fun w h Y => PySem.W.kIn_of Y) ?F (fun _ _ a ns hl hS => (La.law_true ns hl).elim fun _ e => Dn.law_end hS e) (fun _ _ _ _ h => h)
  case F =>
    intro w mg fa h KX G hmg
    refine' La.all_mk KX G hmg ?a0 ?l0 ?c0 ?k0 ?a1 ?l1 ?c1 ?k1 ?a2 ?l2 ?c2 ?k2 ?a3 ?l3 ?c3 ?k3 ?a4 ?l4 ?c4 ?k4 ?a5 ?l5 ?c5 ?k5 ?a6 ?l6 ?c6 ?k6 ?a7 ?l7 ?c7 ?k7 ?a8 ?l8 ?c8 ?k8 ?a9 ?l9 ?c9 ?k9 ?a10 ?l10 ?c10 ?k10 ?a11 ?l11 ?c11 ?k11 ?a12 ?l12 ?c12 ?k12 ?a13 ?l13 ?c13 ?k13 ?a14 ?l14 ?c14 ?k14 ?a15 ?l15 ?c15 ?k15 ?a16 ?l16 ?c16 ?k16 ?a17 ?l17 ?c17 ?k17 ?a18 ?l18 ?c18 ?k18 ?a19 ?l19 ?c19 ?k19 ?a20 ?l20 ?c20 ?k20 ?a21 ?l21 ?c21 ?k21 ?a22 ?l22 ?c22 ?k22 ?a23 ?l23 ?c23 ?k23 ?a24 ?l24 ?c24 ?k24 ?a25 ?l25 ?c25 ?k25 ?a26 ?l26 ?c26 ?k26 ?a27 ?l27 ?c27 ?k27 ?a28 ?l28 ?c28 ?k28 ?a29 ?l29 ?c29 ?k29 ?a30 ?l30 ?c30 ?k30 ?a31 ?l31 ?c31 ?k31 ?a32 ?l32 ?c32 ?k32 ?a33 ?l33 ?c33 ?k33 ?a34 ?l34 ?c34 ?k34 ?a35 ?l35 ?c35 ?k35 ?a36 ?l36 ?c36 ?k36 ?a37 ?l37 ?c37 ?k37 ?a38 ?l38 ?c38 ?k38 ?a39 ?l39 ?c39 ?k39 ?a40 ?l40 ?c40 ?k40 ?a41 ?l41 ?c41 ?k41 ?a42 ?l42 ?c42 ?k42 ?gc_InvalidMinimums ?gc_SeatError ?gc_TooFewSeats ?gc_WrongCount ?xq_InvalidMinimums ?xk_InvalidMinimums ?xb_InvalidMinimums ?xt_InvalidMinimums ?xq_TooFewSeats ?xk_TooFewSeats ?xb_TooFewSeats ?xt_TooFewSeats ?xq_WrongCount ?xk_WrongCount ?xb_WrongCount ?xt_WrongCount ?yb_InvalidMinimums ?yi_InvalidMinimums ?yt_InvalidMinimums ?ys_InvalidMinimums ?yb_SeatError ?yi_SeatError ?yt_SeatError ?ys_SeatError ?yb_TooFewSeats ?yi_TooFewSeats ?yt_TooFewSeats ?ys_TooFewSeats ?yb_WrongCount ?yi_WrongCount ?yt_WrongCount ?ys_WrongCount ?na_InvalidMinimums ?nb_InvalidMinimums ?nc_InvalidMinimums ?nd_InvalidMinimums ?ne_InvalidMinimums ?nf_InvalidMinimums ?ng_InvalidMinimums ?nh_InvalidMinimums ?na_TooFewSeats ?nb_TooFewSeats ?nc_TooFewSeats ?nd_TooFewSeats ?ne_TooFewSeats ?nf_TooFewSeats ?ng_TooFewSeats ?nh_TooFewSeats ?na_WrongCount ?nb_WrongCount ?nc_WrongCount ?nd_WrongCount ?ne_WrongCount ?nf_WrongCount ?ng_WrongCount ?nh_WrongCount ?kk_InvalidMinimums_InvalidMinimums ?kk_InvalidMinimums_SeatError ?kk_InvalidMinimums_TooFewSeats ?kk_InvalidMinimums_WrongCount ?kk_TooFewSeats_SeatError ?kk_TooFewSeats_TooFewSeats ?kk_TooFewSeats_WrongCount ?kk_WrongCount_InvalidMinimums ?kk_WrongCount_SeatError ?kk_WrongCount_WrongCount ?z_abs ?z_all ?z_bool ?z_enumerate ?z_int ?z_isinstance ?z_len ?z_list ?z_max ?z_range ?z_repr ?z_str ?z_sum ?z_tuple ?i_gcd ?m_MOST_MINIMUMS ?rc_MOST_MINIMUMS ?m_ZERO ?rc_ZERO
    (case a0 => k_is); (case l0 => k_is); (case c0 => k_is); (case k0 => k_is); (case a1 => k_is); (case l1 => k_is); (case c1 => k_is); (case k1 => k_is); (case a2 => k_is); (case l2 => k_is); (case c2 => k_is); (case k2 => k_is); (case a3 => k_is); (case l3 => k_is); (case c3 => k_is); (case k3 => k_is); (case a4 => k_is); (case l4 => k_is); (case c4 => k_is); (case k4 => k_is); (case a5 => k_is); (case l5 => k_is); (case c5 => k_is); (case k5 => k_is); (case a6 => k_is); (case l6 => k_is); (case c6 => k_is); (case k6 => k_is); (case a7 => k_is); (case l7 => k_is); (case c7 => k_is); (case k7 => k_is); (case a8 => k_is); (case l8 => k_is); (case c8 => k_is); (case k8 => k_is); (case a9 => k_is); (case l9 => k_is); (case c9 => k_is); (case k9 => k_is); (case a10 => k_is); (case l10 => k_is); (case c10 => k_is); (case k10 => k_is); (case a11 => k_is); (case l11 => k_is); (case c11 => k_is); (case k11 => k_is); (case a12 => k_is); (case l12 => k_is); (case c12 => k_is); (case k12 => k_is); (case a13 => k_is); (case l13 => k_is); (case c13 => k_is); (case k13 => k_is); (case a14 => k_is); (case l14 => k_is); (case c14 => k_is); (case k14 => k_is); (case a15 => k_is); (case l15 => k_is); (case c15 => k_is); (case k15 => k_is); (case a16 => k_is); (case l16 => k_is); (case c16 => k_is); (case k16 => k_is); (case a17 => k_is); (case l17 => k_is); (case c17 => k_is); (case k17 => k_is); (case a18 => k_is); (case l18 => k_is); (case c18 => k_is); (case k18 => k_is); (case a19 => k_is); (case l19 => k_is); (case c19 => k_is); (case k19 => k_is); (case a20 => k_is); (case l20 => k_is); (case c20 => k_is); (case k20 => k_is); (case a21 => k_is); (case l21 => k_is); (case c21 => k_is); (case k21 => k_is); (case a22 => k_is); (case l22 => k_is); (case c22 => k_is); (case k22 => k_is); (case a23 => k_is); (case l23 => k_is); (case c23 => k_is); (case k23 => k_is); (case a24 => k_is); (case l24 => k_is); (case c24 => k_is); (case k24 => k_is); (case a25 => k_is); (case l25 => k_is); (case c25 => k_is); (case k25 => k_is); (case a26 => k_is); (case l26 => k_is); (case c26 => k_is); (case k26 => k_is); (case a27 => k_is); (case l27 => k_is); (case c27 => k_is); (case k27 => k_is); (case a28 => k_is); (case l28 => k_is); (case c28 => k_is); (case k28 => k_is); (case a29 => k_is); (case l29 => k_is); (case c29 => k_is); (case k29 => k_is); (case a30 => k_is); (case l30 => k_is); (case c30 => k_is); (case k30 => k_is); (case a31 => k_is); (case l31 => k_is); (case c31 => k_is); (case k31 => k_is); (case a32 => k_is); (case l32 => k_is); (case c32 => k_is); (case k32 => k_is); (case a33 => k_is); (case l33 => k_is); (case c33 => k_is); (case k33 => k_is); (case a34 => k_is); (case l34 => k_is); (case c34 => k_is); (case k34 => k_is); (case a35 => k_is); (case l35 => k_is); (case c35 => k_is); (case k35 => k_is); (case a36 => k_is); (case l36 => k_is); (case c36 => k_is); (case k36 => k_is); (case a37 => k_is); (case l37 => k_is); (case c37 => k_is); (case k37 => k_is); (case a38 => k_is); (case l38 => k_is); (case c38 => k_is); (case k38 => k_is); (case a39 => k_is); (case l39 => k_is); (case c39 => k_is); (case k39 => k_is); (case a40 => k_is); (case l40 => k_is); (case c40 => k_is); (case k40 => k_is); (case a41 => k_is); (case l41 => k_is); (case c41 => k_is); (case k41 => k_is); (case a42 => k_is); (case l42 => k_is); (case c42 => k_is); (case k42 => k_is); (case gc_InvalidMinimums => k_is); (case gc_SeatError => k_is); (case gc_TooFewSeats => k_is); (case gc_WrongCount => k_is); (case xq_InvalidMinimums => k_exc); (case xk_InvalidMinimums => k_is); (case xb_InvalidMinimums => k_is); (case xt_InvalidMinimums => k_is); (case xq_TooFewSeats => k_exc); (case xk_TooFewSeats => k_is); (case xb_TooFewSeats => k_is); (case xt_TooFewSeats => k_is); (case xq_WrongCount => k_exc); (case xk_WrongCount => k_is); (case xb_WrongCount => k_is); (case xt_WrongCount => k_is); (case yb_InvalidMinimums => k_is); (case yi_InvalidMinimums => k_is); (case yt_InvalidMinimums => k_is); (case ys_InvalidMinimums => k_is); (case yb_SeatError => k_is); (case yi_SeatError => k_is); (case yt_SeatError => k_is); (case ys_SeatError => k_is); (case yb_TooFewSeats => k_is); (case yi_TooFewSeats => k_is); (case yt_TooFewSeats => k_is); (case ys_TooFewSeats => k_is); (case yb_WrongCount => k_is); (case yi_WrongCount => k_is); (case yt_WrongCount => k_is); (case ys_WrongCount => k_is); (case na_InvalidMinimums => k_is); (case nb_InvalidMinimums => k_is); (case nc_InvalidMinimums => k_is); (case nd_InvalidMinimums => k_is); (case ne_InvalidMinimums => k_is); (case nf_InvalidMinimums => k_is); (case ng_InvalidMinimums => k_is); (case nh_InvalidMinimums => k_is); (case na_TooFewSeats => k_is); (case nb_TooFewSeats => k_is); (case nc_TooFewSeats => k_is); (case nd_TooFewSeats => k_is); (case ne_TooFewSeats => k_is); (case nf_TooFewSeats => k_is); (case ng_TooFewSeats => k_is); (case nh_TooFewSeats => k_is); (case na_WrongCount => k_is); (case nb_WrongCount => k_is); (case nc_WrongCount => k_is); (case nd_WrongCount => k_is); (case ne_WrongCount => k_is); (case nf_WrongCount => k_is); (case ng_WrongCount => k_is); (case nh_WrongCount => k_is); (case kk_InvalidMinimums_InvalidMinimums => k_is); (case kk_InvalidMinimums_SeatError => k_is); (case kk_InvalidMinimums_TooFewSeats => k_is); (case kk_InvalidMinimums_WrongCount => k_is); (case kk_TooFewSeats_SeatError => k_is); (case kk_TooFewSeats_TooFewSeats => k_is); (case kk_TooFewSeats_WrongCount => k_is); (case kk_WrongCount_InvalidMinimums => k_is); (case kk_WrongCount_SeatError => k_is); (case kk_WrongCount_WrongCount => k_is); (case z_abs => k_is); (case z_all => k_is); (case z_bool => k_is); (case z_enumerate => k_is); (case z_int => k_is); (case z_isinstance => k_is); (case z_len => k_is); (case z_list => k_is); (case z_max => k_is); (case z_range => k_is); (case z_repr => k_is); (case z_str => k_is); (case z_sum => k_is); (case z_tuple => k_is); (case i_gcd => k_is); (case m_MOST_MINIMUMS => k_is); (case m_ZERO => k_is)
    (case rc_MOST_MINIMUMS => first | exact Dn.kconst_atom (by rfl) | exact Dn.kconst_tup (by k_is) (by rfl) (by rfl) (by decide) (by rfl))
    (case rc_ZERO => first | exact Dn.kconst_atom (by rfl) | exact Dn.kconst_tup (by k_is) (by rfl) (by rfl) (by decide) (by rfl))
