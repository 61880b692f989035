import PyProof.Rows.All
import HandS.ForMost
import HandS.Conv
import HandS.TupAny
import HandS.Zip
import HandS.SortInts
import HandS.Gcd
import HandS.Wide
import HandS.Flow
import HandS.Head0
import HandS.Head1
import HandS.Head2
import HandS.HeadEnd
import HandS.HeadHook1
import HandS.HeadHook2
import HandS.HeadHook3
import HandS.HeadHook4
import HandS.HeadWalk
import HandS.AnyAll
import HandS.GenList
import KE.GoesEnum
import KE.GoesMore
import KE.GoesZip
import HandS.IsInst
import KE.SortUse
import KE.DatumOrd
import KE.DataCmp
import HandS.SetFor
import HandS.Strs
import HandS.Iter
import HandS.RevRange
import HandS.Style
import HandS.Head3
import HandS.ReCall
import HandS.Deep
import KE.KIndexOf
import HandS.TupMul
import HandS.Rev
import PySem.Challenge.RW_fairparts_k78_whole_rounded_tables
set_option Elab.async false
set_option linter.all false
set_option maxRecDepth 100000
set_option maxHeartbeats 4000000
namespace FP
open PySem PySem.Spec PyProof.Rows L2

/-! ### data and what bears it -/
abbrev D := PyData
/-- a tuple that is known to bear no dict -/
def TupN (K : PySem.W.Frag) (S : Hp) (a : Addr) (vs : List V) : Prop :=
  (∃ o : Obj, S a = some (.frz o (.tup vs)) ∧ o.dict = none) ∨
    ∃ (o : Obj) (its : Array Value) (n : Nat), K.lookup a = some o ∧ o.cls = .type "tuple" ∧ o.dict = none ∧ o.data = .seq its n ∧ its.size ≤ sizeLine ∧ Vals vs its.toList
theorem TupN.sqt {K : PySem.W.Frag} {S : Hp} {a : Addr} {vs : List V} : TupN K S a vs → SqT K S a vs
  | .inl ⟨o, e, _⟩ => .inl (.inr ⟨o, e⟩)
  | .inr ⟨o, its, n, h1, h2, _, h3, h4, h5⟩ => .inr ⟨o, its, n, h1, h2, h3, h4, h5⟩
theorem TupN.new {K : PySem.W.Frag} {S : Hp} {a : Addr} {vs : List V} {o : Obj} (h : o.dict = none) : TupN K (upd S a (.frz o (.tup vs))) a vs := .inl ⟨o, upd_same, h⟩
mutual
inductive Den (K : PySem.W.Frag) (S : Hp) : D → V → Prop
  | non : Den K S .none .non
  | bl (b : Bool) : Den K S (.bool b) (.bl b)
  | int (i : Int) : Den K S (.int i) (.int i)
  | str (x : Str) : Den K S (.str x) (.str x)
  | lst {a : Addr} {vs : List V} {ds : List D} : S a = some (.lst vs) → Dens K S ds vs → Den K S (.list ds) (.ref a)
  | tup {a : Addr} {vs : List V} {ds : List D} : TupN K S a vs → Dens K S ds vs → Den K S (.tuple ds) (.ref a)
inductive Dens (K : PySem.W.Frag) (S : Hp) : List D → List V → Prop
  | nil : Dens K S [] []
  | cons {d : D} {v : V} {ds : List D} {vs : List V} : Den K S d v → Dens K S ds vs → Dens K S (d :: ds) (v :: vs)
end
abbrev Sub (S S' : Hp) : Prop := ∀ a o, S a = some o → S' a = some o
section
variable {K : PySem.W.Frag} {S S' : Hp}
theorem sub_rd (h : Sub S S') {a : Addr} {u : HO} (r : Rd S a u) : Rd S' a u := by
  rcases r with r | ⟨o, r⟩
  · exact .inl (h a _ r)
  · exact .inr ⟨o, h a _ r⟩
theorem sub_sqt (h : Sub S S') {a : Addr} {xs : List V} (r : SqT K S a xs) : SqT K S' a xs := by
  rcases r with r | r
  · exact .inl (sub_rd h r)
  · exact .inr r
theorem sub_tupn (h : Sub S S') {a : Addr} {xs : List V} : TupN K S a xs → TupN K S' a xs
  | .inl ⟨o, e, d⟩ => .inl ⟨o, h _ _ e, d⟩
  | .inr r => .inr r
theorem sub_sql (h : Sub S S') {a : Addr} {xs : List V} (r : SqL K S a xs) : SqL K S' a xs := by
  rcases r with r | r
  · exact .inl (sub_rd h r)
  · exact .inr r
mutual
theorem Den.mono (h : Sub S S') : ∀ (d : D) (v : V), Den K S d v → Den K S' d v
  | .none, _, x => by cases x; exact .non
  | .bool b, _, x => by cases x; exact .bl b
  | .int i, _, x => by cases x; exact .int i
  | .str s, _, x => by cases x; exact .str s
  | .list ds, _, x => by
    cases x with
    | lst e r => exact .lst (h _ _ e) (Dens.mono h ds _ r)
  | .tuple ds, _, x => by
    cases x with
    | tup e r => exact .tup (sub_tupn h e) (Dens.mono h ds _ r)
  | .dict _, _, x => by cases x
theorem Dens.mono (h : Sub S S') : ∀ (ds : List D) (vs : List V), Dens K S ds vs → Dens K S' ds vs
  | [], _, x => by cases x; exact .nil
  | d :: ds, _, x => by
    cases x with
    | cons a r => exact .cons (Den.mono h d _ a) (Dens.mono h ds _ r)
end
theorem Den.mon {d : D} {v : V} (x : Den K S d v) (h : Sub S S') : Den K S' d v := Den.mono h d v x
theorem Dens.mon {ds : List D} {vs : List V} (x : Dens K S ds vs) (h : Sub S S') : Dens K S' ds vs := Dens.mono h ds vs x
theorem Dens.length : ∀ {ds : List D} {vs : List V}, Dens K S ds vs → ds.length = vs.length
  | _, _, .nil => rfl
  | _, _, .cons _ r => by simp [r.length]
theorem Dens.get : ∀ {ds : List D} {vs : List V} {i : Nat} {d : D}, Dens K S ds vs → ds[i]? = some d → ∃ v, vs[i]? = some v ∧ Den K S d v
  | _, _, _, _, .nil, e => by simp at e
  | _, _, 0, d, .cons r _, e => by simp at e; subst e; exact ⟨_, rfl, r⟩
  | _, _, i + 1, d, .cons _ t, e => by
    obtain ⟨v, h1, h2⟩ := Dens.get (i := i) (d := d) t (by simpa using e)
    exact ⟨v, by simpa using h1, h2⟩
theorem Dens.getV : ∀ {ds : List D} {vs : List V} {i : Nat} {v : V}, Dens K S ds vs → vs[i]? = some v → ∃ d, ds[i]? = some d ∧ Den K S d v
  | _, _, _, _, .nil, e => by simp at e
  | _, _, 0, d, .cons r _, e => by simp at e; subst e; exact ⟨_, rfl, r⟩
  | _, _, i + 1, d, .cons _ t, e => by
    obtain ⟨v, h1, h2⟩ := Dens.getV (i := i) (v := d) t (by simpa using e)
    exact ⟨v, by simpa using h1, h2⟩
theorem Dens.set {d : D} {v : V} (h : Den K S d v) : ∀ {ds : List D} {vs : List V} (i : Nat), Dens K S ds vs → Dens K S (ds.set i d) (vs.set i v)
  | _, _, _, .nil => .nil
  | _, _, 0, .cons _ t => .cons h t
  | _, _, i + 1, .cons q t => .cons q (Dens.set h i t)
theorem Dens.append : ∀ {ds es : List D} {vs us : List V}, Dens K S ds vs → Dens K S es us → Dens K S (ds ++ es) (vs ++ us)
  | _, _, _, _, .nil, s => s
  | _, _, _, _, .cons r t, s => .cons r (Dens.append t s)
theorem Dens.take : ∀ {ds : List D} {vs : List V} (n : Nat), Dens K S ds vs → Dens K S (ds.take n) (vs.take n)
  | _, _, 0, _ => .nil
  | _, _, _ + 1, .nil => .nil
  | _, _, n + 1, .cons r t => .cons r (Dens.take n t)
theorem Dens.drop : ∀ {ds : List D} {vs : List V} (n : Nat), Dens K S ds vs → Dens K S (ds.drop n) (vs.drop n)
  | _, _, 0, r => r
  | _, _, _ + 1, .nil => .nil
  | _, _, n + 1, .cons _ t => Dens.drop n t
theorem Dens.rev : ∀ {ds : List D} {vs : List V}, Dens K S ds vs → Dens K S ds.reverse vs.reverse
  | _, _, .nil => .nil
  | _, _, .cons r t => by rw [List.reverse_cons, List.reverse_cons]; exact Dens.append (Dens.rev t) (.cons r .nil)
theorem Dens.rep {ds : List D} {vs : List V} (r : Dens K S ds vs) : ∀ n : Nat, Dens K S (List.replicate n ds).flatten (List.replicate n vs).flatten
  | 0 => .nil
  | n + 1 => by rw [List.replicate_succ, List.replicate_succ, List.flatten_cons, List.flatten_cons]; exact r.append (r.rep n)
theorem Dens.erase : ∀ {ds : List D} {vs : List V} (i : Nat), Dens K S ds vs → Dens K S (ds.eraseIdx i) (vs.eraseIdx i)
  | _, _, _, .nil => .nil
  | _, _, 0, .cons _ t => t
  | _, _, i + 1, .cons q t => .cons q (Dens.erase i t)
theorem Dens.dropLast {ds : List D} {vs : List V} (r : Dens K S ds vs) : Dens K S ds.dropLast vs.dropLast := by
  rw [List.dropLast_eq_take, List.dropLast_eq_take, r.length]
  exact r.take _
/-- ints -/
theorem Dens.ints : ∀ {is : List Int} {vs : List V}, Dens K S (is.map .int) vs → vs = is.map .int
  | [], _, x => by cases x; rfl
  | i :: is, _, x => by
    cases x with
    | cons a r => cases a; rw [Dens.ints r]; rfl
theorem Dens.ofInts : ∀ (is : List Int), Dens K S (is.map .int) (is.map .int)
  | [] => .nil
  | i :: is => .cons (.int i) (Dens.ofInts is)
theorem Dens.bools : ∀ {is : List Bool} {vs : List V}, Dens K S (is.map .bool) vs → vs = is.map .bl
  | [], _, x => by cases x; rfl
  | i :: is, _, x => by
    cases x with
    | cons a r => cases a; rw [Dens.bools r]; rfl
theorem Dens.strs : ∀ {is : List Str} {vs : List V}, Dens K S (is.map .str) vs → vs = is.map .str
  | [], _, x => by cases x; rfl
  | i :: is, _, x => by
    cases x with
    | cons a r => cases a; rw [Dens.strs r]; rfl
theorem Dens.ofStrs : ∀ (is : List Str), Dens K S (is.map .str) (is.map .str)
  | [] => .nil
  | i :: is => .cons (.str i) (Dens.ofStrs is)
mutual
theorem Den.dp : ∀ (d : D) (v : V), Den K S d v → Dp K S v d
  | .none, _, x => by cases x; exact .non
  | .bool b, _, x => by cases x; exact .bl b
  | .int i, _, x => by cases x; exact .int i
  | .str s, _, x => by cases x; exact .str s
  | .list ds, _, x => by
    cases x with
    | lst e r => exact .lst (.inl (.inl e)) (Dens.dp ds _ r)
  | .tuple ds, _, x => by
    cases x with
    | tup e r => exact .tup e.sqt (Dens.dp ds _ r)
  | .dict _, _, x => by cases x
theorem Dens.dp : ∀ (ds : List D) (vs : List V), Dens K S ds vs → DpAll K S vs ds
  | [], _, x => by cases x; exact .nil
  | d :: ds, _, x => by
    cases x with
    | cons a r => exact .cons (Den.dp d _ a) (Dens.dp ds _ r)
end
end

/-! ### steps of the heap: S what stays for ever, H all, M what may turn (a list of two ints) -/
def Vk (o : Option HO) : Prop := ∃ i j : Int, o = some (.lst [.int i, .int j])
def NoT (o : HO) : Prop := ∀ ps, o ≠ .tbl ps
def TbG (H : Hp) (P : Addr) : Prop := ∃ ps : Array Value, H P = some (.tbl ps) ∧ TriplesOk ps.toList
/-- what may turn; the tables that stand -/
structure Mm where
  v : Addr → Prop
  t : Addr → Prop
instance : CoeFun Mm (fun _ => Addr → Prop) := ⟨Mm.v⟩
abbrev noM (T : Addr → Prop) : Mm := ⟨fun _ => False, T⟩
structure Step (M : Mm) (S H S' H' : Hp) : Prop where
  ss : Sub S S'
  sh : Sub S' H'
  ext : ∀ a o, H a = some o → ¬ M a → NoT o → H' a = some o
  tb : ∀ a ps, H a = some (.tbl ps) → TriplesOk ps.toList → ∃ qs : Array Value, H' a = some (.tbl qs) ∧ TriplesOk qs.toList
  cap : ∀ a, S a = none → H a ≠ none → S' a = none
  vk : ∀ a, M a → Vk (H a) → Vk (H' a)
  keep : ∀ a, H a ≠ none → H' a ≠ none
structure Gd (M : Mm) (S H : Hp) : Prop where
  sub : Sub S H
  vol : ∀ a, M a → H a ≠ none ∧ S a = none
  tab : ∀ p, M.t p → TbG H p ∧ S p = none
section
variable {M : Mm} {S H S' H' S2 H2 : Hp}
theorem Step.refl (g : Sub S H) : Step M S H S H :=
  ⟨fun _ _ e => e, g, fun _ _ e _ _ => e, fun _ ps e t => ⟨ps, e, t⟩, fun _ e _ => e, fun _ _ v => v, fun _ e => e⟩
theorem Step.trans (a : Step M S H S' H') (b : Step M S' H' S2 H2) : Step M S H S2 H2 where
  ss := fun x o e => b.ss x o (a.ss x o e)
  sh := b.sh
  ext := fun x o e m n => b.ext x o (a.ext x o e m n) m n
  tb := fun x ps e t => by
    obtain ⟨qs, e1, t1⟩ := a.tb x ps e t
    exact b.tb x qs e1 t1
  cap := fun x e n => b.cap x (a.cap x e n) (a.keep x n)
  vk := fun x m v => b.vk x m (a.vk x m v)
  keep := fun x n => b.keep x (a.keep x n)
theorem Gd.step (g : Gd M S H) (t : Step M S H S' H') : Gd M S' H' :=
  ⟨t.sh, fun a m => ⟨t.keep a (g.vol a m).1, t.cap a (g.vol a m).2 (g.vol a m).1⟩, fun p m => by
    obtain ⟨⟨ps, e, ok⟩, n⟩ := g.tab p m
    exact ⟨t.tb p ps e ok, t.cap p n (by rw [e]; exact fun z => nomatch z)⟩⟩
theorem Gd.fresh (g : Gd M S H) {p : Addr} (h : H p = none) : S p = none := by
  cases e : S p with
  | none => rfl
  | some o => rw [g.sub p o e] at h; cases h
theorem Gd.notM (g : Gd M S H) {p : Addr} (h : H p = none) : ¬ M p := fun m => (g.vol p m).1 h
/-- a new object, not (yet) of what stays -/
theorem Step.new (g : Gd M S H) {p : Addr} (o : HO) (h : H p = none) : Step M S H S (upd H p o) where
  ss := fun _ _ e => e
  sh := fun a u e => by rw [upd_ne (ne_of_none (g.sub a u e) h)]; exact g.sub a u e
  ext := fun a u e _ _ => by rw [upd_ne (ne_of_none e h)]; exact e
  tb := fun a ps e t => ⟨ps, by rw [upd_ne (ne_of_none e h)]; exact e, t⟩
  cap := fun _ e _ => e
  vk := fun a m v => by
    have n : a ≠ p := fun z => by subst z; exact g.notM h m
    rw [upd_ne n]; exact v
  keep := fun a n => by
    by_cases z : a = p
    · subst z; rw [upd_same]; exact fun q => nomatch q
    · rw [upd_ne z]; exact n
/-- what is new becomes what stays -/
theorem Step.hold {p : Addr} {o : HO} (g : Sub S H) (h : H p = some o) (hn : S p = none) : Sub S (upd S p o) ∧ Sub (upd S p o) H := by
  refine ⟨fun a u e => by rw [upd_ne (ne_of_none e hn)]; exact e, fun a u e => ?_⟩
  by_cases z : a = p
  · subst z; rw [upd_same] at e; cases e; exact h
  · rw [upd_ne z] at e; exact g a u e
theorem Step.hold' (t : Step M S H S' H') {p : Addr} {o : HO} (h : H' p = some o) (hn : S' p = none) (h0 : H p = none) : Step M S H (upd S' p o) H' where
  ss := fun a u e => (Step.hold t.sh h hn).1 a u (t.ss a u e)
  sh := (Step.hold t.sh h hn).2
  ext := t.ext
  tb := t.tb
  cap := fun a e n => by
    have z : a ≠ p := fun z => by subst z; exact n h0
    rw [upd_ne z]; exact t.cap a e n
  vk := t.vk
  keep := t.keep
theorem Step.newS (g : Gd M S H) {p : Addr} (o : HO) (h : H p = none) : Step M S H (upd S p o) (upd H p o) :=
  (Step.new g o h).hold' upd_same (g.fresh h) h
/-- a smaller set of what may turn -/
theorem Step.more {M' : Mm} (t : Step M S H S' H') (h : ∀ a, M a → M' a) (hv : ∀ a, M' a → ¬ M a → Vk (H a) → False) : Step M' S H S' H' where
  ss := t.ss
  sh := t.sh
  ext := fun a o e m n => t.ext a o e (fun z => m (h a z)) n
  tb := t.tb
  cap := t.cap
  vk := fun a m v => by
    by_cases z : M a
    · exact t.vk a z v
    · exact (hv a m z v).elim
  keep := t.keep
/-- a call's step, nothing of M turned by it -/
theorem Step.none {T : Addr → Prop} (t : Step (noM T) S H S' H') : Step M S H S' H' where
  ss := t.ss
  sh := t.sh
  ext := fun a o e _ n => t.ext a o e (fun z => z) n
  tb := t.tb
  cap := t.cap
  vk := fun a _ ⟨i, j, e⟩ => ⟨i, j, t.ext a _ e (fun z => z) (fun _ q => nomatch q)⟩
  keep := t.keep
end

theorem lst_noT {vs : List V} : NoT (.lst vs) := fun _ q => nomatch q
theorem Step.sql {M : Mm} {K : PySem.W.Frag} {S H S' H' : Hp} (t : Step M S H S' H') {a : Addr} {vs : List V} (h : SqL K H a vs) (m : ¬ M a) : SqL K H' a vs := by
  rcases h with (h | ⟨o, h⟩) | h
  · exact .inl (.inl (t.ext a _ h m lst_noT))
  · exact .inl (.inr ⟨o, t.ext a _ h m (fun _ q => nomatch q)⟩)
  · exact .inr h
/-- a table has grown -/
theorem Step.tabd {M : Mm} {S H H2 : Hp} (g : Gd M S H) {P : Addr} (hT : M.t P) (h1 : TbG H2 P) (h2 : ∀ b, b ≠ P → H2 b = H b) : Step M S H S H2 where
  ss := fun _ _ e => e
  sh := fun a o e => by
    have z : a ≠ P := ne_of_none e (g.tab P hT).2
    rw [h2 a z]; exact g.sub a o e
  ext := fun a o e _ n => by
    obtain ⟨ps, q, _⟩ := (g.tab P hT).1
    have z : a ≠ P := fun z => by subst z; rw [q] at e; cases e; exact n ps rfl
    rw [h2 a z]; exact e
  tb := fun a ps e t => by
    by_cases z : a = P
    · subst z; exact h1
    · exact ⟨ps, by rw [h2 a z]; exact e, t⟩
  cap := fun _ e _ => e
  vk := fun a m v => by
    obtain ⟨ps, q, _⟩ := (g.tab P hT).1
    obtain ⟨i, j, e⟩ := v
    have z : a ≠ P := fun z => by subst z; rw [q] at e; cases e
    exact ⟨i, j, by rw [h2 a z]; exact e⟩
  keep := fun a n => by
    by_cases z : a = P
    · subst z
      obtain ⟨ps, q, _⟩ := h1
      rw [q]; exact fun z => nomatch z
    · rw [h2 a z]; exact n
/-- the script -/
def ScOk (K : PySem.W.Frag) (M : Mm) (H : Hp) (a : Addr) (is : List Int) : Prop := (Rd H a (.lst (is.map V.int)) ∧ ¬ M a) ∨ ∀ H' : Hp, SqL K H' a (is.map V.int)
theorem ScOk.sql {K : PySem.W.Frag} {M : Mm} {H : Hp} {a : Addr} {is : List Int} (x : ScOk K M H a is) : SqL K H a (is.map V.int) := by
  rcases x with ⟨r, _⟩ | x
  · exact .inl r
  · exact x H
theorem ScOk.step {K : PySem.W.Frag} {M : Mm} {S H S' H' : Hp} {a : Addr} {is : List Int} (x : ScOk K M H a is) (t : Step M S H S' H') : ScOk K M H' a is := by
  rcases x with ⟨r, m⟩ | x
  · refine .inl ⟨?_, m⟩
    rcases r with r | ⟨o, r⟩
    · exact .inl (t.ext a _ r m lst_noT)
    · exact .inr ⟨o, t.ext a _ r m (fun _ q => nomatch q)⟩
  · exact .inr x
/-! ### the slots -/
inductive Sl where
  /-- not known -/
  | un
  /-- what stays -/
  | im (d : D)
  /-- a list of one's own -/
  | ow (ds : List D)
  /-- a caller's list, to be read -/
  | br (ds : List D)
  /-- a list of one's own with lists of one's own -/
  | oo (dss : List (List D))
  /-- the list of two ints that turns -/
  | st
  /-- the law's script, to be read -/
  | sc (is : List Int)

def Owns (K : PySem.W.Frag) (S H : Hp) : List (List D) → List Addr → Prop
  | [], [] => True
  | ds :: dss, a :: as => (∃ vs, H a = some (.lst vs) ∧ Dens K S ds vs) ∧ Owns K S H dss as
  | _, _ => False
def SlOk (K : PySem.W.Frag) (M : Mm) (S H0 H : Hp) (O : List Addr) : Sl → Option (Option V) → Prop
  | .un, _ => True
  | .im d, x => ∃ v, x = some (some v) ∧ Den K S d v
  | .ow ds, x => ∃ a vs, O = [a] ∧ x = some (some (.ref a)) ∧ H a = some (.lst vs) ∧ Dens K S ds vs
  | .br ds, x => ∃ a vs, x = some (some (.ref a)) ∧ H0 a = some (.lst vs) ∧ ¬ M a ∧ Dens K S ds vs
  | .oo dss, x => ∃ a as, O = a :: as ∧ (a :: as).Nodup ∧ x = some (some (.ref a)) ∧ H a = some (.lst (as.map V.ref)) ∧ Owns K S H dss as
  | .st, x => ∃ a, x = some (some (.ref a)) ∧ M a ∧ Vk (H a)
  | .sc is, x => ∃ a, x = some (some (.ref a)) ∧ ScOk K M H0 a is
structure St0 (K : PySem.W.Frag) (M : Mm) (S0 H0 S H : Hp) (env : List Sl) (σ : L2.St) : Prop where
  len : env.length = σ.length
  stp : Step M S0 H0 S H
  gd : Gd M S H
  own : ∃ O : Nat → List Addr, (∀ i j a, a ∈ O i → a ∈ O j → i = j) ∧ (∀ i a, a ∈ O i → ¬ M a ∧ H0 a = none ∧ S a = none ∧ H a ≠ none) ∧ ∀ i s, env[i]? = some s → SlOk K M S H0 H (O i) s (σ[i]?)
section
variable {K : PySem.W.Frag} {M : Mm} {S0 H0 S H S' H' : Hp} {env : List Sl} {σ : L2.St}
theorem Owns.step (t : Step M S H S' H') : ∀ {dss : List (List D)} {as : List Addr}, (∀ a ∈ as, ¬ M a) → Owns K S H dss as → Owns K S' H' dss as
  | [], [], _, _ => trivial
  | ds :: dss, a :: as, m, ⟨⟨vs, e, r⟩, h⟩ =>
    ⟨⟨vs, t.ext a _ e (m a List.mem_cons_self) lst_noT, r.mon t.ss⟩, Owns.step t (fun b hb => m b (List.mem_cons_of_mem _ hb)) h⟩
  | [], _ :: _, _, h => h.elim
  | _ :: _, [], _, h => h.elim
theorem Owns.mon {S1 : Hp} (hs : Sub S S1) : ∀ {dss : List (List D)} {as : List Addr}, Owns K S H dss as → Owns K S1 H dss as
  | [], [], _ => trivial
  | ds :: dss, a :: as, ⟨⟨vs, e, r⟩, h⟩ => ⟨⟨vs, e, r.mon hs⟩, Owns.mon hs h⟩
  | [], _ :: _, h => h.elim
  | _ :: _, [], h => h.elim
theorem Owns.upd {p : Addr} {o : HO} : ∀ {dss : List (List D)} {as : List Addr}, (∀ a ∈ as, a ≠ p) → Owns K S H dss as → Owns K S (upd H p o) dss as
  | [], [], _, _ => trivial
  | ds :: dss, a :: as, m, ⟨⟨vs, e, r⟩, h⟩ => ⟨⟨vs, by rw [upd_ne (m a List.mem_cons_self)]; exact e, r⟩, Owns.upd (fun b hb => m b (List.mem_cons_of_mem _ hb)) h⟩
  | [], _ :: _, _, h => h.elim
  | _ :: _, [], _, h => h.elim
theorem SlOk.step {O : List Addr} {s : Sl} {x : Option (Option V)} (h : SlOk K M S H0 H O s x) (t : Step M S H S' H') (ho : ∀ a ∈ O, ¬ M a) : SlOk K M S' H0 H' O s x := by
  cases s with
  | un => trivial
  | im d => obtain ⟨v, e, r⟩ := h; exact ⟨v, e, r.mon t.ss⟩
  | ow ds =>
    obtain ⟨a, vs, e, e1, e2, r⟩ := h
    exact ⟨a, vs, e, e1, t.ext a _ e2 (ho a (by rw [e]; exact List.mem_cons_self)) lst_noT, r.mon t.ss⟩
  | br ds => obtain ⟨a, vs, e, e1, e2, r⟩ := h; exact ⟨a, vs, e, e1, e2, r.mon t.ss⟩
  | oo dss =>
    obtain ⟨a, as, e, nd, e1, e2, r⟩ := h
    exact ⟨a, as, e, nd, e1, t.ext a _ e2 (ho a (by rw [e]; exact List.mem_cons_self)) lst_noT, r.step t fun b hb => ho b (by rw [e]; exact List.mem_cons_of_mem _ hb)⟩
  | st => obtain ⟨a, e, m, v⟩ := h; exact ⟨a, e, m, t.vk a m v⟩
  | sc is => exact h
theorem St0.step (h : St0 K M S0 H0 S H env σ) (t : Step M S H S' H') : St0 K M S0 H0 S' H' env σ := by
  obtain ⟨len, stp, gd, O, inj, out, sl⟩ := h
  exact ⟨len, stp.trans t, gd.step t, O, inj, fun i a m => ⟨(out i a m).1, (out i a m).2.1, t.cap a (out i a m).2.2.1 (out i a m).2.2.2, t.keep a (out i a m).2.2.2⟩,
    fun i s e => (sl i s e).step t fun a m => (out i a m).1⟩
theorem get_set {α : Type} {l : List α} {i j : Nat} {x y : α} (h : (l.set i x)[j]? = some y) : (j = i ∧ y = x) ∨ (j ≠ i ∧ l[j]? = some y) := by
  by_cases e : j = i
  · subst e
    have hl : j < l.length := by
      have := (List.getElem?_eq_some_iff.mp h).1
      simpa using this
    rw [List.getElem?_set_self hl] at h
    exact .inl ⟨rfl, (Option.some.inj h).symm⟩
  · rw [List.getElem?_set_ne (Ne.symm e)] at h
    exact .inr ⟨e, h⟩
/-- a slot is stored: its new footprint N -/
theorem St0.put (h : St0 K M S0 H0 S H env σ) (i : Nat) (N : List Addr) (s : Sl) (v : Option V) (hN : ∀ a ∈ N, (¬ M a ∧ H0 a = none ∧ S a = none ∧ H a ≠ none))
    (hO : ∀ O : Nat → List Addr, (∀ i a, a ∈ O i → ¬ M a ∧ H0 a = none ∧ S a = none ∧ H a ≠ none) → (∀ i s, env[i]? = some s → SlOk K M S H0 H (O i) s (σ[i]?)) → ∀ j a, a ∈ O j → a ∈ N → j = i) (hs : i < σ.length → SlOk K M S H0 H N s (some v)) : St0 K M S0 H0 S H (env.set i s) (σ.set i v) := by
  obtain ⟨len, stp, gd, O, inj, out, sl⟩ := h
  have dis := hO O out sl
  refine ⟨by simp [len], stp, gd, fun j => if j = i then N else O j, fun a b x ha hb => ?_, fun j a ha => ?_, fun j u hj => ?_⟩
  · by_cases e1 : a = i <;> by_cases e2 : b = i
    · rw [e1, e2]
    · simp only [e1, e2, if_true, if_false] at ha hb
      exact absurd (dis b x hb ha) e2
    · simp only [e1, e2, if_true, if_false] at ha hb
      exact absurd (dis a x ha hb) e1
    · simp only [e1, e2, if_false] at ha hb
      exact inj a b x ha hb
  · by_cases e1 : j = i
    · simp only [e1, if_true] at ha; exact hN a ha
    · simp only [e1, if_false] at ha; exact out j a ha
  · rcases get_set hj with ⟨e, e2⟩ | ⟨e, e2⟩
    · subst e; subst e2
      have hl : j < σ.length := by
        have := (List.getElem?_eq_some_iff.mp hj).1
        simpa [len] using this
      rw [List.getElem?_set_self hl]
      simp only [if_true]
      exact hs hl
    · rw [List.getElem?_set_ne (Ne.symm e)]
      simp only [e, if_false]
      exact sl j u e2
theorem St0.putIm (h : St0 K M S0 H0 S H env σ) (i : Nat) {d : D} {v : V} (r : Den K S d v) : St0 K M S0 H0 S H (env.set i (.im d)) (σ.set i (some v)) :=
  h.put i [] (.im d) (some v) (fun _ z => nomatch z) (fun _ _ _ _ _ _ z => nomatch z) fun _ => ⟨v, rfl, r⟩
theorem St0.putUn (h : St0 K M S0 H0 S H env σ) (i : Nat) (v : Option V) : St0 K M S0 H0 S H (env.set i .un) (σ.set i v) :=
  h.put i [] .un v (fun _ z => nomatch z) (fun _ _ _ _ _ _ z => nomatch z) fun _ => trivial
/-- a new list becomes a slot's own -/
theorem St0.putOw (h : St0 K M S0 H0 S H env σ) (t : Step M S H S' H') (i : Nat) {p : Addr} {vs : List V} {ds : List D} (hp : H p = none) (hs : S' p = none) (e : H' p = some (.lst vs)) (r : Dens K S' ds vs) :
    St0 K M S0 H0 S' H' (env.set i (.ow ds)) (σ.set i (some (.ref p))) := by
  have h0 : H0 p = none := by
    cases q : H0 p with
    | none => rfl
    | some o => exact absurd hp (h.stp.keep p (by rw [q]; exact fun z => nomatch z))
  obtain ⟨len, stp, gd, O, inj, out, sl⟩ := h
  have h' : St0 K M S0 H0 S' H' env σ := St0.step ⟨len, stp, gd, O, inj, out, sl⟩ t
  -- the footprints of before: not p
  obtain ⟨_, stp', gd', _⟩ := h'
  refine ⟨by simp [len], stp', gd', fun j => if j = i then [p] else O j, fun a b x ha hb => ?_, fun j a ha => ?_, fun j u hj => ?_⟩
  · have nop : ∀ j, p ∉ O j := fun j z => (out j p z).2.2.2 hp
    by_cases e1 : a = i <;> by_cases e2 : b = i
    · rw [e1, e2]
    · simp only [e1, e2, if_true, if_false, List.mem_singleton] at ha hb
      subst ha
      exact absurd hb (nop b)
    · simp only [e1, e2, if_true, if_false, List.mem_singleton] at ha hb
      subst hb
      exact absurd ha (nop a)
    · simp only [e1, e2, if_false] at ha hb
      exact inj a b x ha hb
  · by_cases e1 : j = i
    · simp only [e1, if_true, List.mem_singleton] at ha
      subst ha
      exact ⟨gd.notM hp, h0, hs, by rw [e]; exact fun z => nomatch z⟩
    · simp only [e1, if_false] at ha
      exact ⟨(out j a ha).1, (out j a ha).2.1, t.cap a (out j a ha).2.2.1 (out j a ha).2.2.2, t.keep a (out j a ha).2.2.2⟩
  · rcases get_set hj with ⟨e1, e2⟩ | ⟨e1, e2⟩
    · subst e1; subst e2
      have hl : j < σ.length := by
        have := (List.getElem?_eq_some_iff.mp hj).1
        simpa [len] using this
      rw [List.getElem?_set_self hl]
      simp only [if_true]
      exact ⟨p, vs, rfl, rfl, e, r⟩
    · rw [List.getElem?_set_ne (Ne.symm e1)]
      simp only [e1, if_false]
      exact (sl j u e2).step t fun a m => (out j a m).1
/-- a slot's own list is changed -/
theorem St0.mut (h : St0 K M S0 H0 S H env σ) {i : Nat} {ds : List D} (hi : env[i]? = some (.ow ds)) :
    ∃ a vs, σ[i]? = some (some (.ref a)) ∧ H a = some (.lst vs) ∧ Dens K S ds vs ∧ ¬ M a ∧ S a = none ∧ ∀ vs' ds', Dens K S ds' vs' → St0 K M S0 H0 S (upd H a (.lst vs')) (env.set i (.ow ds')) σ := by
  obtain ⟨len, stp, gd, O, inj, out, sl⟩ := h
  obtain ⟨a, vs, eO, e1, e2, r⟩ := sl i _ hi
  have oa := out i a (by rw [eO]; exact List.mem_cons_self)
  have nS : ∀ b o, S b = some o → b ≠ a := fun b o e => ne_of_none e oa.2.2.1
  refine ⟨a, vs, e1, e2, r, oa.1, oa.2.2.1, fun vs' ds' r' => ⟨by simp [len], ⟨stp.ss, fun b o e => ?_, fun b o e m n => ?_, fun b ps e t => ?_, stp.cap, fun b m v => ?_, fun b n => ?_⟩, ⟨fun b o e => ?_, fun b m => ?_, fun p m => ?_⟩, O, inj, fun j b hb => ?_, fun j u hj => ?_⟩⟩
  · rw [upd_ne (nS b o e)]; exact stp.sh b o e
  · rw [upd_ne (ne_of_none e oa.2.1)]; exact stp.ext b o e m n
  · obtain ⟨qs, q1, q2⟩ := stp.tb b ps e t
    exact ⟨qs, by rw [upd_ne (ne_of_none e oa.2.1)]; exact q1, q2⟩
  · have : b ≠ a := fun z => by subst z; exact oa.1 m
    rw [upd_ne this]; exact stp.vk b m v
  · by_cases z : b = a
    · subst z; rw [upd_same]; exact fun q => nomatch q
    · rw [upd_ne z]; exact stp.keep b n
  · rw [upd_ne (nS b o e)]; exact gd.sub b o e
  · have : b ≠ a := fun z => by subst z; exact oa.1 m
    rw [upd_ne this]; exact gd.vol b m
  · obtain ⟨⟨ps, e, ok⟩, n⟩ := gd.tab p m
    exact ⟨⟨ps, by rw [upd_ne (ne_of e e2 (fun z => nomatch z))]; exact e, ok⟩, n⟩
  · obtain ⟨o1, o2, o3, o4⟩ := out j b hb
    refine ⟨o1, o2, o3, ?_⟩
    by_cases z : b = a
    · subst z; rw [upd_same]; exact fun q => nomatch q
    · rw [upd_ne z]; exact o4
  · rcases get_set hj with ⟨e, e'⟩ | ⟨e, e'⟩
    · subst e; subst e'
      exact ⟨a, vs', eO, e1, upd_same, r'⟩
    · have na : ∀ b ∈ O j, b ≠ a := fun b hb z => by
        subst z
        exact e (inj j i b hb (by rw [eO]; exact List.mem_cons_self))
      have q := sl j u e'
      cases u with
      | un => trivial
      | im d => exact q
      | ow es =>
        obtain ⟨b, us, f1, f2, f3, f4⟩ := q
        exact ⟨b, us, f1, f2, by rw [upd_ne (na b (by rw [f1]; exact List.mem_cons_self))]; exact f3, f4⟩
      | br es => exact q
      | oo dss =>
        obtain ⟨b, bs, f1, f2, f3, f4, f5⟩ := q
        exact ⟨b, bs, f1, f2, f3, by rw [upd_ne (na b (by rw [f1]; exact List.mem_cons_self))]; exact f4, f5.upd fun c hc => na c (by rw [f1]; exact List.mem_cons_of_mem _ hc)⟩
      | st =>
        obtain ⟨b, f1, f2, f3⟩ := q
        have : b ≠ a := fun z => by subst z; exact oa.1 f2
        exact ⟨b, f1, f2, by rw [upd_ne this]; exact f3⟩
      | sc is => exact q
/-- a slot's own list becomes what stays -/
theorem St0.frz (h : St0 K M S0 H0 S H env σ) {i : Nat} {ds : List D} (hi : env[i]? = some (.ow ds)) :
    ∃ a vs, σ[i]? = some (some (.ref a)) ∧ H a = some (.lst vs) ∧ S a = none ∧ H0 a = none ∧ Dens K S ds vs ∧ Sub S (upd S a (.lst vs)) ∧ St0 K M S0 H0 (upd S a (.lst vs)) H (env.set i (.im (.list ds))) σ := by
  obtain ⟨len, stp, gd, O, inj, out, sl⟩ := h
  obtain ⟨a, vs, eO, e1, e2, r⟩ := sl i _ hi
  have oa := out i a (by rw [eO]; exact List.mem_cons_self)
  have hd := Step.hold gd.sub e2 oa.2.2.1
  refine ⟨a, vs, e1, e2, oa.2.2.1, oa.2.1, r, hd.1, by simp [len], stp.hold' e2 oa.2.2.1 oa.2.1, ⟨hd.2, fun b m => ⟨(gd.vol b m).1, ?_⟩, fun p m => ⟨(gd.tab p m).1, by
    obtain ⟨⟨ps, e, ok⟩, n⟩ := gd.tab p m
    rw [upd_ne (ne_of e e2 (fun z => nomatch z))]; exact n⟩⟩, fun j => if j = i then [] else O j, fun x y b hx hy => ?_, fun j b hb => ?_, fun j u hj => ?_⟩
  · have : b ≠ a := fun z => by subst z; exact oa.1 m
    rw [upd_ne this]; exact (gd.vol b m).2
  · by_cases z : x = i
    · simp [z] at hx
    · by_cases z' : y = i
      · simp [z'] at hy
      · simp only [z, z', if_false] at hx hy
        exact inj x y b hx hy
  · by_cases z : j = i
    · simp [z] at hb
    · simp only [z, if_false] at hb
      obtain ⟨o1, o2, o3, o4⟩ := out j b hb
      refine ⟨o1, o2, ?_, o4⟩
      have : b ≠ a := fun z' => by
        subst z'
        exact z (inj j i b hb (by rw [eO]; exact List.mem_cons_self))
      rw [upd_ne this]; exact o3
  · have up : ∀ {O' : List Addr} {u : Sl} {x : Option (Option V)}, SlOk K M S H0 H O' u x → SlOk K M (upd S a (.lst vs)) H0 H O' u x := fun {O' u x} q => by
      cases u with
      | un => trivial
      | im d => obtain ⟨v, q1, q2⟩ := q; exact ⟨v, q1, q2.mon hd.1⟩
      | ow es => obtain ⟨b, us, f1, f2, f3, f4⟩ := q; exact ⟨b, us, f1, f2, f3, f4.mon hd.1⟩
      | br es => obtain ⟨b, us, f1, f2, f3, f4⟩ := q; exact ⟨b, us, f1, f2, f3, f4.mon hd.1⟩
      | oo dss =>
        obtain ⟨b, bs, f1, f2, f3, f4, f5⟩ := q
        exact ⟨b, bs, f1, f2, f3, f4, f5.mon hd.1⟩
      | st => exact q
      | sc is => exact q
    rcases get_set hj with ⟨e, e'⟩ | ⟨e, e'⟩
    · subst e; subst e'
      exact ⟨_, e1, .lst upd_same (r.mon hd.1)⟩
    · simp only [e, if_false]
      exact up (sl j u e')
/-- a slot with lists of one's own is changed at one of them -/
theorem St0.chg (h : St0 K M S0 H0 S H env σ) {i : Nat} {s : Sl} (hi : env[i]? = some s) :
    ∃ N, (∀ a ∈ N, ¬ M a ∧ H0 a = none ∧ S a = none ∧ H a ≠ none) ∧ SlOk K M S H0 H N s (σ[i]?) ∧ ∀ a vs vs' s', a ∈ N → H a = some (.lst vs) → SlOk K M S H0 (upd H a (.lst vs')) N s' (σ[i]?) → St0 K M S0 H0 S (upd H a (.lst vs')) (env.set i s') σ := by
  obtain ⟨len, stp, gd, O, inj, out, sl⟩ := h
  refine ⟨O i, fun a ha => out i a ha, sl i s hi, fun a vs vs' s' ha e2 hs' => ?_⟩
  have oa := out i a ha
  have nS : ∀ b o, S b = some o → b ≠ a := fun b o e => ne_of_none e oa.2.2.1
  refine ⟨by simp [len], ⟨stp.ss, fun b o e => ?_, fun b o e m n => ?_, fun b ps e t => ?_, stp.cap, fun b m v => ?_, fun b n => ?_⟩, ⟨fun b o e => ?_, fun b m => ?_, fun p m => ?_⟩, O, inj, fun j b hb => ?_, fun j u hj => ?_⟩
  · rw [upd_ne (nS b o e)]; exact stp.sh b o e
  · rw [upd_ne (ne_of_none e oa.2.1)]; exact stp.ext b o e m n
  · obtain ⟨qs, q1, q2⟩ := stp.tb b ps e t
    exact ⟨qs, by rw [upd_ne (ne_of_none e oa.2.1)]; exact q1, q2⟩
  · have : b ≠ a := fun z => by subst z; exact oa.1 m
    rw [upd_ne this]; exact stp.vk b m v
  · by_cases z : b = a
    · subst z; rw [upd_same]; exact fun q => nomatch q
    · rw [upd_ne z]; exact stp.keep b n
  · rw [upd_ne (nS b o e)]; exact gd.sub b o e
  · have : b ≠ a := fun z => by subst z; exact oa.1 m
    rw [upd_ne this]; exact gd.vol b m
  · obtain ⟨⟨ps, e, ok⟩, n⟩ := gd.tab p m
    exact ⟨⟨ps, by rw [upd_ne (ne_of e e2 (fun z => nomatch z))]; exact e, ok⟩, n⟩
  · obtain ⟨o1, o2, o3, o4⟩ := out j b hb
    refine ⟨o1, o2, o3, ?_⟩
    by_cases z : b = a
    · subst z; rw [upd_same]; exact fun q => nomatch q
    · rw [upd_ne z]; exact o4
  · rcases get_set hj with ⟨e, e'⟩ | ⟨e, e'⟩
    · subst e; subst e'
      exact hs'
    · have na : ∀ b ∈ O j, b ≠ a := fun b hb z => by
        subst z
        exact e (inj j i b hb ha)
      have q := sl j u e'
      cases u with
      | un => trivial
      | im d => exact q
      | ow es =>
        obtain ⟨b, us, f1, f2, f3, f4⟩ := q
        exact ⟨b, us, f1, f2, by rw [upd_ne (na b (by rw [f1]; exact List.mem_cons_self))]; exact f3, f4⟩
      | br es => exact q
      | oo dss =>
        obtain ⟨b, bs, f1, f2, f3, f4, f5⟩ := q
        exact ⟨b, bs, f1, f2, f3, by rw [upd_ne (na b (by rw [f1]; exact List.mem_cons_self))]; exact f4, f5.upd fun c hc => na c (by rw [f1]; exact List.mem_cons_of_mem _ hc)⟩
      | st =>
        obtain ⟨b, f1, f2, f3⟩ := q
        have : b ≠ a := fun z => by subst z; exact oa.1 f2
        exact ⟨b, f1, f2, by rw [upd_ne this]; exact f3⟩
      | sc is => exact q
/-- new lists become a slot's own -/
theorem St0.putN (h : St0 K M S0 H0 S H env σ) (t : Step M S H S' H') (i : Nat) (N : List Addr) (s : Sl) (v : V) (hp : ∀ p ∈ N, H p = none ∧ S' p = none ∧ H' p ≠ none) (hs : SlOk K M S' H0 H' N s (some (some v))) :
    St0 K M S0 H0 S' H' (env.set i s) (σ.set i (some v)) := by
  have h0 : ∀ p ∈ N, H0 p = none := fun p hpm => by
    cases q : H0 p with
    | none => rfl
    | some o => exact absurd (hp p hpm).1 (h.stp.keep p (by rw [q]; exact fun z => nomatch z))
  obtain ⟨len, stp, gd, O, inj, out, sl⟩ := h
  have h' : St0 K M S0 H0 S' H' env σ := St0.step ⟨len, stp, gd, O, inj, out, sl⟩ t
  obtain ⟨_, stp', gd', _⟩ := h'
  refine ⟨by simp [len], stp', gd', fun j => if j = i then N else O j, fun a b x ha hb => ?_, fun j a ha => ?_, fun j u hj => ?_⟩
  · have nop : ∀ j, ∀ p ∈ N, p ∉ O j := fun j p hpm z => (out j p z).2.2.2 (hp p hpm).1
    by_cases e1 : a = i <;> by_cases e2 : b = i
    · rw [e1, e2]
    · simp only [e1, e2, if_true, if_false] at ha hb
      exact absurd hb (nop b x ha)
    · simp only [e1, e2, if_true, if_false] at ha hb
      exact absurd ha (nop a x hb)
    · simp only [e1, e2, if_false] at ha hb
      exact inj a b x ha hb
  · by_cases e1 : j = i
    · simp only [e1, if_true] at ha
      exact ⟨gd.notM (hp a ha).1, h0 a ha, (hp a ha).2.1, (hp a ha).2.2⟩
    · simp only [e1, if_false] at ha
      exact ⟨(out j a ha).1, (out j a ha).2.1, t.cap a (out j a ha).2.2.1 (out j a ha).2.2.2, t.keep a (out j a ha).2.2.2⟩
  · rcases get_set hj with ⟨e1, e2⟩ | ⟨e1, e2⟩
    · subst e1; subst e2
      have hl : j < σ.length := by
        have := (List.getElem?_eq_some_iff.mp hj).1
        simpa [len] using this
      rw [List.getElem?_set_self hl]
      simp only [if_true]
      exact hs
    · rw [List.getElem?_set_ne (Ne.symm e1)]
      simp only [e1, if_false]
      exact (sl j u e2).step t fun a m => (out j a m).1
theorem Owns.ne : ∀ {dss : List (List D)} {as : List Addr}, Owns K S H dss as → ∀ a ∈ as, H a ≠ none
  | [], [], _, a, h => nomatch h
  | ds :: dss, b :: as, ⟨⟨vs, e, _⟩, h⟩, a, ha => by
    rcases List.mem_cons.mp ha with z | z
    · subst z; rw [e]; exact fun q => nomatch q
    · exact h.ne a z
  | [], _ :: _, h, _, _ => h.elim
  | _ :: _, [], h, _, _ => h.elim
theorem Owns.lst : ∀ {dss : List (List D)} {as : List Addr}, Owns K S H dss as → ∀ a ∈ as, ∃ vs, H a = some (.lst vs)
  | [], [], _, a, h => nomatch h
  | ds :: dss, b :: as, ⟨⟨vs, e, _⟩, h⟩, a, ha => by
    rcases List.mem_cons.mp ha with z | z
    · subst z; exact ⟨vs, e⟩
    · exact h.lst a z
  | [], _ :: _, h, _, _ => h.elim
  | _ :: _, [], h, _, _ => h.elim
/-- all become what stays -/
theorem Owns.hold : ∀ {dss : List (List D)} {as : List Addr} {S : Hp}, Sub S H → as.Nodup → (∀ a ∈ as, S a = none) → Owns K S H dss as → ∃ S2, Sub S S2 ∧ Sub S2 H ∧ (∀ b, b ∉ as → S2 b = S b) ∧ Dens K S2 (dss.map PyData.list) (as.map V.ref)
  | [], [], S, g, _, _, _ => ⟨S, fun _ _ e => e, g, fun _ _ => rfl, .nil⟩
  | ds :: dss, a :: as, S, g, nd, hn, ⟨⟨vs, e, r⟩, h⟩ => by
    obtain ⟨n1, n2⟩ := List.nodup_cons.mp nd
    have ha := hn a List.mem_cons_self
    have hd := Step.hold g e ha
    obtain ⟨S2, k1, k2, k3, k4⟩ := Owns.hold (S := L2.upd S a (.lst vs)) hd.2 n2 (fun b hb => by
      have : b ≠ a := fun z => n1 (z ▸ hb)
      rw [upd_ne this]; exact hn b (List.mem_cons_of_mem _ hb)) (h.mon hd.1)
    refine ⟨S2, fun b o q => k1 b o (hd.1 b o q), k2, fun b hb => ?_, .cons (.lst (k1 a _ upd_same) ((r.mon hd.1).mon k1)) k4⟩
    have hne : b ≠ a := fun z => by subst z; exact hb List.mem_cons_self
    rw [k3 b fun z => hb (List.mem_cons_of_mem _ z), upd_ne hne]
  | [], _ :: _, _, _, _, _, h => h.elim
  | _ :: _, [], _, _, _, _, h => h.elim
/-- a slot with lists of one's own becomes what stays -/
theorem St0.frzO (h : St0 K M S0 H0 S H env σ) {i : Nat} {dss : List (List D)} (hi : env[i]? = some (.oo dss)) :
    ∃ S2, Sub S S2 ∧ St0 K M S0 H0 S2 H (env.set i (.im (.list (dss.map PyData.list)))) σ := by
  obtain ⟨len, stp, gd, O, inj, out, sl⟩ := h
  obtain ⟨a, as, eO, nd, e1, e2, ow⟩ := sl i _ hi
  obtain ⟨n1, n2⟩ := List.nodup_cons.mp nd
  have oN : ∀ b ∈ O i, ¬ M b ∧ H0 b = none ∧ S b = none ∧ H b ≠ none := fun b hb => out i b hb
  obtain ⟨S1, k1, k2, k3, k4⟩ := ow.hold gd.sub n2 fun b hb => (oN b (by rw [eO]; exact List.mem_cons_of_mem _ hb)).2.2.1
  have ha1 : S1 a = none := by rw [k3 a n1]; exact (oN a (by rw [eO]; exact List.mem_cons_self)).2.2.1
  have hd := Step.hold k2 e2 ha1
  have keepS : ∀ b, b ∉ O i → upd S1 a (.lst (as.map V.ref)) b = S b := fun b hb => by
    rw [eO] at hb
    have hne : b ≠ a := fun z => by subst z; exact hb List.mem_cons_self
    rw [upd_ne hne, k3 b fun z => hb (List.mem_cons_of_mem _ z)]
  have sub2 : Sub S (upd S1 a (.lst (as.map V.ref))) := fun b o q => hd.1 b o (k1 b o q)
  refine ⟨_, sub2, by simp [len], ⟨fun b o q => sub2 b o (stp.ss b o q), hd.2, stp.ext, stp.tb, fun b q n => ?_, stp.vk, stp.keep⟩, ⟨hd.2, fun b m => ⟨(gd.vol b m).1, ?_⟩, fun p m => ⟨(gd.tab p m).1, ?_⟩⟩, fun j => if j = i then [] else O j, fun x y b hx hy => ?_, fun j b hb => ?_, fun j u hj => ?_⟩
  · rw [keepS b fun z => n (oN b z).2.1]; exact stp.cap b q n
  · rw [keepS b fun z => (oN b z).1 m]; exact (gd.vol b m).2
  · obtain ⟨⟨ps, e, ok⟩, n⟩ := gd.tab p m
    rw [keepS p fun z => by
      rw [eO] at z
      rcases List.mem_cons.mp z with q | q
      · subst q; rw [e2] at e; cases e
      · obtain ⟨vs, hv⟩ := ow.lst p q
        rw [hv] at e; cases e]
    exact n
  · by_cases z : x = i
    · simp [z] at hx
    · by_cases z' : y = i
      · simp [z'] at hy
      · simp only [z, z', if_false] at hx hy
        exact inj x y b hx hy
  · by_cases z : j = i
    · simp [z] at hb
    · simp only [z, if_false] at hb
      obtain ⟨o1, o2, o3, o4⟩ := out j b hb
      refine ⟨o1, o2, ?_, o4⟩
      rw [keepS b fun q => z (inj j i b hb q)]; exact o3
  · rcases get_set hj with ⟨e, e'⟩ | ⟨e, e'⟩
    · subst e; subst e'
      exact ⟨_, e1, .lst upd_same (k4.mon hd.1)⟩
    · simp only [e, if_false]
      have q := sl j u e'
      cases u with
      | un => trivial
      | im d => obtain ⟨v, q1, q2⟩ := q; exact ⟨v, q1, q2.mon sub2⟩
      | ow es => obtain ⟨b, us, f1, f2, f3, f4⟩ := q; exact ⟨b, us, f1, f2, f3, f4.mon sub2⟩
      | br es => obtain ⟨b, us, f1, f2, f3, f4⟩ := q; exact ⟨b, us, f1, f2, f3, f4.mon sub2⟩
      | oo dss =>
        obtain ⟨b, bs, f1, f2, f3, f4, f5⟩ := q
        exact ⟨b, bs, f1, f2, f3, f4, f5.mon sub2⟩
      | st => exact q
      | sc is => exact q
/-- forgetting a slot -/
theorem St0.drp (h : St0 K M S0 H0 S H env σ) (i : Nat) : St0 K M S0 H0 S H (env.set i .un) σ := by
  obtain ⟨len, stp, gd, O, inj, out, sl⟩ := h
  refine ⟨by simp [len], stp, gd, O, inj, out, fun j u hj => ?_⟩
  rcases get_set hj with ⟨e, e'⟩ | ⟨e, e'⟩
  · subst e'; trivial
  · exact sl j u e'
end
end FP
namespace FP
open PySem PySem.Spec PyProof.Rows L2

/-! ### readings over data -/
def Bor (K : PySem.W.Frag) (M : Mm) (S H : Hp) (d : D) (v : V) : Prop :=
  Den K S d v ∨ ∃ a ds vs, d = .list ds ∧ v = .ref a ∧ H a = some (.lst vs) ∧ ¬ M a ∧ Dens K S ds vs
inductive Bors (K : PySem.W.Frag) (M : Mm) (S H : Hp) : List Bool → List D → List V → Prop
  | nil : Bors K M S H [] [] []
  | im {ms : List Bool} {d : D} {v : V} {ds : List D} {vs : List V} : Den K S d v → Bors K M S H ms ds vs → Bors K M S H (true :: ms) (d :: ds) (v :: vs)
  | br {ms : List Bool} {d : D} {v : V} {ds : List D} {vs : List V} : Bor K M S H d v → Bors K M S H ms ds vs → Bors K M S H (false :: ms) (d :: ds) (v :: vs)
section
variable {K : PySem.W.Frag} {M : Mm} {S H S' H' : Hp}
theorem Bor.step {d : D} {v : V} (b : Bor K M S H d v) (t : Step M S H S' H') : Bor K M S' H' d v := by
  rcases b with b | ⟨a, ds, vs, e1, e2, e3, e4, r⟩
  · exact .inl (b.mon t.ss)
  · exact .inr ⟨a, ds, vs, e1, e2, t.ext a _ e3 e4 lst_noT, e4, r.mon t.ss⟩
theorem Bors.step (t : Step M S H S' H') : ∀ {ms : List Bool} {ds : List D} {vs : List V}, Bors K M S H ms ds vs → Bors K M S' H' ms ds vs
  | _, _, _, .nil => .nil
  | _, _, _, .im r b => .im (r.mon t.ss) (Bors.step t b)
  | _, _, _, .br r b => .br (r.step t) (Bors.step t b)
theorem Bor.int {i : Int} {v : V} (b : Bor K M S H (.int i) v) : v = .int i := by
  rcases b with b | ⟨a, ds, vs, e1, _⟩
  · cases b; rfl
  · cases e1
theorem Bor.bl {i : Bool} {v : V} (b : Bor K M S H (.bool i) v) : v = .bl i := by
  rcases b with b | ⟨a, ds, vs, e1, _⟩
  · cases b; rfl
  · cases e1
theorem Bor.str {i : Str} {v : V} (b : Bor K M S H (.str i) v) : v = .str i := by
  rcases b with b | ⟨a, ds, vs, e1, _⟩
  · cases b; rfl
  · cases e1
theorem Bor.lst {ds : List D} {v : V} (g : Gd M S H) (b : Bor K M S H (.list ds) v) : ∃ a vs, v = .ref a ∧ H a = some (.lst vs) ∧ ¬ M a ∧ Dens K S ds vs := by
  rcases b with b | ⟨a, es, vs, e1, e2, e3, e4, r⟩
  · cases b with
    | lst e r => exact ⟨_, _, rfl, g.sub _ _ e, (fun m => by rw [(g.vol _ m).2] at e; cases e), r⟩
  · cases e1; exact ⟨a, vs, e2, e3, e4, r⟩
theorem Bor.tup {ds : List D} {v : V} (g : Gd M S H) (b : Bor K M S H (.tuple ds) v) : ∃ a vs, v = .ref a ∧ SqT K S a vs ∧ Dens K S ds vs := by
  rcases b with b | ⟨a, es, vs, e1, _⟩
  · cases b with
    | tup e r => exact ⟨_, _, rfl, e.sqt, r⟩
  · cases e1
theorem Bor.tupn {ds : List D} {v : V} (g : Gd M S H) (b : Bor K M S H (.tuple ds) v) : ∃ a vs, v = .ref a ∧ TupN K S a vs ∧ Dens K S ds vs := by
  rcases b with b | ⟨a, es, vs, e1, _⟩
  · cases b with
    | tup e r => exact ⟨_, _, rfl, e, r⟩
  · cases e1
theorem DpAll.mon (h : Sub S S') {vs : List V} {ds : List D} (r : Dens K S ds vs) : DpAll K S' vs ds := Dens.dp ds vs (r.mon h)
theorem Bor.dp {d : D} {v : V} (g : Gd M S H) (b : Bor K M S H d v) : Dp K H v d := by
  rcases b with b | ⟨a, ds, vs, rfl, rfl, e, _, r⟩
  · exact Den.dp d v (b.mon g.sub)
  · exact .lst (.inl (.inl e)) (DpAll.mon g.sub r)
theorem Bors.length : ∀ {ms : List Bool} {ds : List D} {vs : List V}, Bors K M S H ms ds vs → ds.length = vs.length ∧ ms.length = vs.length
  | _, _, _, .nil => ⟨rfl, rfl⟩
  | _, _, _, .im _ b => ⟨by simp [b.length.1], by simp [b.length.2]⟩
  | _, _, _, .br _ b => ⟨by simp [b.length.1], by simp [b.length.2]⟩
end

section
variable (K : PySem.W.Frag) (M : Mm)
def RdE (te : TE) (env : List Sl) (P : D → Prop) : Prop :=
  ∀ S0 H0 σ S H, St0 K M S0 H0 S H env σ → ∀ Q : VK, (∀ d v S' H', P d → Den K S' d v → Step M S H S' H' → Q v H') → te σ H Q
def RdB (te : TE) (env : List Sl) (P : D → Prop) : Prop :=
  ∀ S0 H0 σ S H, St0 K M S0 H0 S H env σ → ∀ Q : VK, (∀ d v S' H', P d → Bor K M S' H' d v → Step M S H S' H' → Q v H') → te σ H Q
/-- a new list -/
def RdF (te : TE) (env : List Sl) (P : List D → Prop) : Prop :=
  ∀ S0 H0 σ S H, St0 K M S0 H0 S H env σ → ∀ Q : VK, (∀ ds p vs S' H', P ds → H p = none → S' p = none → H' p = some (.lst vs) → Dens K S' ds vs → Step M S H S' H' → Q (.ref p) H') → te σ H Q
def RdA (ta : TA) (env : List Sl) (ms : List Bool) (P : List D → Prop) : Prop :=
  ∀ S0 H0 σ S H, St0 K M S0 H0 S H env σ → ∀ Q : List V → Hp → Prop, (∀ ds vs S' H', P ds → Bors K M S' H' ms ds vs → Step M S H S' H' → Q vs H') → ta σ H Q
def RdT (tt : TT) (env : List Sl) (P : Bool → Prop) : Prop :=
  ∀ S0 H0 σ S H, St0 K M S0 H0 S H env σ → ∀ Q : Bool → Hp → Prop, (∀ b S' H', P b → Step M S H S' H' → Q b H') → tt σ H Q
def Sem2 (r : R2) (d e : D) (T : D → Prop) : Prop :=
  ∀ S H x y, Gd M S H → Bor K M S H d x → Bor K M S H e y → ∀ Q : VK, (∀ t v S' H', T t → Den K S' t v → Step M S H S' H' → Q v H') → r x y H Q
def Sem2F (r : R2) (d e : D) (T : List D → Prop) : Prop :=
  ∀ S H x y, Gd M S H → Bor K M S H d x → Bor K M S H e y → ∀ Q : VK, (∀ ds p vs S' H', T ds → H p = none → S' p = none → H' p = some (.lst vs) → Dens K S' ds vs → Step M S H S' H' → Q (.ref p) H') → r x y H Q
def Sem1 (r : V → Hp → VK → Prop) (d : D) (T : D → Prop) : Prop :=
  ∀ S H x, Gd M S H → Bor K M S H d x → ∀ Q : VK, (∀ t v S' H', T t → Den K S' t v → Step M S H S' H' → Q v H') → r x H Q
/-- of an argument list, by values -/
def SemA (r : List V → Hp → VK → Prop) (ms : List Bool) (ds : List D) (T : D → Prop) : Prop :=
  ∀ S H xs, Gd M S H → Bors K M S H ms ds xs → ∀ Q : VK, (∀ t v S' H', T t → Den K S' t v → Step M S H S' H' → Q v H') → r xs H Q
def SemAF (r : List V → Hp → VK → Prop) (ms : List Bool) (ds : List D) (T : List D → Prop) : Prop :=
  ∀ S H xs, Gd M S H → Bors K M S H ms ds xs → ∀ Q : VK, (∀ es p vs S' H', T es → H p = none → S' p = none → H' p = some (.lst vs) → Dens K S' es vs → Step M S H S' H' → Q (.ref p) H') → r xs H Q
end
section
variable {K : PySem.W.Frag} {M : Mm} {env : List Sl} {ta tb tc te : TE} {P T : D → Prop} {Q : D → D → Prop}
theorem RdE.b (h : RdE K M te env P) : RdB K M te env P := fun S0 H0 σ S H st Q q => h S0 H0 σ S H st Q fun d v S' H' p r t => q d v S' H' p (.inl r) t
theorem RdE.imp {P' : D → Prop} (h : RdE K M te env P) (i : ∀ d, P d → P' d) : RdE K M te env P' := fun S0 H0 σ S H st Q q => h S0 H0 σ S H st Q fun d v S' H' p r t => q d v S' H' (i d p) r t
theorem RdF.imp {P P' : List D → Prop} (h : RdF K M te env P) (i : ∀ d, P d → P' d) : RdF K M te env P' := fun S0 H0 σ S H st Q q => h S0 H0 σ S H st Q fun ds p vs S' H' pp => q ds p vs S' H' (i ds pp)
theorem RdF.e {P : List D → Prop} (h : RdF K M te env P) : RdE K M te env (fun d => ∃ ds, d = .list ds ∧ P ds) := fun S0 H0 σ S H st Q q => h S0 H0 σ S H st Q fun ds p vs S' H' pp h1 h2 h3 r t =>
  q (.list ds) (.ref p) (upd S' p (.lst vs)) H' ⟨ds, rfl, pp⟩ (.lst upd_same (r.mon (Step.hold t.sh h3 h2).1)) (t.hold' h3 h2 h1)
theorem RdE.op {r : R2} (ha : RdB K M ta env P) (hb : ∀ d, P d → RdB K M tb env (Q d)) (hr : ∀ d e, P d → Q d e → Sem2 K M r d e T) : RdE K M (tOp r ta tb) env T := fun S0 H0 σ S H st Qv q => by
  refine ha _ _ _ _ _ st _ fun d x S1 H1 pd bx t1 => ?_
  refine hb d pd _ _ _ _ _ (st.step t1) _ fun e y S2 H2 qe by' t2 => ?_
  exact hr d e pd qe S2 H2 x y ((st.step t1).step t2).gd (bx.step t2) by' Qv fun t v S' H' tt dn t3 => q t v S' H' tt dn ((t1.trans t2).trans t3)
theorem RdF.op {r : R2} {T : List D → Prop} (ha : RdB K M ta env P) (hb : ∀ d, P d → RdB K M tb env (Q d)) (hr : ∀ d e, P d → Q d e → Sem2F K M r d e T) : RdF K M (tOp r ta tb) env T := fun S0 H0 σ S H st Qv q => by
  refine ha _ _ _ _ _ st _ fun d x S1 H1 pd bx t1 => ?_
  refine hb d pd _ _ _ _ _ (st.step t1) _ fun e y S2 H2 qe by' t2 => ?_
  refine hr d e pd qe S2 H2 x y ((st.step t1).step t2).gd (bx.step t2) by' Qv fun ds p vs S' H' tt h1 h2 h3 dn t3 => q ds p vs S' H' tt ?_ h2 h3 dn ((t1.trans t2).trans t3)
  cases z : H p with
  | none => rfl
  | some o => exact absurd h1 ((t1.trans t2).keep p (by rw [z]; exact fun z => nomatch z))
theorem RdE.un {r : V → Hp → VK → Prop} (ha : RdB K M ta env P) (hr : ∀ d, P d → Sem1 K M r d T) : RdE K M (tUn r ta) env T := fun S0 H0 σ S H st Qv q => by
  refine ha _ _ _ _ _ st _ fun d x S1 H1 pd bx t1 => ?_
  exact hr d pd S1 H1 x (st.step t1).gd bx Qv fun t v S' H' tt dn t3 => q t v S' H' tt dn (t1.trans t3)
theorem RdE.cb {r : List V → Hp → VK → Prop} {tl : TA} {ms : List Bool} {A : List D → Prop} (ha : RdA K M tl env ms A) (hr : ∀ ds, A ds → SemA K M r ms ds T) : RdE K M (tCB r tl) env T := fun S0 H0 σ S H st Qv q => by
  refine ha _ _ _ _ _ st _ fun ds xs S1 H1 pd bx t1 => ?_
  exact hr ds pd S1 H1 xs (st.step t1).gd bx Qv fun t v S' H' tt dn t3 => q t v S' H' tt dn (t1.trans t3)
theorem RdF.cb {r : List V → Hp → VK → Prop} {tl : TA} {ms : List Bool} {A : List D → Prop} {T : List D → Prop} (ha : RdA K M tl env ms A) (hr : ∀ ds, A ds → SemAF K M r ms ds T) : RdF K M (tCB r tl) env T := fun S0 H0 σ S H st Qv q => by
  refine ha _ _ _ _ _ st _ fun ds xs S1 H1 pd bx t1 => ?_
  refine hr ds pd S1 H1 xs (st.step t1).gd bx Qv fun es p vs S' H' tt h1 h2 h3 dn t3 => q es p vs S' H' tt ?_ h2 h3 dn (t1.trans t3)
  cases z : H p with
  | none => rfl
  | some o => exact absurd h1 (t1.keep p (by rw [z]; exact fun z => nomatch z))
theorem RdA.nil : RdA K M tNil env [] (· = []) := fun S0 H0 σ S H st Q q => q [] [] S H rfl .nil (Step.refl st.gd.sub)
theorem RdA.im {tl : TA} {ms : List Bool} {A : D → List D → Prop} (ha : RdE K M ta env P) (hr : ∀ d, P d → RdA K M tl env ms (A d)) : RdA K M (tCons ta tl) env (true :: ms) (fun l => ∃ d ds, P d ∧ A d ds ∧ l = d :: ds) := fun S0 H0 σ S H st Q q => by
  refine ha _ _ _ _ _ st _ fun d x S1 H1 pd bx t1 => ?_
  refine hr d pd _ _ _ _ _ (st.step t1) _ fun ds xs S2 H2 ad bs t2 => ?_
  exact q (d :: ds) (x :: xs) S2 H2 ⟨d, ds, pd, ad, rfl⟩ (.im (bx.mon t2.ss) bs) (t1.trans t2)
theorem RdA.br {tl : TA} {ms : List Bool} {A : D → List D → Prop} (ha : RdB K M ta env P) (hr : ∀ d, P d → RdA K M tl env ms (A d)) : RdA K M (tCons ta tl) env (false :: ms) (fun l => ∃ d ds, P d ∧ A d ds ∧ l = d :: ds) := fun S0 H0 σ S H st Q q => by
  refine ha _ _ _ _ _ st _ fun d x S1 H1 pd bx t1 => ?_
  refine hr d pd _ _ _ _ _ (st.step t1) _ fun ds xs S2 H2 ad bs t2 => ?_
  exact q (d :: ds) (x :: xs) S2 H2 ⟨d, ds, pd, ad, rfl⟩ (.br (bx.step t2) bs) (t1.trans t2)
theorem Bors.dens {S H : Hp} : ∀ {n : Nat} {ds : List D} {vs : List V}, Bors K M S H (List.replicate n true) ds vs → Dens K S ds vs
  | 0, _, _, .nil => .nil
  | n + 1, _, _, .im r b => .cons r (Bors.dens b)
theorem allIm {ms : List Bool} {S H : Hp} (h : ms.all id = true) {ds : List D} {vs : List V} (b : Bors K M S H ms ds vs) : Dens K S ds vs := by
  induction b with
  | nil => exact .nil
  | im r b ih => exact .cons r (ih (by simpa using h))
  | br r b ih => simp at h
/-- a written tuple whose object is known -/
def tTupN (t : TA) : TE := fun σ H Q => t σ H fun xs H1 => xs.length ≤ sizeLine ∧ ∀ (p : Addr) (o : Obj), H1 p = none → o.dict = none → Q (.ref p) (upd H1 p (.frz o (.tup xs)))
theorem pe_tupN {X : Cx} {es : List Expr} {t : TA} {pos : Pos} {x1} (h : PA X es t) : PE X (.Tuple es x1 pos) (tTupN t) := by
  refine ⟨fun pins s σ H Q I hq => wpAny_Tuple_spliced (thn (h.run pos pins s σ H _ I hq) fun us s1 ⟨xs, H1, I1, rv, hz, q⟩ => ⟨by rw [← rv.length]; exact hz, ?_⟩)⟩
  have hf : H1 s1.heap.objs.size = none := I1.hok.fresh (Nat.le_refl _)
  have hg : (s1.heap.push ({ cls := .type "tuple", data := .seq us.toArray } : Obj)).get? s1.heap.objs.size = some { cls := .type "tuple", data := .seq us.toArray } := Heap.get?_push_size _ rfl
  exact ⟨.ref s1.heap.objs.size, _, I1.laid (t' := s1.toks) (o := .frz _ (.tup xs)) (fun b u e => Heap.get?_push_of_some _ e) (Nat.le_refl _) ⟨hg, hz, us, rv, ⟨_, hg, rfl, _, rfl⟩⟩, rfl, q _ _ hf rfl⟩
/-- a written tuple, a written list -/
theorem RdE.tup {tl : TA} {ms : List Bool} {A : List D → Prop} (ha : RdA K M tl env ms A) (hm : ms.all id = true) (hl : ∀ ds, A ds → ds.length ≤ sizeLine) : RdE K M (tTupN tl) env (fun d => ∃ ds, A ds ∧ d = .tuple ds) := fun S0 H0 σ S H st Q q => by
  refine ha _ _ _ _ _ st _ fun ds xs S1 H1 ad bs t1 => ?_
  have r := allIm hm bs
  refine ⟨by rw [← r.length]; exact hl ds ad, fun p o hp ho => ?_⟩
  have g1 := (st.step t1).gd
  have t2 := Step.newS g1 (.frz o (.tup xs)) hp
  exact q (.tuple ds) (.ref p) _ _ ⟨ds, ad, rfl⟩ (.tup (.new ho) (r.mon t2.ss)) (t1.trans t2)
theorem RdF.lst {tl : TA} {ms : List Bool} {A : List D → Prop} (ha : RdA K M tl env ms A) (hm : ms.all id = true) (hl : ∀ ds, A ds → ds.length ≤ sizeLine) : RdF K M (tLst tl) env A := fun S0 H0 σ S H st Q q => by
  refine ha _ _ _ _ _ st _ fun ds xs S1 H1 ad bs t1 => ?_
  have r := allIm hm bs
  refine ⟨by rw [← r.length]; exact hl ds ad, fun p hp => ?_⟩
  have g1 := (st.step t1).gd
  refine q ds p xs S1 _ ad ?_ (g1.fresh hp) upd_same r (t1.trans (Step.new g1 (.lst xs) hp))
  cases z : H p with
  | none => rfl
  | some o => exact absurd hp (t1.keep p (by rw [z]; exact fun z => nomatch z))
theorem RdT.tst {P : Bool → Prop} (h : RdB K M te env (fun d => ∃ b, d = .bool b ∧ P b)) : RdT K M (tTest te) env P := fun S0 H0 σ S H st Q q => by
  refine h _ _ _ _ _ st _ fun d v S1 H1 ⟨b, e, pb⟩ r t => ?_
  subst e
  exact ⟨b, r.bl, q b S1 H1 pb t⟩
theorem RdE.if {P : Bool → Prop} {tt : TT} (h : RdT K M tt env P) (h1 : P true → RdE K M ta env T) (h2 : P false → RdE K M tb env T) : RdE K M (tIf tt ta tb) env T := fun S0 H0 σ S H st Q q => by
  refine h _ _ _ _ _ st _ fun b S1 H1 pb t => ?_
  cases b with
  | true => exact h1 pb _ _ _ _ _ (st.step t) Q fun d v S' H' p r t' => q d v S' H' p r (t.trans t')
  | false => exact h2 pb _ _ _ _ _ (st.step t) Q fun d v S' H' p r t' => q d v S' H' p r (t.trans t')
end

/-! ### the weakest readings -/
def star (X : Cx) (e : Expr) : TE := fun σ H Q => ∀ pins s, L2.Inv X pins σ H s → wpAny (model X.prog X.w) X.A (eval e X.env) (EP X pins σ Q) X.xe s
def starT (X : Cx) (e : Expr) : TT := fun σ H Q => ∀ pins s, L2.Inv X pins σ H s → wpAny (model X.prog X.w) X.A (isTrue e X.env (eval e X.env)) (TP X pins σ Q) X.xe s
def starW (X : Cx) (e : Expr) : TT := fun σ H Q => ∀ whole pins s, L2.Inv X pins σ H s → wpAny (model X.prog X.w) X.A (isTrue e X.env whole) (TP X pins σ Q) X.xe s
def starA (X : Cx) (es : List Expr) : TA := fun σ H Q => ∀ pos pins s, L2.Inv X pins σ H s → wpAny (model X.prog X.w) X.A (spliced (backTo pos (starEach es X.env))) (AP X pins σ Q) X.xe s
def starS (X : Cx) (st : Stmt) : TS := fun D σ H => ∀ pins s, L2.Inv X pins σ H s → wpAny (model X.prog X.w) X.A (exec st X.env) (SP X pins D) X.xe s
def starB (X : Cx) (st : List Stmt) : TS := fun D σ H => ∀ pins s, L2.Inv X pins σ H s → wpAny (model X.prog X.w) X.A (execs st X.env) (SP X pins D) X.xe s
theorem star_pe {X : Cx} {e : Expr} : PE X e (star X e) := ⟨fun pins s σ H Q I h => h pins s I⟩
theorem star_pt {X : Cx} {e : Expr} : PT X e (starT X e) := ⟨fun pins s σ H Q I h => h pins s I⟩
theorem star_pw {X : Cx} {e : Expr} : PW X e (starW X e) := ⟨fun wh pins s σ H Q I h => h wh pins s I⟩
theorem star_pa {X : Cx} {e : List Expr} : PA X e (starA X e) := ⟨fun pos pins s σ H Q I h => h pos pins s I⟩
theorem star_ps {X : Cx} {e : Stmt} : PS X e (starS X e) := ⟨fun pins s σ H D I h => h pins s I⟩
theorem star_pss {X : Cx} {e : List Stmt} : PSs X e (starB X e) := ⟨fun pins s σ H D I h => h pins s I⟩
section
variable (X : Cx) (M : Mm)
def EV (e : Expr) (env : List Sl) (P : D → Prop) : Prop := RdE X.K M (star X e) env P
def EB (e : Expr) (env : List Sl) (P : D → Prop) : Prop := RdB X.K M (star X e) env P
def EF (e : Expr) (env : List Sl) (P : List D → Prop) : Prop := RdF X.K M (star X e) env P
def EA (es : List Expr) (env : List Sl) (ms : List Bool) (P : List D → Prop) : Prop := RdA X.K M (starA X es) env ms P
def ET (e : Expr) (env : List Sl) (P : Bool → Prop) : Prop := RdT X.K M (starT X e) env P
def EW (e : Expr) (env : List Sl) (P : Bool → Prop) : Prop := RdT X.K M (starW X e) env P
end
section
variable {X : Cx} {M : Mm} {e : Expr} {es : List Expr} {env : List Sl} {te : TE} {tl : TA} {tt : TT} {P : D → Prop}
theorem EV.of (h : PE X e te) (r : RdE X.K M te env P) : EV X M e env P := fun S0 H0 σ S H st Q q pins s I => h.run pins s σ H Q I (r S0 H0 σ S H st Q q)
theorem EB.of (h : PE X e te) (r : RdB X.K M te env P) : EB X M e env P := fun S0 H0 σ S H st Q q pins s I => h.run pins s σ H Q I (r S0 H0 σ S H st Q q)
theorem EF.of {P : List D → Prop} (h : PE X e te) (r : RdF X.K M te env P) : EF X M e env P := fun S0 H0 σ S H st Q q pins s I => h.run pins s σ H Q I (r S0 H0 σ S H st Q q)
theorem EA.of {ms : List Bool} {P : List D → Prop} (h : PA X es tl) (r : RdA X.K M tl env ms P) : EA X M es env ms P := fun S0 H0 σ S H st Q q pos pins s I => h.run pos pins s σ H Q I (r S0 H0 σ S H st Q q)
theorem ET.of {P : Bool → Prop} (h : PT X e tt) (r : RdT X.K M tt env P) : ET X M e env P := fun S0 H0 σ S H st Q q pins s I => h.run pins s σ H Q I (r S0 H0 σ S H st Q q)
theorem EW.of {P : Bool → Prop} (h : PW X e tt) (r : RdT X.K M tt env P) : EW X M e env P := fun S0 H0 σ S H st Q q wh pins s I => h.run wh pins s σ H Q I (r S0 H0 σ S H st Q q)
theorem EW.t {P : Bool → Prop} (r : EW X M e env P) : ET X M e env P := ET.of star_pw.pt r
end

/-! ### values that may fail: what must hold, and the value -/
structure R (α : Type) where
  p : Prop
  v : α
@[simp] def R.pure {α : Type} (x : α) : R α := ⟨True, x⟩
@[simp] def R.bind {α β : Type} (m : R α) (f : α → R β) : R β := ⟨m.p ∧ (f m.v).p, (f m.v).v⟩
@[simp] def R.o1 {α β : Type} (C : α → Prop) (f : α → β) (m : R α) : R β := ⟨m.p ∧ C m.v, f m.v⟩
@[simp] def R.o2 {α β γ : Type} (C : α → β → Prop) (f : α → β → γ) (m : R α) (n : R β) : R γ := ⟨m.p ∧ n.p ∧ C m.v n.v, f m.v n.v⟩
@[simp] def R.o3 {α β γ δ : Type} (C : α → β → γ → Prop) (f : α → β → γ → δ) (m : R α) (n : R β) (o : R γ) : R δ := ⟨m.p ∧ n.p ∧ o.p ∧ C m.v n.v o.v, f m.v n.v o.v⟩
@[simp] def R.ite {α : Type} (c : R Bool) (a b : R α) : R α := ⟨c.p ∧ (c.v = true → a.p) ∧ (c.v = false → b.p), if c.v = true then a.v else b.v⟩
@[simp] def R.and (a b : R Bool) : R Bool := ⟨a.p ∧ (a.v = true → b.p), a.v && b.v⟩
@[simp] def R.or (a b : R Bool) : R Bool := ⟨a.p ∧ (a.v = false → b.p), a.v || b.v⟩
@[simp] def R.not (a : R Bool) : R Bool := ⟨a.p, !a.v⟩
@[simp] def R.map {α β : Type} (f : α → β) (m : R α) : R β := ⟨m.p, f m.v⟩
@[simp] def R.tup2 {α β : Type} (m : R α) (n : R β) : R (α × β) := ⟨m.p ∧ n.p, (m.v, n.v)⟩
@[simp] def R.p1 {α β : Type} (m : R (α × β)) : R α := ⟨m.p, m.v.1⟩
@[simp] def R.p2 {α β : Type} (m : R (α × β)) : R β := ⟨m.p, m.v.2⟩
@[simp] def R.setIx {α : Type} (xs : List α) (m : R α) (n : R Int) : R (List α) := ⟨m.p ∧ n.p ∧ 0 ≤ n.v ∧ n.v < xs.length, xs.set n.v.toNat m.v⟩
@[simp] def R.app {α : Type} (xs : List α) (m : R α) : R (List α) := ⟨m.p ∧ xs.length < 100000, xs ++ [m.v]⟩

class Rep (α : Type) where
  rep : α → D
open Rep (rep)
instance : Rep Int := ⟨.int⟩
instance : Rep Bool := ⟨.bool⟩
instance : Rep Str := ⟨.str⟩
instance : Rep D := ⟨id⟩
instance {α : Type} [Rep α] : Rep (List α) := ⟨fun l => .list (l.map rep)⟩
/-- a tuple of any length, of one kind -/
structure Tu (α : Type) where
  l : List α
deriving DecidableEq, Inhabited
structure T3 (α β γ : Type) where
  a : α
  b : β
  c : γ
deriving DecidableEq, Inhabited
structure T4 (α β γ δ : Type) where
  a : α
  b : β
  c : γ
  d : δ
deriving DecidableEq, Inhabited
@[simp] def R.tup3 {α β γ : Type} (m : R α) (n : R β) (o : R γ) : R (T3 α β γ) := ⟨m.p ∧ n.p ∧ o.p, ⟨m.v, n.v, o.v⟩⟩
@[simp] def R.t1 {α β γ : Type} (m : R (T3 α β γ)) : R α := ⟨m.p, m.v.a⟩
@[simp] def R.t2 {α β γ : Type} (m : R (T3 α β γ)) : R β := ⟨m.p, m.v.b⟩
@[simp] def R.t3 {α β γ : Type} (m : R (T3 α β γ)) : R γ := ⟨m.p, m.v.c⟩
instance {α : Type} [Rep α] : Rep (Tu α) := ⟨fun t => .tuple (t.l.map rep)⟩
instance {α β : Type} [Rep α] [Rep β] : Rep (α × β) := ⟨fun t => .tuple [rep t.1, rep t.2]⟩
instance {α β γ : Type} [Rep α] [Rep β] [Rep γ] : Rep (T3 α β γ) := ⟨fun t => .tuple [rep t.a, rep t.b, rep t.c]⟩
instance {α β γ δ : Type} [Rep α] [Rep β] [Rep γ] [Rep δ] : Rep (T4 α β γ δ) := ⟨fun t => .tuple [rep t.a, rep t.b, rep t.c, rep t.d]⟩
instance {α : Type} [Rep α] : Rep (Option α) := ⟨fun t => match t with | none => .none | some x => rep x⟩
instance : Rep Unit := ⟨fun _ => .none⟩

section
variable (X : Cx) (M : Mm) {α : Type} [Rep α]
structure RE (e : Expr) (env : List Sl) (m : R α) : Prop where
  run : m.p → EV X M e env (· = rep m.v)
structure RB (e : Expr) (env : List Sl) (m : R α) : Prop where
  run : m.p → EB X M e env (· = rep m.v)
structure RF (e : Expr) (env : List Sl) (m : R (List α)) : Prop where
  run : m.p → EF X M e env (· = m.v.map rep)
structure RA (es : List Expr) (env : List Sl) (ms : List Bool) (m : R (List D)) : Prop where
  run : m.p → EA X M es env ms (· = m.v)
structure RT (e : Expr) (env : List Sl) (m : R Bool) : Prop where
  run : m.p → ET X M e env (· = m.v)
structure RW (e : Expr) (env : List Sl) (m : R Bool) : Prop where
  run : m.p → EW X M e env (· = m.v)
end
section
variable {X : Cx} {M : Mm} {α : Type} [Rep α] {e : Expr} {es : List Expr} {env : List Sl}
instance {m : R α} : CoeFun (RE X M e env m) (fun _ => m.p → EV X M e env (· = rep m.v)) := ⟨RE.run⟩
instance {m : R α} : CoeFun (RB X M e env m) (fun _ => m.p → EB X M e env (· = rep m.v)) := ⟨RB.run⟩
instance {m : R (List α)} : CoeFun (RF X M e env m) (fun _ => m.p → EF X M e env (· = m.v.map rep)) := ⟨RF.run⟩
instance {ms : List Bool} {m : R (List D)} : CoeFun (RA X M es env ms m) (fun _ => m.p → EA X M es env ms (· = m.v)) := ⟨RA.run⟩
instance {m : R Bool} : CoeFun (RT X M e env m) (fun _ => m.p → ET X M e env (· = m.v)) := ⟨RT.run⟩
instance {m : R Bool} : CoeFun (RW X M e env m) (fun _ => m.p → EW X M e env (· = m.v)) := ⟨RW.run⟩
end
end FP
namespace FP
open PySem PySem.Spec PyProof.Rows L2
open Rep (rep)
/-! ### operations over data -/
section
variable (X : Cx) (M : Mm) {α β γ : Type} [Rep α] [Rep β] [Rep γ]
structure Op2 (op : Operator) (C : α → β → Prop) (f : α → β → γ) : Prop where
  ex : ∃ r, OpR X (binaryOp op) r ∧ ∀ x y, C x y → Sem2 X.K M r (rep x) (rep y) (· = rep (f x y))
structure Op2F (op : Operator) (C : α → β → Prop) (f : α → β → List γ) : Prop where
  ex : ∃ r, OpR X (binaryOp op) r ∧ ∀ x y, C x y → Sem2F X.K M r (rep x) (rep y) (· = (f x y).map rep)
structure Cm2 (op : CmpOp) (C : α → β → Prop) (f : α → β → Bool) : Prop where
  ex : ∃ r, OpR X (compareOp op) r ∧ ∀ x y, C x y → Sem2 X.K M r (rep x) (rep y) (· = .bool (f x y))
structure Ix2 (C : α → β → Prop) (f : α → β → γ) : Prop where
  ex : ∃ r, IxR X r ∧ ∀ x y, C x y → Sem2 X.K M r (rep x) (rep y) (· = rep (f x y))
structure Un1 (op : UnaryOp) (C : α → Prop) (f : α → β) : Prop where
  ex : ∃ r, UnR X (unaryOp op) r ∧ ∀ x, C x → Sem1 X.K M r (rep x) (· = rep (f x))
structure Cb1 (fv : Value) (C : α → Prop) (f : α → β) : Prop where
  ex : ∃ r, CallR X fv r ∧ ∀ x, C x → SemA X.K M r [false] [rep x] (· = rep (f x))
structure Cb1F (fv : Value) (C : α → Prop) (f : α → List β) : Prop where
  ex : ∃ r, CallR X fv r ∧ ∀ x, C x → SemAF X.K M r [false] [rep x] (· = (f x).map rep)
structure Cb2 (fv : Value) (C : α → β → Prop) (f : α → β → γ) : Prop where
  ex : ∃ r, CallR X fv r ∧ ∀ x y, C x y → SemA X.K M r [false, false] [rep x, rep y] (· = rep (f x y))
/-- a value's truth -/
structure Tr1 (C : α → Prop) (f : α → Bool) : Prop where
  ex : ∀ x, C x → ∀ S H v, Gd M S H → Bor X.K M S H (rep x) v → TruV X.K v H (f x)
end

section
variable {X : Cx} {M : Mm} {env : List Sl} {a b c e : Expr} {es : List Expr} {pos : Pos} {α β γ : Type} [Rep α] [Rep β] [Rep γ]
theorem RE.bor {m : R α} (h : RE X M e env m) : RB X M e env m := .mk fun p => RdE.b (h p)
theorem RF.re {m : R (List α)} (h : RF X M e env m) : RE X M e env m := .mk fun p => (RdF.e (h p)).imp fun d ⟨ds, e1, e2⟩ => by rw [e1, e2]; rfl
theorem RE.cast {m n : R α} (h : RE X M e env m) (hp : n.p → m.p) (hv : n.p → m.v = n.v) : RE X M e env n := .mk fun p => RdE.imp (h (hp p)) fun d e => by rw [e, hv p]

/-! names, constants -/
structure OkN (nm : Str) : Prop where
  d : (nm == ("__debug__" : Str)) = false
  c : (nm == ("__classdict__" : Str)) = false
  n : nm ≠ "__name__"
theorem RE.var {x : α} (i : Nat) {nm : Str} (hi : env[i]? = some (.im (rep x))) (hN : X.N[i]? = some nm) (hv : Vis X.env.scope nm) (hk : OkN nm) : RE X M (.Name nm pos) env (R.pure x) := .mk fun _ =>
  EV.of (pe_var hN hv hk.d hk.c) fun S0 H0 σ S H st Q q => by
    obtain ⟨O, _, _, sl⟩ := st.own
    obtain ⟨v, e1, r⟩ := sl i _ hi
    exact ⟨v, e1, q _ v S H rfl r (Step.refl st.gd.sub)⟩
theorem RB.varB {x : List α} (i : Nat) {nm : Str} (hi : env[i]? = some (.br (x.map rep))) (hN : X.N[i]? = some nm) (hv : Vis X.env.scope nm) (hk : OkN nm) : RB X M (.Name nm pos) env (R.pure x) := .mk fun _ =>
  EB.of (pe_var hN hv hk.d hk.c) fun S0 H0 σ S H st Q q => by
    obtain ⟨O, _, _, sl⟩ := st.own
    obtain ⟨p, vs, e1, e2, e3, r⟩ := sl i _ hi
    exact ⟨_, e1, q _ _ S H rfl (.inr ⟨p, _, vs, rfl, rfl, st.stp.ext _ _ e2 e3 lst_noT, e3, r⟩) (Step.refl st.gd.sub)⟩
theorem RB.varO {x : List α} (i : Nat) {nm : Str} (hi : env[i]? = some (.ow (x.map rep))) (hN : X.N[i]? = some nm) (hv : Vis X.env.scope nm) (hk : OkN nm) : RB X M (.Name nm pos) env (R.pure x) := .mk fun _ =>
  EB.of (pe_var hN hv hk.d hk.c) fun S0 H0 σ S H st Q q => by
    obtain ⟨O, _, out, sl⟩ := st.own
    obtain ⟨p, vs, eO, e1, e2, r⟩ := sl i _ hi
    exact ⟨_, e1, q _ _ S H rfl (.inr ⟨p, _, vs, rfl, rfl, e2, (out i p (by rw [eO]; exact List.mem_cons_self)).1, r⟩) (Step.refl st.gd.sub)⟩
theorem EV.const {v : V} {d : D} (h : PE X e (tC v)) (r : ∀ S, Den X.K S d v) : EV X M e env (· = d) := EV.of h fun S0 H0 σ S H st Q q => q d v S H rfl (r S) (Step.refl st.gd.sub)
theorem RE.int {i : Int} {j} : RE X M (.Constant (.int i) j pos) env (R.pure i) := .mk fun _ => EV.const pe_int fun _ => .int i
theorem RE.bl {i : Bool} {j} : RE X M (.Constant (.bool i) j pos) env (R.pure i) := .mk fun _ => EV.const pe_bl fun _ => .bl i
theorem RE.str {i : Str} {j} : RE X M (.Constant (.str i) j pos) env (R.pure i) := .mk fun _ => EV.const pe_str fun _ => .str i
theorem RE.non {j} : RE X M (.Constant .none j pos) env (R.pure (none : Option α)) := .mk fun _ => EV.const pe_non fun _ => .non
theorem RE.nonU {j} : RE X M (.Constant .none j pos) env (R.pure ()) := .mk fun _ => EV.const pe_non fun _ => .non
/-- a module's constant -/
theorem RE.glob {x : α} {nm : Str} {v : V} {u : Value} (hg : Gl X nm) (hm : X.mg nm = some u) (r : RelV v u) (hr : ∀ S, Den X.K S (rep x) v) (hk : OkN nm) : RE X M (.Name nm pos) env (R.pure x) := .mk fun _ =>
  EV.const (pe_glob hg hm r hk.d) hr
/-- a value where one may be none -/
theorem RE.sm {m : R α} (h : RE X M e env m) : RE X M e env (R.map Option.some m) := .mk fun p => h p

/-! operators -/
theorem RE.bin {op : Operator} {C : α → β → Prop} {f : α → β → γ} (o : Op2 X M op C f) {m : R α} {n : R β} (ha : RB X M a env m) (hb : RB X M b env n) : RE X M (.BinOp a op b pos) env (R.o2 C f m n) := .mk fun hp => by
  obtain ⟨r, ho, hs⟩ := o.ex
  exact EV.of (pe_op ho star_pe star_pe) (RdE.op (ha hp.1) (fun _ _ => hb hp.2.1) fun d e' h1 h2 => by rw [h1, h2]; exact hs _ _ hp.2.2)
theorem RF.bin {op : Operator} {C : α → β → Prop} {f : α → β → List γ} (o : Op2F X M op C f) {m : R α} {n : R β} (ha : RB X M a env m) (hb : RB X M b env n) : RF X M (.BinOp a op b pos) env (R.o2 C f m n) := .mk fun hp => by
  obtain ⟨r, ho, hs⟩ := o.ex
  exact EF.of (pe_op ho star_pe star_pe) (RdF.op (ha hp.1) (fun _ _ => hb hp.2.1) fun d e' h1 h2 => by rw [h1, h2]; exact hs _ _ hp.2.2)
theorem RE.un {op : UnaryOp} {C : α → Prop} {f : α → β} (o : Un1 X M op C f) {m : R α} (ha : RB X M a env m) : RE X M (.UnaryOp op a pos) env (R.o1 C f m) := .mk fun hp => by
  obtain ⟨r, ho, hs⟩ := o.ex
  exact EV.of (pe_un ho star_pe) (RdE.un (ha hp.1) fun d h1 => by rw [h1]; exact hs _ hp.2)
theorem RE.ix {C : α → β → Prop} {f : α → β → γ} (o : Ix2 X M C f) {m : R α} {n : R β} (ha : RB X M a env m) (hb : RB X M b env n) (hs : PlainIx b) : RE X M (.Subscript a b pos) env (R.o2 C f m n) := .mk fun hp => by
  obtain ⟨r, ho, hr⟩ := o.ex
  exact EV.of (pe_ix ho star_pe star_pe hs) (RdE.op (ha hp.1) (fun _ _ => hb hp.2.1) fun d e' h1 h2 => by rw [h1, h2]; exact hr _ _ hp.2.2)
theorem cmp_rd {op : CmpOp} {C : α → β → Prop} {f : α → β → Bool} {m : R α} {n : R β} {r : R2} (hs : ∀ x y, C x y → Sem2 X.K M r (rep x) (rep y) (· = .bool (f x y))) (ha : RB X M a env m) (hb : RB X M b env n) (hp : (R.o2 C f m n).p) :
    RdE X.K M (tOp r (star X a) (star X b)) env (· = rep (f m.v n.v)) := RdE.op (ha hp.1) (fun _ _ => hb hp.2.1) fun d e' h1 h2 => by rw [h1, h2]; exact hs _ _ hp.2.2
theorem RE.cmp {op : CmpOp} {C : α → β → Prop} {f : α → β → Bool} (o : Cm2 X M op C f) {m : R α} {n : R β} (ha : RB X M a env m) (hb : RB X M b env n) (hm : behindInMarks op b = false) : RE X M (.Compare a [op] [b] pos) env (R.o2 C f m n) := .mk fun hp => by
  obtain ⟨r, ho, hs⟩ := o.ex
  exact EV.of (pe_cmpR ho star_pe star_pe hm) (cmp_rd (op := op) hs ha hb hp)
theorem RT.cmp {op : CmpOp} {C : α → β → Prop} {f : α → β → Bool} (o : Cm2 X M op C f) {m : R α} {n : R β} (ha : RB X M a env m) (hb : RB X M b env n) (hm : behindInMarks op b = false) : RT X M (.Compare a [op] [b] pos) env (R.o2 C f m n) := .mk fun hp => by
  obtain ⟨r, ho, hs⟩ := o.ex
  exact ET.of (pt_cmpR ho star_pe star_pe hm) (RdT.tst (RdE.imp (cmp_rd (op := op) hs ha hb hp) fun d e' => ⟨_, e', rfl⟩).b)
/-- a < b < c -/
theorem chain_rd {C : α → β → Prop} {f : α → β → Bool} {C' : β → γ → Prop} {f' : β → γ → Bool} {m : R α} {n : R β} {o : R γ} {r r' : R2} (hs : ∀ x y, C x y → Sem2 X.K M r (rep x) (rep y) (· = .bool (f x y))) (hs' : ∀ x y, C' x y → Sem2 X.K M r' (rep x) (rep y) (· = .bool (f' x y)))
    (ha : RB X M a env m) (hb : RB X M b env n) (hc : RB X M c env o) (hp : m.p ∧ n.p ∧ C m.v n.v ∧ (f m.v n.v = true → o.p ∧ C' n.v o.v)) :
    RdE X.K M (tChain r r' (star X a) (star X b) (star X c)) env (· = rep (f m.v n.v && f' n.v o.v)) := fun S0 H0 σ S H st Q q => by
  refine ha hp.1 _ _ _ _ _ st _ fun d x S1 H1 pd bx t1 => ?_
  refine hb hp.2.1 _ _ _ _ _ (st.step t1) _ fun e' y S2 H2 qe by' t2 => ?_
  subst pd; subst qe
  refine hs _ _ hp.2.2.1 S2 H2 x y ((st.step t1).step t2).gd (bx.step t2) by' _ fun t v S3 H3 tt dn t3 => ?_
  subst tt
  cases dn
  refine ⟨_, rfl, ?_⟩
  cases hf : f m.v n.v with
  | true =>
    rw [if_pos rfl]
    obtain ⟨h1, h2⟩ := hp.2.2.2 hf
    refine hc h1 _ _ _ _ _ (((st.step t1).step t2).step t3) _ fun g z S4 H4 qg bz t4 => ?_
    subst qg
    refine hs' _ _ h2 S4 H4 y z ((((st.step t1).step t2).step t3).step t4).gd ((by'.step t3).step t4) bz _ fun t v S5 H5 tt dn t5 => ?_
    subst tt
    exact q _ v S5 H5 (by rw [hf]; rfl) dn ((((t1.trans t2).trans t3).trans t4).trans t5)
  | false =>
    rw [if_neg (by decide)]
    exact q _ _ S3 H3 (by rw [hf]; rfl) (.bl false) ((t1.trans t2).trans t3)
@[simp] def R.chain {α β γ : Type} (C : α → β → Prop) (f : α → β → Bool) (C' : β → γ → Prop) (f' : β → γ → Bool) (m : R α) (n : R β) (o : R γ) : R Bool := ⟨m.p ∧ n.p ∧ C m.v n.v ∧ (f m.v n.v = true → o.p ∧ C' n.v o.v), f m.v n.v && f' n.v o.v⟩
theorem RE.chain {op op' : CmpOp} {C : α → β → Prop} {f : α → β → Bool} {C' : β → γ → Prop} {f' : β → γ → Bool} (o : Cm2 X M op C f) (o' : Cm2 X M op' C' f') {m : R α} {n : R β} {k : R γ} (ha : RB X M a env m) (hb : RB X M b env n) (hc : RB X M c env k)
    (hm : lastMarks [op, op'] [b, c] = false) : RE X M (.Compare a [op, op'] [b, c] pos) env (R.chain C f C' f' m n k) := .mk fun hp => by
  obtain ⟨r, ho, hs⟩ := o.ex
  obtain ⟨r', ho', hs'⟩ := o'.ex
  exact EV.of (pe_chain ho ho' star_pe star_pe star_pe hm) (chain_rd hs hs' ha hb hc hp)
theorem RT.chain {op op' : CmpOp} {C : α → β → Prop} {f : α → β → Bool} {C' : β → γ → Prop} {f' : β → γ → Bool} (o : Cm2 X M op C f) (o' : Cm2 X M op' C' f') {m : R α} {n : R β} {k : R γ} (ha : RB X M a env m) (hb : RB X M b env n) (hc : RB X M c env k)
    (hm : lastMarks [op, op'] [b, c] = false) : RT X M (.Compare a [op, op'] [b, c] pos) env (R.chain C f C' f' m n k) := .mk fun hp => by
  obtain ⟨r, ho, hs⟩ := o.ex
  obtain ⟨r', ho', hs'⟩ := o'.ex
  exact ET.of (pt_chain ho ho' star_pe star_pe star_pe hm) (RdT.tst (RdE.imp (chain_rd hs hs' ha hb hc hp) fun d e' => ⟨_, e', rfl⟩).b)

/-! tests -/
theorem RT.and1 {m : R Bool} (h : RT X M a env m) : RW X M (.BoolOp .And [a] pos) env m := .mk fun p => EW.of (pw_and1 star_pt) (h p)
theorem RT.or1 {m : R Bool} (h : RT X M a env m) : RW X M (.BoolOp .Or [a] pos) env m := .mk fun p => EW.of (pw_or1 star_pt) (h p)
theorem RW.and {m n : R Bool} {rest : List Expr} (h : RT X M a env m) (h' : RW X M (.BoolOp .And (b :: rest) pos) env n) : RW X M (.BoolOp .And (a :: b :: rest) pos) env (R.and m n) := .mk fun p =>
  EW.of (pw_and star_pt star_pw) fun S0 H0 σ S H st Q q => by
    refine h p.1 _ _ _ _ _ st _ fun c S1 H1 ec t1 => ?_
    subst ec
    cases hv : m.v with
    | true => exact h' (p.2 hv) _ _ _ _ _ (st.step t1) _ fun d S2 H2 ed t2 => q d S2 H2 (by rw [ed]; simp [hv]) (t1.trans t2)
    | false => exact q false S1 H1 (by simp [hv]) t1
theorem RW.or {m n : R Bool} {rest : List Expr} (h : RT X M a env m) (h' : RW X M (.BoolOp .Or (b :: rest) pos) env n) : RW X M (.BoolOp .Or (a :: b :: rest) pos) env (R.or m n) := .mk fun p =>
  EW.of (pw_or star_pt star_pw) fun S0 H0 σ S H st Q q => by
    refine h p.1 _ _ _ _ _ st _ fun c S1 H1 ec t1 => ?_
    subst ec
    cases hv : m.v with
    | false => exact h' (p.2 hv) _ _ _ _ _ (st.step t1) _ fun d S2 H2 ed t2 => q d S2 H2 (by rw [ed]; simp [hv]) (t1.trans t2)
    | true => exact q true S1 H1 (by simp [hv]) t1
theorem RW.t {m : R Bool} (h : RW X M a env m) : RT X M a env m := .mk fun p => (h p).t
theorem RT.not {m : R Bool} (h : RT X M a env m) : RT X M (.UnaryOp .Not a pos) env (R.not m) := .mk fun p =>
  ET.of (pt_not star_pt) fun S0 H0 σ S H st Q q => h p _ _ _ _ _ st _ fun c S1 H1 ec t1 => q (!c) S1 H1 (by rw [ec]; rfl) t1
/-- a value as a test -/
theorem RT.tru {C : α → Prop} {f : α → Bool} (o : Tr1 X M C f) {m : R α} (h : RB X M a env m) (he : ∀ whole, isTrue a X.env whole = (do let v ← whole; standAt a.pos; holding [v] (truthy v))) : RT X M a env (R.o1 C f m) := .mk fun p =>
  ET.of (pt_truth star_pe he) fun S0 H0 σ S H st Q q => by
    refine h p.1 _ _ _ _ _ st _ fun d v S1 H1 ed r t1 => ?_
    subst ed
    exact ⟨_, o.ex _ p.2 S1 H1 v (st.step t1).gd r, q _ S1 H1 rfl t1⟩
/-! .. as values -/
theorem RE.one {op : BoolOp} {m : R α} (h : RE X M a env m) : RE X M (.BoolOp op [a] pos) env m := .mk fun p => EV.of (pe_one star_pe) (h p)
theorem RE.and {m n : R Bool} {rest : List Expr} (h : RB X M a env m) (h' : RE X M (.BoolOp .And (b :: rest) pos) env n) : RE X M (.BoolOp .And (a :: b :: rest) pos) env (R.and m n) := .mk fun p =>
  EV.of (pe_and star_pe star_pe) fun S0 H0 σ S H st Q q => by
    refine h p.1 _ _ _ _ _ st _ fun d v S1 H1 ec r t1 => ?_
    subst ec
    refine ⟨m.v, r.bl, ?_⟩
    cases hv : m.v with
    | true => exact h' (p.2 hv) _ _ _ _ _ (st.step t1) _ fun d v S2 H2 ed r2 t2 => q d v S2 H2 (by rw [ed]; simp [hv]) r2 (t1.trans t2)
    | false => exact q (rep false) _ S1 H1 (by simp [hv]) (.bl false) t1
theorem RE.or {m n : R Bool} {rest : List Expr} (h : RB X M a env m) (h' : RE X M (.BoolOp .Or (b :: rest) pos) env n) : RE X M (.BoolOp .Or (a :: b :: rest) pos) env (R.or m n) := .mk fun p =>
  EV.of (pe_or star_pe star_pe) fun S0 H0 σ S H st Q q => by
    refine h p.1 _ _ _ _ _ st _ fun d v S1 H1 ec r t1 => ?_
    subst ec
    refine ⟨m.v, r.bl, ?_⟩
    cases hv : m.v with
    | false => exact h' (p.2 hv) _ _ _ _ _ (st.step t1) _ fun d v S2 H2 ed r2 t2 => q d v S2 H2 (by rw [ed]; simp [hv]) r2 (t1.trans t2)
    | true => exact q (rep true) _ S1 H1 (by simp [hv]) (.bl true) t1
theorem RE.not {m : R Bool} (h : RB X M a env m) : RE X M (.UnaryOp .Not a pos) env (R.not m) := .mk fun p =>
  EV.of (pe_not star_pe) fun S0 H0 σ S H st Q q => by
    refine h p _ _ _ _ _ st _ fun d v S1 H1 ec r t1 => ?_
    subst ec
    exact ⟨m.v, r.bl, q _ _ S1 H1 rfl (.bl _) t1⟩
theorem RE.ite {c : R Bool} {m n : R α} {ce : Expr} (hc : RT X M ce env c) (ha : RE X M a env m) (hb : RE X M b env n) : RE X M (.IfExp ce a b pos) env (R.ite c m n) := .mk fun p =>
  EV.of (pe_ifExp star_pt star_pe star_pe) (RdE.if (hc p.1) (fun h => RdE.imp (ha (p.2.1 h.symm)) fun d e' => by rw [e']; simp [← h]) fun h => RdE.imp (hb (p.2.2 h.symm)) fun d e' => by rw [e']; simp [← h])

/-! argument lists -/
@[simp] def R.nil : R (List D) := ⟨True, []⟩
@[simp] def R.cons {α : Type} [Rep α] (m : R α) (l : R (List D)) : R (List D) := ⟨m.p ∧ l.p, rep m.v :: l.v⟩
theorem RA.nil : RA X M [] env [] R.nil := .mk fun _ => EA.of pa_nil RdA.nil
theorem RA.im {ms : List Bool} {m : R α} {l : R (List D)} (h : RE X M e env m) (hr : RA X M es env ms l) (hs : starEach (e :: es) X.env = (false, eval e X.env) :: starEach es X.env := by rfl) : RA X M (e :: es) env (true :: ms) (R.cons m l) := .mk fun p =>
  EA.of (pa_cons star_pe star_pa hs) fun S0 H0 σ S H st Q q => RdA.im (h p.1) (fun _ _ => hr p.2) _ _ _ _ _ st Q fun ds vs S' H' ⟨d, ds', e1, e2, e3⟩ => q ds vs S' H' (by rw [e3, e1, e2]; rfl)
theorem RA.br {ms : List Bool} {m : R α} {l : R (List D)} (h : RB X M e env m) (hr : RA X M es env ms l) (hs : starEach (e :: es) X.env = (false, eval e X.env) :: starEach es X.env := by rfl) : RA X M (e :: es) env (false :: ms) (R.cons m l) := .mk fun p =>
  EA.of (pa_cons star_pe star_pa hs) fun S0 H0 σ S H st Q q => RdA.br (h p.1) (fun _ _ => hr p.2) _ _ _ _ _ st Q fun ds vs S' H' ⟨d, ds', e1, e2, e3⟩ => q ds vs S' H' (by rw [e3, e1, e2]; rfl)
/-- .. of one kind -/
@[simp] def R.lnil {α : Type} : R (List α) := ⟨True, []⟩
@[simp] def R.lcons {α : Type} (m : R α) (l : R (List α)) : R (List α) := ⟨m.p ∧ l.p, m.v :: l.v⟩
structure RL (X : Cx) (M : Mm) {α : Type} [Rep α] (es : List Expr) (env : List Sl) (m : R (List α)) : Prop where
  run : m.p → EA X M es env (List.replicate es.length true) (· = m.v.map rep)
instance {m : R (List α)} : CoeFun (RL X M es env m) (fun _ => m.p → EA X M es env (List.replicate es.length true) (· = m.v.map rep)) := ⟨RL.run⟩
theorem RL.nil : RL X M (α := α) [] env R.lnil := .mk fun _ => EA.of pa_nil RdA.nil
theorem RL.cons {m : R α} {l : R (List α)} (h : RE X M e env m) (hr : RL X M es env l) (hs : starEach (e :: es) X.env = (false, eval e X.env) :: starEach es X.env := by rfl) : RL X M (e :: es) env (R.lcons m l) := .mk fun p =>
  EA.of (pa_cons star_pe star_pa hs) fun S0 H0 σ S H st Q q => RdA.im (h p.1) (fun _ _ => hr p.2) _ _ _ _ _ st Q fun ds vs S' H' ⟨d, ds', e1, e2, e3⟩ => q ds vs S' H' (by rw [e3, e1, e2]; rfl)
theorem all_rep (n : Nat) : (List.replicate n true).all id = true := by simp [List.all_replicate]
@[simp] def R.sz {α : Type} (m : R (List α)) : R (List α) := ⟨m.p ∧ m.v.length ≤ 100000, m.v⟩
theorem sz_of {n : Nat} (h : n ≤ 100000) : n ≤ sizeLine := Nat.le_trans h (by decide)
theorem RF.lst {m : R (List α)} (h : RL X M es env m) : RF X M (.List es pos) env (R.sz m) := .mk fun p =>
  EF.of (pe_lst star_pa) (RdF.lst (h p.1) (all_rep _) fun ds e => by rw [e, List.length_map]; exact sz_of p.2)
theorem RE.tu {m : R (List α)} {k : Nat} (h : RL X M es env m) : RE X M (.Tuple es k pos) env (R.map Tu.mk (R.sz m)) := .mk fun p =>
  EV.of (pe_tupN star_pa) (RdE.imp (RdE.tup (h p.1) (all_rep _) fun ds e => by rw [e, List.length_map]; exact sz_of p.2) fun d ⟨ds, e1, e2⟩ => by rw [e2, e1]; rfl)
theorem RE.tup2 {m : R α} {n : R β} {k : Nat} (h : RA X M es env [true, true] (R.cons m (R.cons n R.nil))) : RE X M (.Tuple es k pos) env (R.tup2 m n) := .mk fun p =>
  EV.of (pe_tupN star_pa) (RdE.imp (RdE.tup (h ⟨p.1, p.2, trivial⟩) rfl fun ds e => by rw [e]; exact sz_of (by simp)) fun d ⟨ds, e1, e2⟩ => by rw [e2, e1]; rfl)
theorem RE.tup3 {m : R α} {n : R β} {o : R γ} {k : Nat} (h : RA X M es env [true, true, true] (R.cons m (R.cons n (R.cons o R.nil)))) : RE X M (.Tuple es k pos) env (R.tup3 m n o) := .mk fun p =>
  EV.of (pe_tupN star_pa) (RdE.imp (RdE.tup (h ⟨p.1, p.2.1, p.2.2, trivial⟩) rfl fun ds e => by rw [e]; exact sz_of (by simp)) fun d ⟨ds, e1, e2⟩ => by rw [e2, e1]; rfl)
/-! places of pairs -/
theorem RdB.con {K : PySem.W.Frag} {v : V} {d : D} (r : ∀ S, Den K S d v) : RdB K M (tC v) env (· = d) := fun S0 H0 σ S H st Q q => q d v S H rfl (.inl (r S)) (Step.refl st.gd.sub)
theorem place_rd {p2 : Pos} {j : Nat} {k : Int} {d0 : D} {ds : List D} (hk : ds[k.toNat]? = some d0) (h0 : 0 ≤ k) (ha : EB X M a env (· = .tuple ds)) (hs : PlainIx (.Constant (.int k) j p2)) :
    EV X M (.Subscript a (.Constant (.int k) j p2) pos) env (· = d0) :=
  EV.of (pe_ix ix_tup star_pe pe_int hs) (RdE.op ha (Q := fun _ e => e = .int k) (fun _ _ => RdB.con fun _ => .int k)
    fun d e' hd he S H x y g bx by' Q q => by
      subst he
      subst hd
      obtain ⟨p, vs, rfl, sq, r⟩ := bx.tup g
      obtain ⟨v, hv, rv⟩ := r.get hk
      have hl : k.toNat < vs.length := (List.getElem?_eq_some_iff.mp hv).1
      refine ⟨p, vs, k, v, rfl, by'.int, sub_sqt g.sub sq, ?_, q d0 v S H rfl rv (Step.refl g.sub)⟩
      unfold atI ixN
      rw [if_pos h0, if_pos (by omega)]
      exact hv)
section
variable {δ : Type} [Rep δ] {p2 : Pos} {j : Nat}
theorem RE.fst {m : R (α × β)} (h : RB X M a env m) (hs : PlainIx (.Constant (.int 0) j p2)) : RE X M (.Subscript a (.Constant (.int 0) j p2) pos) env (R.p1 m) := .mk fun p => place_rd (by rfl) (by decide) (h p) hs
theorem RE.snd {m : R (α × β)} (h : RB X M a env m) (hs : PlainIx (.Constant (.int 1) j p2)) : RE X M (.Subscript a (.Constant (.int 1) j p2) pos) env (R.p2 m) := .mk fun p => place_rd (by rfl) (by decide) (h p) hs
theorem RE.t31 {m : R (T3 α β γ)} (h : RB X M a env m) (hs : PlainIx (.Constant (.int 0) j p2)) : RE X M (.Subscript a (.Constant (.int 0) j p2) pos) env (R.t1 m) := .mk fun p => place_rd (by rfl) (by decide) (h p) hs
theorem RE.t32 {m : R (T3 α β γ)} (h : RB X M a env m) (hs : PlainIx (.Constant (.int 1) j p2)) : RE X M (.Subscript a (.Constant (.int 1) j p2) pos) env (R.t2 m) := .mk fun p => place_rd (by rfl) (by decide) (h p) hs
theorem RE.t33 {m : R (T3 α β γ)} (h : RB X M a env m) (hs : PlainIx (.Constant (.int 2) j p2)) : RE X M (.Subscript a (.Constant (.int 2) j p2) pos) env (R.t3 m) := .mk fun p => place_rd (by rfl) (by decide) (h p) hs
end
end
end FP
namespace FP
open PySem PySem.Spec PyProof.Rows L2
open Rep (rep)
/-! ### calls -/
def SpD (K : PySem.W.Frag) (T : Addr → Prop) (ms : List Bool) (G : List D → (D → Prop) → Prop) : Sp := fun vs H Q _ =>
  ∃ S ds P, Sub S H ∧ (∀ p, T p → TbG H p ∧ S p = none) ∧ Bors K (noM T) S H ms ds vs ∧ G ds P ∧ ∀ d v S' H', P d → Den K S' d v → Step (noM T) S H S' H' → Q v H'
theorem Bor.none {T : Addr → Prop} {K : PySem.W.Frag} {M : Mm} {S H : Hp} {d : D} {v : V} (b : Bor K M S H d v) : Bor K (noM T) S H d v := by
  rcases b with b | ⟨a, ds, vs, e1, e2, e3, _, r⟩
  · exact .inl b
  · exact .inr ⟨a, ds, vs, e1, e2, e3, fun z => z, r⟩
theorem Bors.none {T : Addr → Prop} {K : PySem.W.Frag} {M : Mm} {S H : Hp} : ∀ {ms : List Bool} {ds : List D} {vs : List V}, Bors K M S H ms ds vs → Bors K (noM T) S H ms ds vs
  | _, _, _, .nil => .nil
  | _, _, _, .im r b => .im r b.none
  | _, _, _, .br r b => .br r.none b.none
/-- a def that may be called: its promise, at a level -/
structure Fn (P : Program) (w : World) (K : PySem.W.Frag) (mg : Str → Option Value) (base : Heap) (k : Nat) (x : Str) (sp : Sp) : Prop where
  ex : ∃ (f : Addr) (fd : FuncData) (ps : List Str), FnOk P w K mg base CX0 k f fd ps sp ∧ mg x = some (.ref f) ∧ PySem.W.keepIn K (.ref f) = true ∧ Binds K fd ps []
section
variable {X : Cx} {M : Mm} {env : List Sl} {pos : Pos}
theorem pe_fn {k j : Nat} {nm : Str} {sp : Sp} {e : Expr} {es : List Expr} {t : TA} {p : Pos} (c : Fn X.prog X.w X.K X.mg X.base k nm sp) (hr : Room j X.A) (hk : k ≤ j) (hg : Gl X nm) (ha : PA X (e :: es) t)
    (hn : OkN nm) (he : starEach (e :: es) X.env = (false, eval e X.env) :: starEach es X.env := by rfl) (hpl : (backTo pos (starEach es X.env)).any (·.1) = false := by rfl) :
    PE X (.Call (.Name nm p) (e :: es) [] pos) (tCall sp [] E0 t) := by
  obtain ⟨f, fd, ps, F, hm, kp, b⟩ := c.ex
  exact pe_call F (hr.mono hk) hg hm kp b .nil pass0 ha hn.d he hpl
theorem EV.call {ms : List Bool} {G : List D → (D → Prop) → Prop} {A : List D → Prop} {P : D → Prop} {k j : Nat} {nm : Str} {e : Expr} {es : List Expr} {p : Pos} (c : Fn X.prog X.w X.K X.mg X.base k nm (SpD X.K M.t ms G)) (hr : Room j X.A) (hk : k ≤ j) (hg : Gl X nm)
    (ha : EA X M (e :: es) env ms A) (h : ∀ ds, A ds → G ds P)
    (hn : OkN nm) (he : starEach (e :: es) X.env = (false, eval e X.env) :: starEach es X.env := by rfl) (hpl : (backTo pos (starEach es X.env)).any (·.1) = false := by rfl) :
    EV X M (.Call (.Name nm p) (e :: es) [] pos) env P :=
  EV.of (pe_fn c hr hk hg star_pa hn he hpl) fun S0 H0 σ S H st Q q => by
    refine ha _ _ _ _ _ st _ fun ds vs S1 H1 ad bs t1 => ?_
    rw [List.append_nil]
    exact ⟨S1, ds, P, (st.step t1).gd.sub, (st.step t1).gd.tab, bs.none, h ds ad, fun d v S' H' pd r t => q d v S' H' pd r (t1.trans t.none)⟩
def G1 {α0 β : Type} [Rep α0] [Rep β] (f : α0 → R β) : List D → (D → Prop) → Prop := fun ds P => ∃ x0, ds = [rep x0] ∧ (f x0).p ∧ P (rep (f x0).v)
@[simp] def R.c1 {α0 β : Type} (f : α0 → R β) (m0 : R α0) : R β := ⟨m0.p ∧ (f m0.v).p, (f m0.v).v⟩
theorem RE.call1 {α0 β : Type} [Rep α0] [Rep β] {f : α0 → R β} {k j : Nat} {nm : Str} {ms : List Bool} {e0 : Expr} {p0 : Pos} {m0 : R α0}
    (c : Fn X.prog X.w X.K X.mg X.base k nm (SpD X.K M.t ms (G1 f))) (hr : Room j X.A) (hk : k ≤ j) (hg : Gl X nm) (ha : RA X M [e0] env ms (R.cons m0 R.nil))
    (hn : OkN nm) (he : starEach (e0 :: []) X.env = (false, eval e0 X.env) :: starEach [] X.env := by rfl) (hpl : (backTo pos (starEach [] X.env)).any (·.1) = false := by rfl) :
    RE X M (.Call (.Name nm p0) [e0] [] pos) env (R.c1 f m0) := .mk fun p =>
  EV.call c hr hk hg (ha ⟨p.1, trivial⟩) (fun ds e => ⟨m0.v, e, p.2, rfl⟩) hn he hpl
def G2 {α0 α1 β : Type} [Rep α0] [Rep α1] [Rep β] (f : α0 → α1 → R β) : List D → (D → Prop) → Prop := fun ds P => ∃ x0 x1, ds = [rep x0, rep x1] ∧ (f x0 x1).p ∧ P (rep (f x0 x1).v)
@[simp] def R.c2 {α0 α1 β : Type} (f : α0 → α1 → R β) (m0 : R α0) (m1 : R α1) : R β := ⟨m0.p ∧ m1.p ∧ (f m0.v m1.v).p, (f m0.v m1.v).v⟩
theorem RE.call2 {α0 α1 β : Type} [Rep α0] [Rep α1] [Rep β] {f : α0 → α1 → R β} {k j : Nat} {nm : Str} {ms : List Bool} {e0 e1 : Expr} {p0 : Pos} {m0 : R α0} {m1 : R α1}
    (c : Fn X.prog X.w X.K X.mg X.base k nm (SpD X.K M.t ms (G2 f))) (hr : Room j X.A) (hk : k ≤ j) (hg : Gl X nm) (ha : RA X M [e0, e1] env ms (R.cons m0 (R.cons m1 R.nil)))
    (hn : OkN nm) (he : starEach (e0 :: [e1]) X.env = (false, eval e0 X.env) :: starEach [e1] X.env := by rfl) (hpl : (backTo pos (starEach [e1] X.env)).any (·.1) = false := by rfl) :
    RE X M (.Call (.Name nm p0) [e0, e1] [] pos) env (R.c2 f m0 m1) := .mk fun p =>
  EV.call c hr hk hg (ha ⟨p.1, p.2.1, trivial⟩) (fun ds e => ⟨m0.v, m1.v, e, p.2.2, rfl⟩) hn he hpl
def G3 {α0 α1 α2 β : Type} [Rep α0] [Rep α1] [Rep α2] [Rep β] (f : α0 → α1 → α2 → R β) : List D → (D → Prop) → Prop := fun ds P => ∃ x0 x1 x2, ds = [rep x0, rep x1, rep x2] ∧ (f x0 x1 x2).p ∧ P (rep (f x0 x1 x2).v)
@[simp] def R.c3 {α0 α1 α2 β : Type} (f : α0 → α1 → α2 → R β) (m0 : R α0) (m1 : R α1) (m2 : R α2) : R β := ⟨m0.p ∧ m1.p ∧ m2.p ∧ (f m0.v m1.v m2.v).p, (f m0.v m1.v m2.v).v⟩
theorem RE.call3 {α0 α1 α2 β : Type} [Rep α0] [Rep α1] [Rep α2] [Rep β] {f : α0 → α1 → α2 → R β} {k j : Nat} {nm : Str} {ms : List Bool} {e0 e1 e2 : Expr} {p0 : Pos} {m0 : R α0} {m1 : R α1} {m2 : R α2}
    (c : Fn X.prog X.w X.K X.mg X.base k nm (SpD X.K M.t ms (G3 f))) (hr : Room j X.A) (hk : k ≤ j) (hg : Gl X nm) (ha : RA X M [e0, e1, e2] env ms (R.cons m0 (R.cons m1 (R.cons m2 R.nil))))
    (hn : OkN nm) (he : starEach (e0 :: [e1, e2]) X.env = (false, eval e0 X.env) :: starEach [e1, e2] X.env := by rfl) (hpl : (backTo pos (starEach [e1, e2] X.env)).any (·.1) = false := by rfl) :
    RE X M (.Call (.Name nm p0) [e0, e1, e2] [] pos) env (R.c3 f m0 m1 m2) := .mk fun p =>
  EV.call c hr hk hg (ha ⟨p.1, p.2.1, p.2.2.1, trivial⟩) (fun ds e => ⟨m0.v, m1.v, m2.v, e, p.2.2.2, rfl⟩) hn he hpl
def G4 {α0 α1 α2 α3 β : Type} [Rep α0] [Rep α1] [Rep α2] [Rep α3] [Rep β] (f : α0 → α1 → α2 → α3 → R β) : List D → (D → Prop) → Prop := fun ds P => ∃ x0 x1 x2 x3, ds = [rep x0, rep x1, rep x2, rep x3] ∧ (f x0 x1 x2 x3).p ∧ P (rep (f x0 x1 x2 x3).v)
@[simp] def R.c4 {α0 α1 α2 α3 β : Type} (f : α0 → α1 → α2 → α3 → R β) (m0 : R α0) (m1 : R α1) (m2 : R α2) (m3 : R α3) : R β := ⟨m0.p ∧ m1.p ∧ m2.p ∧ m3.p ∧ (f m0.v m1.v m2.v m3.v).p, (f m0.v m1.v m2.v m3.v).v⟩
theorem RE.call4 {α0 α1 α2 α3 β : Type} [Rep α0] [Rep α1] [Rep α2] [Rep α3] [Rep β] {f : α0 → α1 → α2 → α3 → R β} {k j : Nat} {nm : Str} {ms : List Bool} {e0 e1 e2 e3 : Expr} {p0 : Pos} {m0 : R α0} {m1 : R α1} {m2 : R α2} {m3 : R α3}
    (c : Fn X.prog X.w X.K X.mg X.base k nm (SpD X.K M.t ms (G4 f))) (hr : Room j X.A) (hk : k ≤ j) (hg : Gl X nm) (ha : RA X M [e0, e1, e2, e3] env ms (R.cons m0 (R.cons m1 (R.cons m2 (R.cons m3 R.nil)))))
    (hn : OkN nm) (he : starEach (e0 :: [e1, e2, e3]) X.env = (false, eval e0 X.env) :: starEach [e1, e2, e3] X.env := by rfl) (hpl : (backTo pos (starEach [e1, e2, e3] X.env)).any (·.1) = false := by rfl) :
    RE X M (.Call (.Name nm p0) [e0, e1, e2, e3] [] pos) env (R.c4 f m0 m1 m2 m3) := .mk fun p =>
  EV.call c hr hk hg (ha ⟨p.1, p.2.1, p.2.2.1, p.2.2.2.1, trivial⟩) (fun ds e => ⟨m0.v, m1.v, m2.v, m3.v, e, p.2.2.2.2, rfl⟩) hn he hpl
def G5 {α0 α1 α2 α3 α4 β : Type} [Rep α0] [Rep α1] [Rep α2] [Rep α3] [Rep α4] [Rep β] (f : α0 → α1 → α2 → α3 → α4 → R β) : List D → (D → Prop) → Prop := fun ds P => ∃ x0 x1 x2 x3 x4, ds = [rep x0, rep x1, rep x2, rep x3, rep x4] ∧ (f x0 x1 x2 x3 x4).p ∧ P (rep (f x0 x1 x2 x3 x4).v)
@[simp] def R.c5 {α0 α1 α2 α3 α4 β : Type} (f : α0 → α1 → α2 → α3 → α4 → R β) (m0 : R α0) (m1 : R α1) (m2 : R α2) (m3 : R α3) (m4 : R α4) : R β := ⟨m0.p ∧ m1.p ∧ m2.p ∧ m3.p ∧ m4.p ∧ (f m0.v m1.v m2.v m3.v m4.v).p, (f m0.v m1.v m2.v m3.v m4.v).v⟩
theorem RE.call5 {α0 α1 α2 α3 α4 β : Type} [Rep α0] [Rep α1] [Rep α2] [Rep α3] [Rep α4] [Rep β] {f : α0 → α1 → α2 → α3 → α4 → R β} {k j : Nat} {nm : Str} {ms : List Bool} {e0 e1 e2 e3 e4 : Expr} {p0 : Pos} {m0 : R α0} {m1 : R α1} {m2 : R α2} {m3 : R α3} {m4 : R α4}
    (c : Fn X.prog X.w X.K X.mg X.base k nm (SpD X.K M.t ms (G5 f))) (hr : Room j X.A) (hk : k ≤ j) (hg : Gl X nm) (ha : RA X M [e0, e1, e2, e3, e4] env ms (R.cons m0 (R.cons m1 (R.cons m2 (R.cons m3 (R.cons m4 R.nil))))))
    (hn : OkN nm) (he : starEach (e0 :: [e1, e2, e3, e4]) X.env = (false, eval e0 X.env) :: starEach [e1, e2, e3, e4] X.env := by rfl) (hpl : (backTo pos (starEach [e1, e2, e3, e4] X.env)).any (·.1) = false := by rfl) :
    RE X M (.Call (.Name nm p0) [e0, e1, e2, e3, e4] [] pos) env (R.c5 f m0 m1 m2 m3 m4) := .mk fun p =>
  EV.call c hr hk hg (ha ⟨p.1, p.2.1, p.2.2.1, p.2.2.2.1, p.2.2.2.2.1, trivial⟩) (fun ds e => ⟨m0.v, m1.v, m2.v, m3.v, m4.v, e, p.2.2.2.2.2, rfl⟩) hn he hpl
def G6 {α0 α1 α2 α3 α4 α5 β : Type} [Rep α0] [Rep α1] [Rep α2] [Rep α3] [Rep α4] [Rep α5] [Rep β] (f : α0 → α1 → α2 → α3 → α4 → α5 → R β) : List D → (D → Prop) → Prop := fun ds P => ∃ x0 x1 x2 x3 x4 x5, ds = [rep x0, rep x1, rep x2, rep x3, rep x4, rep x5] ∧ (f x0 x1 x2 x3 x4 x5).p ∧ P (rep (f x0 x1 x2 x3 x4 x5).v)
@[simp] def R.c6 {α0 α1 α2 α3 α4 α5 β : Type} (f : α0 → α1 → α2 → α3 → α4 → α5 → R β) (m0 : R α0) (m1 : R α1) (m2 : R α2) (m3 : R α3) (m4 : R α4) (m5 : R α5) : R β := ⟨m0.p ∧ m1.p ∧ m2.p ∧ m3.p ∧ m4.p ∧ m5.p ∧ (f m0.v m1.v m2.v m3.v m4.v m5.v).p, (f m0.v m1.v m2.v m3.v m4.v m5.v).v⟩
theorem RE.call6 {α0 α1 α2 α3 α4 α5 β : Type} [Rep α0] [Rep α1] [Rep α2] [Rep α3] [Rep α4] [Rep α5] [Rep β] {f : α0 → α1 → α2 → α3 → α4 → α5 → R β} {k j : Nat} {nm : Str} {ms : List Bool} {e0 e1 e2 e3 e4 e5 : Expr} {p0 : Pos} {m0 : R α0} {m1 : R α1} {m2 : R α2} {m3 : R α3} {m4 : R α4} {m5 : R α5}
    (c : Fn X.prog X.w X.K X.mg X.base k nm (SpD X.K M.t ms (G6 f))) (hr : Room j X.A) (hk : k ≤ j) (hg : Gl X nm) (ha : RA X M [e0, e1, e2, e3, e4, e5] env ms (R.cons m0 (R.cons m1 (R.cons m2 (R.cons m3 (R.cons m4 (R.cons m5 R.nil)))))))
    (hn : OkN nm) (he : starEach (e0 :: [e1, e2, e3, e4, e5]) X.env = (false, eval e0 X.env) :: starEach [e1, e2, e3, e4, e5] X.env := by rfl) (hpl : (backTo pos (starEach [e1, e2, e3, e4, e5] X.env)).any (·.1) = false := by rfl) :
    RE X M (.Call (.Name nm p0) [e0, e1, e2, e3, e4, e5] [] pos) env (R.c6 f m0 m1 m2 m3 m4 m5) := .mk fun p =>
  EV.call c hr hk hg (ha ⟨p.1, p.2.1, p.2.2.1, p.2.2.2.1, p.2.2.2.2.1, p.2.2.2.2.2.1, trivial⟩) (fun ds e => ⟨m0.v, m1.v, m2.v, m3.v, m4.v, m5.v, e, p.2.2.2.2.2.2, rfl⟩) hn he hpl
def G7 {α0 α1 α2 α3 α4 α5 α6 β : Type} [Rep α0] [Rep α1] [Rep α2] [Rep α3] [Rep α4] [Rep α5] [Rep α6] [Rep β] (f : α0 → α1 → α2 → α3 → α4 → α5 → α6 → R β) : List D → (D → Prop) → Prop := fun ds P => ∃ x0 x1 x2 x3 x4 x5 x6, ds = [rep x0, rep x1, rep x2, rep x3, rep x4, rep x5, rep x6] ∧ (f x0 x1 x2 x3 x4 x5 x6).p ∧ P (rep (f x0 x1 x2 x3 x4 x5 x6).v)
@[simp] def R.c7 {α0 α1 α2 α3 α4 α5 α6 β : Type} (f : α0 → α1 → α2 → α3 → α4 → α5 → α6 → R β) (m0 : R α0) (m1 : R α1) (m2 : R α2) (m3 : R α3) (m4 : R α4) (m5 : R α5) (m6 : R α6) : R β := ⟨m0.p ∧ m1.p ∧ m2.p ∧ m3.p ∧ m4.p ∧ m5.p ∧ m6.p ∧ (f m0.v m1.v m2.v m3.v m4.v m5.v m6.v).p, (f m0.v m1.v m2.v m3.v m4.v m5.v m6.v).v⟩
theorem RE.call7 {α0 α1 α2 α3 α4 α5 α6 β : Type} [Rep α0] [Rep α1] [Rep α2] [Rep α3] [Rep α4] [Rep α5] [Rep α6] [Rep β] {f : α0 → α1 → α2 → α3 → α4 → α5 → α6 → R β} {k j : Nat} {nm : Str} {ms : List Bool} {e0 e1 e2 e3 e4 e5 e6 : Expr} {p0 : Pos} {m0 : R α0} {m1 : R α1} {m2 : R α2} {m3 : R α3} {m4 : R α4} {m5 : R α5} {m6 : R α6}
    (c : Fn X.prog X.w X.K X.mg X.base k nm (SpD X.K M.t ms (G7 f))) (hr : Room j X.A) (hk : k ≤ j) (hg : Gl X nm) (ha : RA X M [e0, e1, e2, e3, e4, e5, e6] env ms (R.cons m0 (R.cons m1 (R.cons m2 (R.cons m3 (R.cons m4 (R.cons m5 (R.cons m6 R.nil))))))))
    (hn : OkN nm) (he : starEach (e0 :: [e1, e2, e3, e4, e5, e6]) X.env = (false, eval e0 X.env) :: starEach [e1, e2, e3, e4, e5, e6] X.env := by rfl) (hpl : (backTo pos (starEach [e1, e2, e3, e4, e5, e6] X.env)).any (·.1) = false := by rfl) :
    RE X M (.Call (.Name nm p0) [e0, e1, e2, e3, e4, e5, e6] [] pos) env (R.c7 f m0 m1 m2 m3 m4 m5 m6) := .mk fun p =>
  EV.call c hr hk hg (ha ⟨p.1, p.2.1, p.2.2.1, p.2.2.2.1, p.2.2.2.2.1, p.2.2.2.2.2.1, p.2.2.2.2.2.2.1, trivial⟩) (fun ds e => ⟨m0.v, m1.v, m2.v, m3.v, m4.v, m5.v, m6.v, e, p.2.2.2.2.2.2.2, rfl⟩) hn he hpl
def G8 {α0 α1 α2 α3 α4 α5 α6 α7 β : Type} [Rep α0] [Rep α1] [Rep α2] [Rep α3] [Rep α4] [Rep α5] [Rep α6] [Rep α7] [Rep β] (f : α0 → α1 → α2 → α3 → α4 → α5 → α6 → α7 → R β) : List D → (D → Prop) → Prop := fun ds P => ∃ x0 x1 x2 x3 x4 x5 x6 x7, ds = [rep x0, rep x1, rep x2, rep x3, rep x4, rep x5, rep x6, rep x7] ∧ (f x0 x1 x2 x3 x4 x5 x6 x7).p ∧ P (rep (f x0 x1 x2 x3 x4 x5 x6 x7).v)
@[simp] def R.c8 {α0 α1 α2 α3 α4 α5 α6 α7 β : Type} (f : α0 → α1 → α2 → α3 → α4 → α5 → α6 → α7 → R β) (m0 : R α0) (m1 : R α1) (m2 : R α2) (m3 : R α3) (m4 : R α4) (m5 : R α5) (m6 : R α6) (m7 : R α7) : R β := ⟨m0.p ∧ m1.p ∧ m2.p ∧ m3.p ∧ m4.p ∧ m5.p ∧ m6.p ∧ m7.p ∧ (f m0.v m1.v m2.v m3.v m4.v m5.v m6.v m7.v).p, (f m0.v m1.v m2.v m3.v m4.v m5.v m6.v m7.v).v⟩
theorem RE.call8 {α0 α1 α2 α3 α4 α5 α6 α7 β : Type} [Rep α0] [Rep α1] [Rep α2] [Rep α3] [Rep α4] [Rep α5] [Rep α6] [Rep α7] [Rep β] {f : α0 → α1 → α2 → α3 → α4 → α5 → α6 → α7 → R β} {k j : Nat} {nm : Str} {ms : List Bool} {e0 e1 e2 e3 e4 e5 e6 e7 : Expr} {p0 : Pos} {m0 : R α0} {m1 : R α1} {m2 : R α2} {m3 : R α3} {m4 : R α4} {m5 : R α5} {m6 : R α6} {m7 : R α7}
    (c : Fn X.prog X.w X.K X.mg X.base k nm (SpD X.K M.t ms (G8 f))) (hr : Room j X.A) (hk : k ≤ j) (hg : Gl X nm) (ha : RA X M [e0, e1, e2, e3, e4, e5, e6, e7] env ms (R.cons m0 (R.cons m1 (R.cons m2 (R.cons m3 (R.cons m4 (R.cons m5 (R.cons m6 (R.cons m7 R.nil)))))))))
    (hn : OkN nm) (he : starEach (e0 :: [e1, e2, e3, e4, e5, e6, e7]) X.env = (false, eval e0 X.env) :: starEach [e1, e2, e3, e4, e5, e6, e7] X.env := by rfl) (hpl : (backTo pos (starEach [e1, e2, e3, e4, e5, e6, e7] X.env)).any (·.1) = false := by rfl) :
    RE X M (.Call (.Name nm p0) [e0, e1, e2, e3, e4, e5, e6, e7] [] pos) env (R.c8 f m0 m1 m2 m3 m4 m5 m6 m7) := .mk fun p =>
  EV.call c hr hk hg (ha ⟨p.1, p.2.1, p.2.2.1, p.2.2.2.1, p.2.2.2.2.1, p.2.2.2.2.2.1, p.2.2.2.2.2.2.1, p.2.2.2.2.2.2.2.1, trivial⟩) (fun ds e => ⟨m0.v, m1.v, m2.v, m3.v, m4.v, m5.v, m6.v, m7.v, e, p.2.2.2.2.2.2.2.2, rfl⟩) hn he hpl
end

/-! ### what is walked -/
def Rch (K : PySem.W.Frag) (M : Mm) (lp : Bool) (S0 H0 S1 H1 S H : Hp) : Prop := Gd M S H ∧ Sub S1 S ∧ (if lp = true then Step M S0 H0 S H else Step M S1 H1 S H)
structure ItOk (K : PySem.W.Frag) (M : Mm) (rch : Hp → Hp → Prop) (ds : List D) (J : It) : Prop where
  go : ∀ (S H : Hp) (i : Nat) (d : D), rch S H → ds[i]? = some d → J.go i H ∧ ∀ x H', J.yld i H x H' → ∃ S', Step M S H S' H' ∧ Den K S' d x
  stop : ∀ (S H : Hp) (i : Nat), rch S H → ds.length ≤ i → i ≤ ds.length → J.stop i H
def RdI (K : PySem.W.Frag) (M : Mm) (lp : Bool) (wi : TI) (env : List Sl) (P : List D → Prop) : Prop :=
  ∀ S0 H0 σ S H, St0 K M S0 H0 S H env σ → ∀ Rr : It → Hp → Prop, (∀ ds J S1 H1, P ds → Step M S H S1 H1 → ItOk K M (Rch K M lp S0 H0 S1 H1) ds J → Rr J H1) → wi σ H Rr
/-- a list that is walked -/
def RdP (K : PySem.W.Frag) (M : Mm) (lp : Bool) (te : TE) (env : List Sl) (P : List D → Prop) : Prop :=
  ∀ S0 H0 σ S H, St0 K M S0 H0 S H env σ → ∀ Q : VK, (∀ ds a S1 H1, P ds → Step M S H S1 H1 → (∀ S' H', Rch K M lp S0 H0 S1 H1 S' H' → ∃ vs, H' a = some (.lst vs) ∧ Dens K S' ds vs) → Q (.ref a) H1) → te σ H Q
def starI (X : Cx) (tg iter : Expr) : TI := fun σ H Rr => ∀ pins s, L2.Inv X pins σ H s → wpAny (model X.prog X.w) X.A (eval iter X.env) (fun v s1 => wpAny (model X.prog X.w) X.A (pyIter v) (PIE X pins σ tg Rr) X.xe s1) X.xe s
theorem star_pi {X : Cx} {tg iter : Expr} : PI X tg iter (starI X tg iter) := ⟨fun pins s σ H Rr I h => h pins s I⟩
structure RI (X : Cx) (M : Mm) (lp : Bool) {α : Type} [Rep α] (tg iter : Expr) (env : List Sl) (m : R (List α)) : Prop where
  run : m.p → RdI X.K M lp (starI X tg iter) env (· = m.v.map rep)
instance {X : Cx} {M : Mm} {lp : Bool} {α : Type} [Rep α] {tg iter : Expr} {env : List Sl} {m : R (List α)} : CoeFun (RI X M lp tg iter env m) (fun _ => m.p → RdI X.K M lp (starI X tg iter) env (· = m.v.map rep)) := ⟨RI.run⟩
structure RP (X : Cx) (M : Mm) (lp : Bool) {α : Type} [Rep α] (e : Expr) (env : List Sl) (m : R (List α)) : Prop where
  run : m.p → RdP X.K M lp (star X e) env (· = m.v.map rep)
instance {X : Cx} {M : Mm} {lp : Bool} {α : Type} [Rep α] {e : Expr} {env : List Sl} {m : R (List α)} : CoeFun (RP X M lp e env m) (fun _ => m.p → RdP X.K M lp (star X e) env (· = m.v.map rep)) := ⟨RP.run⟩
section
variable {X : Cx} {M : Mm} {env : List Sl} {pos : Pos} {lp : Bool} {α β : Type} [Rep α] [Rep β] {tg iter e a b c : Expr} {wi : TI}
theorem RdI.of {P : List D → Prop} (h : PI X tg iter wi) (r : RdI X.K M lp wi env P) : RdI X.K M lp (starI X tg iter) env P := fun S0 H0 σ S H st Q q pins s I => h.run pins s σ H Q I (r S0 H0 σ S H st Q q)
theorem Rch.step {K : PySem.W.Frag} {S0 H0 S1 H1 S H S' H' : Hp} (h : Rch K M lp S0 H0 S1 H1 S H) (t : Step M S H S' H') : Rch K M lp S0 H0 S1 H1 S' H' := by
  obtain ⟨g, sb, s⟩ := h
  refine ⟨g.step t, fun a o e => t.ss a o (sb a o e), ?_⟩
  cases lp with
  | true => exact Step.trans s t
  | false => exact Step.trans s t
theorem RP.ofE {m : R (List α)} (h : RE X M e env m) : RP X M lp e env m := .mk fun p S0 H0 σ S H st Q q => h p _ _ _ _ _ st _ fun d v S1 H1 ed r t => by
  subst ed
  cases r with
  | lst e' r => exact q _ _ S1 H1 rfl t fun S' H' rc => ⟨_, rc.1.sub _ _ (rc.2.1 _ _ e'), r.mon rc.2.1⟩
theorem RP.ofB {m : R (List α)} (h : RB X M e env m) : RP X M false e env m := .mk fun p S0 H0 σ S H st Q q => h p _ _ _ _ _ st _ fun d v S1 H1 ed r t => by
  subst ed
  obtain ⟨a, vs, rfl, e1, nm, r⟩ := r.lst (st.step t).gd
  exact q _ _ S1 H1 rfl t fun S' H' rc => ⟨_, Step.ext (show Step M S1 H1 S' H' from rc.2.2) _ _ e1 nm lst_noT, r.mon rc.2.1⟩
theorem RP.br {x : List α} (i : Nat) {nm : Str} (hi : env[i]? = some (.br (x.map rep))) (hN : X.N[i]? = some nm) (hv : Vis X.env.scope nm) (hk : OkN nm) : RP X M lp (.Name nm pos) env (R.pure x) := .mk fun _ S0 H0 σ S H st Q q pins s I => (pe_var hN hv hk.d hk.c).run pins s σ H Q I (by
    obtain ⟨O, _, _, sl⟩ := st.own
    obtain ⟨p, vs, e1, e2, e3, r⟩ := sl i _ hi
    refine ⟨_, e1, q _ _ S H rfl (Step.refl st.gd.sub) fun S' H' rc => ⟨vs, ?_, r.mon rc.2.1⟩⟩
    obtain ⟨_, _, rc⟩ := rc
    cases lp with
    | true => exact Step.ext (show Step M S0 H0 S' H' from rc) _ _ e2 e3 lst_noT
    | false => exact Step.ext (show Step M S H S' H' from rc) _ _ (st.stp.ext _ _ e2 e3 lst_noT) e3 lst_noT)
theorem sql_of {K : PySem.W.Frag} {H : Hp} {a : Addr} {vs : List V} (h : H a = some (.lst vs)) : SqL K H a vs := .inl (.inl h)
theorem RI.list {m : R (List α)} (h : RP X M lp iter env m) : RI X M lp tg iter env m := .mk fun p => RdI.of (pi_list star_pe) fun S0 H0 σ S H st Rr q =>
  h p _ _ _ _ _ st _ fun ds a S1 H1 ed t hp => by
    obtain ⟨vs0, e0, _⟩ := hp S1 H1 ⟨(st.step t).gd, fun _ _ e => e, by
      cases lp with
      | true => exact st.stp.trans t
      | false => exact Step.refl (st.step t).gd.sub⟩
    refine ⟨a, rfl, ⟨vs0, sql_of e0⟩, q ds _ S1 H1 ed t ⟨fun S' H' i d rc hd => ?_, fun S' H' i rc hd hd2 => ?_⟩⟩
    · obtain ⟨vs, e1, r⟩ := hp S' H' rc
      obtain ⟨v, hv, rv⟩ := r.get hd
      refine ⟨⟨vs, v, sql_of e1, hv⟩, fun x H2 y => ?_⟩
      obtain ⟨rfl, y⟩ := y
      have e2 := y vs (sql_of e1)
      rw [hv] at e2
      cases e2
      exact ⟨S', Step.refl rc.1.sub, rv⟩
    · obtain ⟨vs, e1, r⟩ := hp S' H' rc
      exact ⟨vs, sql_of e1, by rw [← r.length]; exact hd⟩
/-- a tuple that is walked -/
theorem RI.tup {m : R (Tu α)} (h : RE X M iter env m) : RI X M lp tg iter env (R.map Tu.l m) := .mk fun p => RdI.of (pi_tup star_pe) fun S0 H0 σ S H st Rr q =>
  h p _ _ _ _ _ st _ fun d v S1 H1 ed r t => by
    subst ed
    cases r with
    | tup e' r =>
      rename_i a vs
      refine ⟨a, rfl, ⟨vs, sub_sqt (st.step t).gd.sub e'.sqt⟩, q _ _ S1 H1 rfl t ⟨fun S' H' i d rc hd => ?_, fun S' H' i rc hd hd2 => ?_⟩⟩
      · obtain ⟨v, hv, rv⟩ := r.get hd
        have sq := sub_sqt rc.1.sub (sub_sqt rc.2.1 e'.sqt)
        refine ⟨⟨vs, v, sq, hv⟩, fun x H2 y => ?_⟩
        obtain ⟨rfl, y⟩ := y
        have e2 := y vs sq
        rw [hv] at e2
        cases e2
        exact ⟨S', Step.refl rc.1.sub, rv.mon rc.2.1⟩
      · exact ⟨vs, sub_sqt rc.1.sub (sub_sqt rc.2.1 e'.sqt), by rw [← r.length]; exact hd⟩
/-- lo, lo + 1, .. below hi -/
def rng (lo hi : Int) : List Int := (List.range (hi - lo).toNat).map fun (i : Nat) => lo + (i : Int)
theorem rng_len {lo hi : Int} : (rng lo hi).length = (hi - lo).toNat := by simp [rng]
theorem rng_get {lo hi : Int} {i : Nat} {x : D} (h : ((rng lo hi).map rep)[i]? = some x) : i < (hi - lo).toNat ∧ x = .int (lo + (i : Int)) := by
  have hl : i < (hi - lo).toNat := by
    have := (List.getElem?_eq_some_iff.mp h).1
    simpa [rng] using this
  refine ⟨hl, ?_⟩
  unfold rng at h
  rw [List.map_map, List.getElem?_map, List.getElem?_range hl] at h
  exact (Option.some.inj h).symm
theorem rng_it {K : PySem.W.Frag} {rch : Hp → Hp → Prop} {lo hi : Int} (hr : ∀ S H, rch S H → Gd M S H) : ItOk K M rch ((rng lo hi).map rep) (Itr lo (hi - lo).toNat) where
  go := fun S H i d rc hd => by
    obtain ⟨hl, rfl⟩ := rng_get hd
    exact ⟨hl, fun x H' ⟨e1, e2⟩ => ⟨S, by rw [e1]; exact Step.refl (hr S H rc).sub, by rw [e2]; exact .int _⟩⟩
  stop := fun S H i rc hd _ => by
    rw [List.length_map, rng_len] at hd
    exact hd
@[simp] def R.rng1 (m : R Int) : R (List Int) := R.o1 (fun n : Int => n ≤ 1000000) (fun n => rng 0 n) ⟨m.p ∧ -1000000 ≤ m.v, m.v⟩
@[simp] def R.rng2 (m n : R Int) : R (List Int) := R.o2 (fun i j : Int => (-1000000 ≤ i ∧ i ≤ 1000000) ∧ -1000000 ≤ j ∧ j ≤ 1000000) rng m n
theorem RI.range1 {m : R Int} {p0 : Pos} (hg : Gl X "range") (hm : X.mg "range" = none) (h : RB X M a env m) (hs : starEach [a] X.env = [(false, eval a X.env)] := by rfl) :
    RI X M lp tg (.Call (.Name "range" p0) [a] [] pos) env (R.rng1 m) := .mk fun p => RdI.of (pi_range1 hg hm (pa_cons star_pe pa_nil (by rw [hs]; rfl)) hs) fun S0 H0 σ S H st Rr q =>
  h p.1.1 _ _ _ _ _ st _ fun d v S1 H1 ed r t => by
    subst ed
    rw [r.int]
    have h1 := p.1.2
    have h2 := p.2
    have e : (m.v - 0).toNat = m.v.toNat := by rw [Int.sub_zero]
    refine ⟨m.v, rfl, ?_, ?_, ?_⟩
    · have h1' : -1000000 ≤ m.v := h1
      omega
    · have h2' : m.v ≤ 1000000 := h2
      omega
    · rw [← e]
      exact q _ _ S1 H1 rfl t (rng_it fun S H rc => rc.1)
theorem RI.range2 {m n : R Int} {p0 : Pos} (hg : Gl X "range") (hm : X.mg "range" = none) (h : RB X M a env m) (h' : RB X M b env n) (hs : starEach [a, b] X.env = [(false, eval a X.env), (false, eval b X.env)] := by rfl) (hs2 : starEach [b] X.env = [(false, eval b X.env)] := by rfl) :
    RI X M lp tg (.Call (.Name "range" p0) [a, b] [] pos) env (R.rng2 m n) := .mk fun p => RdI.of (pi_range2 hg hm (pa_cons star_pe (pa_cons star_pe pa_nil (by rw [hs2]; rfl)) (by rw [hs, hs2])) hs hs2) fun S0 H0 σ S H st Rr q =>
  h p.1 _ _ _ _ _ st _ fun d v S1 H1 ed r t => by
    subst ed
    refine h' p.2.1 _ _ _ _ _ (st.step t) _ fun d v S2 H2 ed r2 t2 => ?_
    subst ed
    rw [r.int, r2.int]
    have h1 : (-1000000 ≤ m.v ∧ m.v ≤ 1000000) ∧ -1000000 ≤ n.v ∧ n.v ≤ 1000000 := p.2.2
    exact ⟨m.v, n.v, rfl, ⟨by omega, by omega, by omega, by omega⟩, q _ _ S2 H2 rfl (t.trans t2) (rng_it fun S H rc => rc.1)⟩
/-- (0, x), (1, y), .. -/
def enum {α : Type} (l : List α) : List (Int × α) := l.zipIdx.map fun p => ((p.2 : Int), p.1)
theorem enum_get {l : List α} {i : Nat} {d : D} (h : ((enum l).map rep)[i]? = some d) : ∃ x, l[i]? = some x ∧ d = .tuple [.int (i : Int), rep x] := by
  unfold enum at h
  rw [List.map_map, List.getElem?_map, List.getElem?_zipIdx] at h
  cases e : l[i]? with
  | none => rw [e] at h; cases h
  | some x => rw [e] at h; refine ⟨x, rfl, ?_⟩; simp at h; exact h.symm
theorem enum_len {l : List α} : (enum l).length = l.length := by simp [enum]
theorem newtup {K : PySem.W.Frag} {S H : Hp} (g : Gd M S H) {T : Addr} {vs : List V} {ds : List D} {o : Obj} (h : H T = none) (ho : o.dict = none) (r : Dens K S ds vs) : ∃ S', Step M S H S' (upd H T (.frz o (.tup vs))) ∧ Den K S' (.tuple ds) (.ref T) :=
  ⟨_, Step.newS g (.frz o (.tup vs)) h, .tup (.new ho) (r.mon (Step.newS g (.frz o (.tup vs)) h).ss)⟩
@[simp] def R.enum {α : Type} (m : R (List α)) : R (List (Int × α)) := R.map FP.enum m
theorem zip_get {l : List α} {k : List β} {i : Nat} {d : D} (h : ((l.zip k).map rep)[i]? = some d) : ∃ x y, l[i]? = some x ∧ k[i]? = some y ∧ d = .tuple [rep x, rep y] := by
  rw [List.getElem?_map] at h
  cases e : (l.zip k)[i]? with
  | none => rw [e] at h; cases h
  | some p =>
    obtain ⟨x, y⟩ := p
    rw [e] at h
    obtain ⟨e1, e2⟩ := List.getElem?_zip_eq_some.mp e
    exact ⟨x, y, e1, e2, (Option.some.inj h).symm⟩
@[simp] def R.zip {α β : Type} (m : R (List α)) (n : R (List β)) : R (List (α × β)) := R.o2 (fun _ _ => True) List.zip m n
end

/-! ### targets -/
def RdG (K : PySem.W.Frag) (M : Mm) (g : TG) (ix : List Nat) (d : D) (env : List Sl) (P : List Sl → Prop) : Prop :=
  ∀ S0 H0 σ S H v, St0 K M S0 H0 S H env σ → Den K S d v → ∀ Q : L2.St → Hp → Prop,
    (∀ env' σ' S' H', P env' → St0 K M S0 H0 S' H' env' σ' → Step M S H S' H' → σ'.length = σ.length → (∀ j, j ∉ ix → σ'[j]? = σ[j]?) → Q σ' H') → g v σ H Q
def starG (X : Cx) (tg : Expr) : TG := fun v σ H Q => ∀ pins s u, L2.Inv X pins σ H s → RelV v u → wpAny (model X.prog X.w) X.A (assign tg X.env u) (fun _ s' => ∃ σ' H', L2.Inv X pins σ' H' s' ∧ Q σ' H') X.xe s
theorem star_pg {X : Cx} {tg : Expr} : PG X tg (starG X tg) := ⟨fun pins s σ H v u Q I r h => h pins s u I r⟩
/-- a target takes a value: the slots it stores at, env ahead and behind -/
structure RG (X : Cx) (M : Mm) (tg : Expr) (ix : List Nat) (d : D) (env env' : List Sl) : Prop where
  run : RdG X.K M (starG X tg) ix d env (· = env')
instance {X : Cx} {M : Mm} {tg : Expr} {ix : List Nat} {d : D} {env env' : List Sl} : CoeFun (RG X M tg ix d env env') (fun _ => RdG X.K M (starG X tg) ix d env (· = env')) := ⟨RG.run⟩
section
variable {X : Cx} {M : Mm} {env env1 env2 env3 : List Sl} {pos : Pos}
theorem RdG.of {tg : Expr} {g : TG} {ix : List Nat} {d : D} {P : List Sl → Prop} (h : PG X tg g) (r : RdG X.K M g ix d env P) : RdG X.K M (starG X tg) ix d env P := fun S0 H0 σ S H v st dn Q q pins s u I rv => h.run pins s σ H v u Q I rv (r S0 H0 σ S H v st dn Q q)
theorem RG.name {d : D} (i : Nat) {nm : Str} (hN : X.N.Nodup) (hi : X.N[i]? = some nm) (hx : Loc X.env.scope nm) (hf : X.fn nm = true ∨ X.env.scope.names.lookup nm = some .local) (he : env.set i (.im d) = env1) : RG X M (.Name nm pos) [i] d env env1 := .mk <|
  RdG.of (pg_name hN hi hx hf) fun S0 H0 σ S H v st dn Q q => q env1 _ S H rfl (by rw [← he]; exact st.putIm i dn) (Step.refl st.gd.sub) (by simp) fun j hj => by rw [List.getElem?_set_ne (fun z => hj (by simp [z]))]
theorem RG.tup2 {t1 t2 : Expr} {k : Nat} {i1 i2 : List Nat} {d1 d2 : D} (hc : X.calm = true) (h1 : RG X M t1 i1 d1 env env1) (h2 : RG X M t2 i2 d2 env1 env2)
    (hn : (assignEach [t1, t2] X.env).length = 2 := by rfl) (hst : (assignEach [t1, t2] X.env).findIdx? (·.1) = none := by rfl) (hs : (assignEach [t1, t2] X.env).map (·.2) = assign t1 X.env :: (assignEach [t2] X.env).map (·.2) := by rfl) (hs2 : (assignEach [t2] X.env).map (·.2) = assign t2 X.env :: (assignEach [] X.env).map (·.2) := by rfl) :
    RG X M (.Tuple [t1, t2] k pos) (i1 ++ i2) (.tuple [d1, d2]) env env2 := .mk <|
  RdG.of (pg_tup hc (pgs_cons star_pg (pgs_cons star_pg pgs_nil hs2) hs) hn hst) fun S0 H0 σ S H v st dn Q q => by
    cases dn with
    | tup e r =>
      cases r with
      | cons r1 r =>
        cases r with
        | cons r2 r =>
          cases r
          rename_i a v1 v2
          refine ⟨a, _, rfl, sub_sqt st.gd.sub e.sqt, rfl, v1, [v2], rfl, h1 S0 H0 σ S H v1 st r1 _ fun env' σ' S1 H1 e1 st1 t1 l1 k1 => ?_⟩
          subst e1
          refine ⟨v2, [], rfl, h2 S0 H0 σ' S1 H1 v2 st1 (r2.mon t1.ss) _ fun env' σ2 S2 H2 e2 st2 t2 l2 k2 => ⟨rfl, ?_⟩⟩
          exact q env' σ2 S2 H2 e2 st2 (t1.trans t2) (l2.trans l1) fun j hj => (k2 j fun z => hj (List.mem_append_right _ z)).trans (k1 j fun z => hj (List.mem_append_left _ z))
theorem RG.tup3 {t1 t2 t3 : Expr} {k : Nat} {i1 i2 i3 : List Nat} {d1 d2 d3 : D} (hc : X.calm = true) (h1 : RG X M t1 i1 d1 env env1) (h2 : RG X M t2 i2 d2 env1 env2) (h3 : RG X M t3 i3 d3 env2 env3)
    (hn : (assignEach [t1, t2, t3] X.env).length = 3 := by rfl) (hst : (assignEach [t1, t2, t3] X.env).findIdx? (·.1) = none := by rfl) (hs : (assignEach [t1, t2, t3] X.env).map (·.2) = assign t1 X.env :: (assignEach [t2, t3] X.env).map (·.2) := by rfl)
    (hs2 : (assignEach [t2, t3] X.env).map (·.2) = assign t2 X.env :: (assignEach [t3] X.env).map (·.2) := by rfl) (hs3 : (assignEach [t3] X.env).map (·.2) = assign t3 X.env :: (assignEach [] X.env).map (·.2) := by rfl) :
    RG X M (.Tuple [t1, t2, t3] k pos) (i1 ++ (i2 ++ i3)) (.tuple [d1, d2, d3]) env env3 := .mk <|
  RdG.of (pg_tup hc (pgs_cons star_pg (pgs_cons star_pg (pgs_cons star_pg pgs_nil hs3) hs2) hs) hn hst) fun S0 H0 σ S H v st dn Q q => by
    cases dn with
    | tup e r =>
      cases r with
      | cons r1 r =>
        cases r with
        | cons r2 r =>
          cases r with
          | cons r3 r =>
            cases r
            rename_i a v1 v2 v3
            refine ⟨a, _, rfl, sub_sqt st.gd.sub e.sqt, rfl, v1, [v2, v3], rfl, h1 S0 H0 σ S H v1 st r1 _ fun env' σ' S1 H1 e1 st1 t1 l1 k1 => ?_⟩
            subst e1
            refine ⟨v2, [v3], rfl, h2 S0 H0 σ' S1 H1 v2 st1 (r2.mon t1.ss) _ fun env' σ2 S2 H2 e2 st2 t2 l2 k2 => ?_⟩
            subst e2
            refine ⟨v3, [], rfl, h3 S0 H0 σ2 S2 H2 v3 st2 ((r3.mon t1.ss).mon t2.ss) _ fun env' σ3 S3 H3 e3 st3 t3 l3 k3 => ⟨rfl, ?_⟩⟩
            exact q env' σ3 S3 H3 e3 st3 ((t1.trans t2).trans t3) ((l3.trans l2).trans l1) fun j hj => ((k3 j fun z => hj (List.mem_append_right _ (List.mem_append_right _ z))).trans (k2 j fun z => hj (List.mem_append_right _ (List.mem_append_left _ z)))).trans (k1 j fun z => hj (List.mem_append_left _ z))
end

/-! ### list comprehensions -/
def wipeE (env : List Sl) : List Nat → List Sl
  | [] => env
  | v :: vs => (wipeE env vs).set v .un
theorem St0.wipe {K : PySem.W.Frag} {M : Mm} {S0 H0 S H : Hp} {env : List Sl} {σ : L2.St} (h : St0 K M S0 H0 S H env σ) : ∀ vs : List Nat, St0 K M S0 H0 S H (wipeE env vs) (wipe σ vs)
  | [] => h
  | v :: vs => (St0.wipe h vs).putUn v none
theorem wipe_get (σ : L2.St) : ∀ (vs : List Nat) (j : Nat), (wipe σ vs)[j]? = if j ∈ vs ∧ j < σ.length then some none else σ[j]?
  | [], j => by simp [wipe]
  | v :: vs, j => by
    unfold wipe
    by_cases e : j = v
    · subst e
      by_cases l : j < σ.length
      · rw [List.getElem?_set_self (by rw [wipe_length]; exact l), if_pos ⟨List.mem_cons_self, l⟩]
      · rw [List.getElem?_eq_none (by rw [List.length_set, wipe_length]; omega), if_neg (by intro z; exact l z.2), List.getElem?_eq_none (by omega)]
    · rw [List.getElem?_set_ne (Ne.symm e), wipe_get σ vs j]
      simp [e]
theorem wipe_eq {σ σ' : L2.St} {vs : List Nat} (hl : σ'.length = (wipe σ vs).length) (h : ∀ j, j ∉ vs → σ'[j]? = (wipe σ vs)[j]?) : wipe σ' vs = wipe σ vs := by
  have hl' : σ'.length = σ.length := by rw [hl, wipe_length]
  refine List.ext_getElem? fun j => ?_
  rw [wipe_get, wipe_get, hl']
  by_cases e : j ∈ vs
  · by_cases l : j < σ.length
    · rw [if_pos ⟨e, l⟩, if_pos ⟨e, l⟩]
    · rw [if_neg (fun z => l z.2), if_neg (fun z => l z.2), List.getElem?_eq_none (by omega), List.getElem?_eq_none (by omega)]
  · rw [if_neg (fun z => e z.1), if_neg (fun z => e z.1), h j e, wipe_get, if_neg (fun z => e z.1)]
/-- a comprehension: its items, its targets, tests, elements -/
@[simp] def R.lc {α β : Type} (m : R (List α)) (t : α → R Bool) (f : α → R β) : R (List β) :=
  ⟨m.p ∧ m.v.length ≤ 100000 ∧ ∀ x ∈ m.v, (t x).p ∧ ((t x).v = true → (f x).p), (m.v.filter fun x => (t x).v).map fun x => (f x).v⟩
section
variable {K : PySem.W.Frag} {M : Mm} {env : List Sl} {α β : Type} [Rep α] [Rep β]
theorem RdF.lc {wi : TI} {g : TG} {tt : TT} {te : TE} {vs : List Nat} {m : R (List α)} {t : α → R Bool} {f : α → R β} {tE : α → List Sl} (hi : RdI K M false wi env (· = m.v.map rep)) {ix : List Nat} (hix : ∀ i ∈ ix, i ∈ vs)
    (hg : ∀ x ∈ m.v, RdG K M g ix (rep x) (wipeE env vs) (· = tE x)) (ht : ∀ x ∈ m.v, (t x).p → RdT K M tt (tE x) (· = (t x).v)) (hf : ∀ x ∈ m.v, (f x).p → RdE K M te (tE x) (· = rep (f x).v)) (hp : m.v.length ≤ 100000 ∧ ∀ x ∈ m.v, (t x).p ∧ ((t x).v = true → (f x).p)) :
    RdF K M (tLc wi g tt te vs) env (· = (R.lc m t f).v.map rep) := fun S0 H0 σ S H st Q q => by
  refine hi _ _ _ _ _ st _ fun ds J S1 H1 ed t1 it => ?_
  subst ed
  intro D hD
  have st1 := st.step t1
  have g1 := st1.gd
  have tN := Step.new g1 (.lst []) hD
  let got : Nat → List β := fun i => ((m.v.take i).filter fun x => (t x).v).map fun x => (f x).v
  refine ⟨fun i k H' => k = m.v.length - i ∧ i ≤ m.v.length ∧ ∃ S' us, Step M S1 H1 S' H' ∧ S' D = none ∧ H' D = some (.lst us) ∧ Dens K S' ((got i).map rep) us, ⟨m.v.length, by simp, Nat.zero_le _, S1, [], tN, g1.fresh hD, upd_same, by simp [got]; exact .nil⟩, ?_⟩
  rintro i k H' ⟨rfl, hil, S', us, t2, hn, hu, r⟩
  have st2 : St0 K M S0 H0 S' H' env σ := st1.step t2
  have rc : Rch K M false S0 H0 S1 H1 S' H' := ⟨st2.gd, t2.ss, t2⟩
  by_cases hlt : i < m.v.length
  · refine .inr ?_
    have hx : m.v[i]? = some m.v[i] := List.getElem?_eq_getElem hlt
    generalize m.v[i] = x at hx
    have hmem : x ∈ m.v := List.mem_of_getElem? hx
    obtain ⟨go, yl⟩ := it.go S' H' i (rep x) rc (by rw [List.getElem?_map, hx]; rfl)
    have hsucc : got (i + 1) = if (t x).v = true then got i ++ [(f x).v] else got i := by
      simp only [got]
      rw [List.take_add_one, hx, List.filter_append, List.map_append]
      simp only [Option.toList_some, List.filter_cons, List.filter_nil]
      split <;> simp
    refine ⟨go, fun H3 => ∃ S3 us3, Step M S1 H1 S3 H3 ∧ S3 D = none ∧ H3 D = some (.lst us3) ∧ Dens K S3 ((got (i + 1)).map rep) us3, fun H3 ⟨S3, us3, w1, w2, w3, w4⟩ => ⟨m.v.length - (i + 1), by omega, rfl, hlt, S3, us3, w1, w2, w3, w4⟩, fun v H3 hy => ?_⟩
    obtain ⟨S3, t3, dn⟩ := yl v H3 hy
    have st3 := (st2.step t3).wipe vs
    refine hg x hmem S0 H0 _ S3 H3 v st3 dn _ fun env4 σ4 S4 H4 e4 st4 t4 l4 k4 => ?_
    subst e4
    refine ⟨wipe_eq (by rw [l4]) fun j hj => k4 j fun z => hj (hix j z), ?_⟩
    refine ht x hmem (hp.2 x hmem).1 S0 H0 σ4 S4 H4 st4 _ fun b S5 H5 eb t5 => ?_
    have dkeep : ∀ {Sx Hx : Hp}, Step M S' H' Sx Hx → Sx D = none ∧ Hx D = some (.lst us) := fun {Sx Hx} tx =>
      ⟨tx.cap D hn (by rw [hu]; exact fun z => nomatch z), tx.ext D _ hu (fun m' => by
        have := st1.gd.vol D m'
        exact this.1 hD) lst_noT⟩
    cases b with
    | true =>
      rw [if_pos rfl]
      refine hf x hmem ((hp.2 x hmem).2 eb.symm) S0 H0 σ4 S5 H5 (st4.step t5) _ fun d v6 S6 H6 ed dn6 t6 => ?_
      subst ed
      have tt6 := ((t3.trans t4).trans t5).trans t6
      obtain ⟨n6, h6⟩ := dkeep tt6
      have hlen : us.length = (got i).length := by have := r.length; simpa using this.symm
      have hgl : (got i).length ≤ m.v.length := by
        simp only [got]
        rw [List.length_map]
        refine Nat.le_trans (List.length_filter_le _ _) ?_
        rw [List.length_take]
        omega
      refine ⟨us, h6, ?_, S6, us ++ [v6], ?_, n6, upd_same, ?_⟩
      · have : sizeLine = 16777216 := sizeLine_eq
        have := hp.1
        omega
      · have t7 := t2.trans tt6
        exact ⟨t7.ss, fun a o e => by rw [upd_ne (ne_of_none e n6)]; exact t7.sh a o e, fun a o e m' n' => by rw [upd_ne (ne_of_none e hD)]; exact t7.ext a o e m' n', fun a ps e tr => by
            rw [upd_ne (ne_of_none e hD)]; exact t7.tb a ps e tr, t7.cap, fun a m' vk => by
            have z : a ≠ D := fun z => by subst z; exact (st1.gd.vol _ m').1 hD
            rw [upd_ne z]; exact t7.vk a m' vk, fun a n' => by
            by_cases z : a = D
            · subst z; exact absurd hD n'
            · rw [upd_ne z]; exact t7.keep a n'⟩
      · rw [hsucc, if_pos eb.symm, List.map_append]
        exact (r.mon tt6.ss).append (.cons dn6 .nil)
    | false =>
      rw [if_neg (by decide)]
      have tt5 := (t3.trans t4).trans t5
      obtain ⟨n5, h5⟩ := dkeep tt5
      refine ⟨S5, us, t2.trans tt5, n5, h5, ?_⟩
      rw [hsucc, if_neg (by rw [← eb]; decide)]
      exact r.mon tt5.ss
  · refine .inl ⟨it.stop S' H' i rc (by rw [List.length_map]; omega) (by rw [List.length_map]; omega), ?_⟩
    have hfin : got i = (R.lc m t f).v := by
      simp only [got]
      rw [List.take_of_length_le (by omega)]
      rfl
    rw [hfin] at r
    refine q _ D us S' H' rfl ?_ hn hu r (t1.trans t2)
    cases z : H D with
    | none => rfl
    | some o => exact absurd hD (t1.keep D (by rw [z]; exact fun z => nomatch z))
end
section
variable {X : Cx} {M : Mm} {env : List Sl} {α β : Type} [Rep α] [Rep β]
/-- the block of a comprehension -/
abbrev Blk (X : Cx) (scope : Scope) (φ : Cx → Prop) : Prop := ∀ (s : Shared) (H : Hp) (C : Addr) (cl : List (Str × Addr)) (fp : List Addr), φ (X.blk s H scope (compEnvC scope cl C X.env) fp)
def bE (X : Cx) (scope : Scope) (e : Expr) : TE := fun σ H Q => ∀ (s : Shared) (H' : Hp) (C : Addr) (cl : List (Str × Addr)) (fp : List Addr), star (X.blk s H' scope (compEnvC scope cl C X.env) fp) e σ H Q
def bG (X : Cx) (scope : Scope) (e : Expr) : TG := fun v σ H Q => ∀ (s : Shared) (H' : Hp) (C : Addr) (cl : List (Str × Addr)) (fp : List Addr), starG (X.blk s H' scope (compEnvC scope cl C X.env) fp) e v σ H Q
def bT (X : Cx) (scope : Scope) (e : Expr) : TT := fun σ H Q => ∀ (s : Shared) (H' : Hp) (C : Addr) (cl : List (Str × Addr)) (fp : List Addr), starT (X.blk s H' scope (compEnvC scope cl C X.env) fp) e σ H Q
/-- the tests of a comprehension: none, one -/
def RTs (X : Cx) (scope : Scope) (M : Mm) (ifs : List Expr) (env : List Sl) (m : R Bool) : Prop := (ifs = [] ∧ m = R.pure true) ∨ ∃ c, ifs = [c] ∧ Blk X scope fun Y => RT Y M c env m
theorem lc_pts {scope : Scope} {ifs : List Expr} (h : ifs.length ≤ 1) : ∃ tt : TT, (∀ (s : Shared) (H : Hp) (C : Addr) (cl : List (Str × Addr)) (fp : List Addr), PTs (X.blk s H scope (compEnvC scope cl C X.env) fp) ifs tt) ∧
    ∀ (env : List Sl) (m : R Bool), RTs X scope M ifs env m → m.p → RdT X.K M tt env (· = m.v) := by
  cases ifs with
  | nil =>
    refine ⟨tYes, fun _ _ _ _ _ => pts_nil, fun env m hm _ S0 H0 σ S H st Q q => ?_⟩
    rcases hm with ⟨_, rfl⟩ | ⟨c, e, _⟩
    · exact q true S H rfl (Step.refl st.gd.sub)
    · cases e
  | cons c r =>
    cases r with
    | nil =>
      refine ⟨bT X scope c, fun s H C cl fp => pts_one ⟨fun pins s' σ H' Q I h => h s H C cl fp pins s' I⟩, fun env m hm hp S0 H0 σ S H st Q q s H' C cl fp => ?_⟩
      rcases hm with ⟨e, _⟩ | ⟨c', e, hm⟩
      · cases e
      · cases e
        exact hm s H' C cl fp hp S0 H0 σ S H st Q q
    | cons _ _ => simp at h
theorem RF.lc {elt tg iter : Expr} {ifs : List Expr} {scope : Scope} {own : List (Str × Nat)} {pos : Pos} {m : R (List α)} {t : α → R Bool} {f : α → R β} {tE : α → List Sl} {ix : List Nat} (hc : X.calm = true) (hN : X.N.Nodup) (ok : BlkOk X.N X.env.scope scope own) (hl : ifs.length ≤ 1) (hix : ∀ i ∈ ix, i ∈ own.map (·.2))
    (hi : RI X M false tg iter env m) (hg : ∀ x, Blk X scope fun Y => RG Y M tg ix (rep x) (wipeE env (own.map (·.2))) (tE x)) (ht : ∀ x, RTs X scope M ifs (tE x) (t x)) (he : ∀ x, Blk X scope fun Y => RE Y M elt (tE x) (f x)) (hs : ∀ x, foldedSetIterable iter X.env x = pure x) :
    RF X M (.ListComp elt [⟨tg, iter, ifs, 0⟩] scope pos) env (R.lc m t f) := .mk fun p => by
  obtain ⟨tt, pt, rt⟩ := lc_pts (X := X) (M := M) (scope := scope) hl
  exact EF.of (pe_lc (g := bG X scope tg) (te := bE X scope elt) hc hN star_pi ok (fun s H C cl fp => ⟨fun pins s' σ H' v u Q I r h => h s H C cl fp pins s' u I r⟩) pt (fun s H C cl fp => ⟨fun pins s' σ H' Q I h => h s H C cl fp pins s' I⟩) hs)
    (RdF.lc (hi p.1) hix (fun x _ S0 H0 σ S H v st dn Q q s H' C cl fp => hg x s H' C cl fp S0 H0 σ S H v st dn Q q) (fun x _ hp => rt _ _ (ht x) hp) (fun x _ hp S0 H0 σ S H st Q q s H' C cl fp => he x s H' C cl fp hp S0 H0 σ S H st Q q) p.2)
end
end FP
namespace FP
open PySem PySem.Spec PyProof.Rows L2
open Rep (rep)
/-! ### statements over data -/
structure Post where
  nx : List Sl → Prop
  rt : D → Prop
  bk : List Sl → Prop
  ct : List Sl → Prop
def RdS (K : PySem.W.Frag) (M : Mm) (ts : TS) (env : List Sl) (D : Post) : Prop :=
  ∀ S0 H0 σ S H, St0 K M S0 H0 S H env σ → ∀ Dl : Ends,
    (∀ env' σ' S' H', D.nx env' → St0 K M S0 H0 S' H' env' σ' → Sub S S' → Dl.nx σ' H') →
    (∀ d v S' H', D.rt d → Den K S' d v → Step M S0 H0 S' H' → Dl.rt v H') →
    (∀ env' σ' S' H', D.bk env' → St0 K M S0 H0 S' H' env' σ' → Sub S S' → Dl.bk σ' H') →
    (∀ env' σ' S' H', D.ct env' → St0 K M S0 H0 S' H' env' σ' → Sub S S' → Dl.ct σ' H') → ts Dl σ H
abbrev pN (P : List Sl → Prop) : Post := ⟨P, fun _ => False, fun _ => False, fun _ => False⟩
abbrev pR (P : D → Prop) : Post := ⟨fun _ => False, P, fun _ => False, fun _ => False⟩
/-- what a block comes to -/
inductive Fl (σT β L : Type) where
  | nx (s : σT) | rt (b : β) | bk (l : L) | ct (l : L)
abbrev pG {σT β L : Type} [Rep β] (E : σT → List Sl) (EL : L → List Sl) (v : Fl σT β L) : Post :=
  ⟨fun e => ∃ s, v = .nx s ∧ e = E s, fun d => ∃ b, v = .rt b ∧ d = rep b, fun e => ∃ l, v = .bk l ∧ e = EL l, fun e => ∃ l, v = .ct l ∧ e = EL l⟩
section
variable (X : Cx) (M : Mm) {σT β L : Type} [Rep β]
structure SN (st : Stmt) (env : List Sl) (E : σT → List Sl) (m : R σT) : Prop where
  run : m.p → RdS X.K M (starS X st) env (pN (· = E m.v))
structure BN (sts : List Stmt) (env : List Sl) (E : σT → List Sl) (m : R σT) : Prop where
  run : m.p → RdS X.K M (starB X sts) env (pN (· = E m.v))
structure BR (sts : List Stmt) (env : List Sl) (m : R β) : Prop where
  run : m.p → RdS X.K M (starB X sts) env (pR (· = rep m.v))
structure SG (st : Stmt) (env : List Sl) (E : σT → List Sl) (EL : L → List Sl) (m : R (Fl σT β L)) : Prop where
  run : m.p → RdS X.K M (starS X st) env (pG E EL m.v)
structure BG (sts : List Stmt) (env : List Sl) (E : σT → List Sl) (EL : L → List Sl) (m : R (Fl σT β L)) : Prop where
  run : m.p → RdS X.K M (starB X sts) env (pG E EL m.v)
end
section
variable {X : Cx} {M : Mm} {σT β L : Type} [Rep β] {st : Stmt} {sts : List Stmt} {env : List Sl} {E : σT → List Sl} {EL : L → List Sl}
instance {m : R σT} : CoeFun (SN X M st env E m) (fun _ => m.p → RdS X.K M (starS X st) env (pN (· = E m.v))) := ⟨SN.run⟩
instance {m : R σT} : CoeFun (BN X M sts env E m) (fun _ => m.p → RdS X.K M (starB X sts) env (pN (· = E m.v))) := ⟨BN.run⟩
instance {m : R β} : CoeFun (BR X M sts env m) (fun _ => m.p → RdS X.K M (starB X sts) env (pR (· = rep m.v))) := ⟨BR.run⟩
instance {m : R (Fl σT β L)} : CoeFun (SG X M st env E EL m) (fun _ => m.p → RdS X.K M (starS X st) env (pG E EL m.v)) := ⟨SG.run⟩
instance {m : R (Fl σT β L)} : CoeFun (BG X M sts env E EL m) (fun _ => m.p → RdS X.K M (starB X sts) env (pG E EL m.v)) := ⟨BG.run⟩
end
/-! less known slots -/
inductive LE : List Sl → List Sl → Prop
  | n : LE [] []
  | r {s : Sl} {l l' : List Sl} : LE l l' → LE (s :: l) (s :: l')
  | u {s : Sl} {l l' : List Sl} : LE l l' → LE (s :: l) (.un :: l')
  | f {ds : List D} {l l' : List Sl} : LE l l' → LE (.ow ds :: l) (.im (.list ds) :: l')
  | g {dss : List (List D)} {es : List D} {l l' : List Sl} (h : dss.map PyData.list = es) : LE l l' → LE (.oo dss :: l) (.im (.list es) :: l')
section
variable {K : PySem.W.Frag} {M : Mm} {S0 H0 S H : Hp} {σ : L2.St}
theorem LE.refl : ∀ l : List Sl, LE l l
  | [] => .n
  | _ :: l => .r (LE.refl l)
theorem St0.leAt : ∀ {l l' : List Sl}, LE l l' → ∀ (pre : List Sl) (S : Hp), St0 K M S0 H0 S H (pre ++ l) σ → ∃ S', St0 K M S0 H0 S' H (pre ++ l') σ ∧ Sub S S'
  | _, _, .n, pre, S, h => ⟨S, h, fun _ _ e => e⟩
  | _, _, .r (s := s) t, pre, S, h => by
    have e : ∀ x : List Sl, pre ++ s :: x = (pre ++ [s]) ++ x := fun x => by simp
    rw [e] at h
    rw [e]
    exact St0.leAt t (pre ++ [s]) S h
  | _, _, .u (s := s) (l := l) (l' := l') t, pre, S, h => by
    have h1 := h.drp pre.length
    have e : (pre ++ s :: l).set pre.length .un = (pre ++ [.un]) ++ l := by simp
    rw [e] at h1
    have e2 : pre ++ Sl.un :: l' = (pre ++ [.un]) ++ l' := by simp
    rw [e2]
    exact St0.leAt t (pre ++ [.un]) S h1
  | _, _, .f (ds := ds) (l := l) (l' := l') t, pre, S, h => by
    obtain ⟨a, vs, _, _, _, _, _, sb, h1⟩ := h.frz (i := pre.length) (ds := ds) (by simp)
    have e : (pre ++ Sl.ow ds :: l).set pre.length (.im (.list ds)) = (pre ++ [.im (.list ds)]) ++ l := by simp
    rw [e] at h1
    have e2 : pre ++ Sl.im (.list ds) :: l' = (pre ++ [.im (.list ds)]) ++ l' := by simp
    rw [e2]
    obtain ⟨S', h2, s2⟩ := St0.leAt t (pre ++ [.im (.list ds)]) _ h1
    exact ⟨S', h2, fun x o e => s2 x o (sb x o e)⟩
  | _, _, .g (dss := dss) (es := es) (l := l) (l' := l') he t, pre, S, h => by
    subst he
    obtain ⟨S2, sb, h1⟩ := h.frzO (i := pre.length) (dss := dss) (by simp)
    have e : (pre ++ Sl.oo dss :: l).set pre.length (.im (.list (dss.map PyData.list))) = (pre ++ [.im (.list (dss.map PyData.list))]) ++ l := by simp
    rw [e] at h1
    have e2 : pre ++ Sl.im (.list (dss.map PyData.list)) :: l' = (pre ++ [.im (.list (dss.map PyData.list))]) ++ l' := by simp
    rw [e2]
    obtain ⟨S', h2, s2⟩ := St0.leAt t (pre ++ [.im (.list (dss.map PyData.list))]) _ h1
    exact ⟨S', h2, fun x o e => s2 x o (sb x o e)⟩
theorem St0.le {env env' : List Sl} (h : St0 K M S0 H0 S H env σ) (l : LE env env') : ∃ S', St0 K M S0 H0 S' H env' σ ∧ Sub S S' := St0.leAt l [] S h
end
section
variable {K : PySem.W.Frag} {M : Mm} {env env' : List Sl} {ts : TS} {Z Z' : Post}
theorem RdS.imp (h : RdS K M ts env Z) (h1 : ∀ e, Z.nx e → Z'.nx e) (h2 : ∀ d, Z.rt d → Z'.rt d) (h3 : ∀ e, Z.bk e → Z'.bk e) (h4 : ∀ e, Z.ct e → Z'.ct e) : RdS K M ts env Z' := fun S0 H0 σ S H st Dl q1 q2 q3 q4 =>
  h S0 H0 σ S H st Dl (fun e σ' S' H' p => q1 e σ' S' H' (h1 e p)) (fun d v S' H' p => q2 d v S' H' (h2 d p)) (fun e σ' S' H' p => q3 e σ' S' H' (h3 e p)) (fun e σ' S' H' p => q4 e σ' S' H' (h4 e p))
theorem RdS.weak (l : LE env env') (h : RdS K M ts env' Z) : RdS K M ts env Z := fun S0 H0 σ S H st Dl q1 q2 q3 q4 => by
  obtain ⟨S1, st1, sb⟩ := st.le l
  exact h S0 H0 σ S1 H st1 Dl (fun e σ' S' H' p s t => q1 e σ' S' H' p s fun x o z => t x o (sb x o z)) q2 (fun e σ' S' H' p s t => q3 e σ' S' H' p s fun x o z => t x o (sb x o z)) (fun e σ' S' H' p s t => q4 e σ' S' H' p s fun x o z => t x o (sb x o z))
theorem RdS.seq {t u : TS} {P : List Sl → Prop} (h1 : RdS K M t env ⟨P, Z.rt, Z.bk, Z.ct⟩) (h2 : ∀ e, P e → RdS K M u e Z) : RdS K M (tSeq t u) env Z := fun S0 H0 σ S H st Dl q1 q2 q3 q4 =>
  h1 S0 H0 σ S H st { Dl with nx := u Dl } (fun e σ' S' H' p s t => h2 e p S0 H0 σ' S' H' s Dl (fun e σ2 S2 H2 p2 s2 t2 => q1 e σ2 S2 H2 p2 s2 fun x o z => t2 x o (t x o z)) q2 (fun e σ2 S2 H2 p2 s2 t2 => q3 e σ2 S2 H2 p2 s2 fun x o z => t2 x o (t x o z)) (fun e σ2 S2 H2 p2 s2 t2 => q4 e σ2 S2 H2 p2 s2 fun x o z => t2 x o (t x o z))) q2 q3 q4
theorem RdS.next (h : Z.nx env) : RdS K M tNext env Z := fun S0 H0 σ S H st Dl q1 _ _ _ => q1 env σ S H h st fun _ _ e => e
theorem RdS.if {c : TT} {t u : TS} {P : Bool → Prop} (hc : RdT K M c env P) (h1 : P true → RdS K M t env Z) (h2 : P false → RdS K M u env Z) : RdS K M (tIfS c t u) env Z := fun S0 H0 σ S H st Dl q1 q2 q3 q4 =>
  hc S0 H0 σ S H st _ fun b S1 H1 pb t1 => by
    cases b with
    | true => exact h1 pb S0 H0 σ S1 H1 (st.step t1) Dl (fun e σ' S' H' p s t => q1 e σ' S' H' p s fun x o z => t x o (t1.ss x o z)) q2 (fun e σ' S' H' p s t => q3 e σ' S' H' p s fun x o z => t x o (t1.ss x o z)) (fun e σ' S' H' p s t => q4 e σ' S' H' p s fun x o z => t x o (t1.ss x o z))
    | false => exact h2 pb S0 H0 σ S1 H1 (st.step t1) Dl (fun e σ' S' H' p s t => q1 e σ' S' H' p s fun x o z => t x o (t1.ss x o z)) q2 (fun e σ' S' H' p s t => q3 e σ' S' H' p s fun x o z => t x o (t1.ss x o z)) (fun e σ' S' H' p s t => q4 e σ' S' H' p s fun x o z => t x o (t1.ss x o z))
theorem RdS.set {te : TE} {i : Nat} {P : D → Prop} (h : RdE K M te env P) (hD : ∀ d, P d → Z.nx (env.set i (.im d))) : RdS K M (tAsg te (gName i)) env Z := fun S0 H0 σ S H st Dl q1 _ _ _ =>
  h S0 H0 σ S H st _ fun d v S1 H1 pd r t => q1 _ _ S1 H1 (hD d pd) ((st.step t).putIm i r) t.ss
theorem RdS.setF {te : TE} {i : Nat} {P : List D → Prop} (h : RdF K M te env P) (hD : ∀ d, P d → Z.nx (env.set i (.ow d))) : RdS K M (tAsg te (gName i)) env Z := fun S0 H0 σ S H st Dl q1 _ _ _ =>
  h S0 H0 σ S H st _ fun ds p vs S1 H1 pd h1 h2 h3 r t => q1 _ _ S1 H1 (hD ds pd) (st.putOw t i h1 h2 h3 r) t.ss
theorem RdS.tgt {te : TE} {g : TG} {ix : List Nat} {P : D → Prop} {G : D → List Sl → Prop} (h : RdE K M te env P) (hg : ∀ d, P d → RdG K M g ix d env (G d)) (hD : ∀ d e, P d → G d e → Z.nx e) : RdS K M (tAsg te g) env Z := fun S0 H0 σ S H st Dl q1 _ _ _ =>
  h S0 H0 σ S H st _ fun d v S1 H1 pd r t => hg d pd S0 H0 σ S1 H1 v (st.step t) r _ fun e σ' S2 H2 ge st2 t2 _ _ => q1 e σ' S2 H2 (hD d e pd ge) st2 fun x o z => t2.ss x o (t.ss x o z)
theorem RdS.ret {te : TE} {P : D → Prop} (h : RdE K M te env P) (hD : ∀ d, P d → Z.rt d) : RdS K M (tRet te) env Z := fun S0 H0 σ S H st Dl _ q2 _ _ =>
  h S0 H0 σ S H st _ fun d v S1 H1 pd r t => q2 d v S1 H1 (hD d pd) r (st.stp.trans t)
theorem RdS.drop {te : TE} {P : D → Prop} (h : RdE K M te env P) (hD : Z.nx env) : RdS K M (tDrop te) env Z := fun S0 H0 σ S H st Dl q1 _ _ _ =>
  h S0 H0 σ S H st _ fun d v S1 H1 pd r t => q1 env σ S1 H1 hD (st.step t) t.ss
/-- a for: I what holds ahead of turn i -/
theorem RdS.for {wi : TI} {g : TG} {tb : TS} {ix : List Nat} {ds : List D} {I : Nat → List Sl → Prop} {tE : Nat → List Sl → List Sl} (hi : RdI K M true wi env (· = ds)) (h0 : I 0 env)
    (hg : ∀ i d e, ds[i]? = some d → I i e → RdG K M g ix d e (· = tE i e)) (hb : ∀ i d e, ds[i]? = some d → I i e → RdS K M tb (tE i e) ⟨I (i + 1), Z.rt, Z.nx, I (i + 1)⟩) (hd : ∀ e, I ds.length e → Z.nx e) :
    RdS K M (tFor wi g tb) env Z := fun S0 H0 σ S H st Dl q1 q2 _ _ => by
  refine hi S0 H0 σ S H st _ fun ds' J S1 H1 ed t1 it => ?_
  subst ed
  have st1 := st.step t1
  refine ⟨fun i m σ' H' => m = ds'.length - i ∧ i ≤ ds'.length ∧ ∃ S' e, St0 K M S0 H0 S' H' e σ' ∧ Sub S1 S' ∧ I i e, ⟨ds'.length, by simp, Nat.zero_le _, S1, env, st1, fun _ _ e => e, h0⟩, ?_⟩
  rintro i m σ' H' ⟨rfl, hil, S', e, st', sb, hI⟩
  have rc : Rch K M true S0 H0 S1 H1 S' H' := ⟨st'.gd, sb, st'.stp⟩
  by_cases hlt : i < ds'.length
  · have hx : ds'[i]? = some ds'[i] := List.getElem?_eq_getElem hlt
    generalize ds'[i] = d at hx
    obtain ⟨go, yl⟩ := it.go S' H' i d rc hx
    refine .inr ⟨go, fun σ2 H2 => ∃ S2 e2, St0 K M S0 H0 S2 H2 e2 σ2 ∧ Sub S1 S2 ∧ I (i + 1) e2, fun σ2 H2 ⟨S2, e2, w1, w2, w3⟩ => ⟨ds'.length - (i + 1), by omega, rfl, hlt, S2, e2, w1, w2, w3⟩, fun v H2 hy => ?_⟩
    obtain ⟨S2, t2, dn⟩ := yl v H2 hy
    refine hg i d e hx hI S0 H0 σ' S2 H2 v (st'.step t2) dn _ fun e3 σ3 S3 H3 ee st3 t3 _ _ => ?_
    subst ee
    have s3 : Sub S1 S3 := fun x o z => t3.ss x o (t2.ss x o (sb x o z))
    refine hb i d e hx hI S0 H0 σ3 S3 H3 st3 _ (fun e4 σ4 S4 H4 p s t => ⟨S4, e4, s, fun x o z => t x o (s3 x o z), p⟩) q2 (fun e4 σ4 S4 H4 p s t => q1 e4 σ4 S4 H4 p s fun x o z => t x o (s3 x o (t1.ss x o z))) (fun e4 σ4 S4 H4 p s t => ⟨S4, e4, s, fun x o z => t x o (s3 x o z), p⟩)
  · have hi' : i = ds'.length := by omega
    subst hi'
    exact .inl ⟨it.stop S' H' _ rc (Nat.le_refl _) (Nat.le_refl _), q1 e σ' S' H' (hd e hI) st' fun x o z => sb x o (t1.ss x o z)⟩
/-- a while: I what holds ahead of a turn, by a number that falls -/
theorem RdS.while {c : TT} {tb : TS} {I : Nat → List Sl → Prop} (n0 : Nat) (h0 : I n0 env)
    (hb : ∀ n e, I n e → ∃ P : Bool → Prop, RdT K M c e P ∧ (P true → RdS K M tb e ⟨fun e' => ∃ n', n' < n ∧ I n' e', Z.rt, Z.nx, fun e' => ∃ n', n' < n ∧ I n' e'⟩) ∧ (P false → Z.nx e)) : RdS K M (tWhile c tb) env Z := fun S0 H0 σ S H st Dl q1 q2 _ _ => by
  refine ⟨fun m σ' H' => ∃ S' e, St0 K M S0 H0 S' H' e σ' ∧ Sub S S' ∧ I m e, ⟨n0, S, env, st, fun _ _ e => e, h0⟩, ?_⟩
  rintro m σ' H' ⟨S', e, st', sb, hI⟩
  obtain ⟨P, hc, ht, hf⟩ := hb m e hI
  refine hc S0 H0 σ' S' H' st' _ fun b S1 H1 pb t1 => ?_
  cases b with
  | true =>
    rw [if_pos rfl]
    refine ⟨fun σ2 H2 => ∃ m', m' < m ∧ ∃ S2 e2, St0 K M S0 H0 S2 H2 e2 σ2 ∧ Sub S S2 ∧ I m' e2, fun σ2 H2 ⟨m', l, w⟩ => ⟨m', l, w⟩, ?_⟩
    exact ht pb S0 H0 σ' S1 H1 (st'.step t1) _ (fun e4 σ4 S4 H4 ⟨n', l, p⟩ s t => ⟨n', l, S4, e4, s, fun x o z => t x o (t1.ss x o (sb x o z)), p⟩) q2 (fun e4 σ4 S4 H4 p s t => q1 e4 σ4 S4 H4 p s fun x o z => t x o (t1.ss x o (sb x o z))) (fun e4 σ4 S4 H4 ⟨n', l, p⟩ s t => ⟨n', l, S4, e4, s, fun x o z => t x o (t1.ss x o (sb x o z)), p⟩)
  | false =>
    rw [if_neg (by decide)]
    exact q1 e σ' S1 H1 (hf pb) (st'.step t1) fun x o z => t1.ss x o (sb x o z)
end
section
variable {X : Cx} {M : Mm} {st : Stmt} {sts rest : List Stmt} {env env' : List Sl} {ts : TS} {Z : Post}
theorem RdS.ofS (h : PS X st ts) (r : RdS X.K M ts env Z) : RdS X.K M (starS X st) env Z := fun S0 H0 σ S H st' Dl q1 q2 q3 q4 pins s I => h.run pins s σ H Dl I (r S0 H0 σ S H st' Dl q1 q2 q3 q4)
theorem RdS.ofB (h : PSs X sts ts) (r : RdS X.K M ts env Z) : RdS X.K M (starB X sts) env Z := fun S0 H0 σ S H st' Dl q1 q2 q3 q4 pins s I => h.run pins s σ H Dl I (r S0 H0 σ S H st' Dl q1 q2 q3 q4)
theorem RdS.consB (h1 : RdS X.K M (starS X st) env ⟨P, Z.rt, Z.bk, Z.ct⟩) (h2 : ∀ e, P e → RdS X.K M (starB X rest) e Z) : RdS X.K M (starB X (st :: rest)) env Z := RdS.ofB (pss_cons star_ps star_pss) (RdS.seq h1 h2)
theorem RdS.oneB (h1 : RdS X.K M (starS X st) env Z) : RdS X.K M (starB X [st]) env Z := RdS.ofB (pss_one star_ps) h1

/-! ### blocks, typed -/
variable {α β σT σU L : Type} [Rep α] [Rep β] {E : σT → List Sl} {E1 : σU → List Sl} {EL : L → List Sl}
theorem BN.nil (s : σT) (h : LE env (E s)) : BN X M [] env E (R.pure s) := .mk fun _ => RdS.weak h (RdS.ofB pss_nil (RdS.next rfl))
theorem BN.cons {m : R σU} {f : σU → R σT} (h : SN X M st env E1 m) (k : ∀ s, BN X M rest (E1 s) E (f s)) : BN X M (st :: rest) env E (R.bind m f) := .mk fun p =>
  RdS.consB (h p.1) fun e he => by rw [he]; exact k _ p.2
theorem BR.cons {m : R σU} {f : σU → R β} (h : SN X M st env E1 m) (k : ∀ s, BR X M rest (E1 s) (f s)) : BR X M (st :: rest) env (R.bind m f) := .mk fun p =>
  RdS.consB (P := (· = E1 m.v)) ((h p.1).imp (fun _ e => e) (fun _ z => z.elim) (fun _ z => z.elim) fun _ z => z.elim) fun e he => by rw [he]; exact k _ p.2
theorem BG.cons {m : R σU} {f : σU → R (Fl σT β L)} (h : SN X M st env E1 m) (k : ∀ s, BG X M rest (E1 s) E EL (f s)) : BG X M (st :: rest) env E EL (R.bind m f) := .mk fun p =>
  RdS.consB (P := (· = E1 m.v)) ((h p.1).imp (fun _ e => e) (fun _ z => z.elim) (fun _ z => z.elim) fun _ z => z.elim) fun e he => by rw [he]; exact k _ p.2
theorem BN.weak {m : R σT} (l : LE env env') (h : BN X M sts env' E m) : BN X M sts env E m := .mk fun p => RdS.weak l (h p)
theorem BR.weak {m : R β} (l : LE env env') (h : BR X M sts env' m) : BR X M sts env m := .mk fun p => RdS.weak l (h p)
theorem BG.weak {m : R (Fl σT β L)} (l : LE env env') (h : BG X M sts env' E EL m) : BG X M sts env E EL m := .mk fun p => RdS.weak l (h p)
theorem BG.nil (s : σT) (h : LE env (E s)) : BG X M (β := β) [] env E EL (R.pure (.nx s)) := .mk fun _ => RdS.weak h (RdS.ofB pss_nil (RdS.next ⟨s, rfl, rfl⟩))
/-- what a statement with ways out comes to, then the rest -/
@[simp] def R.fl {σU σT β L : Type} (m : R (Fl σU β L)) (f : σU → R (Fl σT β L)) : R (Fl σT β L) :=
  ⟨m.p ∧ (match m.v with | .nx s => (f s).p | _ => True), match m.v with | .nx s => (f s).v | .rt b => .rt b | .bk l => .bk l | .ct l => .ct l⟩
@[simp] def R.flR {σU β : Type} (m : R (Fl σU β Empty)) (f : σU → R β) : R β :=
  ⟨m.p ∧ (match m.v with | .nx s => (f s).p | _ => True), match m.v with | .nx s => (f s).v | .rt b => b | .bk l => nomatch l | .ct l => nomatch l⟩
theorem BG.consG {m : R (Fl σU β L)} {f : σU → R (Fl σT β L)} (h : SG X M st env E1 EL m) (k : ∀ s, BG X M rest (E1 s) E EL (f s)) : BG X M (st :: rest) env E EL (R.fl m f) := .mk fun p => by
  have h1 := h p.1
  have p2 := p.2
  cases hv : m.v with
  | nx s =>
    rw [hv] at h1 p2
    refine RdS.consB (P := (· = E1 s)) (h1.imp (fun e ⟨s', e1, e2⟩ => by cases e1; exact e2) (fun _ ⟨_, e1, _⟩ => nomatch e1) (fun _ ⟨_, e1, _⟩ => nomatch e1) fun _ ⟨_, e1, _⟩ => nomatch e1) fun e he => ?_
    rw [he]
    have := k s p2
    simp only [R.fl, hv]
    exact this
  | rt b =>
    rw [hv] at h1
    simp only [R.fl, hv]
    exact RdS.consB (P := fun _ => False) (h1.imp (fun e ⟨s', e1, e2⟩ => nomatch e1) (fun _ ⟨b', e1, e2⟩ => ⟨b', by cases e1; rfl, e2⟩) (fun _ ⟨_, e1, _⟩ => nomatch e1) fun _ ⟨_, e1, _⟩ => nomatch e1) fun e he => he.elim
  | bk b =>
    rw [hv] at h1
    simp only [R.fl, hv]
    exact RdS.consB (P := fun _ => False) (h1.imp (fun e ⟨s', e1, e2⟩ => nomatch e1) (fun _ ⟨_, e1, _⟩ => nomatch e1) (fun _ ⟨b', e1, e2⟩ => ⟨b', by cases e1; rfl, e2⟩) fun _ ⟨_, e1, _⟩ => nomatch e1) fun e he => he.elim
  | ct b =>
    rw [hv] at h1
    simp only [R.fl, hv]
    exact RdS.consB (P := fun _ => False) (h1.imp (fun e ⟨s', e1, e2⟩ => nomatch e1) (fun _ ⟨_, e1, _⟩ => nomatch e1) (fun _ ⟨_, e1, _⟩ => nomatch e1) fun _ ⟨b', e1, e2⟩ => ⟨b', by cases e1; rfl, e2⟩) fun e he => he.elim
theorem BR.consG {EE : Empty → List Sl} {m : R (Fl σU β Empty)} {f : σU → R β} (h : SG X M st env E1 EE m) (k : ∀ s, BR X M rest (E1 s) (f s)) : BR X M (st :: rest) env (R.flR m f) := .mk fun p => by
  have h1 := h p.1
  have p2 := p.2
  cases hv : m.v with
  | nx s =>
    rw [hv] at h1 p2
    refine RdS.consB (P := (· = E1 s)) (h1.imp (fun e ⟨s', e1, e2⟩ => by cases e1; exact e2) (fun _ ⟨_, e1, _⟩ => nomatch e1) (fun _ ⟨_, e1, _⟩ => nomatch e1) fun _ ⟨_, e1, _⟩ => nomatch e1) fun e he => ?_
    rw [he]
    have := k s p2
    simp only [R.flR, hv]
    exact this
  | rt b =>
    rw [hv] at h1
    simp only [R.flR, hv]
    exact RdS.consB (P := fun _ => False) (h1.imp (fun e ⟨s', e1, e2⟩ => nomatch e1) (fun _ ⟨b', e1, e2⟩ => by cases e1; exact e2) (fun _ ⟨_, e1, _⟩ => nomatch e1) fun _ ⟨_, e1, _⟩ => nomatch e1) fun e he => he.elim
  | bk b => exact nomatch b
  | ct b => exact nomatch b
/-! the last statement -/
theorem BR.ret {e : Expr} {pos : Pos} {m : R β} (h : RE X M e env m) : BR X M [.Return (some e) pos] env m := .mk fun p => RdS.oneB (RdS.ofS (ps_ret star_pe) (RdS.ret (h p) fun _ e => e))
/-- a list of one's own is handed back -/
theorem BR.retO {pos pos' : Pos} {x : List α} (i : Nat) {nm : Str} (hi : env[i]? = some (.ow (x.map rep))) (h : RE X M (.Name nm pos') (env.set i (.im (rep x))) (R.pure x)) : BR X M [.Return (some (.Name nm pos')) pos] env (R.pure x) := .mk fun p =>
  RdS.oneB fun S0 H0 σ S H st Dl q1 q2 q3 q4 => by
    obtain ⟨a, vs, _, _, _, _, _, sb, h1⟩ := st.frz hi
    exact RdS.ofS (ps_ret star_pe) (RdS.ret (Z := pR (· = rep x)) (h trivial) fun _ e => e) S0 H0 σ _ H h1 Dl (fun _ _ _ _ z => z.elim) q2 (fun _ _ _ _ z => z.elim) (fun _ _ _ _ z => z.elim)
theorem BG.ret {e : Expr} {pos : Pos} {m : R β} (h : RE X M e env m) : BG X M [.Return (some e) pos] env E EL (R.map Fl.rt m) := .mk fun p => RdS.oneB (RdS.ofS (ps_ret star_pe) (RdS.ret (h p) fun _ e => ⟨_, rfl, e⟩))
theorem BG.brk {pos : Pos} (l : L) (h : LE env (EL l)) : BG X M (β := β) [.Break pos] env E EL (R.pure (.bk l)) := .mk fun _ => RdS.weak h (RdS.oneB (RdS.ofS ps_break fun S0 H0 σ S H st Dl _ _ q3 _ => q3 _ σ S H ⟨l, rfl, rfl⟩ st fun _ _ e => e))
theorem BG.cnt {pos : Pos} (l : L) (h : LE env (EL l)) : BG X M (β := β) [.Continue pos] env E EL (R.pure (.ct l)) := .mk fun _ => RdS.weak h (RdS.oneB (RdS.ofS ps_continue fun S0 H0 σ S H st Dl _ _ _ q4 => q4 _ σ S H ⟨l, rfl, rfl⟩ st fun _ _ e => e))
/-! ifs -/
theorem if_rd {c : Expr} {a b : List Stmt} {pos : Pos} {mc : R Bool} (hc : RT X M c env mc) (hp : mc.p) (h1 : mc.v = true → RdS X.K M (starB X a) env Z) (h2 : mc.v = false → RdS X.K M (starB X b) env Z) : RdS X.K M (starS X (.If c a b pos)) env Z :=
  RdS.ofS (ps_if star_pt star_pss star_pss) (RdS.if (hc hp) (fun e => h1 e.symm) fun e => h2 e.symm)
theorem SN.ite {c : Expr} {a b : List Stmt} {pos : Pos} {mc : R Bool} {m n : R σT} (hc : RT X M c env mc) (h1 : BN X M a env E m) (h2 : BN X M b env E n) : SN X M (.If c a b pos) env E (R.ite mc m n) := .mk fun p =>
  if_rd hc p.1 (fun e => by simp only [R.ite, e, if_true]; exact h1 (p.2.1 e)) fun e => by simp only [R.ite, e]; exact h2 (p.2.2 e)
theorem SG.ite {c : Expr} {a b : List Stmt} {pos : Pos} {mc : R Bool} {m n : R (Fl σT β L)} (hc : RT X M c env mc) (h1 : BG X M a env E EL m) (h2 : BG X M b env E EL n) : SG X M (.If c a b pos) env E EL (R.ite mc m n) := .mk fun p =>
  if_rd hc p.1 (fun e => by simp only [R.ite, e, if_true]; exact h1 (p.2.1 e)) fun e => by simp only [R.ite, e]; exact h2 (p.2.2 e)
theorem BR.ite {c : Expr} {a b : List Stmt} {pos : Pos} {mc : R Bool} {m n : R β} (hc : RT X M c env mc) (h1 : BR X M a env m) (h2 : BR X M b env n) : BR X M [.If c a b pos] env (R.ite mc m n) := .mk fun p =>
  RdS.oneB (if_rd hc p.1 (fun e => by simp only [R.ite, e, if_true]; exact h1 (p.2.1 e)) fun e => by simp only [R.ite, e]; exact h2 (p.2.2 e))
theorem BG.ite {c : Expr} {a b : List Stmt} {pos : Pos} {mc : R Bool} {m n : R (Fl σT β L)} (hc : RT X M c env mc) (h1 : BG X M a env E EL m) (h2 : BG X M b env E EL n) : BG X M [.If c a b pos] env E EL (R.ite mc m n) := .mk fun p =>
  RdS.oneB (if_rd hc p.1 (fun e => by simp only [R.ite, e, if_true]; exact h1 (p.2.1 e)) fun e => by simp only [R.ite, e]; exact h2 (p.2.2 e))
/-- if c: (returns); the rest -/
theorem BR.cut {c : Expr} {a : List Stmt} {pos : Pos} {mc : R Bool} {m n : R β} (hc : RT X M c env mc) (h1 : BR X M a env m) (h2 : BR X M rest env n) : BR X M (.If c a [] pos :: rest) env (R.ite mc m n) := .mk fun p => by
  cases e : mc.v with
  | true =>
    have := h1 (p.2.1 e)
    simp only [R.ite, e, if_true]
    exact RdS.consB (P := fun _ => False) (if_rd hc p.1 (fun _ => this.imp (fun _ z => z.elim) (fun _ z => z) (fun _ z => z.elim) fun _ z => z.elim) fun e2 => by rw [e] at e2; cases e2) fun _ z => z.elim
  | false =>
    have := h2 (p.2.2 e)
    simp only [R.ite, e]
    exact RdS.consB (P := (· = env)) (if_rd hc p.1 (fun e2 => by rw [e] at e2; cases e2) fun _ => RdS.ofB pss_nil (RdS.next rfl)) fun _ z => by rw [z]; exact this
theorem BG.cut {EE : Empty → List Sl} {c : Expr} {a : List Stmt} {pos : Pos} {mc : R Bool} {m : R (Fl Empty β L)} {n : R (Fl σT β L)} (hc : RT X M c env mc) (h1 : BG X M a env EE EL m) (h2 : BG X M rest env E EL n) :
    BG X M (.If c a [] pos :: rest) env E EL (R.ite mc (R.fl m fun z => nomatch z) n) := .mk fun p => by
  cases e : mc.v with
  | true =>
    have h1 := h1 (p.2.1 e).1
    simp only [R.ite, e, if_true]
    refine RdS.consB (P := fun _ => False) (if_rd hc p.1 (fun _ => h1.imp (fun _ ⟨z, _⟩ => nomatch z) (fun _ ⟨b, e1, e2⟩ => ⟨b, by simp [R.fl, e1], e2⟩) (fun _ ⟨b, e1, e2⟩ => ⟨b, by simp [R.fl, e1], e2⟩) fun _ ⟨b, e1, e2⟩ => ⟨b, by simp [R.fl, e1], e2⟩) fun e2 => by rw [e] at e2; cases e2) fun _ z => z.elim
  | false =>
    have := h2 (p.2.2 e)
    simp only [R.ite, e]
    exact RdS.consB (P := (· = env)) (if_rd hc p.1 (fun e2 => by rw [e] at e2; cases e2) fun _ => RdS.ofB pss_nil (RdS.next rfl)) fun _ z => by rw [z]; exact this
/-! stores -/
theorem SN.set {e : Expr} {pos pos' : Pos} {m : R α} (i : Nat) {nm : Str} (hN : X.N.Nodup) (hi : X.N[i]? = some nm) (hx : Loc X.env.scope nm) (hf : X.fn nm = true ∨ X.env.scope.names.lookup nm = some .local) {E : α → List Sl} (h : RE X M e env m) (hE : ∀ v, env.set i (.im (rep v)) = E v) (hs : swapsWith e (some (.Name nm pos')) pos.line X.env = pure false := by rfl) :
    SN X M (.Assign [.Name nm pos'] e pos) env E m := .mk fun p => RdS.ofS (ps_set hN hi hx star_pe hs hf) (RdS.set (h p) fun d ed => by rw [ed]; exact hE _)
theorem SN.setF {e : Expr} {pos pos' : Pos} {m : R (List α)} (i : Nat) {nm : Str} (hN : X.N.Nodup) (hi : X.N[i]? = some nm) (hx : Loc X.env.scope nm) (hf : X.fn nm = true ∨ X.env.scope.names.lookup nm = some .local) {E : List α → List Sl} (h : RF X M e env m) (hE : ∀ v : List α, env.set i (.ow (v.map rep)) = E v) (hs : swapsWith e (some (.Name nm pos')) pos.line X.env = pure false := by rfl) :
    SN X M (.Assign [.Name nm pos'] e pos) env E m := .mk fun p => RdS.ofS (ps_set hN hi hx star_pe hs hf) (RdS.setF (h p) fun d ed => by rw [ed]; exact hE _)
/-- y = [..]: own, or what stays -/
theorem lcset_rd {elt tg iter : Expr} {ifs : List Expr} {scope : Scope} {own : List (Str × Nat)} {pos spos py : Pos} {m : R (List α)} {t : α → R Bool} {f : α → R β} {tE : α → List Sl} {ix : List Nat} (i : Nat) {nm : Str} (hc : X.calm = true) (hN : X.N.Nodup) (hy : X.N[i]? = some nm) (hyl : X.env.scope.names.lookup nm = some .local)
    (hsw : swapsWith (.ListComp elt [⟨tg, iter, ifs, 0⟩] scope pos) (some (.Name nm py)) spos.line X.env = pure true) (ok : BlkOk X.N X.env.scope scope own) (hl : ifs.length ≤ 1) (hix : ∀ i ∈ ix, i ∈ own.map (·.2))
    (hi : RI X M false tg iter env m) (hg : ∀ x, Blk X scope fun Y => RG Y M tg ix (rep x) (wipeE env (own.map (·.2))) (tE x)) (ht : ∀ x, RTs X scope M ifs (tE x) (t x)) (he : ∀ x, Blk X scope fun Y => RE Y M elt (tE x) (f x)) (hs : ∀ x, foldedSetIterable iter X.env x = pure x) (p : (R.lc m t f).p) :
    ∃ te, PS X (.Assign [.Name nm py] (.ListComp elt [⟨tg, iter, ifs, 0⟩] scope pos) spos) (tAsg te (gName i)) ∧ RdF X.K M te env (· = (R.lc m t f).v.map rep) := by
  obtain ⟨tt, pt, rt⟩ := lc_pts (X := X) (M := M) (scope := scope) hl
  exact ⟨_, ps_setLc (g := bG X scope tg) (te := bE X scope elt) hc hN hy hyl hsw star_pi ok (fun s H C cl fp => ⟨fun pins s' σ H' v u Q I r h => h s H C cl fp pins s' u I r⟩) pt (fun s H C cl fp => ⟨fun pins s' σ H' Q I h => h s H C cl fp pins s' I⟩) hs,
    RdF.lc (hi p.1) hix (fun x _ S0 H0 σ S H v st dn Q q s H' C cl fp => hg x s H' C cl fp S0 H0 σ S H v st dn Q q) (fun x _ hp => rt _ _ (ht x) hp) (fun x _ hp S0 H0 σ S H st Q q s H' C cl fp => he x s H' C cl fp hp S0 H0 σ S H st Q q) p.2⟩
theorem SN.lcF {elt tg iter : Expr} {ifs : List Expr} {scope : Scope} {own : List (Str × Nat)} {pos spos py : Pos} {m : R (List α)} {t : α → R Bool} {f : α → R β} {tE : α → List Sl} {ix : List Nat} (i : Nat) {nm : Str} {E : List β → List Sl} (hE : ∀ v : List β, env.set i (.ow (v.map rep)) = E v) (hc : X.calm = true) (hN : X.N.Nodup) (hy : X.N[i]? = some nm) (hyl : X.env.scope.names.lookup nm = some .local)
    (hsw : swapsWith (.ListComp elt [⟨tg, iter, ifs, 0⟩] scope pos) (some (.Name nm py)) spos.line X.env = pure true) (ok : BlkOk X.N X.env.scope scope own) (hl : ifs.length ≤ 1) (hix : ∀ i ∈ ix, i ∈ own.map (·.2))
    (hi : RI X M false tg iter env m) (hg : ∀ x, Blk X scope fun Y => RG Y M tg ix (rep x) (wipeE env (own.map (·.2))) (tE x)) (ht : ∀ x, RTs X scope M ifs (tE x) (t x)) (he : ∀ x, Blk X scope fun Y => RE Y M elt (tE x) (f x)) (hs : ∀ x, foldedSetIterable iter X.env x = pure x) :
    SN X M (.Assign [.Name nm py] (.ListComp elt [⟨tg, iter, ifs, 0⟩] scope pos) spos) env E (R.lc m t f) := .mk fun p => by
  obtain ⟨te, h1, h2⟩ := lcset_rd i hc hN hy hyl hsw ok hl hix hi hg ht he hs p
  exact RdS.ofS h1 (RdS.setF h2 fun d ed => by rw [ed]; exact hE _)
theorem SN.lc {elt tg iter : Expr} {ifs : List Expr} {scope : Scope} {own : List (Str × Nat)} {pos spos py : Pos} {m : R (List α)} {t : α → R Bool} {f : α → R β} {tE : α → List Sl} {ix : List Nat} (i : Nat) {nm : Str} {E : List β → List Sl} (hE : ∀ v : List β, env.set i (.im (rep v)) = E v) (hc : X.calm = true) (hN : X.N.Nodup) (hy : X.N[i]? = some nm) (hyl : X.env.scope.names.lookup nm = some .local)
    (hsw : swapsWith (.ListComp elt [⟨tg, iter, ifs, 0⟩] scope pos) (some (.Name nm py)) spos.line X.env = pure true) (ok : BlkOk X.N X.env.scope scope own) (hl : ifs.length ≤ 1) (hix : ∀ i ∈ ix, i ∈ own.map (·.2))
    (hi : RI X M false tg iter env m) (hg : ∀ x, Blk X scope fun Y => RG Y M tg ix (rep x) (wipeE env (own.map (·.2))) (tE x)) (ht : ∀ x, RTs X scope M ifs (tE x) (t x)) (he : ∀ x, Blk X scope fun Y => RE Y M elt (tE x) (f x)) (hs : ∀ x, foldedSetIterable iter X.env x = pure x) :
    SN X M (.Assign [.Name nm py] (.ListComp elt [⟨tg, iter, ifs, 0⟩] scope pos) spos) env E (R.lc m t f) := .mk fun p => by
  obtain ⟨te, h1, h2⟩ := lcset_rd i hc hN hy hyl hsw ok hl hix hi hg ht he hs p
  exact RdS.ofS h1 (RdS.set h2.e fun d ⟨ds, e1, e2⟩ => by rw [e1, e2]; exact hE _)
/-- targets of any form -/
theorem SN.tgt {e tg : Expr} {pos : Pos} {m : R α} {ix : List Nat} {E : α → List Sl} (h : RE X M e env m) (hg : ∀ v : α, RG X M tg ix (rep v) env (E v)) (hs : swapsWithSole [tg] e pos.line X.env = pure false := by rfl) (hw : swappedStores [tg] e X.env = pure none := by rfl)
    (h1 : (assignEach [tg] X.env).map (·.2) = [assign tg X.env] := by rfl) : SN X M (.Assign [tg] e pos) env E m := .mk fun p =>
  RdS.ofS (ps_asg star_pe star_pg hs hw h1) (RdS.tgt (h p) (fun d ed => by rw [ed]; exact (hg m.v).run) fun d e' _ h => h)
/-- a, b = x, y -/
theorem SN.par {a b : Expr} {px py pt pos : Pos} {kt k2 : Nat} {pt2 : Pos} {m : R α} {n : R β} (i j : Nat) {x y : Str} {E : α × β → List Sl} (hE : ∀ v : α × β, (env.set i (.im (rep v.1))).set j (.im (rep v.2)) = E v) (hc : X.calm = true) (hN : X.N.Nodup) (hi : X.N[i]? = some x) (hj : X.N[j]? = some y) (hij : i ≠ j)
    (hx : X.env.scope.names.lookup x = some .local) (hy : X.env.scope.names.lookup y = some .local) (ha : RA X M [a, b] env [true, true] (R.cons m (R.cons n R.nil)))
    (hw : swappedStores [.Tuple [.Name x px, .Name y py] kt pt] (.Tuple [a, b] k2 pt2) X.env = pure (some [x, y])) (hs : swapsWithSole [.Tuple [.Name x px, .Name y py] kt pt] (.Tuple [a, b] k2 pt2) pos.line X.env = pure false := by rfl) :
    SN X M (.Assign [.Tuple [.Name x px, .Name y py] kt pt] (.Tuple [a, b] k2 pt2) pos) env E (R.tup2 m n) := .mk fun p =>
  RdS.ofS (ps_par hc hN hi hj hij hx hy star_pa hw hs) fun S0 H0 σ S H st Dl q1 _ _ _ => ha ⟨p.1, p.2, trivial⟩ S0 H0 σ S H st _ fun ds vs S1 H1 ed bs t => by
    subst ed
    cases bs with
    | im r1 bs =>
      cases bs with
      | im r2 bs =>
        cases bs
        exact ⟨_, _, rfl, q1 _ _ S1 H1 rfl (by rw [← hE]; exact ((st.step t).putIm i r1).putIm j r2) t.ss⟩
/-! a list of one's own is changed -/
theorem ixN_of {n : Nat} {k : Int} (h : 0 ≤ k ∧ k < n) : ixN n k = some k.toNat := by
  unfold ixN
  rw [if_pos h.1, if_pos h.2]
theorem SN.setIx {e ei : Expr} {pos pos' pn : Pos} {m : R α} {n : R Int} {xs : List α} (i : Nat) {nm : Str} {E : List α → List Sl} (hi : env[i]? = some (.ow (xs.map rep))) (hE : ∀ v : List α, env.set i (.ow (v.map rep)) = E v) (hN : X.N[i]? = some nm) (hv : Vis X.env.scope nm) (hk : OkN nm) (h : RE X M e env m) (h' : RB X M ei env n)
    (ha : ∀ v, assign (.Subscript (.Name nm pn) ei pos') X.env v = (do
      let ov ← holding [v] (eval (.Name nm pn) X.env)
      let iv ← holding [v, ov] (eval ei X.env)
      standAt pos'
      holding [v, ov, iv] (setItem ov iv v)
      release [v, ov, iv] []) := by intro _; rfl) (hs : swapsWithSole [.Subscript (.Name nm pn) ei pos'] e pos.line X.env = pure false := by rfl) (hw : swappedStores [.Subscript (.Name nm pn) ei pos'] e X.env = pure none := by rfl)
    (h1 : (assignEach [.Subscript (.Name nm pn) ei pos'] X.env).map (·.2) = [assign (.Subscript (.Name nm pn) ei pos') X.env] := by rfl) :
    SN X M (.Assign [.Subscript (.Name nm pn) ei pos'] e pos) env E (R.setIx xs m n) := .mk fun p =>
  RdS.ofS (ps_asg star_pe (pg_sub (pe_var hN hv hk.d hk.c) star_pe set_list ha) hs hw h1) fun S0 H0 σ S H st Dl q1 _ _ _ => by
    refine h p.1 S0 H0 σ S H st _ fun d v S1 H1 ed r t1 => ?_
    subst ed
    obtain ⟨a, vs, e1, _⟩ := (st.step t1).mut hi
    refine ⟨.ref a, e1, ?_⟩
    refine h' p.2.1 S0 H0 σ S1 H1 (st.step t1) _ fun d u S2 H2 ed r2 t2 => ?_
    subst ed
    have st2 := (st.step t1).step t2
    obtain ⟨a', vs', e1', e2', rd', nm', ns', up⟩ := st2.mut hi
    rw [e1] at e1'
    cases e1'
    refine ⟨a, vs', n.v, n.v.toNat, rfl, r2.int, e2', ixN_of ⟨p.2.2.1, ?_⟩, ?_⟩
    · have := rd'.length
      rw [List.length_map] at this
      rw [← this]
      exact p.2.2.2
    · refine q1 _ σ S2 _ rfl ?_ fun x o z => t2.ss x o (t1.ss x o z)
      have := up (vs'.set n.v.toNat v) ((xs.set n.v.toNat m.v).map rep) (by rw [List.map_set]; exact rd'.set (r.mon t2.ss) _)
      rw [hE] at this
      exact this
theorem SN.append {e : Expr} {pos apos cpos pn : Pos} {m : R α} {xs : List α} (i : Nat) {nm : Str} {E : List α → List Sl} (hi : env[i]? = some (.ow (xs.map rep))) (hE : ∀ v : List α, env.set i (.ow (v.map rep)) = E v) (hN : X.N[i]? = some nm) (hv : Vis X.env.scope nm) (hk : OkN nm) (h : RE X M e env m)
    (hbase : attributeBase (.Name nm pn) "append" X.env (eval (.Name nm pn) X.env) = eval (.Name nm pn) X.env := by rfl)
    (hfew : ((backTo cpos (starEach [e] X.env)).all (fun x => !x.1) && (backToKw cpos (keywordEach [] X.env)).all (fun x => x.1.isSome) && decide ([e].length + ([] : List Keyword).length + (if ([] : List Keyword).isEmpty then 0 else 1) < 30)) = true := by rfl)
    (hline : (apos.endLine == cpos.line) = true := by rfl) (hst : starEach [e] X.env = (false, eval e X.env) :: starEach [] X.env := by rfl) (hplain : (backTo cpos (starEach [] X.env)).any (·.1) = false := by rfl)
    (hs : swapsWith (.Call (.Attribute (.Name nm pn) "append" apos) [e] [] cpos) none pos.line X.env = pure false := by rfl) :
    SN X M (.Expr (.Call (.Attribute (.Name nm pn) "append" apos) [e] [] cpos) pos) env E (R.app xs m) := .mk fun p =>
  RdS.ofS (ps_expr (pe_bm PySem.F.plainAttrs_list PySem.F.slot_list_append PySem.F.type_list_append mt_append (pe_var hN hv hk.d hk.c) (pa_cons star_pe pa_nil hst) hbase hfew hline hst hplain) hs) fun S0 H0 σ S H st Dl q1 _ _ _ => by
    obtain ⟨a, vs, e1, e2, _⟩ := st.mut hi
    refine ⟨.ref a, e1, .inl ⟨rfl, vs, sql_of e2⟩, ?_⟩
    refine h p.1 S0 H0 σ S H st _ fun d v S1 H1 ed r t1 => ?_
    subst ed
    obtain ⟨a', vs', e1', e2', rd', nm', ns', up⟩ := (st.step t1).mut hi
    rw [e1] at e1'
    cases e1'
    refine ⟨a, vs', v, rfl, rfl, e2', ?_, ?_⟩
    · have := rd'.length
      rw [List.length_map] at this
      have h2 := p.2
      have : sizeLine = 16777216 := sizeLine_eq
      omega
    · refine q1 _ σ S1 _ rfl ?_ t1.ss
      have := up (vs' ++ [v]) ((xs ++ [m.v]).map rep) (by rw [List.map_append]; exact rd'.append (.cons r .nil))
      rw [hE] at this
      exact this
/-! loops -/
def foldP {σT α : Type} (f : σT → α → R σT) : σT → List α → Prop
  | _, [] => True
  | s, x :: xs => (f s x).p ∧ foldP f (f s x).v xs
def foldV {σT α : Type} (f : σT → α → R σT) (s : σT) (xs : List α) : σT := xs.foldl (fun s x => (f s x).v) s
@[simp] def R.fold {σT α : Type} (m : R (List α)) (s : σT) (f : σT → α → R σT) : R σT := ⟨m.p ∧ foldP f s m.v, foldV f s m.v⟩
theorem foldV_take {σT α : Type} {f : σT → α → R σT} {s : σT} {xs : List α} {i : Nat} {x : α} (h : xs[i]? = some x) : foldV f s (xs.take (i + 1)) = (f (foldV f s (xs.take i)) x).v := by
  unfold foldV
  rw [List.take_add_one, h, List.foldl_append]
  rfl
theorem foldP_at {σT α : Type} {f : σT → α → R σT} : ∀ {s : σT} {xs : List α} {i : Nat} {x : α}, foldP f s xs → xs[i]? = some x → (f (foldV f s (xs.take i)) x).p
  | s, [], _, _, _, h => by simp at h
  | s, y :: xs, 0, x, p, h => by simp at h; subst h; exact p.1
  | s, y :: xs, i + 1, x, p, h => by
    have := foldP_at (s := (f s y).v) (i := i) p.2 (by simpa using h)
    simpa [foldV] using this
theorem SN.for {tg iter : Expr} {body : List Stmt} {pos : Pos} {m : R (List α)} {f : σT → α → R σT} {ix : List Nat} {tE : σT → α → List Sl} (s0 : σT) (hp : PassesOwn (model X.prog X.w) X.A X.env X.xe) (hc : X.calm = true) (h0 : LE env (E s0)) (hi : RI X M true tg iter (E s0) m)
    (hg : ∀ s x, RG X M tg ix (rep x) (E s) (tE s x)) (hb : ∀ s x, BN X M body (tE s x) E (f s x)) (hs : ∀ x, foldedSetIterable iter X.env x = pure x) : SN X M (.For tg iter body [] pos) env E (R.fold m s0 f) := .mk fun p =>
  RdS.weak h0 (RdS.ofS (ps_for hp hc star_pi star_pg star_pss hs) (RdS.for (ds := m.v.map rep) (I := fun i e => e = E (foldV f s0 (m.v.take i)))
    (tE := fun i e => match m.v[i]? with | some x => tE (foldV f s0 (m.v.take i)) x | none => e) (hi p.1) (by simp [foldV])
    (fun i d e hd he => by
      rw [List.getElem?_map] at hd
      cases hx : m.v[i]? with
      | none => rw [hx] at hd; cases hd
      | some x =>
        rw [hx] at hd
        cases hd
        subst he
        exact (hg _ x).run)
    (fun i d e hd he => by
      rw [List.getElem?_map] at hd
      cases hx : m.v[i]? with
      | none => rw [hx] at hd; cases hd
      | some x =>
        rw [hx] at hd
        cases hd
        have := hb (foldV f s0 (m.v.take i)) x (foldP_at p.2 hx)
        refine this.imp (fun e h => ?_) (fun _ z => z.elim) (fun _ z => z.elim) fun _ z => z.elim
        show e = E (foldV f s0 (m.v.take (i + 1)))
        rw [foldV_take hx]
        exact h)
    (fun e he => by
      rw [List.length_map, List.take_length] at he
      exact he)))
/-- a loop with ways out -/
def loopV {σT α β L : Type} (f : σT → α → R (Fl σT β σT)) : σT → List α → Fl σT β L
  | s, [] => .nx s
  | s, x :: xs => match (f s x).v with
    | .nx s' => loopV f s' xs
    | .ct s' => loopV f s' xs
    | .bk s' => .nx s'
    | .rt b => .rt b
def loopP {σT α β : Type} (f : σT → α → R (Fl σT β σT)) : σT → List α → Prop
  | _, [] => True
  | s, x :: xs => (f s x).p ∧ match (f s x).v with
    | .nx s' => loopP f s' xs
    | .ct s' => loopP f s' xs
    | .bk _ => True
    | .rt _ => True
@[simp] def R.loop {σT α β L : Type} (m : R (List α)) (s : σT) (f : σT → α → R (Fl σT β σT)) : R (Fl σT β L) := ⟨m.p ∧ loopP f s m.v, loopV f s m.v⟩
theorem SG.for {tg iter : Expr} {body : List Stmt} {pos : Pos} {m : R (List α)} {f : σT → α → R (Fl σT β σT)} {ix : List Nat} {tE : σT → α → List Sl} (s0 : σT) (hp : PassesOwn (model X.prog X.w) X.A X.env X.xe) (hc : X.calm = true) (h0 : LE env (E s0)) (hi : RI X M true tg iter (E s0) m)
    (hg : ∀ s x, RG X M tg ix (rep x) (E s) (tE s x)) (hb : ∀ s x, BG X M body (tE s x) E E (f s x)) (hs : ∀ x, foldedSetIterable iter X.env x = pure x) : SG X M (.For tg iter body [] pos) env E EL (R.loop m s0 f) := .mk fun p =>
  RdS.weak h0 (RdS.ofS (ps_for hp hc star_pi star_pg star_pss hs) (RdS.for (ds := m.v.map rep) (I := fun i e => ∃ s, e = E s ∧ loopP f s (m.v.drop i) ∧ (loopV f s (m.v.drop i) : Fl σT β L) = loopV f s0 m.v)
    (tE := fun i e => match m.v[i]? with | some x => (open Classical in if h : ∃ s, e = E s ∧ loopP f s (m.v.drop i) ∧ (loopV f s (m.v.drop i) : Fl σT β L) = loopV f s0 m.v then tE h.choose x else e) | none => e) (hi p.1) ⟨s0, rfl, by simpa using p.2, by simp⟩
    (fun i d e hd he => by
      rw [List.getElem?_map] at hd
      cases hx : m.v[i]? with
      | none => rw [hx] at hd; cases hd
      | some x =>
        rw [hx] at hd
        cases hd
        have h1 := he.choose_spec
        simp only [dif_pos he]
        have := hg he.choose x
        rw [← h1.1] at this
        exact this.run)
    (fun i d e hd he => by
      rw [List.getElem?_map] at hd
      cases hx : m.v[i]? with
      | none => rw [hx] at hd; cases hd
      | some x =>
        rw [hx] at hd
        cases hd
        simp only [dif_pos he]
        have h1 := he.choose_spec
        generalize he.choose = s at h1
        obtain ⟨_, hP, hV⟩ := h1
        have hdr : m.v.drop i = x :: m.v.drop (i + 1) := by
          obtain ⟨hl, e1⟩ := List.getElem?_eq_some_iff.mp hx
          rw [List.drop_eq_getElem_cons hl, e1]
        rw [hdr] at hP hV
        refine (hb s x hP.1).imp (fun e ⟨s', e1, e2⟩ => ⟨s', e2, ?_, ?_⟩) (fun d ⟨b, e1, e2⟩ => ⟨b, ?_, e2⟩) (fun e ⟨s', e1, e2⟩ => ⟨s', ?_, e2⟩) fun e ⟨s', e1, e2⟩ => ⟨s', e2, ?_, ?_⟩
        · have := hP.2; rw [e1] at this; exact this
        · rw [← hV]; simp only [loopV, e1]
        · show (loopV f s0 m.v : Fl σT β L) = .rt b
          rw [← hV]; simp only [loopV, e1]
        · show (loopV f s0 m.v : Fl σT β L) = .nx s'
          rw [← hV]; simp only [loopV, e1]
        · have := hP.2; rw [e1] at this; exact this
        · rw [← hV]; simp only [loopV, e1])
    (fun e ⟨s, e1, _, hV⟩ => ⟨s, by rw [List.length_map, List.drop_length] at hV; exact hV.symm, e1⟩)))
/-- a while, its turns counted -/
def whileV {σT : Type} (c : σT → R Bool) (f : σT → R σT) : Nat → σT → σT
  | 0, s => s
  | n + 1, s => if (c s).v = true then whileV c f n (f s).v else s
def whileP {σT : Type} (c : σT → R Bool) (f : σT → R σT) : Nat → σT → Prop
  | 0, s => (c s).p ∧ (c s).v = false
  | n + 1, s => (c s).p ∧ ((c s).v = true → (f s).p ∧ whileP c f n (f s).v)
@[simp] def R.whl {σT : Type} (n : Nat) (s : σT) (c : σT → R Bool) (f : σT → R σT) : R σT := ⟨whileP c f n s, whileV c f n s⟩
theorem SN.while {c : Expr} {body : List Stmt} {pos : Pos} {mc : σT → R Bool} {f : σT → R σT} (n : Nat) (s0 : σT) (hp : PassesOwn (model X.prog X.w) X.A X.env X.xe) (h0 : LE env (E s0)) (hc : ∀ s, RT X M c (E s) (mc s)) (hb : ∀ s, BN X M body (E s) E (f s)) : SN X M (.While c body [] pos) env E (R.whl n s0 mc f) := .mk fun p =>
  RdS.weak h0 (RdS.ofS (ps_while hp star_pt star_pss) (RdS.while (I := fun k e => ∃ s, e = E s ∧ whileP mc f k s ∧ whileV mc f k s = whileV mc f n s0) n ⟨s0, rfl, p, rfl⟩ fun k e ⟨s, e1, hP, hV⟩ => by
    subst e1
    cases k with
    | zero =>
      refine ⟨_, hc s hP.1, fun e => ?_, fun e => ?_⟩
      · rw [hP.2] at e; cases e
      · show E s = E (whileV mc f n s0)
        rw [← hV]; rfl
    | succ k =>
      refine ⟨_, hc s hP.1, fun e => ?_, fun e => ?_⟩
      · obtain ⟨h1, h2⟩ := hP.2 e.symm
        refine (hb s h1).imp (fun e' h => ⟨k, Nat.lt_succ_self _, _, h, h2, ?_⟩) (fun _ z => z.elim) (fun _ z => z.elim) fun _ z => z.elim
        rw [← hV]
        show whileV mc f k (f s).v = if (mc s).v = true then whileV mc f k (f s).v else s
        rw [if_pos e.symm]
      · show E s = E (whileV mc f n s0)
        rw [← hV]
        show E s = E (if (mc s).v = true then whileV mc f k (f s).v else s)
        rw [if_neg (by rw [← e]; decide)]))
end
end FP
namespace FP
open PySem PySem.Spec PyProof.Rows L2
open Rep (rep)
/-! ### a def by its body -/
theorem visB {sc : Scope} {x : Str} (h : (match sc.names.lookup x with | some .local => true | some .cell => true | some .free => true | _ => false) = true) : Vis sc x := by
  unfold Vis
  cases e : sc.names.lookup x with
  | none => rw [e] at h; cases h
  | some k => rw [e] at h; cases k <;> first | exact .inl rfl | exact .inr (.inl rfl) | exact .inr (.inr rfl) | cases h
theorem locB {sc : Scope} {x : Str} (h : (match sc.names.lookup x with | some .local => true | some .cell => true | _ => false) = true) : L2.Loc sc x := by
  unfold L2.Loc
  cases e : sc.names.lookup x with
  | none => rw [e] at h; cases h
  | some k => rw [e] at h; cases k <;> first | exact .inl rfl | exact .inr rfl | cases h
/-- the slots at the entry -/
inductive Args : List Bool → List D → List Sl → Prop
  | nil : Args [] [] []
  | im {ms : List Bool} {d : D} {ds : List D} {l : List Sl} : Args ms ds l → Args (true :: ms) (d :: ds) (.im d :: l)
  | br {ms : List Bool} {es ds : List D} {l : List Sl} : Args ms ds l → Args (false :: ms) (.list es :: ds) (.br es :: l)
theorem Args.sl {M : Mm} {K : PySem.W.Frag} {S H : Hp} (g : Gd M S H) : ∀ {ms : List Bool} {ds : List D} {l : List Sl} {vs : List V}, Args ms ds l → Bors K M S H ms ds vs →
    l.length = vs.length ∧ ∀ (i : Nat) (s : Sl), l[i]? = some s → ∃ v, vs[i]? = some v ∧ SlOk K M S H H [] s (some (some v))
  | _, _, _, _, .nil, .nil => ⟨rfl, fun i s e => by simp at e⟩
  | _, _, _, _, .im a, .im r b => by
    obtain ⟨h1, h2⟩ := Args.sl g a b
    refine ⟨by simp [h1], fun i s e => ?_⟩
    cases i with
    | zero => simp at e; subst e; exact ⟨_, rfl, _, rfl, r⟩
    | succ i => simpa using h2 i s (by simpa using e)
  | _, _, _, _, .br a, .br r b => by
    obtain ⟨h1, h2⟩ := Args.sl g a b
    refine ⟨by simp [h1], fun i s e => ?_⟩
    cases i with
    | zero =>
      simp at e; subst e
      obtain ⟨p, us, rfl, e1, e2, e3⟩ := r.lst g
      exact ⟨_, rfl, p, us, rfl, e1, e2, e3⟩
    | succ i => simpa using h2 i s (by simpa using e)
theorem St0.start {T : Addr → Prop} {K : PySem.W.Frag} {S H : Hp} {ms : List Bool} {ds : List D} {l : List Sl} {vs : List V} (hs : Sub S H) (ht : ∀ p, T p → TbG H p ∧ S p = none) (a : Args ms ds l) (b : Bors K (noM T) S H ms ds vs) (n : Nat) : St0 K (noM T) S H S H (l ++ List.replicate n .un) (vs.map some ++ List.replicate n none) := by
  have g : Gd (noM T) S H := ⟨hs, fun _ z => z.elim, ht⟩
  obtain ⟨h1, h2⟩ := Args.sl g a b
  refine ⟨by simp [h1], Step.refl hs, g, fun _ => [], (fun _ _ _ z => nomatch z), (fun _ _ z => nomatch z), fun i s e => ?_⟩
  by_cases hi : i < l.length
  · rw [List.getElem?_append_left hi] at e
    obtain ⟨v, e1, e2⟩ := h2 i s e
    rw [List.getElem?_append_left (by simpa [h1] using hi), List.getElem?_map, e1]
    exact e2
  · rw [List.getElem?_append_right (by omega)] at e
    have := List.mem_of_getElem? e
    rw [List.mem_replicate] at this
    rw [this.2]
    trivial
theorem Bors.lens {K : PySem.W.Frag} {M : Mm} {S H : Hp} {ms : List Bool} {ds : List D} {vs : List V} (b : Bors K M S H ms ds vs) : vs.length = ms.length := b.length.2.symm
/-- the context of a def's body -/
abbrev cxF (P : Program) (w : World) (K : PySem.W.Frag) (mg : Str → Option Value) (base : Heap) (N : List Str) (qual : Str) (sc : Scope) (f : Addr) (cd : Value) (A : Around) (outer : List Env) (s : Shared) (H : Hp) (E : XK) : Cx :=
  (cxOf CX0 P w K mg base N qual sc f cd A outer s H E).nox
theorem fun_ok {P : Program} {w : World} {K : PySem.W.Frag} {mg : Str → Option Value} {base : Heap} {x qual : Str} {params : Arguments} {body : List Stmt} {scope : Scope} {f : Addr} {fd : FuncData} {CX : CXT} {N ps : List Str} {k : Nat} {sp : Sp} (F : FunD K x qual params body scope [] [] f fd) (S : FnScope N ps scope) (len : ∀ vs H Q E, sp vs H Q E → vs.length = ps.length)
    (hbody : ∀ (cdv : Value) (A : Around) (outer : List Env) (s : Shared) (H : Hp) (vs : List V) (Q : VK) (E : XK), fd.code = cdv → Room k (A.deeper (envOfC qual scope s.heap.objs.size f cdv)) → sp vs H Q E →
      ∃ t, PSs (cxOf CX P w K mg base N qual scope f cdv A outer s H E) body t ∧ t { nx := fun _ H' => Q .non H', rt := Q } (L2.start N vs) H) : FnOk P w K mg base CX (k + 1) f fd ps sp := by
  obtain ⟨oc, od, dV, kV, doc, pm, an, cdv, ct, osl, rfl, lk, hcd, _, _⟩ := F.ex
  exact fn_of lk hcd S len fun A outer s H vs Q E hr hsp => hbody cdv A outer s H vs Q E rfl hr hsp
theorem Fn.of {T : Addr → Prop} {P : Program} {w : World} {K : PySem.W.Frag} {mg : Str → Option Value} {base : Heap} {x qual : Str} {params : Arguments} {body : List Stmt} {scope : Scope} {f : Addr} {fd : FuncData} {N ps : List Str} {k : Nat} {ms : List Bool} {G : List D → (D → Prop) → Prop}
    (F : FunD K x qual params body scope [] [] f fd) (S : FnScope N ps scope) (hm : mg x = some (.ref f)) (hb : Binds K fd ps []) (hl : ms.length = ps.length)
    (h : ∀ ds P', G ds P' → ∃ l : List Sl, Args ms ds l ∧ ∀ (cd : Value) (A : Around) (outer : List Env) (s : Shared) (H : Hp) (E : XK), fd.code = cd → Room k (A.deeper (envOfC qual scope s.heap.objs.size f cd)) →
      RdS K (noM T) (starB (cxF P w K mg base N qual scope f cd A outer s H E) body) (l ++ List.replicate (N.length - ps.length) .un) (pR P')) : Fn P w K mg base (k + 1) x (SpD K T ms G) := by
  refine ⟨f, fd, ps, fun_ok F S (fun vs H Q E hsp => ?_) (fun cd A outer s H vs Q E hcd hr hsp => ?_), hm, F.kp, hb⟩
  · obtain ⟨S, ds, P', _, _, b, _⟩ := hsp
    rw [b.lens, hl]
  · obtain ⟨S', ds, P', sb, tb, b, g, q⟩ := hsp
    obtain ⟨l, ha, hbody⟩ := h ds P' g
    have hN : vs.length = ps.length := by rw [b.lens, hl]
    refine ⟨_, PSs.nox star_pss, ?_⟩
    unfold L2.start
    rw [hN]
    exact hbody cd A outer s H E hcd hr S' H _ S' H (St0.start sb tb ha b _) _ (fun _ _ _ _ z => z.elim) (fun d v S2 H2 p r t => q d v S2 H2 p r t) (fun _ _ _ _ z => z.elim) (fun _ _ _ _ z => z.elim)

/-! ### the operations -/
/-- t + u, the new tuple's object is known -/
def rCatN (K : PySem.W.Frag) : R2 := fun x y H Q => ∃ a b xs ys, x = .ref a ∧ y = .ref b ∧ SqT K H a xs ∧ SqT K H b ys ∧ xs.length + ys.length ≤ sizeLine ∧
  (xs = [] → Q (.ref b) H) ∧ (xs ≠ [] → ys = [] → Q (.ref a) H) ∧ (xs ≠ [] → ys ≠ [] → ∀ (p : Addr) (o : Obj), H p = none → o.dict = none → Q (.ref p) (upd H p (.frz o (.tup (xs ++ ys)))))
theorem op_catN {X : Cx} : OpR X (binaryOp .Add) (rCatN X.K) := by
  intro pins s σ H x y v u Q I rx ry h
  obtain ⟨a, b, xs, ys, rfl, rfl, ha, hb, hz, q0, q1, q2⟩ := h
  obtain ⟨its, r1, p1, _⟩ := I.tuple ha
  obtain ⟨its2, r2, p2, _⟩ := I.tuple hb
  cases rx
  cases ry
  by_cases hx : xs = []
  · subst hx
    cases r1
    exact cat_tup0 p1 p2 ⟨.ref b, H, I, rfl, q0 rfl⟩
  · refine HT.cat_tup p1 p2 (fun z => hx (r1.nil_iff.mp z)) (fun z => ⟨.ref a, H, I, rfl, q1 hx (r2.nil_iff.mp z)⟩) (fun z => ?_) (by rw [← r1.length, ← r2.length]; exact hz)
    have hg : (s.heap.push ({ cls := .type "tuple", data := .seq (its ++ its2).toArray } : Obj)).get? s.heap.objs.size = some { cls := .type "tuple", data := .seq (its ++ its2).toArray } := Heap.get?_push_size _ rfl
    exact ⟨.ref s.heap.objs.size, _, I.laid (t' := s.toks) (o := .frz _ (.tup (xs ++ ys))) (fun b ob q => Heap.get?_push_of_some _ q) (Nat.le_refl _) ⟨hg, by rw [List.length_append]; exact hz, _, r1.append r2, ⟨_, hg, rfl, _, rfl⟩⟩, rfl, q2 hx (fun w => z (r2.nil_iff.mpr w)) _ _ (I.hok.fresh (Nat.le_refl _)) rfl⟩
/-- tuple(xs), xs a list -/
theorem call_tuple_N {X : Cx} : CallR X (.type "tuple") (fun xs H Q => ∃ p ys, xs = [.ref p] ∧ SqL X.K H p ys ∧ ∀ (l : Addr) (o : Obj), H l = none → o.dict = none → Q (.ref l) (upd H l (.frz o (.tup ys)))) := by
  intro pins s σ H xs us Q I rv ⟨p, ys, ex, hq, q⟩
  subst ex
  obtain ⟨u, rfl, rx⟩ := vals1 rv
  cases rx
  obtain ⟨its, r', pl, hz⟩ := I.list hq
  have hlen := r'.length
  refine call_tuple_list pl.isList (fun h' kp => ?_) (by simp only [List.size_toArray] <;> omega)
  have hg : (h'.push ({ cls := .type "tuple", data := .seq its.toArray } : Obj)).get? h'.objs.size = some { cls := .type "tuple", data := .seq its.toArray } := Heap.get?_push_size _ rfl
  have I1 : L2.Inv X pins σ H { s with heap := h' } := I.kept (t' := s.toks) kp
  exact ⟨.ref h'.objs.size, _, I1.laid (t' := s.toks) (o := .frz _ (.tup ys)) (fun b o e => Heap.get?_push_of_some _ e) (Nat.le_refl _) ⟨hg, hz, its, r', ⟨_, hg, rfl, _, rfl⟩⟩, rfl, q _ _ (I1.hok.fresh (Nat.le_refl _)) rfl⟩
section
variable {X : Cx} {M : Mm} {α β γ : Type} [Rep α] [Rep β] [Rep γ]
theorem semI {C : Int → Int → Prop} {K : PySem.W.Frag} {g : Int → Int → V} {d : D} (i j : Int) (hc : C i j) (hg : ∀ S, Den K S d (g i j)) : Sem2 K M (rI C g) (.int i) (.int j) (· = d) := fun S H x y gd bx bY Q q =>
  ⟨i, j, bx.int, bY.int, hc, q d _ S H rfl (hg S) (Step.refl gd.sub)⟩
theorem semI0 {K : PySem.W.Frag} {g : Int → Int → V} {d : D} (i j : Int) (hg : ∀ S, Den K S d (g i j)) : Sem2 K M (rI0 g) (.int i) (.int j) (· = d) := fun S H x y gd bx bY Q q =>
  ⟨i, j, bx.int, bY.int, q d _ S H rfl (hg S) (Step.refl gd.sub)⟩
abbrev T2 {α β : Type} : α → β → Prop := fun _ _ => True
abbrev T1 {α : Type} : α → Prop := fun _ => True
theorem o_add : Op2 X M .Add T2 (fun i j : Int => i + j) := ⟨_, op_add, fun i j _ => semI0 i j fun _ => .int _⟩
theorem o_sub : Op2 X M .Sub T2 (fun i j : Int => i - j) := ⟨_, op_sub, fun i j _ => semI0 i j fun _ => .int _⟩
theorem o_mul : Op2 X M .Mult CMul (fun i j : Int => i * j) := ⟨_, op_mul, fun i j h => semI i j h fun _ => .int _⟩
theorem o_mulW : Op2 X M .Mult CMulW (fun i j : Int => i * j) := ⟨_, op_mulW, fun i j h => semI i j h fun _ => .int _⟩
theorem o_fdiv : Op2 X M .FloorDiv CDiv (fun i j : Int => i / j) := ⟨_, op_fdiv, fun i j h => semI i j h fun _ => .int _⟩
theorem o_fdivW : Op2 X M .FloorDiv CDivW (fun i j : Int => i / j) := ⟨_, op_fdivW, fun i j h => semI i j h fun _ => .int _⟩
theorem o_mod : Op2 X M .Mod (fun _ j => 0 < j) (fun i j : Int => i % j) := ⟨_, op_mod, fun i j h => semI i j h fun _ => .int _⟩
theorem o_pow : Op2 X M .Pow CPow (fun i j : Int => i ^ j.toNat) := ⟨_, op_pow, fun i j h => semI i j h fun _ => .int _⟩
theorem o_and : Op2 X M .BitAnd T2 (fun i j : Int => Builtin.bitAnd i j) := ⟨_, op_and, fun i j _ => semI0 i j fun _ => .int _⟩
theorem o_or : Op2 X M .BitOr T2 (fun i j : Int => Builtin.bitOr i j) := ⟨_, op_or, fun i j _ => semI0 i j fun _ => .int _⟩
theorem u_neg : Un1 X M .USub T1 (fun i : Int => -i) := ⟨_, un_neg, fun i _ S H x g b Q q => ⟨i, b.int, q _ _ S H rfl (.int _) (Step.refl g.sub)⟩⟩
theorem c_lt : Cm2 X M .Lt T2 (fun i j : Int => decide (i < j)) := ⟨_, op_lt, fun i j _ => semI0 i j fun _ => .bl _⟩
theorem c_le : Cm2 X M .LtE T2 (fun i j : Int => decide (i ≤ j)) := ⟨_, op_le, fun i j _ => semI0 i j fun _ => .bl _⟩
theorem c_gt : Cm2 X M .Gt T2 (fun i j : Int => decide (j < i)) := ⟨_, op_gt, fun i j _ => semI0 i j fun _ => .bl _⟩
theorem c_ge : Cm2 X M .GtE T2 (fun i j : Int => decide (j ≤ i)) := ⟨_, op_ge, fun i j _ => semI0 i j fun _ => .bl _⟩
theorem c_eqI : Cm2 X M .Eq T2 (fun i j : Int => decide (i = j)) := ⟨_, op_eq, fun i j _ S H x y g bx bY Q q => by
  rw [bx.int, bY.int]; exact ⟨rfl, q _ _ S H rfl (by simpa using Den.bl _) (Step.refl g.sub)⟩⟩
theorem c_neI : Cm2 X M .NotEq T2 (fun i j : Int => !decide (i = j)) := ⟨_, op_ne, fun i j _ S H x y g bx bY Q q => by
  rw [bx.int, bY.int]; exact ⟨rfl, q _ _ S H rfl (by simpa using Den.bl _) (Step.refl g.sub)⟩⟩
theorem c_eqB : Cm2 X M .Eq T2 (fun i j : Bool => decide (i = j)) := ⟨_, op_eq, fun i j _ S H x y g bx bY Q q => by
  rw [bx.bl, bY.bl]; exact ⟨rfl, q _ _ S H rfl (by simpa using Den.bl _) (Step.refl g.sub)⟩⟩
theorem c_neB : Cm2 X M .NotEq T2 (fun i j : Bool => !decide (i = j)) := ⟨_, op_ne, fun i j _ S H x y g bx bY Q q => by
  rw [bx.bl, bY.bl]; exact ⟨rfl, q _ _ S H rfl (by simpa using Den.bl _) (Step.refl g.sub)⟩⟩
theorem c_eqS : Cm2 X M .Eq T2 (fun i j : Str => decide (i = j)) := ⟨_, op_eq, fun i j _ S H x y g bx bY Q q => by
  rw [bx.str, bY.str]; exact ⟨rfl, q _ _ S H rfl (by simpa using Den.bl _) (Step.refl g.sub)⟩⟩
theorem c_neS : Cm2 X M .NotEq T2 (fun i j : Str => !decide (i = j)) := ⟨_, op_ne, fun i j _ S H x y g bx bY Q q => by
  rw [bx.str, bY.str]; exact ⟨rfl, q _ _ S H rfl (by simpa using Den.bl _) (Step.refl g.sub)⟩⟩
/-- deep == -/
class PEq (α : Type) [Rep α] [DecidableEq α] where
  eqv : ∀ x y : α, PyData.eqv (rep x) (rep y) = decide (x = y)
  lay : ∀ x : α, PyData.canLay0 (rep x) = true
  dp : Nat
  hdp : ∀ x : α, (rep x : D).depth ≤ dp
/-- never none -/
class NN (α : Type) [Rep α] where
  ne : ∀ x : α, (rep x : D) ≠ .none
theorem PEq.shp [DecidableEq α] [PEq α] (h : PEq.dp α ≤ 64) (x : α) : SeqAt.shaped (rep x) = true := by
  unfold SeqAt.shaped
  rw [PEq.lay x, Bool.true_and, decide_eq_true_eq]
  exact Nat.le_trans (PEq.hdp x) h
theorem c_eq [DecidableEq α] [PEq α] {k : Nat} (hr : Room k X.A) (h : PEq.dp α ≤ 64) : Cm2 X M .Eq T2 (fun x y : α => decide (x = y)) := ⟨_, op_eqD (Room.units hr), fun i j _ S H x y g bx bY Q q =>
  ⟨rep i, rep j, bx.dp g, bY.dp g, PEq.shp h i, PEq.shp h j, q _ _ S H rfl (by rw [PEq.eqv]; exact .bl _) (Step.refl g.sub)⟩⟩
theorem c_ne [DecidableEq α] [PEq α] {k : Nat} (hr : Room k X.A) (h : PEq.dp α ≤ 64) : Cm2 X M .NotEq T2 (fun x y : α => !decide (x = y)) := ⟨_, op_neD (Room.units hr), fun i j _ S H x y g bx bY Q q =>
  ⟨rep i, rep j, bx.dp g, bY.dp g, PEq.shp h i, PEq.shp h j, q _ _ S H rfl (by rw [PEq.eqv]; exact .bl _) (Step.refl g.sub)⟩⟩
theorem eqvAll_map {l k : List α} (h : ∀ x y : α, PyData.eqv (rep x) (rep y) = true ↔ x = y) : PyData.eqvAll (l.map rep) (k.map rep) = true ↔ l = k := by
  induction l generalizing k with
  | nil => cases k <;> simp [PyData.eqvAll]
  | cons x l ih => cases k with
    | nil => simp [PyData.eqvAll]
    | cons y k => simp [PyData.eqvAll, ih, h]
theorem layAll_map {l : List α} (h : ∀ x : α, PyData.canLay0 (rep x) = true) : PyData.canLayAll0 (l.map rep) = true := by
  induction l with
  | nil => rfl
  | cons x l ih => simp [PyData.canLayAll0, ih, h]
theorem depAll_map {l : List α} {k : Nat} (h : ∀ x : α, (rep x : D).depth ≤ k) : PyData.depthAll (l.map rep) ≤ k := by
  induction l with
  | nil => exact Nat.zero_le _
  | cons x l ih => have := h x; simp only [List.map_cons, PyData.depthAll]; omega
theorem PEq.iff [DecidableEq α] [PEq α] (x y : α) : PyData.eqv (rep x) (rep y) = true ↔ x = y := by rw [PEq.eqv, decide_eq_true_eq]
instance : PEq Int := ⟨fun x y => by show (x == y) = decide (x = y); exact Bool.beq_eq_decide_eq x y, fun _ => rfl, 0, fun _ => Nat.le_refl _⟩
instance : PEq Bool := ⟨fun x y => by show (x == y) = decide (x = y); exact Bool.beq_eq_decide_eq x y, fun _ => rfl, 0, fun _ => Nat.le_refl _⟩
instance [DecidableEq α] [PEq α] : PEq (List α) := ⟨fun x y => by
  rw [Bool.eq_iff_iff, decide_eq_true_eq]; exact eqvAll_map PEq.iff, fun x => layAll_map PEq.lay, PEq.dp α + 1, fun x => Nat.succ_le_succ (depAll_map PEq.hdp)⟩
instance [DecidableEq α] [PEq α] : PEq (Tu α) := ⟨fun x y => by
  rw [Bool.eq_iff_iff, decide_eq_true_eq]
  show PyData.eqvAll (x.l.map rep) (y.l.map rep) = true ↔ x = y
  rw [eqvAll_map PEq.iff]
  cases x; cases y; simp, fun x => layAll_map PEq.lay, PEq.dp α + 1, fun x => Nat.succ_le_succ (depAll_map PEq.hdp)⟩
instance [DecidableEq α] [DecidableEq β] [PEq α] [PEq β] : PEq (α × β) := ⟨fun x y => by
  rw [Bool.eq_iff_iff, decide_eq_true_eq]
  show PyData.eqvAll [rep x.1, rep x.2] [rep y.1, rep y.2] = true ↔ x = y
  simp [PyData.eqvAll, PEq.iff, Prod.ext_iff], fun x => by
  show PyData.canLayAll0 [rep x.1, rep x.2] = true
  simp [PyData.canLayAll0, PEq.lay], max (PEq.dp α) (PEq.dp β) + 1, fun x => by
  show PyData.depthAll [rep x.1, rep x.2] + 1 ≤ _
  have h1 := PEq.hdp x.1
  have h2 := PEq.hdp x.2
  simp only [PyData.depthAll]; omega⟩
instance [DecidableEq α] [DecidableEq β] [DecidableEq γ] [PEq α] [PEq β] [PEq γ] : PEq (T3 α β γ) := ⟨fun x y => by
  rw [Bool.eq_iff_iff, decide_eq_true_eq]
  show PyData.eqvAll [rep x.a, rep x.b, rep x.c] [rep y.a, rep y.b, rep y.c] = true ↔ x = y
  cases x; cases y
  simp [PyData.eqvAll, PEq.iff], fun x => by
  show PyData.canLayAll0 [rep x.a, rep x.b, rep x.c] = true
  simp [PyData.canLayAll0, PEq.lay], max (PEq.dp α) (max (PEq.dp β) (PEq.dp γ)) + 1, fun x => by
  show PyData.depthAll [rep x.a, rep x.b, rep x.c] + 1 ≤ _
  have h1 := PEq.hdp x.a
  have h2 := PEq.hdp x.b
  have h3 := PEq.hdp x.c
  simp only [PyData.depthAll]; omega⟩
instance : NN Int := ⟨fun _ z => nomatch z⟩
instance : NN Bool := ⟨fun _ z => nomatch z⟩
instance : NN Str := ⟨fun _ z => nomatch z⟩
instance : NN (List α) := ⟨fun _ z => nomatch z⟩
instance : NN (Tu α) := ⟨fun _ z => nomatch z⟩
instance : NN (α × β) := ⟨fun _ z => nomatch z⟩
instance : NN (T3 α β γ) := ⟨fun _ z => nomatch z⟩
theorem eqv_none_r {d : D} (h : d ≠ .none) : PyData.eqv d .none = false := by cases d <;> first | rfl | exact absurd rfl h
theorem eqv_none_l {d : D} (h : d ≠ .none) : PyData.eqv .none d = false := by cases d <;> first | rfl | exact absurd rfl h
instance [DecidableEq α] [PEq α] [NN α] : PEq (Option α) := ⟨fun x y => by
  cases x with
  | none => cases y with
    | none => rfl
    | some y => show PyData.eqv .none (rep y) = _; rw [eqv_none_l (NN.ne y)]; simp
  | some x => cases y with
    | none => show PyData.eqv (rep x) .none = _; rw [eqv_none_r (NN.ne x)]; simp
    | some y => show PyData.eqv (rep x) (rep y) = _; rw [PEq.eqv]; simp, fun x => by
  cases x with
  | none => rfl
  | some x => exact PEq.lay x, PEq.dp α, fun x => by
  cases x with
  | none => exact Nat.zero_le _
  | some x => exact PEq.hdp x⟩
/-- is None -/
theorem c_isN [NN α] : Cm2 X M .Is T2 (fun (x : Option α) (_ : Option Unit) => x.isNone) := ⟨_, op_isN, fun i j _ S H x y g bx bY Q q => by
  have ey : y = .non := by
    have bY' : Bor X.K M S H .none y := by cases j <;> exact bY
    rcases bY' with b | ⟨a, ds, vs, e1, _⟩
    · cases b; rfl
    · cases e1
  refine ⟨ey, ?_⟩
  cases i with
  | none =>
    have ex : x = .non := by
      rcases bx with b | ⟨a, ds, vs, e1, _⟩
      · cases b; rfl
      · cases e1
    subst ex
    exact q _ _ S H rfl (.bl true) (Step.refl g.sub)
  | some z =>
    have ex : x ≠ .non := fun e => by
      subst e
      rcases bx with b | ⟨a, ds, vs, _, e1, _⟩
      · have := NN.ne z
        cases hz : (rep z : D) with
        | none => exact this hz
        | _ =>
          have b' : Den X.K S (rep z) .non := b
          rw [hz] at b'
          cases b'
      · cases e1
    rw [decide_eq_false ex]
    exact q _ _ S H rfl (.bl false) (Step.refl g.sub)⟩
theorem c_isNot [NN α] : Cm2 X M .IsNot T2 (fun (x : Option α) (_ : Option Unit) => x.isSome) := ⟨_, op_notN, fun i j _ S H x y g bx bY Q q => by
  have ey : y = .non := by
    have bY' : Bor X.K M S H .none y := by cases j <;> exact bY
    rcases bY' with b | ⟨a, ds, vs, e1, _⟩
    · cases b; rfl
    · cases e1
  refine ⟨ey, ?_⟩
  cases i with
  | none =>
    have ex : x = .non := by
      rcases bx with b | ⟨a, ds, vs, e1, _⟩
      · cases b; rfl
      · cases e1
    subst ex
    exact q _ _ S H rfl (.bl false) (Step.refl g.sub)
  | some z =>
    have ex : x ≠ .non := fun e => by
      subst e
      rcases bx with b | ⟨a, ds, vs, _, e1, _⟩
      · have := NN.ne z
        cases hz : (rep z : D) with
        | none => exact this hz
        | _ =>
          have b' : Den X.K S (rep z) .non := b
          rw [hz] at b'
          cases b'
      · cases e1
    rw [decide_eq_false ex]
    exact q _ _ S H rfl (.bl true) (Step.refl g.sub)⟩
/-! lists, tuples -/
def ixOk (n : Nat) (i : Int) : Prop := -(n : Int) ≤ i ∧ i < n
def nth [Inhabited α] (xs : List α) (i : Int) : α := xs.getD (if 0 ≤ i then i.toNat else (i + xs.length).toNat) default
theorem nth_some [Inhabited α] {xs : List α} {i : Int} (h : ixOk xs.length i) : ∃ j, ixN xs.length i = some j ∧ xs[j]? = some (nth xs i) := by
  unfold ixOk at h
  unfold ixN nth
  by_cases h0 : 0 ≤ i
  · have hj : i.toNat < xs.length := by omega
    rw [if_pos h0, if_pos h.2, if_pos h0]
    exact ⟨_, rfl, by simp [List.getD, List.getElem?_eq_getElem hj]⟩
  · have hj : (i + xs.length).toNat < xs.length := by omega
    rw [if_neg h0, if_pos h.1, if_neg h0]
    exact ⟨_, rfl, by simp [List.getD, List.getElem?_eq_getElem hj]⟩
theorem x_list [Inhabited α] : Ix2 X M (fun (xs : List α) i => ixOk xs.length i) nth := ⟨_, ix_list, fun xs i h S H x y g bx bY Q q => by
  obtain ⟨a, vs, rfl, e1, _, r⟩ := bx.lst g
  obtain ⟨j, hj, hx⟩ := nth_some h
  obtain ⟨v, hv, rv⟩ := r.get (show (xs.map rep)[j]? = some (rep (nth xs i)) by rw [List.getElem?_map, hx]; rfl)
  refine ⟨a, vs, i, v, rfl, bY.int, sql_of e1, ?_, q _ v S H rfl rv (Step.refl g.sub)⟩
  unfold atI
  have hl := r.length
  rw [List.length_map] at hl
  rw [← hl, hj]
  exact hv⟩
theorem x_tu [Inhabited α] : Ix2 X M (fun (xs : Tu α) i => ixOk xs.l.length i) (fun xs i => nth xs.l i) := ⟨_, ix_tup, fun xs i h S H x y g bx bY Q q => by
  obtain ⟨a, vs, rfl, e1, r⟩ := bx.tup g
  obtain ⟨j, hj, hx⟩ := nth_some h
  obtain ⟨v, hv, rv⟩ := r.get (show (xs.l.map rep)[j]? = some (rep (nth xs.l i)) by rw [List.getElem?_map, hx]; rfl)
  refine ⟨a, vs, i, v, rfl, bY.int, sub_sqt g.sub e1, ?_, q _ v S H rfl rv (Step.refl g.sub)⟩
  unfold atI
  have hl := r.length
  rw [List.length_map] at hl
  rw [← hl, hj]
  exact hv⟩
/-- [..] * n, [..] + [..], (..) + (..) -/
theorem map_rep_flat (n : Nat) (xs : List α) : ((List.replicate n xs).flatten).map rep = (List.replicate n (xs.map rep)).flatten (α := D) := by
  induction n with
  | zero => rfl
  | succ n ih => simp [List.replicate_succ, ih]
theorem o_rep : Op2F X M .Mult (fun (xs : List α) (n : Int) => -1000000 ≤ n ∧ n ≤ 1000000 ∧ xs.length ≤ 10) (fun xs n => (List.replicate n.toNat xs).flatten) := ⟨_, op_rep, fun xs n h S H x y g bx bY Q q => by
  obtain ⟨a, vs, rfl, e1, _, r⟩ := bx.lst g
  have hl := r.length
  rw [List.length_map] at hl
  refine ⟨a, n, vs, rfl, bY.int, e1, by omega, by omega, ?_, fun p hp => ?_⟩
  · have : sizeLine = 16777216 := sizeLine_eq
    have h2 : vs.length * n.toNat ≤ 10 * 1000000 := Nat.mul_le_mul (by omega) (by omega)
    omega
  · exact q _ p _ S _ rfl hp (g.fresh hp) upd_same (by rw [map_rep_flat]; exact r.rep _) (Step.new g _ hp)⟩
theorem o_cat : Op2F X M .Add (fun (xs ys : List α) => xs.length + ys.length ≤ 1000000) (fun xs ys => xs ++ ys) := ⟨_, op_cat, fun xs ys h S H x y g bx bY Q q => by
  obtain ⟨a, vs, rfl, e1, _, r⟩ := bx.lst g
  obtain ⟨b, us, rfl, f1, _, r'⟩ := bY.lst g
  have hl := r.length
  have hl' := r'.length
  rw [List.length_map] at hl hl'
  refine ⟨a, b, vs, us, rfl, rfl, e1, f1, ?_, fun p hp => ?_⟩
  · have : sizeLine = 16777216 := sizeLine_eq
    omega
  · exact q _ p _ S _ rfl hp (g.fresh hp) upd_same (by rw [List.map_append]; exact r.append r') (Step.new g _ hp)⟩
theorem o_catT : Op2 X M .Add (fun (xs ys : Tu α) => xs.l.length + ys.l.length ≤ 1000000) (fun xs ys => Tu.mk (xs.l ++ ys.l)) := ⟨_, op_catN, fun xs ys h S H x y g bx bY Q q => by
  obtain ⟨a, vs, rfl, e1, r⟩ := bx.tupn g
  obtain ⟨b, us, rfl, f1, r'⟩ := bY.tupn g
  have hl := r.length
  have hl' := r'.length
  rw [List.length_map] at hl hl'
  refine ⟨a, b, vs, us, rfl, rfl, sub_sqt g.sub e1.sqt, sub_sqt g.sub f1.sqt, ?_, fun hx => ?_, fun hx hy => ?_, fun hx hy p o hp ho => ?_⟩
  · have : sizeLine = 16777216 := sizeLine_eq
    omega
  · have e : xs.l = [] := by rw [hx] at hl; exact List.length_eq_zero_iff.mp hl
    refine q _ _ S H rfl ?_ (Step.refl g.sub)
    show Den X.K S (.tuple ((xs.l ++ ys.l).map rep)) _
    rw [e]
    exact .tup f1 r'
  · have e : ys.l = [] := by rw [hy] at hl'; exact List.length_eq_zero_iff.mp hl'
    refine q _ _ S H rfl ?_ (Step.refl g.sub)
    show Den X.K S (.tuple ((xs.l ++ ys.l).map rep)) _
    rw [e, List.append_nil]
    exact .tup e1 r
  · have t := Step.newS g (.frz o (.tup (vs ++ us))) hp
    refine q _ _ _ _ rfl ?_ t
    show Den X.K _ (.tuple ((xs.l ++ ys.l).map rep)) _
    rw [List.map_append]
    exact .tup (.new ho) ((r.append r').mon t.ss)⟩
/-! built-ins -/
theorem one_of {K : PySem.W.Frag} {S H : Hp} {d : D} {xs : List V} (b : Bors K M S H [false] [d] xs) : ∃ v, xs = [v] ∧ Bor K M S H d v := by
  cases b with
  | br r b => cases b; exact ⟨_, rfl, r⟩
theorem two_of {K : PySem.W.Frag} {S H : Hp} {d e : D} {xs : List V} (b : Bors K M S H [false, false] [d, e] xs) : ∃ v u, xs = [v, u] ∧ Bor K M S H d v ∧ Bor K M S H e u := by
  cases b with
  | br r b => cases b with
    | br r' b => cases b; exact ⟨_, _, rfl, r, r'⟩
theorem b_lenL : Cb1 X M (.builtin "len") T1 (fun xs : List α => (xs.length : Int)) := ⟨_, call_len, fun xs _ S H vs g b Q q => by
  obtain ⟨v, rfl, c⟩ := one_of b
  obtain ⟨a, us, rfl, e1, _, r⟩ := c.lst g
  have hl := r.length
  rw [List.length_map] at hl
  exact ⟨_, us.length, rfl, .inl ⟨us, sql_of e1, rfl⟩, q _ _ S H rfl (by rw [hl]; exact .int _) (Step.refl g.sub)⟩⟩
theorem b_lenT : Cb1 X M (.builtin "len") T1 (fun xs : Tu α => (xs.l.length : Int)) := ⟨_, call_len, fun xs _ S H vs g b Q q => by
  obtain ⟨v, rfl, c⟩ := one_of b
  obtain ⟨a, us, rfl, e1, r⟩ := c.tup g
  have hl := r.length
  rw [List.length_map] at hl
  exact ⟨_, us.length, rfl, .inr ⟨us, sub_sqt g.sub e1, rfl⟩, q _ _ S H rfl (by rw [hl]; exact .int _) (Step.refl g.sub)⟩⟩
theorem b_sumL (hc : X.calm = true) : Cb1 X M (.builtin "sum") T1 (fun xs : List Int => xs.sum) := ⟨_, cr_sum hc, fun xs _ S H vs g b Q q => by
  obtain ⟨v, rfl, c⟩ := one_of b
  obtain ⟨a, us, rfl, e1, _, r⟩ := c.lst g
  have e2 : us = xs.map V.int := Dens.ints (is := xs) r
  subst e2
  exact ⟨a, xs, rfl, sql_of e1, q _ _ S H rfl (.int _) (Step.refl g.sub)⟩⟩
def lmax (xs : List Int) : Int := xs.foldl max (xs.headD 0)
def lmin (xs : List Int) : Int := xs.foldl min (xs.headD 0)
theorem foldl_max_ge (xs : List Int) : ∀ (a : Int), a ≤ xs.foldl max a ∧ (∀ x ∈ xs, x ≤ xs.foldl max a) ∧ (xs.foldl max a = a ∨ xs.foldl max a ∈ xs) := by
  induction xs with
  | nil => intro a; simp
  | cons x xs ih =>
    intro a
    obtain ⟨h1, h2, h3⟩ := ih (max a x)
    simp only [List.foldl_cons]
    refine ⟨by omega, fun y hy => ?_, ?_⟩
    · rcases List.mem_cons.mp hy with rfl | hy
      · omega
      · exact h2 y hy
    · rcases h3 with h3 | h3
      · rw [h3]
        by_cases h : a ≤ x
        · right; rw [show max a x = x by omega]; exact List.mem_cons_self
        · left; omega
      · right; exact List.mem_cons_of_mem _ h3
theorem foldl_min_le (xs : List Int) : ∀ (a : Int), xs.foldl min a ≤ a ∧ (∀ x ∈ xs, xs.foldl min a ≤ x) ∧ (xs.foldl min a = a ∨ xs.foldl min a ∈ xs) := by
  induction xs with
  | nil => intro a; simp
  | cons x xs ih =>
    intro a
    obtain ⟨h1, h2, h3⟩ := ih (min a x)
    simp only [List.foldl_cons]
    refine ⟨by omega, fun y hy => ?_, ?_⟩
    · rcases List.mem_cons.mp hy with rfl | hy
      · omega
      · exact h2 y hy
    · rcases h3 with h3 | h3
      · rw [h3]
        by_cases h : a ≤ x
        · left; omega
        · right; rw [show min a x = x by omega]; exact List.mem_cons_self
      · right; exact List.mem_cons_of_mem _ h3
theorem lmax_spec {xs : List Int} (h : xs ≠ []) : lmax xs ∈ xs ∧ ∀ x ∈ xs, x ≤ lmax xs := by
  unfold lmax
  obtain ⟨h1, h2, h3⟩ := foldl_max_ge xs (xs.headD 0)
  refine ⟨?_, h2⟩
  rcases h3 with h3 | h3
  · rw [h3]; cases xs with
    | nil => exact absurd rfl h
    | cons x xs => exact List.mem_cons_self
  · exact h3
theorem lmin_spec {xs : List Int} (h : xs ≠ []) : lmin xs ∈ xs ∧ ∀ x ∈ xs, lmin xs ≤ x := by
  unfold lmin
  obtain ⟨h1, h2, h3⟩ := foldl_min_le xs (xs.headD 0)
  refine ⟨?_, h2⟩
  rcases h3 with h3 | h3
  · rw [h3]; cases xs with
    | nil => exact absurd rfl h
    | cons x xs => exact List.mem_cons_self
  · exact h3
theorem lmax_eq {xs : List Int} {m : Int} (h : m ∈ xs) (h2 : ∀ x ∈ xs, x ≤ m) : m = lmax xs := by
  obtain ⟨a, b⟩ := lmax_spec (List.ne_nil_of_mem h)
  have := h2 _ a
  have := b _ h
  omega
theorem lmin_eq {xs : List Int} {m : Int} (h : m ∈ xs) (h2 : ∀ x ∈ xs, m ≤ x) : m = lmin xs := by
  obtain ⟨a, b⟩ := lmin_spec (List.ne_nil_of_mem h)
  have := h2 _ a
  have := b _ h
  omega
theorem b_maxL (hc : X.calm = true) : Cb1 X M (.builtin "max") (fun xs : List Int => xs ≠ []) lmax := ⟨_, cr_max hc, fun xs hne S H vs g b Q q => by
  obtain ⟨v, rfl, c⟩ := one_of b
  obtain ⟨a, us, rfl, e1, _, r⟩ := c.lst g
  have e2 : us = xs.map V.int := Dens.ints (is := xs) r
  subst e2
  exact ⟨a, xs, rfl, sql_of e1, List.length_pos_iff.mpr hne, fun m h1 h2 => q _ _ S H rfl (by rw [lmax_eq h1 h2]; exact .int _) (Step.refl g.sub)⟩⟩
theorem b_minL (hc : X.calm = true) : Cb1 X M (.builtin "min") (fun xs : List Int => xs ≠ []) lmin := ⟨_, cr_min hc, fun xs hne S H vs g b Q q => by
  obtain ⟨v, rfl, c⟩ := one_of b
  obtain ⟨a, us, rfl, e1, _, r⟩ := c.lst g
  have e2 : us = xs.map V.int := Dens.ints (is := xs) r
  subst e2
  exact ⟨a, xs, rfl, sql_of e1, List.length_pos_iff.mpr hne, fun m h1 h2 => q _ _ S H rfl (by rw [lmin_eq h1 h2]; exact .int _) (Step.refl g.sub)⟩⟩
theorem b_max2 (hc : X.calm = true) : Cb2 X M (.builtin "max") T2 (fun i j : Int => max i j) := ⟨_, call_max2 hc, fun i j _ S H vs g b Q q => by
  obtain ⟨v, u, rfl, c, c'⟩ := two_of b
  rw [c.int, c'.int]
  exact ⟨i, j, rfl, q _ _ S H rfl (by rw [show max i j = if j > i then j else i by split <;> omega]; exact .int _) (Step.refl g.sub)⟩⟩
theorem b_min2 (hc : X.calm = true) : Cb2 X M (.builtin "min") T2 (fun i j : Int => min i j) := ⟨_, call_min2 hc, fun i j _ S H vs g b Q q => by
  obtain ⟨v, u, rfl, c, c'⟩ := two_of b
  rw [c.int, c'.int]
  exact ⟨i, j, rfl, q _ _ S H rfl (by rw [show min i j = if j < i then j else i by split <;> omega]; exact .int _) (Step.refl g.sub)⟩⟩
theorem b_abs : Cb1 X M (.builtin "abs") T1 (fun i : Int => if i < 0 then -i else i) := ⟨_, call_abs, fun i _ S H vs g b Q q => by
  obtain ⟨v, rfl, c⟩ := one_of b
  rw [c.int]
  exact ⟨i, rfl, q _ _ S H rfl (.int _) (Step.refl g.sub)⟩⟩
theorem b_intI : Cb1 X M (.type "int") T1 (fun i : Int => i) := ⟨_, call_int1, fun i _ S H vs g b Q q => by
  obtain ⟨v, rfl, c⟩ := one_of b
  rw [c.int]
  exact .inl ⟨i, rfl, q _ _ S H rfl (.int _) (Step.refl g.sub)⟩⟩
theorem b_intB : Cb1 X M (.type "int") T1 (fun i : Bool => if i = true then (1 : Int) else 0) := ⟨_, call_int1, fun i _ S H vs g b Q q => by
  obtain ⟨v, rfl, c⟩ := one_of b
  rw [c.bl]
  exact .inr ⟨i, rfl, q _ _ S H rfl (.int _) (Step.refl g.sub)⟩⟩
theorem b_gcd : Cb2 X M (.builtin "math.gcd") T2 (fun i j : Int => ((Nat.gcd i.natAbs j.natAbs : Nat) : Int)) := ⟨_, cr_gcd, fun i j _ S H vs g b Q q => by
  obtain ⟨v, u, rfl, c, c'⟩ := two_of b
  rw [c.int, c'.int]
  exact ⟨i, j, rfl, q _ _ S H rfl (.int _) (Step.refl g.sub)⟩⟩
theorem b_all (hc : X.calm = true) : Cb1 X M (.builtin "all") T1 (fun xs : List Bool => xs.all id) := ⟨_, cr_all hc, fun xs _ S H vs g b Q q => by
  obtain ⟨v, rfl, c⟩ := one_of b
  obtain ⟨a, us, rfl, e1, _, r⟩ := c.lst g
  have e2 : us = xs.map V.bl := Dens.bools (is := xs) r
  subst e2
  exact ⟨a, xs, rfl, sql_of e1, q _ _ S H rfl (.bl _) (Step.refl g.sub)⟩⟩
theorem b_any (hc : X.calm = true) : Cb1 X M (.builtin "any") T1 (fun xs : List Bool => xs.any id) := ⟨_, cr_any hc, fun xs _ S H vs g b Q q => by
  obtain ⟨v, rfl, c⟩ := one_of b
  obtain ⟨a, us, rfl, e1, _, r⟩ := c.lst g
  have e2 : us = xs.map V.bl := Dens.bools (is := xs) r
  subst e2
  exact ⟨a, xs, rfl, sql_of e1, q _ _ S H rfl (.bl _) (Step.refl g.sub)⟩⟩
theorem b_tupL : Cb1 X M (.type "tuple") T1 (fun xs : List α => Tu.mk xs) := ⟨_, call_tuple_N, fun xs _ S H vs g b Q q => by
  obtain ⟨v, rfl, c⟩ := one_of b
  obtain ⟨a, us, rfl, e1, _, r⟩ := c.lst g
  refine ⟨a, us, rfl, sql_of e1, fun p o hp ho => ?_⟩
  have t := Step.newS g (.frz o (.tup us)) hp
  exact q _ _ _ _ rfl (.tup (.new ho) (r.mon t.ss)) t⟩
theorem b_listL : Cb1F X M (.type "list") T1 (fun xs : List α => xs) := ⟨_, call_list_of, fun xs _ S H vs g b Q q => by
  obtain ⟨v, rfl, c⟩ := one_of b
  obtain ⟨a, us, rfl, e1, _, r⟩ := c.lst g
  exact ⟨a, us, rfl, .inl (sql_of e1), fun p hp => q _ p _ S _ rfl hp (g.fresh hp) upd_same r (Step.new g _ hp)⟩⟩
theorem b_listT : Cb1F X M (.type "list") T1 (fun xs : Tu α => xs.l) := ⟨_, call_list_of, fun xs _ S H vs g b Q q => by
  obtain ⟨v, rfl, c⟩ := one_of b
  obtain ⟨a, us, rfl, e1, r⟩ := c.tup g
  exact ⟨a, us, rfl, .inr (sub_sqt g.sub e1), fun p hp => q _ p _ S _ rfl hp (g.fresh hp) upd_same r (Step.new g _ hp)⟩⟩
/-! truth -/
theorem t_list : Tr1 X M T1 (fun xs : List α => !xs.isEmpty) := ⟨fun xs _ S H v g b => by
  obtain ⟨a, us, rfl, e1, _, r⟩ := b.lst g
  refine .inl ⟨us, sql_of e1, ?_⟩
  have hl := r.length
  rw [List.length_map] at hl
  cases xs <;> cases us <;> simp at hl <;> rfl⟩
theorem t_int : Tr1 X M T1 (fun i : Int => i != 0) := ⟨fun xs _ S H v g b => by rw [b.int]; rfl⟩
theorem t_bool : Tr1 X M T1 (fun i : Bool => i) := ⟨fun xs _ S H v g b => by rw [b.bl]; rfl⟩
end
/-! calls of built-ins -/
section
variable {X : Cx} {M : Mm} {env : List Sl} {pos p0 : Pos} {α β γ : Type} [Rep α] [Rep β] [Rep γ] {nm : Str} {a b : Expr}
theorem sema_ra {K : PySem.W.Frag} {r : List V → Hp → VK → Prop} {ms : List Bool} {l : R (List D)} {es : List Expr} {T : D → Prop} (ha : RA X M es env ms l) (hp : l.p) (h : SemA X.K M r ms l.v T) : RdE X.K M (tCB r (starA X es)) env T :=
  RdE.cb (ha hp) fun ds e => by rw [e]; exact h
theorem RE.b1 {fn : String} {C : α → Prop} {f : α → β} (o : Cb1 X M (.builtin fn) C f) {m : R α} (hg : Gl X nm) (hm : X.mg nm = none) (hv : bootBuiltins nm = Option.some (.builtin fn)) (h : RB X M a env m) (hs : starEach [a] X.env = (false, eval a X.env) :: starEach [] X.env := by rfl)
    (hn : OkN nm) (hpl : (backTo pos (starEach [] X.env)).any (·.1) = false := by rfl) : RE X M (.Call (.Name nm p0) [a] [] pos) env (R.o1 C f m) := .mk fun p => by
  obtain ⟨r, ho, hr⟩ := o.ex
  exact EV.of (pe_callB ho hg hm hv star_pa hn.n hn.d hs hpl) (RdE.cb (RA.br h RA.nil hs ⟨p.1, trivial⟩) fun ds e => by rw [e]; exact hr _ p.2)
theorem RE.b2 {fn : String} {C : α → β → Prop} {f : α → β → γ} (o : Cb2 X M (.builtin fn) C f) {m : R α} {n : R β} (hg : Gl X nm) (hm : X.mg nm = none) (hv : bootBuiltins nm = Option.some (.builtin fn)) (h : RB X M a env m) (h' : RB X M b env n) (hs : starEach [a, b] X.env = (false, eval a X.env) :: starEach [b] X.env := by rfl)
    (hs2 : starEach [b] X.env = (false, eval b X.env) :: starEach [] X.env := by rfl) (hn : OkN nm) (hpl : (backTo pos (starEach [b] X.env)).any (·.1) = false := by rfl) : RE X M (.Call (.Name nm p0) [a, b] [] pos) env (R.o2 C f m n) := .mk fun p => by
  obtain ⟨r, ho, hr⟩ := o.ex
  exact EV.of (pe_callB ho hg hm hv star_pa hn.n hn.d hs hpl) (RdE.cb (RA.br h (RA.br h' RA.nil hs2) hs ⟨p.1, p.2.1, trivial⟩) fun ds e => by rw [e]; exact hr _ _ p.2.2)
theorem RE.g2 {fn : String} {C : α → β → Prop} {f : α → β → γ} (o : Cb2 X M (.builtin fn) C f) {m : R α} {n : R β} (hg : Gl X nm) (hm : X.mg nm = Option.some (.builtin fn)) (h : RB X M a env m) (h' : RB X M b env n) (hs : starEach [a, b] X.env = (false, eval a X.env) :: starEach [b] X.env := by rfl)
    (hs2 : starEach [b] X.env = (false, eval b X.env) :: starEach [] X.env := by rfl) (hn : OkN nm) (hpl : (backTo pos (starEach [b] X.env)).any (·.1) = false := by rfl) : RE X M (.Call (.Name nm p0) [a, b] [] pos) env (R.o2 C f m n) := .mk fun p => by
  obtain ⟨r, ho, hr⟩ := o.ex
  exact EV.of (pe_callBfun ho hg hm star_pa hn.d hs hpl) (RdE.cb (RA.br h (RA.br h' RA.nil hs2) hs ⟨p.1, p.2.1, trivial⟩) fun ds e => by rw [e]; exact hr _ _ p.2.2)
theorem RE.ty1 {fn : String} {C : α → Prop} {f : α → β} (o : Cb1 X M (.type fn) C f) {m : R α} (hg : Gl X nm) (hm : X.mg nm = none) (hv : bootBuiltins nm = Option.some (.type fn)) (h : RB X M a env m) (hs : starEach [a] X.env = (false, eval a X.env) :: starEach [] X.env := by rfl)
    (hn : OkN nm) (hpl : (backTo pos (starEach [] X.env)).any (·.1) = false := by rfl) : RE X M (.Call (.Name nm p0) [a] [] pos) env (R.o1 C f m) := .mk fun p => by
  obtain ⟨r, ho, hr⟩ := o.ex
  exact EV.of (pe_callTy ho hg hm hv star_pa hn.n hn.d hs hpl) (RdE.cb (RA.br h RA.nil hs ⟨p.1, trivial⟩) fun ds e => by rw [e]; exact hr _ p.2)
theorem RF.ty1 {fn : String} {C : α → Prop} {f : α → List β} (o : Cb1F X M (.type fn) C f) {m : R α} (hg : Gl X nm) (hm : X.mg nm = none) (hv : bootBuiltins nm = Option.some (.type fn)) (h : RB X M a env m) (hs : starEach [a] X.env = (false, eval a X.env) :: starEach [] X.env := by rfl)
    (hn : OkN nm) (hpl : (backTo pos (starEach [] X.env)).any (·.1) = false := by rfl) : RF X M (.Call (.Name nm p0) [a] [] pos) env (R.o1 C f m) := .mk fun p => by
  obtain ⟨r, ho, hr⟩ := o.ex
  exact EF.of (pe_callTy ho hg hm hv star_pa hn.n hn.d hs hpl) (RdF.cb (RA.br h RA.nil hs ⟨p.1, trivial⟩) fun ds e => by rw [e]; exact hr _ p.2)
theorem RF.b1 {fn : String} {C : α → Prop} {f : α → List β} (o : Cb1F X M (.builtin fn) C f) {m : R α} (hg : Gl X nm) (hm : X.mg nm = none) (hv : bootBuiltins nm = Option.some (.builtin fn)) (h : RB X M a env m) (hs : starEach [a] X.env = (false, eval a X.env) :: starEach [] X.env := by rfl)
    (hn : OkN nm) (hpl : (backTo pos (starEach [] X.env)).any (·.1) = false := by rfl) : RF X M (.Call (.Name nm p0) [a] [] pos) env (R.o1 C f m) := .mk fun p => by
  obtain ⟨r, ho, hr⟩ := o.ex
  exact EF.of (pe_callB ho hg hm hv star_pa hn.n hn.d hs hpl) (RdF.cb (RA.br h RA.nil hs ⟨p.1, trivial⟩) fun ds e => by rw [e]; exact hr _ p.2)
end
end FP
namespace FP
open PySem PySem.Spec PyProof.Rows L2
open Rep (rep)
/-! ### short words for the printed terms -/
abbrev I {α : Type} [Rep α] (x : α) : Sl := .im (rep x)
abbrev Ow {α : Type} [Rep α] (x : List α) : Sl := .ow (x.map rep)
abbrev Br {α : Type} [Rep α] (x : List α) : Sl := .br (x.map rep)
abbrev U : Sl := .un
abbrev T3t {α β γ : Type} : α → β → γ → Prop := fun _ _ _ => True
end FP
namespace FP
open PySem PySem.Spec PyProof.Rows L2
open Rep (rep)
theorem nm_eq (b : Expr) : behindInMarks .Eq b = false := nomark b
theorem nm_ne (b : Expr) : behindInMarks .NotEq b = false := nomark b
theorem nm_lt (b : Expr) : behindInMarks .Lt b = false := nomark b
theorem nm_le (b : Expr) : behindInMarks .LtE b = false := nomark b
theorem nm_gt (b : Expr) : behindInMarks .Gt b = false := nomark b
theorem nm_ge (b : Expr) : behindInMarks .GtE b = false := nomark b
theorem nm_is (b : Expr) : behindInMarks .Is b = false := nomark b
theorem nm_isn (b : Expr) : behindInMarks .IsNot b = false := nomark b
theorem kb_len : OkN "len" := ⟨by decide +kernel, by decide +kernel, by decide +kernel⟩
theorem bb_len : bootBuiltins ("len" : Str) = some (.builtin "len") := by decide +kernel
theorem kb_sum : OkN "sum" := ⟨by decide +kernel, by decide +kernel, by decide +kernel⟩
theorem bb_sum : bootBuiltins ("sum" : Str) = some (.builtin "sum") := by decide +kernel
theorem kb_max : OkN "max" := ⟨by decide +kernel, by decide +kernel, by decide +kernel⟩
theorem bb_max : bootBuiltins ("max" : Str) = some (.builtin "max") := by decide +kernel
theorem kb_min : OkN "min" := ⟨by decide +kernel, by decide +kernel, by decide +kernel⟩
theorem bb_min : bootBuiltins ("min" : Str) = some (.builtin "min") := by decide +kernel
theorem kb_abs : OkN "abs" := ⟨by decide +kernel, by decide +kernel, by decide +kernel⟩
theorem bb_abs : bootBuiltins ("abs" : Str) = some (.builtin "abs") := by decide +kernel
theorem kb_all : OkN "all" := ⟨by decide +kernel, by decide +kernel, by decide +kernel⟩
theorem bb_all : bootBuiltins ("all" : Str) = some (.builtin "all") := by decide +kernel
theorem kb_any : OkN "any" := ⟨by decide +kernel, by decide +kernel, by decide +kernel⟩
theorem bb_any : bootBuiltins ("any" : Str) = some (.builtin "any") := by decide +kernel
theorem kb_sorted : OkN "sorted" := ⟨by decide +kernel, by decide +kernel, by decide +kernel⟩
theorem bb_sorted : bootBuiltins ("sorted" : Str) = some (.builtin "sorted") := by decide +kernel
theorem kb_int : OkN "int" := ⟨by decide +kernel, by decide +kernel, by decide +kernel⟩
theorem bb_int : bootBuiltins ("int" : Str) = some (.type "int") := by decide +kernel
theorem kb_list : OkN "list" := ⟨by decide +kernel, by decide +kernel, by decide +kernel⟩
theorem bb_list : bootBuiltins ("list" : Str) = some (.type "list") := by decide +kernel
theorem kb_tuple : OkN "tuple" := ⟨by decide +kernel, by decide +kernel, by decide +kernel⟩
theorem bb_tuple : bootBuiltins ("tuple" : Str) = some (.type "tuple") := by decide +kernel
theorem kb_set : OkN "set" := ⟨by decide +kernel, by decide +kernel, by decide +kernel⟩
theorem bb_set : bootBuiltins ("set" : Str) = some (.type "set") := by decide +kernel
theorem kb_str : OkN "str" := ⟨by decide +kernel, by decide +kernel, by decide +kernel⟩
theorem bb_str : bootBuiltins ("str" : Str) = some (.type "str") := by decide +kernel
end FP
namespace FP
open PySem PySem.Spec PyProof.Rows L2
open Rep (rep)
/-! ### more operations -/
section
variable {X : Cx} {M : Mm} {α β γ : Type} [Rep α] [Rep β] [Rep γ]
def lt2 (x y : Int × Int) : Bool := decide (x.1 < y.1 ∨ (x.1 = y.1 ∧ x.2 < y.2))
theorem lexLt_two (a b c d : Int) : HT.lexLt [a, b] [c, d] = lt2 (a, b) (c, d) := by
  simp only [HT.lexLt, lt2]
  by_cases h : a = c
  · subst h
    by_cases h2 : b = d
    · subst h2; simp
    · simp [h2]
  · simp [h]
theorem c_ltP {k : Nat} (hr : Room k X.A) : Cm2 X M .Lt T2 (fun x y : Int × Int => lt2 x y) := ⟨_, op_ltT (Room.units0 hr), fun i j _ S H x y g bx bY Q q => by
  obtain ⟨a, vs, rfl, e1, r⟩ := bx.tup (ds := [i.1, i.2].map .int) g
  obtain ⟨b, us, rfl, f1, r'⟩ := bY.tup (ds := [j.1, j.2].map .int) g
  have e2 : vs = [i.1, i.2].map V.int := r.ints
  have f2 : us = [j.1, j.2].map V.int := r'.ints
  subst e2 f2
  exact ⟨a, b, _, _, rfl, rfl, sub_sqt g.sub e1, sub_sqt g.sub f1, q _ _ S H rfl (by rw [lexLt_two]; exact .bl _) (Step.refl g.sub)⟩⟩
theorem inV_ints (i : Int) (l : List Int) : inV (.int i) (l.map .int) = decide (i ∈ l) := by
  unfold inV
  rw [Bool.eq_iff_iff, decide_eq_true_eq, List.any_map, List.any_eq_true]
  constructor
  · rintro ⟨x, hx, h⟩
    have : x = i := by simpa [eqV] using h
    rw [← this]; exact hx
  · intro h
    exact ⟨i, h, by simp [eqV]⟩
theorem flat_ints (l : List Int) : (l.map V.int).all flatV = true := by simp [flatV]
theorem c_inL : Cm2 X M .In T2 (fun (i : Int) (l : List Int) => decide (i ∈ l)) := ⟨_, op_in_seq, fun i l _ S H x y g bx bY Q q => by
  obtain ⟨a, vs, rfl, e1, _, r⟩ := bY.lst g
  have e2 : vs = l.map V.int := Dens.ints (is := l) r
  subst e2
  rw [bx.int]
  exact ⟨a, _, rfl, .inl (sql_of e1), rfl, flat_ints l, q _ _ S H rfl (by rw [inV_ints]; exact .bl _) (Step.refl g.sub)⟩⟩
theorem c_ninL : Cm2 X M .NotIn T2 (fun (i : Int) (l : List Int) => !decide (i ∈ l)) := ⟨_, op_notIn_seq, fun i l _ S H x y g bx bY Q q => by
  obtain ⟨a, vs, rfl, e1, _, r⟩ := bY.lst g
  have e2 : vs = l.map V.int := Dens.ints (is := l) r
  subst e2
  rw [bx.int]
  exact ⟨a, _, rfl, .inl (sql_of e1), rfl, flat_ints l, q _ _ S H rfl (by rw [inV_ints]; exact .bl _) (Step.refl g.sub)⟩⟩
theorem c_inT : Cm2 X M .In T2 (fun (i : Int) (l : Tu Int) => decide (i ∈ l.l)) := ⟨_, op_in_seq, fun i l _ S H x y g bx bY Q q => by
  obtain ⟨a, vs, rfl, e1, r⟩ := bY.tup g
  have e2 : vs = l.l.map V.int := Dens.ints (is := l.l) r
  subst e2
  rw [bx.int]
  exact ⟨a, _, rfl, .inr (sub_sqt g.sub e1), rfl, flat_ints l.l, q _ _ S H rfl (by rw [inV_ints]; exact .bl _) (Step.refl g.sub)⟩⟩
theorem c_ninT : Cm2 X M .NotIn T2 (fun (i : Int) (l : Tu Int) => !decide (i ∈ l.l)) := ⟨_, op_notIn_seq, fun i l _ S H x y g bx bY Q q => by
  obtain ⟨a, vs, rfl, e1, r⟩ := bY.tup g
  have e2 : vs = l.l.map V.int := Dens.ints (is := l.l) r
  subst e2
  rw [bx.int]
  exact ⟨a, _, rfl, .inr (sub_sqt g.sub e1), rfl, flat_ints l.l, q _ _ S H rfl (by rw [inV_ints]; exact .bl _) (Step.refl g.sub)⟩⟩
/-- sum of a tuple of ints -/
theorem sum_rawT {prog : Program} {w : World} {A : Around} {E : Value → Shared → Prop} {s : Shared} {l : Addr} {its : List Value} {ns : List Int} {Q : Value → Shared → Prop} (hh : A.handled = none) (hl : IsTup s.heap l its.toArray) (hi : IntsAre its ns)
    (h : ∀ h' tk t', (∀ b o, s.heap.get? b = some o → h'.get? b = some o) → Q (.int ns.sum t') { s with heap := h', toks := tk }) : wpAny (model prog w) A (call (.builtin "sum") [.ref l]) Q E s := by
  obtain ⟨xs, e⟩ := hi.allInts.items
  have hn : numsOf (intItems xs).toList = ns := by rw [← e]; exact hi.numsOf
  rw [nums_intItems] at hn
  rw [e] at hl
  have hT : s.heap.IsTuple l (intItems xs) := hl
  have hlt : l < s.heap.objs.size := by obtain ⟨_, e, _⟩ := hT; exact Heap.lt_size e
  have hne : l ≠ s.heap.objs.size := Nat.ne_of_lt hlt
  refine call_sum_walkG (wpAny_pyIter_tuple hT ?_)
  refine ⟨_, _, _, _, _, _, numAt xs, rfl, Walks.tuple (A := A.in1) hh _ l hne (intItems xs), ⟨⟨_, Heap.get?_push_size _ rfl, rfl, rfl⟩, hT.push _⟩, fun b hb => ?_, (fun _ _ => intItems_at), fun h' tk t' hk => ?_⟩
  · show b < (s.heap.push _).objs.size
    rw [Heap.size_push]
    rcases List.mem_cons.mp hb with rfl | hb
    · exact Nat.lt_succ_self _
    · have e : b = l := by simpa using hb
      rw [e]; exact Nat.lt_succ_of_lt hlt
  · have := h h' tk t' fun b o e => hk b o (fun z => absurd (Heap.lt_size e) (by rw [show b = s.heap.objs.size by simpa using z]; exact Nat.lt_irrefl _)) (Heap.get?_push_of_some _ e)
    rw [← hn] at this
    have e2 : (intItems xs).size = xs.size := by simp [intItems]
    rw [e2, preSum_eq, List.take_of_length_le (by simp)]
    exact this
def rSumT (K : PySem.W.Frag) : List V → Hp → VK → Prop := fun vs H Q => ∃ (a : Addr) (ns : List Int), vs = [V.ref a] ∧ SqT K H a (ns.map V.int) ∧ Q (.int ns.sum) H
theorem cr_sumT (hc : X.calm = true) : CallR X (.builtin "sum") (rSumT X.K) := by
  intro pins s σ H vs us Q I r h
  obtain ⟨a, ns, rfl, hs, q⟩ := h
  obtain ⟨its, rv, hl, _⟩ := I.tuple hs
  rw [Vals.ref1 r]
  exact sum_rawT (I.ok.hd hc) hl rv.ints fun h' tk t' hk => ⟨.int _, H, I.kept hk, ⟨_, rfl⟩, q⟩
theorem b_sumT (hc : X.calm = true) : Cb1 X M (.builtin "sum") T1 (fun xs : Tu Int => xs.l.sum) := ⟨_, cr_sumT hc, fun xs _ S H vs g b Q q => by
  obtain ⟨v, rfl, c⟩ := one_of b
  obtain ⟨a, us, rfl, e1, r⟩ := c.tup g
  have e2 : us = xs.l.map V.int := Dens.ints (is := xs.l) r
  subst e2
  exact ⟨a, xs.l, rfl, sub_sqt g.sub e1, q _ _ S H rfl (.int _) (Step.refl g.sub)⟩⟩
end
/-! ### slices -/
def cut {α : Type} (xs : List α) (lo hi : Option Int) : List α := (xs.drop (HT.sIx xs.length 0 lo)).take (HT.sIx xs.length xs.length hi - HT.sIx xs.length 0 lo)
def RdO (K : PySem.W.Frag) (M : Mm) (to : TO) (env : List Sl) (o : Option Int) : Prop :=
  ∀ S0 H0 σ S H, St0 K M S0 H0 S H env σ → ∀ Q : Option Int → Hp → Prop, (∀ S' H', Step M S H S' H' → Q o H') → to σ H Q
structure RO (X : Cx) (M : Mm) (e : Option Expr) (env : List Sl) (m : R (Option Int)) : Prop where
  run : m.p → ∃ to, PO X e to ∧ RdO X.K M to env m.v
section
variable {X : Cx} {M : Mm} {env : List Sl} {α : Type} [Rep α] {e : Expr} {lo hi : Option Expr} {pos p2 : Pos}
theorem RO.none : RO X M none env (R.pure none) := ⟨fun _ => ⟨_, po_none, fun S0 H0 σ S H st Q q => q S H (Step.refl st.gd.sub)⟩⟩
theorem RO.some {m : R Int} (h : RB X M e env m) : RO X M (some e) env (R.map some m) := ⟨fun p => ⟨_, po_some star_pe, fun S0 H0 σ S H st Q q => h p _ _ _ _ _ st _ fun d v S1 H1 ed r t => by
  subst ed
  exact ⟨_, r.int, q S1 H1 t⟩⟩⟩
theorem map_cut (xs : List α) (lo hi : Option Int) : (cut xs lo hi).map rep = cut (xs.map rep : List D) lo hi := by simp [cut]
theorem dens_cut {K : PySem.W.Frag} {S : Hp} {ds : List D} {vs : List V} (r : Dens K S ds vs) (lo hi : Option Int) : Dens K S (cut ds lo hi) (cutV vs lo hi) := by
  unfold cut cutV
  rw [r.length]
  exact (r.drop _).take _
theorem RF.slice {m : R (List α)} {l h : R (Option Int)} (ha : RB X M e env m) (hl : RO X M lo env l) (hh : RO X M hi env h) : RF X M (.Subscript e (.Slice lo hi none p2) pos) env (R.o3 T3t cut m l h) := .mk fun p => by
  obtain ⟨tl, pl, rl⟩ := hl.run p.2.1
  obtain ⟨th, ph, rh⟩ := hh.run p.2.2.1
  refine EF.of (pe_slice sl_list star_pe pl ph) fun S0 H0 σ S H st Q q => ?_
  refine ha p.1 _ _ _ _ _ st _ fun d v S1 H1 ed r t1 => ?_
  subst ed
  refine rl _ _ _ _ _ (st.step t1) _ fun S2 H2 t2 => ?_
  refine rh _ _ _ _ _ ((st.step t1).step t2) _ fun S3 H3 t3 => ?_
  have g := (((st.step t1).step t2).step t3).gd
  obtain ⟨a, vs, rfl, e1, _, r⟩ := ((r.step t2).step t3).lst g
  refine ⟨a, vs, rfl, sql_of e1, fun p hp => ?_⟩
  have tt := (t1.trans t2).trans t3
  refine q _ p _ S3 _ rfl ?_ (g.fresh hp) upd_same (by show Dens X.K S3 ((cut m.v l.v h.v).map rep) _; rw [map_cut]; exact dens_cut r _ _) (tt.trans (Step.new g _ hp))
  cases z : H p with
  | none => rfl
  | some o => exact absurd hp (tt.keep p (by rw [z]; exact fun z => nomatch z))
/-- t[lo:hi], the new tuple's object is known -/
def rSlN (K : PySem.W.Frag) : V → Option Int → Option Int → Hp → VK → Prop := fun x lo hi H Q => ∃ a xs, x = .ref a ∧ SqT K H a xs ∧
  (HT.sIx xs.length 0 lo = 0 ∧ HT.sIx xs.length xs.length hi = xs.length → Q (.ref a) H) ∧ (¬ (HT.sIx xs.length 0 lo = 0 ∧ HT.sIx xs.length xs.length hi = xs.length) → ∀ (p : Addr) (o : Obj), H p = none → o.dict = none → Q (.ref p) (upd H p (.frz o (.tup (cutV xs lo hi)))))
theorem sl_tupN {X : Cx} : SlR X (rSlN X.K) := by
  intro pins s σ H x v vl vu lo hi sl Q I rx hs pl pu h
  obtain ⟨a, xs, rfl, hx, q1, q2⟩ := h
  cases rx
  obtain ⟨its, r, ht, hz⟩ := I.tuple hx
  have hlen : its.toArray.size = xs.length := by rw [List.size_toArray]; exact r.length.symm
  refine ⟨"tuple", _, PyProof.Rows.slot_tuple_getitem.lookup, ht.typeIs, ?_⟩
  by_cases hw : HT.sIx xs.length 0 lo = 0 ∧ HT.sIx xs.length xs.length hi = xs.length
  · exact getItem_tuple_whole ht hs pl pu (by rw [hlen]; exact hw) ⟨.ref a, H, I, rfl, q1 hw⟩
  · refine HT.getItem_tuple_cut ht hs pl pu (by rw [hlen]; exact hw) ?_ (by rw [hlen]; exact hz)
    rw [hlen]
    refine ⟨.ref s.heap.objs.size, _, I.laid (t' := s.toks) (o := .frz _ (.tup (cutV xs lo hi))) (fun b ob q => Heap.get?_push_of_some _ q) (Nat.le_refl _) ⟨Heap.get?_push_size _ rfl, Nat.le_trans (cutV_length xs lo hi) hz, _, (r.drop (HT.sIx xs.length 0 lo)).take (HT.sIx xs.length xs.length hi - HT.sIx xs.length 0 lo), IsTup.new _ _⟩, rfl, q2 hw _ _ (I.hok.fresh (Nat.le_refl _)) rfl⟩
theorem RE.sliceT {m : R (Tu α)} {l h : R (Option Int)} (ha : RB X M e env m) (hl : RO X M lo env l) (hh : RO X M hi env h) : RE X M (.Subscript e (.Slice lo hi none p2) pos) env (R.o3 T3t (fun xs lo hi => Tu.mk (cut xs.l lo hi)) m l h) := .mk fun p => by
  obtain ⟨tl, pl, rl⟩ := hl.run p.2.1
  obtain ⟨th, ph, rh⟩ := hh.run p.2.2.1
  refine EV.of (pe_slice sl_tupN star_pe pl ph) fun S0 H0 σ S H st Q q => ?_
  refine ha p.1 _ _ _ _ _ st _ fun d v S1 H1 ed r t1 => ?_
  subst ed
  refine rl _ _ _ _ _ (st.step t1) _ fun S2 H2 t2 => ?_
  refine rh _ _ _ _ _ ((st.step t1).step t2) _ fun S3 H3 t3 => ?_
  have g := (((st.step t1).step t2).step t3).gd
  obtain ⟨a, vs, rfl, e1, r⟩ := ((r.step t2).step t3).tupn g
  have tt := (t1.trans t2).trans t3
  refine ⟨a, vs, rfl, sub_sqt g.sub e1.sqt, fun hw => ?_, fun _ p o hp ho => ?_⟩
  · refine q _ _ S3 H3 rfl ?_ tt
    have e2 : cut (m.v.l.map rep : List D) l.v h.v = m.v.l.map rep := by
      unfold cut
      rw [r.length, hw.1, hw.2, List.drop_zero, Nat.sub_zero, ← r.length, List.take_length]
    show Den X.K S3 (.tuple ((cut m.v.l l.v h.v).map rep)) _
    rw [map_cut, e2]
    exact .tup e1 r
  · have t := Step.newS g (.frz o (.tup (cutV vs l.v h.v))) hp
    refine q _ _ _ _ rfl ?_ (tt.trans t)
    show Den X.K _ (.tuple ((cut m.v.l l.v h.v).map rep)) _
    rw [map_cut]
    exact .tup (.new ho) ((dens_cut r _ _).mon t.ss)
end
end FP
namespace FP
open PySem PySem.Spec PyProof.Rows L2 GenW
open Rep (rep)
/-! ### generator expressions -/
abbrev genv (X : Cx) (scope : Scope) (C : Addr) (code : Value) : Env := genEnv scope (cloFrom X.env.cells scope.names []) C code builtinsNs X.env
/-- the context of a generator expression that was made at s -/
abbrev gblk (X : Cx) (s : Shared) (H : Hp) (A : Around) (scope : Scope) (C : Addr) (code : Value) (fp : List Addr) : Cx :=
  { X with A := A, s_0 := s, H_0 := H, env := genv X scope C code, outer := X.stack, stack := genv X scope C code :: X.stack, ex := fp, fn := fun _ => false, calm := true, pn := [], xe := fun _ _ => False }
section
variable {X : Cx} {pins : List (Addr × Obj)} {σ : L2.St} {H : Hp} {s : Shared}
theorem gen_start {scope : Scope} {own : List (Str × Nat)} {fp : List Addr} {A : Around} {code : Value} (I : L2.Inv X pins σ H s) (ok : BlkOk X.N X.env.scope scope own) (hN : X.N.Nodup) (hcell : ∀ y ∈ scope.names, y.2 ≠ .cell)
    (hfp : ∀ b ∈ fp, FpOk X pins H b ∧ b < s.heap.objs.size) (hA : A.handled = none) (hfr : A.frames = some (genv X scope s.heap.objs.size code :: X.stack)) {h' : Heap} {m0 : Str → Option Value} (hn0 : h'.Ns s.heap.objs.size m0)
    (kp : ∀ b o, s.heap.get? b = some o → h'.get? b = some o) {g' : Array GenState} {t' : Nat} (hb : AllBare g') :
    L2.Inv (gblk X s H A scope s.heap.objs.size code fp) [] (wipe σ (own.map (·.2))) H { s with heap := h', gens := g', toks := t' } := by
  have hfree : ∀ y ∈ scope.names, y.2 = .free → ∃ c, X.env.cells.lookup y.1 = some c := fun y hy e => by
    rcases ok.free y hy e with k | k
    · exact I.ok.has _ (.inl k)
    · exact I.ok.has _ (.inr k)
  have cm : ∀ {y c}, (cloFrom X.env.cells scope.names []).lookup y = some c → (y, NameKind.free) ∈ scope.names ∧ X.env.cells.lookup y = some c ∧ c < s.heap.objs.size := fun {y c} e => by
    rcases cloFrom_mem (PySem.mem_of_lookup e) with hm | ⟨h1, rfl⟩
    · cases hm
    · obtain ⟨c, hc⟩ := hfree _ h1 rfl
      rw [hc]
      obtain ⟨w, z⟩ := I.cell _ _ hc
      exact ⟨h1, rfl, z.lt⟩
  have look : ∀ {y}, scope.names.lookup y = some .free → ∃ c, (cloFrom X.env.cells scope.names []).lookup y = some c ∧ X.env.cells.lookup y = some c := fun {y} hl => by
    have hy : (y, NameKind.free) ∈ scope.names := PySem.mem_of_lookup hl
    obtain ⟨c', e'⟩ := mem_lookup (cloFrom_has (cells := X.env.cells) (acc := []) hy)
    exact ⟨c', e', (cm e').2.1⟩
  have nocell : ∀ y, scope.names.lookup y ≠ some .cell := fun y e => hcell _ (PySem.mem_of_lookup e) rfl
  have okB : (gblk X s H A scope s.heap.objs.size code fp).Ok := by
    refine ⟨I.ok.mod, ok.kind, I.ok.glob, rfl, Nat.le_refl _, fun y z c e1 e2 => I.ok.inj y z c (cm e1).2.1 (cm e2).2.1, fun y hy => ?_, fun y c z _ => (nomatch z), fun _ => hA, hfr, .inr ⟨rfl, rfl⟩, fun b hb => ⟨Nat.ne_of_lt (hfp b hb).2, fun y c e z => ?_⟩,
      I.bs, Nat.le_trans I.ok.bsz I.sz, fun b o e hb => ?_, fun b hb z => ?_, I.stack, I.stkFree⟩
    · rcases hy with hy | hy
      · exact absurd hy (nocell y)
      · obtain ⟨c, h1, _⟩ := look hy
        exact ⟨c, h1⟩
    · exact (hfp b hb).1.2.2.2.2.1 y c (cm e).2.1 z
    · rcases (hfp b hb).1.2.2.2.1 with z | z
      · exact I.ok.noex b o e z
      · exact absurd (Nat.lt_of_lt_of_le (Heap.lt_size e) (Nat.le_trans I.ok.bsz z)) (Nat.lt_irrefl _)
    · rcases List.mem_cons.mp (I.stkSub b z) with z | z
      · exact (hfp b hb).1.2.1 z
      · exact (hfp b hb).1.2.2.1 z
  refine ⟨okB, rfl, hb, Un.kept kp, ⟨m0, hn0, fun i y av e1 e2 e3 => ?_⟩, fun y c e => ?_, I.hok.fresh (Nat.le_refl _), fun y c e => I.freeC y c (cm e).2.1, fun p hp => ?_, I.hok.kept kp, by rw [wipe_length]; exact I.len⟩
  · obtain ⟨e2, hne⟩ := wipe_some e2
    have hfr : scope.names.lookup y = some .free := by
      have no : ∀ k, scope.names.lookup y = some k → ¬ (k = .local ∨ k = .cell) := fun k e hh => by
        rcases ok.own _ (PySem.mem_of_lookup e) hh with e' | e'
        · obtain ⟨p, hp, hpy⟩ := List.mem_map.mp e'
          have e3 := ok.ix p hp
          have : p.1 = y := hpy
          rw [this] at e3
          exact hne (List.mem_map.mpr ⟨p, hp, nodup_ix hN e3 e1⟩)
        · exact e' (List.mem_of_getElem? e1)
      have e3 : Vis scope y := e3
      rcases e3 with e3 | e3 | e3
      · exact absurd (.inl rfl) (no _ e3)
      · exact absurd (.inr rfl) (no _ e3)
      · exact e3
    obtain ⟨m, hn, hl⟩ := I.loc
    have hvis : Vis X.env.scope y := (ok.free _ (PySem.mem_of_lookup hfr) rfl).elim (fun k => .inr (.inl k)) (fun k => .inr (.inr k))
    obtain ⟨w, r, q⟩ := hl i y av e1 e2 hvis
    obtain ⟨c, h1, h2⟩ := look hfr
    refine ⟨w, r, .inr ⟨.inr hfr, ?_⟩⟩
    rcases q with ⟨k, _⟩ | ⟨_, c', e', z⟩
    · have k : X.env.scope.names.lookup y = some .local := k
      rcases ok.free _ (PySem.mem_of_lookup hfr) rfl with k' | k' <;> rw [show X.env.scope.names.lookup y = _ from k'] at k <;> cases k
    · rw [h2] at e'; cases e'
      exact ⟨c, h1, z.keeps kp⟩
  · obtain ⟨w, z⟩ := I.cell y c (cm e).2.1
    exact ⟨w, z.keeps kp⟩
  · exact absurd (show p ∈ ([] : List (Addr × Obj)) ++ [] from hp) (by simp)
/-- the generators alone differ -/
theorem inv_gens (I : L2.Inv X pins σ H s) {s' : Shared} (h1 : s'.heap = s.heap) (h2 : s'.os = s.os) (h3 : AllBare s'.gens) : L2.Inv X pins σ H s' :=
  ⟨I.ok, h2.trans I.os, h3, by rw [h1]; exact I.base, by rw [h1]; exact I.loc, by rw [h1]; exact I.cell, I.free, I.freeC, by rw [h1]; exact I.pin, by rw [h1]; exact I.hok, I.len⟩
end
/-! the loops of all, any: stop at st -/
section
variable {P : Program} {w : World} {A : Around} {R : Result → Shared → Prop} {a : Addr} {G : Nat → Shared → Prop} {Fi : Bool → Shared → Prop}
abbrev PN (P : Program) (w : World) (A : Around) (st : Bool) (a : Addr) (G : Nat → Shared → Prop) (Fi : Bool → Shared → Prop) : Prop :=
  ∀ n s E, G n s → wpAny (model P w) A.in1 (pyNext (.ref a)) (fun r s' => match r with | none => Fi (!st) s' | some v => ∃ c : Bool, v = .bool c ∧ if c = st then Fi st s' else ∃ m, m < n ∧ G m s') E s
theorem all_loopG (h : PN P w A false a G Fi) (hR : ∀ c s', Fi c s' → R (.ok (.ret (.bool c))) s') : ∀ (n : Nat) (s : Shared), G n s → codeAny (model P w) A (.builtin "all.loop" ⟨[.ref a], []⟩) R s := by
  intro n
  induction n using Nat.strongRecOn with
  | _ n ih =>
    intro s hs
    refine codeAny_builtin F.entry_all_loop ?_
    rw [Around.under_plainId F.plain_all_loop _]
    show wpAny _ A.in1 (pyNext (.ref a) >>= _) _ _ s
    refine wpAny_bind (wpAny_mono (h n s _ hs) (fun r s' h' => ?_) fun _ _ e => e)
    cases r with
    | none => exact wpAny_bind (wpAny_rule (wpAny_pure (hR _ s' h')))
    | some v =>
      obtain ⟨c, rfl, h'⟩ := h'
      refine wpAny_bind (wpAny_holding (wpAny_truthy_bool ?_))
      refine wpAny_bind (wpAny_letGo ?_)
      cases c with
      | true =>
        simp only [if_true]
        rw [if_neg (by decide)] at h'
        obtain ⟨m, hm, g'⟩ := h'
        exact wpAny_pure ⟨plainId_quiet F.plain_all_loop _, ih m hm _ g'⟩
      | false =>
        simp only [Bool.false_eq_true, if_false]
        exact wpAny_bind (wpAny_rule (wpAny_pure (hR _ s' h')))
theorem any_loopG (h : PN P w A true a G Fi) (hR : ∀ c s', Fi c s' → R (.ok (.ret (.bool c))) s') : ∀ (n : Nat) (s : Shared), G n s → codeAny (model P w) A (.builtin "any.loop" ⟨[.ref a], []⟩) R s := by
  intro n
  induction n using Nat.strongRecOn with
  | _ n ih =>
    intro s hs
    refine codeAny_builtin F.entry_any_loop ?_
    rw [Around.under_plainId F.plain_any_loop _]
    show wpAny _ A.in1 (pyNext (.ref a) >>= _) _ _ s
    refine wpAny_bind (wpAny_mono (h n s _ hs) (fun r s' h' => ?_) fun _ _ e => e)
    cases r with
    | none => exact wpAny_bind (wpAny_rule (wpAny_pure (hR _ s' h')))
    | some v =>
      obtain ⟨c, rfl, h'⟩ := h'
      refine wpAny_bind (wpAny_holding (wpAny_truthy_bool ?_))
      refine wpAny_bind (wpAny_letGo ?_)
      cases c with
      | false =>
        simp only [Bool.false_eq_true, if_false]
        rw [if_neg (by decide)] at h'
        obtain ⟨m, hm, g'⟩ := h'
        exact wpAny_pure ⟨plainId_quiet F.plain_any_loop _, ih m hm _ g'⟩
      | true =>
        simp only [if_true]
        exact wpAny_bind (wpAny_rule (wpAny_pure (hR _ s' h')))
end
/-! the generator itself -/
/-- all (st = false), any (st = true) over a generator expression; P the def's table -/
def tGx (P : Addr) (st : Bool) (wi : TI) (g : TG) (tt : TT) (te : TE) (vs : List Nat) : TE := fun σ H Q => wi σ H fun J H1 => GxR.TabG H1 P ∧ ∀ H2, GxR.Tabbed P H1 H2 → ∃ W : Nat → Nat → Hp → Prop, (∃ m, W 0 m H2) ∧ ∀ i m H, W i m H →
  (J.stop i H ∧ Q (.bl (!st)) H) ∨ (J.go i H ∧ ∃ Nx : Hp → Prop, (∀ H', Nx H' → ∃ m', m' < m ∧ W (i + 1) m' H') ∧ ∀ x H', J.yld i H x H' → g x (wipe σ vs) H' fun σ2 H2 => wipe σ2 vs = wipe σ vs ∧ tt σ2 H2 fun b H3 =>
    if b = true then te σ2 H3 fun y H4 => ∃ c, y = .bl c ∧ if c = st then Q (.bl st) H4 else Nx H4 else Nx H3)
theorem over_gen {A : Around} {e elt : Expr} {gs : List Comprehension} {scope : Scope} {pos : Pos} {it acc : Value} {env : Env} (h : e = .GeneratorExp elt gs scope pos) : A.over (.compLoop e 0 it acc env) [] = A.deeper env := by
  subst h
  first
    | rfl
    | (obtain ⟨hd, d, fr, g, u⟩ := A; simp [Around.over, Around.deeper, marksOver, frameCount, unitsOf, envsOf, guardsOf, pushEnvs, pushGuards, Code.envs, Code.env?, Code.isFrame, Code.guards, Code.isGuard, Code.weight, Code.frames, Code.isCreation, Code.isCaller, Code.cUnits])
section
variable {X : Cx}
theorem gx_core {pins : List (Addr × Obj)} {s : Shared} {σ : L2.St} {H : Hp} {Q : VK} {elt tg iter : Expr} {ifs : List Expr} {scope : Scope} {own : List (Str × Nat)} {gpos : Pos} {wi : TI} {g : TG} {tt : TT} {te : TE} {c P : Addr} {k : Nat} {st : Bool}
    (hr : Room (k + 1) X.A) (hN : X.N.Nodup) (TB : GxR.TabB X.base X.mg c P) (hcode : X.env.code = .ref c) (co : scope.isCoroutine = false) (hcell : ∀ y ∈ scope.names, y.2 ≠ .cell) (hdot : scope.names.lookup (".0" : Str) = some NameKind.local)
    (I : L2.Inv X pins σ H s) (hi : PI X tg iter wi) (ok : BlkOk X.N X.env.scope scope own)
    (hg : ∀ (s : Shared) (H : Hp) (A : Around) (C : Addr) (code : Value) (fp : List Addr), Room k A → PG (gblk X s H A scope C code fp) tg g) (ht : ∀ (s : Shared) (H : Hp) (A : Around) (C : Addr) (code : Value) (fp : List Addr), Room k A → PTs (gblk X s H A scope C code fp) ifs tt)
    (he : ∀ (s : Shared) (H : Hp) (A : Around) (C : Addr) (code : Value) (fp : List Addr), Room k A → PE (gblk X s H A scope C code fp) elt te) (hs : ∀ v, genFold iter X.env v = pure v)
    (h : tGx P st wi g tt te (own.map (·.2)) σ H Q) :
    wpAny (model X.prog X.w) X.A (eval (.GeneratorExp elt [⟨tg, iter, ifs, 0⟩] scope gpos) X.env) (fun u s' => ∃ (a : Addr) (gi : Nat) (G : Nat → Shared → Prop) (Fi : Bool → Shared → Prop) (n : Nat), u = .ref a ∧ s'.heap.IsGen a gi ∧ PN X.prog X.w X.A st a G Fi ∧ G n s' ∧
      ∀ c s'', Fi c s'' → ∃ H', L2.Inv X pins σ H' s'' ∧ Q (.bl c) H') X.xe s := by
  have hfree : ∀ y ∈ scope.names, y.2 = .free → ∃ c, X.env.cells.lookup y.1 = some c := fun y hy e => by
    rcases ok.free y hy e with k | k
    · exact I.ok.has _ (.inl k)
    · exact I.ok.has _ (.inr k)
  refine wpAny_GeneratorExp_make co (closure_ok hfree) hcell hdot ok.kind hr.depth ?_ hs
  refine thn (hi.run pins s σ H _ I h) fun xv s1 hx => thn hx fun itv s2 h2 => ?_
  obtain ⟨it, fp, tn, J, H2, e, I2, T, st2, f2, ⟨ps, hP, htr⟩, q⟩ := h2
  subst e
  refine ⟨I2.nolimit, ?_⟩
  have hPs : s2.heap.get? P = some { cls := .none, data := .fields ps } := I2.hok P _ hP
  have cd : PySem.W.CodeHd s2.heap c P := TB.code.keeps fun b u e => I2.bk b u e
  have cont : ∀ (code : Value) (h3 : Heap) (tk : Nat) (more : Array Value), Heap.ExtBut P s2.heap h3 → s2.heap.objs.size ≤ h3.objs.size → h3.get? P = some { cls := .none, data := .fields (ps ++ more) } → TriplesOk (ps ++ more).toList →
      wpAny (model X.prog X.w) X.A (builtinsFor X.env.globals X.env.builtins) (fun bi s₄ =>
        ∀ h', h'.Ns s₄.heap.objs.size (fun y => if y = ".0" then some (.ref it) else none) → Heap.SameBut s₄.heap.objs.size (s₄.heap.push { cls := .type "frame", data := .dict #[] }) h' →
          (fun u s' => ∃ (a : Addr) (gi : Nat) (G : Nat → Shared → Prop) (Fi : Bool → Shared → Prop) (n : Nat), u = Value.ref a ∧ s'.heap.IsGen a gi ∧ PN X.prog X.w X.A st a G Fi ∧ G n s' ∧ ∀ c s'', Fi c s'' → ∃ H', L2.Inv X pins σ H' s'' ∧ Q (.bl c) H') (.ref h'.objs.size) { s₄ with
            gens := s₄.gens.push (.fresh (.compStart (.GeneratorExp elt [⟨tg, iter, ifs, 0⟩] scope gpos) 0 (.ref it) .none (genEnv scope (cloFrom X.env.cells scope.names []) s₄.heap.objs.size code bi X.env))),
            toks := s₄.toks + 1 + 1 + 1,
            heap := h'.push { cls := .type "generator", data := .fields #[.int s₄.gens.size 0, .str "<genexpr>" (s₄.toks + 1), .str (X.env.qual ++ "<genexpr>") (s₄.toks + 1 + 1)] } }) X.xe { s2 with heap := h3, toks := tk } := by
    intro code h3 tk more hx hsz hP3 ht3
    have I3 : L2.Inv X pins σ (upd H2 P (.tbl (ps ++ more))) { s2 with heap := h3, toks := tk } := GxR.inv_tab (more := more) (g' := s2.gens) (d' := s2.drawn) (t' := tk) I2 hP (fun b o hb e => hx b o hb e) hP3 I2.bare
    have nfP : ∀ b, H2 b = none → b ≠ P := fun b e z => by rw [z, hP] at e; cases e
    obtain ⟨W, ⟨m0, w0⟩, turn⟩ := q _ ⟨⟨ps ++ more, upd_same, ht3⟩, fun b hb => upd_ne hb⟩
    have hfl : ∀ b ∈ fp, b < s2.heap.objs.size := fun b hb => by
      obtain ⟨o, e, _⟩ := T.obj _ _ st2 b hb
      exact Heap.lt_size e
    have f3 : ∀ b ∈ fp, FpOk X pins (upd H2 P (.tbl (ps ++ more))) b ∧ b < h3.objs.size := fun b hb =>
      ⟨⟨by rw [upd_ne (nfP b (f2 b hb).1)]; exact (f2 b hb).1, (f2 b hb).2⟩, Nat.lt_of_lt_of_le (hfl b hb) hsz⟩
    have st3 : tn 0 h3 := T.keep _ _ _ st2 fun b hb o e => hx b o (nfP b (f2 b hb).1) e
    generalize hH3 : upd H2 P (.tbl (ps ++ more)) = H3 at I3 w0 f3
    generalize hs3 : ({ s2 with heap := h3, toks := tk } : Shared) = s3 at I3 ⊢
    have e3 : h3 = s3.heap := by rw [← hs3]
    rw [e3] at f3 st3
    obtain ⟨bm, ob, e1, e2, e3', e4, e5, e6, e7, e8⟩ := TB.bm
    refine wpAny_builtinsFor (m := X.mg) (by rw [I3.ok.glob]; exact I3.mod.glob.keeps I3.bk) e1 e2 (I3.bk _ _ e5) e6 e7 e8 ?_
    intro h' hn' hs'
    have hsz' : h'.objs.size = s3.heap.objs.size + 1 := by rw [hs'.1, Heap.size_push]
    have keep' : ∀ b o, s3.heap.get? b = some o → h'.get? b = some o := fun b o e => hs'.extBut b o (Nat.ne_of_lt (Heap.lt_size e)) (Heap.get?_push_of_some _ e)
    generalize hgo : ({ cls := .type "generator", data := .fields #[.int s3.gens.size 0, .str "<genexpr>" (s3.toks + 1), .str (X.env.qual ++ "<genexpr>") (s3.toks + 1 + 1)] } : Obj) = go
    generalize ha : h'.objs.size = a
    generalize hgi : s3.gens.size = gi
    have keep5 : ∀ b o, s3.heap.get? b = some o → (h'.push go).get? b = some o := fun b o e => Heap.get?_push_of_some _ (keep' b o e)
    have hga : (h'.push go).get? a = some go := by rw [← ha, ← hgo]; exact Heap.get?_push_size _ rfl
    have hgd : ∀ {h : Heap}, h.get? a = some go → h.IsGen a gi := fun {h} e => by
      refine ⟨go, .str "<genexpr>" (s3.toks + 1), .str (X.env.qual ++ "<genexpr>") (s3.toks + 1 + 1), e, ?_, ?_, ?_⟩ <;> rw [← hgo]
      rw [← hgi]
    show ∃ _, _
    generalize hcenv : genv X scope s3.heap.objs.size code = cenv
    have hce : genEnv scope (cloFrom X.env.cells scope.names []) s3.heap.objs.size code builtinsNs X.env = cenv := hcenv
    rw [hce]
    have hrA : Room k (X.A.in1.in1.deeper cenv) := ⟨hr.hd, by have := hr.dp; show X.A.depth + 1 + 3 * k + 5 < _; omega, by have := hr.un; show X.A.units + 1 + 1 + 3 + 16 * k + 200 < _; omega⟩
    have hfr : (X.A.in1.in1.deeper cenv).frames = some (cenv :: X.stack) := Around.frames_deeper (A := X.A.in1.in1) I3.ok.frames
    have I4 := gen_start (A := X.A.in1.in1.deeper cenv) (code := code) I3 ok hN hcell f3 hrA.hd (by rw [hcenv]; exact hfr) (hn'.push go) keep5 (g' := s3.gens.push (.fresh (.compStart (.GeneratorExp elt [⟨tg, iter, ifs, 0⟩] scope gpos) 0 (.ref it) .none cenv))) (t' := s3.toks + 1 + 1 + 1) (AllBare.push I3.bare rfl)
    have pg := hg s3 H3 (X.A.in1.in1.deeper cenv) s3.heap.objs.size code fp hrA
    have pt := ht s3 H3 (X.A.in1.in1.deeper cenv) s3.heap.objs.size code fp hrA
    have pe := he s3 H3 (X.A.in1.in1.deeper cenv) s3.heap.objs.size code fp hrA
    generalize hs5 : ({ s3 with heap := h'.push go, gens := s3.gens.push (.fresh (.compStart (.GeneratorExp elt [⟨tg, iter, ifs, 0⟩] scope gpos) 0 (.ref it) .none cenv)), toks := s3.toks + 1 + 1 + 1 } : Shared) = s5 at I4
    have h5 : s5.heap = h'.push go := by rw [← hs5]
    have g5 : s5.gens = s3.gens.push (.fresh (.compStart (.GeneratorExp elt [⟨tg, iter, ifs, 0⟩] scope gpos) 0 (.ref it) .none cenv)) := by rw [← hs5]
    have I5 : L2.Inv (gblk X s3 H3 (X.A.in1.in1.deeper cenv) scope s3.heap.objs.size code fp) [(a, go)] (wipe σ (own.map (·.2))) H3 s5 := I4.pins_of fun p hp => by
      rw [List.mem_singleton.mp hp]
      refine ⟨by rw [h5]; exact hga, I3.hok.fresh (by omega), by show a ≠ s3.heap.objs.size; omega, fun hb => ?_, fun v z => by rw [← hgo] at z; cases z⟩
      obtain ⟨_, o, ho, _⟩ := I4.ok.funs.mem hb
      have l1 : a < s3.heap.objs.size := Heap.lt_size ho
      omega
    have st5 : tn 0 s5.heap := T.keep _ _ _ st3 fun b _ o e => by rw [h5]; exact keep5 b o e
    -- back in the def's context
    have toX : ∀ {H' : Hp} {s' : Shared} {σ' : L2.St} {pl : List (Addr × Obj)}, L2.Inv (gblk X s3 H3 (X.A.in1.in1.deeper cenv) scope s3.heap.objs.size code fp) pl σ' H' s' → L2.Inv X pins σ H' s' := fun {H' s' σ' pl} K =>
      I3.call' (ch := fp) K.os K.base K.hok K.bare fun b hb => ⟨(f3 b hb).1.2.2.2.1, (f3 b hb).1.2.1, (f3 b hb).1.2.2.2.2.1, (f3 b hb).1.2.2.2.2.2⟩
    have stat : ∀ {σ' : L2.St} {H' : Hp} {s' : Shared}, L2.Inv (gblk X s3 H3 (X.A.in1.in1.deeper cenv) scope s3.heap.objs.size code fp) [(a, go)] σ' H' s' → (∀ b ∈ fp, H' b = none) → ∀ b ∈ fp, FpOk (gblk X s3 H3 (X.A.in1.in1.deeper cenv) scope s3.heap.objs.size code fp) [(a, go)] H' b := fun {σ' H' s'} I' hn b hb =>
      ⟨hn b hb, (I'.ok.exf b hb).1, I'.ok.exfs b hb, .inl hb, fun x c e => (I'.ok.exf b hb).2 x c e, fun p hp => by
        have hp' : p ∈ ([] : List (Addr × Obj)) ++ [(a, go)] := hp
        rw [List.nil_append] at hp'
        rw [List.mem_singleton.mp hp']
        have := (f3 b hb).2
        show a ≠ b
        intro z
        have h1 : s3.heap.objs.size < b := by rw [← z, ← ha, hsz']; exact Nat.lt_succ_self _
        exact absurd this (Nat.lt_asymm h1)⟩
    generalize hY : gblk X s3 H3 (X.A.in1.in1.deeper cenv) scope s3.heap.objs.size code fp = Y at I4 I5 toX stat pg pt pe
    have yA : Y.A = X.A.in1.in1.deeper cenv := by rw [← hY]
    have yP : Y.prog = X.prog := by rw [← hY]
    have yw : Y.w = X.w := by rw [← hY]
    have yK : Y.K = X.K := by rw [← hY]
    have yc : Y.calm = true := by rw [← hY]
    have yx : Y.xe = fun _ _ => False := by rw [← hY]
    have yenv : Y.env = cenv := by rw [← hY]; exact hcenv
    let vs := own.map (·.2)
    let Hd : Nat → Hp → Shared → Prop := fun i H' s' => L2.Inv Y [(a, go)] (wipe σ vs) H' s' ∧ tn i s'.heap ∧ ∀ b ∈ fp, H' b = none
    let YP : Protocol := fun n _ v s₁ K => gi + 1 ≤ s₁.gens.size ∧ ∃ (c : Bool) (i : Nat) (H' : Hp), v = .bool c ∧ Hd i H' s₁ ∧ (c = st → Q (.bl st) H') ∧
      (c ≠ st → ∀ s₂ : Shared, s₂.heap = s₁.heap → s₂.os = s₁.os → AllBare s₂.gens → gi + 1 ≤ s₂.gens.size → K (.send .none) s₂)
    let PE' : Nat → Shared → Shared → Prop := fun _ _ s₁ => ∃ H', L2.Inv Y [(a, go)] (wipe σ vs) H' s₁ ∧ Q (.bl (!st)) H'
    let GE : Expr := .GeneratorExp elt [⟨tg, iter, ifs, 0⟩] scope gpos
    have hd0 : Hd 0 H3 s5 := ⟨I5, st5, fun b hb => (f3 b hb).1.1⟩
    have loop : ∀ (m n i : Nat) (s₀ s' : Shared) (H' : Hp), m < n → Hd i H' s' → W i m H' → gi + 1 ≤ s'.gens.size →
        Seg (model X.prog X.w) X.A.in1.in1 (fun n s₀ r s₁ => r = .ok .next ∧ PE' n s₀ s₁) YP n s₀ (.compLoop GE 0 (.ref it) .none cenv) ((model X.prog X.w).den (.compLoop GE 0 (.ref it) .none cenv)) [] s' := by
      intro m
      induction m using Nat.strongRecOn with
      | _ m ih =>
        intro n i s₀ s' H' hmn ⟨J5, tn5, n5⟩ hw hgs
        have hov : X.A.in1.in1.over (.compLoop GE 0 (.ref it) .none cenv) [] = Y.A := by rw [yA]; exact over_gen rfl
        show Seg _ X.A.in1.in1 _ _ _ s₀ _ ((compTurn GE 0 (.ref it) .none cenv).onRaise (leaving cenv)) [] s'
        rw [show compTurn GE 0 (.ref it) .none cenv = _ from compTurn_gen elt tg iter ifs scope gpos (.ref it) .none cenv, Sem.onRaise_eq_wrap]
        refine seg_bind_wrap (wpAny_standAt ?_)
        rcases turn i m H' hw with ⟨stop, qq⟩ | ⟨goo, Nx, hNx, step⟩
        · refine seg_bind_wrap ?_
          rw [hov]
          refine wpAny_gsz hgs ?_
          have td := T.done Y yP yw yK yc i [(a, go)] s' _ H' (fun _ _ => False) J5 (stat J5 n5) tn5 stop
          refine thnF td fun r s6 ⟨hr6, I6⟩ hg6 => ?_
          subst hr6
          exact seg_end (.ok .next) ⟨rfl, H', I6, qq⟩
        · refine seg_bind_wrap ?_
          rw [hov]
          refine wpAny_gsz hgs ?_
          have ti := T.item Y yP yw yK yc i [(a, go)] s' _ H' (fun _ _ => False) J5 (stat J5 n5) tn5 goo
          refine thnF ti fun r s6 ⟨u, hr6, h6⟩ hg6 => ?_
          subst hr6
          refine seg_bind_wrap ?_
          rw [hov]
          refine wpAny_gsz hg6 ?_
          refine thnF h6 fun _ s7 ⟨x, H7, I7, r7, y7, st7, n7⟩ hg7 => ?_
          have I7' := I7.pinned (stat I7 n7) (T.obj _ _ st7)
          refine seg_bind_wrap ?_
          rw [hov]
          refine wpAny_gsz hg7 ?_
          have pgr := pg.run _ s7 _ H7 x u _ I7' r7 (step x H7 y7)
          rw [yx, yP, yw, yenv] at pgr
          refine thnF pgr fun _ s8 ⟨σ8, H8, I8, hw8, q8⟩ hg8 => ?_
          refine seg_bind_wrap ?_
          rw [hov]
          refine wpAny_gsz hg8 ?_
          have ptr := pt.run _ s8 σ8 H8 _ I8 q8
          rw [yx, yP, yw, yenv] at ptr
          refine thnF ptr fun b s9 ⟨H9, I9, q9⟩ hg9 => ?_
          have fin : ∀ {s' : Shared} {H' : Hp}, L2.Inv Y ([(a, go)] ++ pinsAt fp s7.heap) σ8 H' s' → Hd (i + 1) H' s' := fun {s' H'} I' => by
            have pin' : ∀ b ∈ fp, ∀ o, s7.heap.get? b = some o → s'.heap.get? b = some o ∧ H' b = none := fun b hb o e =>
              let z := I'.pin (b, o) (List.mem_append_right _ (List.mem_append_right _ (mem_pinsAt hb e)))
              ⟨z.1, z.2.1⟩
            have hl : (wipe σ vs).length = σ8.length := by rw [← hw8, wipe_length]
            refine ⟨(I'.unpinned).weak hl (fun j v e => ?_), T.keep _ _ _ st7 fun b hb o e => (pin' b hb o e).1, fun b hb => ?_⟩
            · rw [← hw8] at e
              exact (wipe_some e).1
            · obtain ⟨o, e, _⟩ := T.obj _ _ st7 b hb
              exact (pin' b hb o e).2
          cases b with
          | false =>
            simp only [Bool.false_eq_true, if_false] at q9 ⊢
            obtain ⟨m', hm', w'⟩ := hNx H9 q9
            exact seg_again rfl (ih m' hm' n (i + 1) s₀ s9 H9 (by omega) (fin I9) w' hg9)
          | true =>
            simp only [if_true] at q9 ⊢
            have hyo : ∀ v, yieldOut cenv v = yieldValue v := fun v => by
              have : cenv.scope.isCoroutine = false := by rw [← hcenv]; exact co
              simp only [yieldOut, this, Bool.false_eq_true, if_false]
            simp only [hyo]
            rw [Sem.bind_eq_wrap', Sem.bind_eq_wrap', Sem.wrap_wrap, Sem.wrap_wrap]
            refine seg_wrap ?_
            rw [hov]
            refine wpAny_gsz hg9 ?_
            have per := pe.run _ s9 σ8 H9 _ I9 q9
            rw [yx, yP, yw, yenv] at per
            refine thnF per fun z s10 ⟨yv, H10, I10, r10, cc, ey, hq⟩ hg10 => ?_
            subst ey
            obtain rfl : z = Value.bool cc := r10
            cases n with
            | zero => exact absurd hmn (Nat.not_lt_zero _)
            | succ n' =>
              refine seg_at (seg_yield rfl rfl rfl ⟨hg10, cc, i + 1, H10, rfl, fin I10, fun e => by rw [if_pos e] at hq; exact hq, fun hne s₂ e1 e2 e3 e4 => ?_⟩)
              rw [if_neg hne] at hq
              obtain ⟨m', hm', w'⟩ := hNx H10 hq
              obtain ⟨K10, tn10, n10⟩ := fin I10
              exact seg_again rfl (ih m' hm' n' (i + 1) s₂ s₂ H10 (by omega) ⟨inv_gens K10 e1 e2 e3, by rw [e1]; exact tn10, n10⟩ w' e4)
    have start : ∀ s₂ : Shared, Hd 0 H3 s₂ → gi + 1 ≤ s₂.gens.size → Seg (model X.prog X.w) X.A.in1.in1 (fun n s₀ r s₁ => r = .ok .next ∧ PE' n s₀ s₁) YP (m0 + 1) s₂ (.compStart GE 0 (.ref it) .none cenv) ((model X.prog X.w).den (.compStart GE 0 (.ref it) .none cenv)) [] s₂ := by
      intro s₂ hd hgs
      have lp := loop m0 (m0 + 1) 0 s₂ s₂ H3 (Nat.lt_succ_self _) hd w0 hgs
      show Seg _ X.A.in1.in1 _ _ _ s₂ _ ((compStart GE 0 (.ref it) .none cenv).onRaise (leaving cenv)) [] s₂
      unfold compStart
      rw [Sem.onRaise_eq_wrap]
      show Seg _ X.A.in1.in1 _ _ _ s₂ _ ((ask >>= _).wrap _ _ _ _) [] s₂
      refine seg_bind_wrap (wpAny_askSetting ?_)
      split
      · exact seg_again rfl lp
      · refine seg_bind_wrap (wpAny_rule ?_)
        show Seg _ X.A.in1.in1 _ _ _ s₂ _ ((standAt iter.pos >>= _).wrap _ _ _ _) [] s₂
        exact seg_bind_wrap (wpAny_standAt (seg_bind_wrap (T.self _ 0 s₂ _ _ hd.2.1 (seg_again rfl lp))))
    let G : Nat → Shared → Prop := fun n s' => (∃ i H', Hd i H' s') ∧ ∃ gs, s'.gens[gi]? = some gs ∧ ∀ s₂ : Shared, s₂.heap = s'.heap → s₂.os = s'.os → AllBare s₂.gens → gi + 1 ≤ s₂.gens.size → gs.Goes (model X.prog X.w) X.A.in1.in1 (fun n s₀ r s₁ => r = .ok .next ∧ PE' n s₀ s₁) YP n (.send .none) s₂
    let Fi : Bool → Shared → Prop := fun c s' => ∃ H', L2.Inv X pins σ H' s' ∧ Q (.bl c) H'
    have szg : ∀ {s' : Shared} {gs : GenState}, s'.gens[gi]? = some gs → gi + 1 ≤ s'.gens.size := fun {s' gs} e => (Array.getElem?_eq_some_iff.mp e).1
    have gen_at : ∀ {i : Nat} {H' : Hp} {s' : Shared}, Hd i H' s' → s'.heap.IsGen a gi := fun {i H' s'} h => hgd (h.1.pin (a, go) (List.mem_append_right _ (List.mem_singleton.mpr rfl))).1
    have pn : PN X.prog X.w X.A st a G Fi := by
      rintro n s' E ⟨⟨i, H', hd⟩, gs, hgs, hgoes⟩
      refine wpAny_pyNext_genexpQ (A := X.A.in1) (P := PE') hr.hd hd.1.nolimit hr.depth (gen_at hd) hgs (hgoes _ rfl rfl (allBare_setGen hd.1.bare rfl) (by rw [setGen_size]; exact szg hgs)) (fun v s₁ gs' hb hy => ?_) (fun s₁ hp h'' hk => ?_)
      · obtain ⟨hz, cc, i', H'', rfl, hd', hq, hK⟩ := hy
        refine ⟨cc, rfl, ?_⟩
        by_cases hc : cc = st
        · rw [if_pos hc]
          subst hc
          exact ⟨H'', toX (inv_gens hd'.1 rfl rfl (allBare_setGen hd'.1.bare hb)), hq rfl⟩
        · rw [if_neg hc]
          have hK' := hK hc
          cases n with
          | zero => exact absurd (hK' s₁ rfl rfl hd'.1.bare hz) (fun z => z)
          | succ n' =>
            exact ⟨n', Nat.lt_succ_self _, ⟨i', H'', inv_gens hd'.1 rfl rfl (allBare_setGen hd'.1.bare hb), hd'.2⟩, gs', setGen_at hz, fun s₂ e1 e2 e3 e4 => hK' s₂ e1 e2 e3 e4⟩
      · obtain ⟨H'', J, hq⟩ := hp
        have J2 : L2.Inv X pins σ H'' (s₁.setGen gi .finished) := toX (inv_gens J rfl rfl (allBare_setGen J.bare rfl))
        exact ⟨H'', J2.kept (t' := (s₁.setGen gi .finished).toks) hk, hq⟩
    have gg : gi + 1 ≤ s5.gens.size := by rw [g5, Array.size_push, hgi]; exact Nat.le_refl _
    refine ⟨a, gi, G, Fi, m0 + 1, rfl, hgd (by exact (I5.pin (a, go) (List.mem_append_right _ (List.mem_singleton.mpr rfl))).1), pn, ?_, fun c s'' z => z⟩
    have : G (m0 + 1) s5 := ⟨⟨0, H3, hd0⟩, .fresh (.compStart GE 0 (.ref it) .none cenv), by rw [g5, ← hgi]; exact Array.getElem?_push_size .., fun s₂ e1 e2 e3 e4 => ⟨rfl, start s₂ ⟨inv_gens I5 e1 e2 e3, by rw [e1]; exact st5, hd0.2.2⟩ e4⟩⟩
    exact this
  cases hf : codeAmong gpos ps.toList with
  | none =>
    refine wpAny_genexprCodeX hcode (cd.code hPs htr) (cd.tab hPs) hf fun c' h' tk hx hge hlt hco' _ htab' _ => ?_
    obtain ⟨o1, vs, f1, tf, fl, tg, inF, tx, tt, op, _, _, _, _, _, _, _, _, _, htr2, _⟩ := hco'
    exact cont _ h' tk _ hx (Nat.le_trans hge (Nat.le_of_lt hlt)) htab'.2 htr2
  | some cv =>
    refine wpAny_genexprCode_hit hcode (cd.code hPs htr) hf ?_
    exact cont cv s2.heap s2.toks #[] (Heap.ExtBut.refl _ _) (Nat.le_refl _) (by simpa using hPs) (by simpa using htr)
end

section
variable {X : Cx}
theorem pe_allG {elt tg iter : Expr} {ifs : List Expr} {scope : Scope} {own : List (Str × Nat)} {gpos pos p : Pos} {wi : TI} {g : TG} {tt : TT} {te : TE} {c P : Addr} {k : Nat}
    (hr : Room (k + 1) X.A) (hgl : Gl X "all") (hm : X.mg "all" = none) (hb : bootBuiltins "all" = some (.builtin "all")) (hN : X.N.Nodup) (TB : GxR.TabB X.base X.mg c P) (hcode : X.env.code = .ref c) (co : scope.isCoroutine = false) (hcell : ∀ y ∈ scope.names, y.2 ≠ .cell) (hdot : scope.names.lookup (".0" : Str) = some NameKind.local)
    (hi : PI X tg iter wi) (ok : BlkOk X.N X.env.scope scope own)
    (hg : ∀ (s : Shared) (H : Hp) (A : Around) (C : Addr) (code : Value) (fp : List Addr), Room k A → PG (gblk X s H A scope C code fp) tg g) (ht : ∀ (s : Shared) (H : Hp) (A : Around) (C : Addr) (code : Value) (fp : List Addr), Room k A → PTs (gblk X s H A scope C code fp) ifs tt)
    (he : ∀ (s : Shared) (H : Hp) (A : Around) (C : Addr) (code : Value) (fp : List Addr), Room k A → PE (gblk X s H A scope C code fp) elt te) (hs : ∀ v, genFold iter X.env v = pure v)
    (hst : starEach [.GeneratorExp elt [⟨tg, iter, ifs, 0⟩] scope gpos] X.env = (false, eval (.GeneratorExp elt [⟨tg, iter, ifs, 0⟩] scope gpos) X.env) :: starEach [] X.env := by rfl) :
    PE X (.Call (.Name "all" p) [.GeneratorExp elt [⟨tg, iter, ifs, 0⟩] scope gpos] [] pos) (tGx P false wi g tt te (own.map (·.2))) := by
  refine ⟨fun pins s σ H Q I h => ?_⟩
  refine wpAny_Call_Name_kw (ld_blt I hgl hm hb ?_)
  refine PyProof.Rows.callWith_builtin1 ?_ hst (by rfl)
  rw [hst]
  show wpAny _ _ (spliced ((false, eval (.GeneratorExp elt [⟨tg, iter, ifs, 0⟩] scope gpos) X.env) :: backTo pos (starEach [] X.env))) _ _ s
  refine Calls.spliced_cons (thn (gx_core hr hN TB hcode co hcell hdot I hi ok hg ht he hs h) fun u s5 ⟨a, gi, G, Fi, n, eu, hgen, pn, hG, hF⟩ => ?_)
  subst eu
  refine Calls.spliced_nil ?_
  refine call_function_tree F.kind_all F.plain_all F.entry_all (F.args_all1 _) ?_
  unfold Builtin.«all»
  refine wpAny_bind (m := oneArg "all" _) (wpAny_pure ?_)
  refine wpAny_bind (wpAny_pyIter_gen hgen ?_)
  exact wpAny_pure ⟨plainId_quiet F.plain_all_loop _, all_loopG pn (fun c s' hf => by
    obtain ⟨H', J, q⟩ := hF c s' hf
    exact ⟨.bl c, H', J, rfl, q⟩) n s5 hG⟩
theorem pe_anyG {elt tg iter : Expr} {ifs : List Expr} {scope : Scope} {own : List (Str × Nat)} {gpos pos p : Pos} {wi : TI} {g : TG} {tt : TT} {te : TE} {c P : Addr} {k : Nat}
    (hr : Room (k + 1) X.A) (hgl : Gl X "any") (hm : X.mg "any" = none) (hb : bootBuiltins "any" = some (.builtin "any")) (hN : X.N.Nodup) (TB : GxR.TabB X.base X.mg c P) (hcode : X.env.code = .ref c) (co : scope.isCoroutine = false) (hcell : ∀ y ∈ scope.names, y.2 ≠ .cell) (hdot : scope.names.lookup (".0" : Str) = some NameKind.local)
    (hi : PI X tg iter wi) (ok : BlkOk X.N X.env.scope scope own)
    (hg : ∀ (s : Shared) (H : Hp) (A : Around) (C : Addr) (code : Value) (fp : List Addr), Room k A → PG (gblk X s H A scope C code fp) tg g) (ht : ∀ (s : Shared) (H : Hp) (A : Around) (C : Addr) (code : Value) (fp : List Addr), Room k A → PTs (gblk X s H A scope C code fp) ifs tt)
    (he : ∀ (s : Shared) (H : Hp) (A : Around) (C : Addr) (code : Value) (fp : List Addr), Room k A → PE (gblk X s H A scope C code fp) elt te) (hs : ∀ v, genFold iter X.env v = pure v)
    (hst : starEach [.GeneratorExp elt [⟨tg, iter, ifs, 0⟩] scope gpos] X.env = (false, eval (.GeneratorExp elt [⟨tg, iter, ifs, 0⟩] scope gpos) X.env) :: starEach [] X.env := by rfl) :
    PE X (.Call (.Name "any" p) [.GeneratorExp elt [⟨tg, iter, ifs, 0⟩] scope gpos] [] pos) (tGx P true wi g tt te (own.map (·.2))) := by
  refine ⟨fun pins s σ H Q I h => ?_⟩
  refine wpAny_Call_Name_kw (ld_blt I hgl hm hb ?_)
  refine PyProof.Rows.callWith_builtin1 ?_ hst (by rfl)
  rw [hst]
  show wpAny _ _ (spliced ((false, eval (.GeneratorExp elt [⟨tg, iter, ifs, 0⟩] scope gpos) X.env) :: backTo pos (starEach [] X.env))) _ _ s
  refine Calls.spliced_cons (thn (gx_core hr hN TB hcode co hcell hdot I hi ok hg ht he hs h) fun u s5 ⟨a, gi, G, Fi, n, eu, hgen, pn, hG, hF⟩ => ?_)
  subst eu
  refine Calls.spliced_nil ?_
  refine call_function_tree F.kind_any F.plain_any F.entry_any (F.args_any1 _) ?_
  unfold Builtin.«any»
  refine wpAny_bind (m := oneArg "any" _) (wpAny_pure ?_)
  refine wpAny_bind (wpAny_pyIter_gen hgen ?_)
  exact wpAny_pure ⟨plainId_quiet F.plain_any_loop _, any_loopG pn (fun c s' hf => by
    obtain ⟨H', J, q⟩ := hF c s' hf
    exact ⟨.bl c, H', J, rfl, q⟩) n s5 hG⟩
end
/-! ### typed -/
def gxP {α : Type} (st : Bool) (t f : α → R Bool) : List α → Prop
  | [] => True
  | x :: xs => (t x).p ∧ ((t x).v = true → (f x).p ∧ ((f x).v ≠ st → gxP st t f xs)) ∧ ((t x).v = false → gxP st t f xs)
def gxV {α : Type} (st : Bool) (t f : α → R Bool) : List α → Bool
  | [] => !st
  | x :: xs => if (t x).v = true then (if (f x).v = st then st else gxV st t f xs) else gxV st t f xs
@[simp] def R.gx {α : Type} (st : Bool) (m : R (List α)) (t f : α → R Bool) : R Bool := ⟨m.p ∧ gxP st t f m.v, gxV st t f m.v⟩
theorem gxV_all {α : Type} {t f : α → R Bool} : ∀ xs : List α, gxV false t f xs = xs.all fun x => !(t x).v || (f x).v
  | [] => rfl
  | x :: xs => by
    unfold gxV
    rw [List.all_cons, gxV_all xs]
    cases (t x).v <;> cases (f x).v <;> rfl
theorem gxV_any {α : Type} {t f : α → R Bool} : ∀ xs : List α, gxV true t f xs = xs.any fun x => (t x).v && (f x).v
  | [] => rfl
  | x :: xs => by
    unfold gxV
    rw [List.any_cons, gxV_any xs]
    cases (t x).v <;> cases (f x).v <;> rfl
theorem gxP_of {α : Type} {st : Bool} {t f : α → R Bool} : ∀ {xs : List α}, (∀ x ∈ xs, (t x).p ∧ ((t x).v = true → (f x).p)) → gxP st t f xs
  | [], _ => trivial
  | x :: xs, h => ⟨(h x List.mem_cons_self).1, fun e => ⟨(h x List.mem_cons_self).2 e, fun _ => gxP_of fun y hy => h y (List.mem_cons_of_mem _ hy)⟩, fun _ => gxP_of fun y hy => h y (List.mem_cons_of_mem _ hy)⟩
section
variable {K : PySem.W.Frag} {M : Mm} {env : List Sl} {α : Type} [Rep α]
theorem RdE.gx {wi : TI} {g : TG} {tt : TT} {te : TE} {vs : List Nat} {P : Addr} {st : Bool} {m : R (List α)} {t f : α → R Bool} {tE : α → List Sl} (hT : M.t P) (hi : RdI K M false wi env (· = m.v.map rep)) {ix : List Nat} (hix : ∀ i ∈ ix, i ∈ vs)
    (hg : ∀ x ∈ m.v, RdG K M g ix (rep x) (wipeE env vs) (· = tE x)) (ht : ∀ x ∈ m.v, (t x).p → RdT K M tt (tE x) (· = (t x).v)) (hf : ∀ x ∈ m.v, (f x).p → RdE K M te (tE x) (· = rep (f x).v)) (hp : gxP st t f m.v) :
    RdE K M (tGx P st wi g tt te vs) env (· = rep (gxV st t f m.v)) := fun S0 H0 σ S H st0 Q q => by
  refine hi _ _ _ _ _ st0 _ fun ds J S1 H1 ed t1 it => ?_
  subst ed
  have st1 := st0.step t1
  have g1 := st1.gd
  refine ⟨(g1.tab P hT).1, fun H2 hTab => ?_⟩
  have tT : Step M S1 H1 S1 H2 := Step.tabd g1 hT hTab.1 hTab.2
  refine ⟨fun i k H' => k = m.v.length - i ∧ i ≤ m.v.length ∧ gxP st t f (m.v.drop i) ∧ gxV st t f (m.v.drop i) = gxV st t f m.v ∧ ∃ S', Step M S1 H1 S' H', ⟨m.v.length, by simp, Nat.zero_le _, by simpa using hp, by simp, S1, tT⟩, ?_⟩
  rintro i k H' ⟨rfl, hil, hP, hV, S', t2⟩
  have st2 : St0 K M S0 H0 S' H' env σ := st1.step t2
  have rc : Rch K M false S0 H0 S1 H1 S' H' := ⟨st2.gd, t2.ss, t2⟩
  by_cases hlt : i < m.v.length
  · refine .inr ?_
    have hx : m.v[i]? = some m.v[i] := List.getElem?_eq_getElem hlt
    have hdr : m.v.drop i = m.v[i] :: m.v.drop (i + 1) := List.drop_eq_getElem_cons hlt
    generalize m.v[i] = x at hx hdr
    rw [hdr] at hP hV
    have hmem : x ∈ m.v := List.mem_of_getElem? hx
    obtain ⟨go, yl⟩ := it.go S' H' i (rep x) rc (by rw [List.getElem?_map, hx]; rfl)
    refine ⟨go, fun H3 => ∃ S3, Step M S1 H1 S3 H3 ∧ gxP st t f (m.v.drop (i + 1)) ∧ gxV st t f (m.v.drop (i + 1)) = gxV st t f m.v, fun H3 ⟨S3, w1, w2, w3⟩ => ⟨m.v.length - (i + 1), by omega, rfl, hlt, w2, w3, S3, w1⟩, fun v H3 hy => ?_⟩
    obtain ⟨S3, t3, dn⟩ := yl v H3 hy
    have st3 := (st2.step t3).wipe vs
    refine hg x hmem S0 H0 _ S3 H3 v st3 dn _ fun env4 σ4 S4 H4 e4 st4 t4 l4 k4 => ?_
    subst e4
    refine ⟨wipe_eq (by rw [l4]) fun j hj => k4 j fun z => hj (hix j z), ?_⟩
    refine ht x hmem hP.1 S0 H0 σ4 S4 H4 st4 _ fun b S5 H5 eb t5 => ?_
    cases b with
    | true =>
      rw [if_pos rfl]
      obtain ⟨hp1, hp2⟩ := hP.2.1 eb.symm
      refine hf x hmem hp1 S0 H0 σ4 S5 H5 (st4.step t5) _ fun d v6 S6 H6 ed dn6 t6 => ?_
      subst ed
      have tt6 := t2.trans (((t3.trans t4).trans t5).trans t6)
      refine ⟨(f x).v, by cases dn6; rfl, ?_⟩
      by_cases hc : (f x).v = st
      · rw [if_pos hc]
        refine q _ _ S6 H6 ?_ (.bl st) (t1.trans tt6)
        rw [← hV]
        unfold gxV
        rw [if_pos eb.symm, if_pos hc]
        rfl
      · rw [if_neg hc]
        refine ⟨S6, tt6, hp2 hc, ?_⟩
        rw [← hV]
        conv => rhs; unfold gxV
        rw [if_pos eb.symm, if_neg hc]
    | false =>
      rw [if_neg (by decide)]
      refine ⟨S5, t2.trans ((t3.trans t4).trans t5), hP.2.2 eb.symm, ?_⟩
      rw [← hV]
      conv => rhs; unfold gxV
      rw [if_neg (by rw [← eb]; decide)]
  · refine .inl ⟨it.stop S' H' i rc (by rw [List.length_map]; omega) (by rw [List.length_map]; omega), ?_⟩
    refine q _ _ S' H' ?_ (.bl _) (t1.trans t2)
    rw [← hV, List.drop_of_length_le (by omega)]
    rfl
end
section
variable {X : Cx} {M : Mm} {env : List Sl} {α : Type} [Rep α]
/-- the block of a generator expression -/
abbrev GBlk (X : Cx) (scope : Scope) (k : Nat) (φ : Cx → Prop) : Prop := ∀ (s : Shared) (H : Hp) (A : Around) (C : Addr) (code : Value) (fp : List Addr), Room k A → φ (gblk X s H A scope C code fp)
def gE (X : Cx) (scope : Scope) (k : Nat) (e : Expr) : TE := fun σ H Q => ∀ (s : Shared) (H' : Hp) (A : Around) (C : Addr) (code : Value) (fp : List Addr), Room k A → star (gblk X s H' A scope C code fp) e σ H Q
def gG (X : Cx) (scope : Scope) (k : Nat) (e : Expr) : TG := fun v σ H Q => ∀ (s : Shared) (H' : Hp) (A : Around) (C : Addr) (code : Value) (fp : List Addr), Room k A → starG (gblk X s H' A scope C code fp) e v σ H Q
def gT (X : Cx) (scope : Scope) (k : Nat) (e : Expr) : TT := fun σ H Q => ∀ (s : Shared) (H' : Hp) (A : Around) (C : Addr) (code : Value) (fp : List Addr), Room k A → starT (gblk X s H' A scope C code fp) e σ H Q
def GTs (X : Cx) (scope : Scope) (k : Nat) (M : Mm) (ifs : List Expr) (env : List Sl) (m : R Bool) : Prop := (ifs = [] ∧ m = R.pure true) ∨ ∃ c, ifs = [c] ∧ GBlk X scope k fun Y => RT Y M c env m
theorem gx_pts {scope : Scope} {k : Nat} {ifs : List Expr} (h : ifs.length ≤ 1) : ∃ tt : TT, (∀ (s : Shared) (H : Hp) (A : Around) (C : Addr) (code : Value) (fp : List Addr), Room k A → PTs (gblk X s H A scope C code fp) ifs tt) ∧
    ∀ (env : List Sl) (m : R Bool), GTs X scope k M ifs env m → m.p → RdT X.K M tt env (· = m.v) := by
  cases ifs with
  | nil =>
    refine ⟨tYes, fun _ _ _ _ _ _ _ => pts_nil, fun env m hm _ S0 H0 σ S H st Q q => ?_⟩
    rcases hm with ⟨_, rfl⟩ | ⟨c, e, _⟩
    · exact q true S H rfl (Step.refl st.gd.sub)
    · cases e
  | cons c r =>
    cases r with
    | nil =>
      refine ⟨gT X scope k c, fun s H A C code fp hr => pts_one ⟨fun pins s' σ H' Q I h => h s H A C code fp hr pins s' I⟩, fun env m hm hp S0 H0 σ S H st Q q s H' A C code fp hr => ?_⟩
      rcases hm with ⟨e, _⟩ | ⟨c', e, hm⟩
      · cases e
      · cases e
        exact hm s H' A C code fp hr hp S0 H0 σ S H st Q q
    | cons _ _ => simp at h
theorem RE.allG {elt tg iter : Expr} {ifs : List Expr} {scope : Scope} {own : List (Str × Nat)} {gpos pos p0 : Pos} {m : R (List α)} {t f : α → R Bool} {tE : α → List Sl} {ix : List Nat} {c P : Addr} {k : Nat}
    (hr : Room (k + 1) X.A) (hgl : Gl X "all") (hm : X.mg "all" = none) (hN : X.N.Nodup) (TB : GxR.TabB X.base X.mg c P) (hT : M.t P) (hcode : X.env.code = .ref c) (co : scope.isCoroutine = false) (hcell : ∀ y ∈ scope.names, y.2 ≠ .cell) (hdot : scope.names.lookup (".0" : Str) = some NameKind.local)
    (ok : BlkOk X.N X.env.scope scope own) (hl : ifs.length ≤ 1) (hix : ∀ i ∈ ix, i ∈ own.map (·.2))
    (hi : RI X M false tg iter env m) (hg : ∀ x, GBlk X scope k fun Y => RG Y M tg ix (rep x) (wipeE env (own.map (·.2))) (tE x)) (ht : ∀ x, GTs X scope k M ifs (tE x) (t x)) (he : ∀ x, GBlk X scope k fun Y => RE Y M elt (tE x) (f x)) (hs : ∀ x, genFold iter X.env x = pure x)
    (hst : starEach [.GeneratorExp elt [⟨tg, iter, ifs, 0⟩] scope gpos] X.env = (false, eval (.GeneratorExp elt [⟨tg, iter, ifs, 0⟩] scope gpos) X.env) :: starEach [] X.env := by rfl) :
    RE X M (.Call (.Name "all" p0) [.GeneratorExp elt [⟨tg, iter, ifs, 0⟩] scope gpos] [] pos) env (R.gx false m t f) := .mk fun p => by
  obtain ⟨tt, pt, rt⟩ := gx_pts (X := X) (M := M) (scope := scope) (k := k) hl
  exact EV.of (pe_allG (g := gG X scope k tg) (te := gE X scope k elt) hr hgl hm bb_all hN TB hcode co hcell hdot star_pi ok (fun s H A C code fp hr => ⟨fun pins s' σ H' v u Q I r h => h s H A C code fp hr pins s' u I r⟩) pt (fun s H A C code fp hr => ⟨fun pins s' σ H' Q I h => h s H A C code fp hr pins s' I⟩) hs hst)
    (RdE.gx hT (hi p.1) hix (fun x _ S0 H0 σ S H v st dn Q q s H' A C code fp hr => hg x s H' A C code fp hr S0 H0 σ S H v st dn Q q) (fun x _ hp => rt _ _ (ht x) hp) (fun x _ hp S0 H0 σ S H st Q q s H' A C code fp hr => he x s H' A C code fp hr hp S0 H0 σ S H st Q q) p.2)
theorem RE.anyG {elt tg iter : Expr} {ifs : List Expr} {scope : Scope} {own : List (Str × Nat)} {gpos pos p0 : Pos} {m : R (List α)} {t f : α → R Bool} {tE : α → List Sl} {ix : List Nat} {c P : Addr} {k : Nat}
    (hr : Room (k + 1) X.A) (hgl : Gl X "any") (hm : X.mg "any" = none) (hN : X.N.Nodup) (TB : GxR.TabB X.base X.mg c P) (hT : M.t P) (hcode : X.env.code = .ref c) (co : scope.isCoroutine = false) (hcell : ∀ y ∈ scope.names, y.2 ≠ .cell) (hdot : scope.names.lookup (".0" : Str) = some NameKind.local)
    (ok : BlkOk X.N X.env.scope scope own) (hl : ifs.length ≤ 1) (hix : ∀ i ∈ ix, i ∈ own.map (·.2))
    (hi : RI X M false tg iter env m) (hg : ∀ x, GBlk X scope k fun Y => RG Y M tg ix (rep x) (wipeE env (own.map (·.2))) (tE x)) (ht : ∀ x, GTs X scope k M ifs (tE x) (t x)) (he : ∀ x, GBlk X scope k fun Y => RE Y M elt (tE x) (f x)) (hs : ∀ x, genFold iter X.env x = pure x)
    (hst : starEach [.GeneratorExp elt [⟨tg, iter, ifs, 0⟩] scope gpos] X.env = (false, eval (.GeneratorExp elt [⟨tg, iter, ifs, 0⟩] scope gpos) X.env) :: starEach [] X.env := by rfl) :
    RE X M (.Call (.Name "any" p0) [.GeneratorExp elt [⟨tg, iter, ifs, 0⟩] scope gpos] [] pos) env (R.gx true m t f) := .mk fun p => by
  obtain ⟨tt, pt, rt⟩ := gx_pts (X := X) (M := M) (scope := scope) (k := k) hl
  exact EV.of (pe_anyG (g := gG X scope k tg) (te := gE X scope k elt) hr hgl hm bb_any hN TB hcode co hcell hdot star_pi ok (fun s H A C code fp hr => ⟨fun pins s' σ H' v u Q I r h => h s H A C code fp hr pins s' u I r⟩) pt (fun s H A C code fp hr => ⟨fun pins s' σ H' Q I h => h s H A C code fp hr pins s' I⟩) hs hst)
    (RdE.gx hT (hi p.1) hix (fun x _ S0 H0 σ S H v st dn Q q s H' A C code fp hr => hg x s H' A C code fp hr S0 H0 σ S H v st dn Q q) (fun x _ hp => rt _ _ (ht x) hp) (fun x _ hp S0 H0 σ S H st Q q s H' A C code fp hr => he x s H' A C code fp hr hp S0 H0 σ S H st Q q) p.2)
end
end FP
namespace FP
open PySem PySem.Spec PyProof.Rows L2
open Rep (rep)
/-! ### enumerate, zip over lists (false) and tuples (true) -/
def SqB (b : Bool) (K : PySem.W.Frag) (H : Hp) (a : Addr) (xs : List V) : Prop := match b with
  | false => SqL K H a xs
  | true => SqT K H a xs
def AtB (b : Bool) (h : Heap) (a : Addr) (its : List Value) : Prop := match b with
  | false => h.IsList a its.toArray
  | true => h.IsTuple a its.toArray
def ItB (b : Bool) (h : Heap) (it a : Addr) (i : Nat) : Prop := match b with
  | false => h.IsListIter it a i
  | true => h.IsTupleIter it a i
def obB (b : Bool) (a : Addr) : Obj := match b with
  | false => { cls := .type "list_iterator", data := .fields #[.ref a, .int 0 0] }
  | true => { cls := .type "tuple_iterator", data := .fields #[.ref a, .int 0 0] }
theorem begB (b : Bool) (a : Addr) (its : List Value) : Begins (.ref a) (obB b a) (fun h => AtB b h a its) := by
  cases b with
  | false => exact begins_list a its.toArray
  | true => exact begins_tuple a its.toArray
theorem ItB.obj {b : Bool} {h : Heap} {it a : Addr} {i : Nat} (x : ItB b h it a i) : ∃ o, h.get? it = some o ∧ o.data = .fields #[.ref a, .int i 0] ∧ (o.cls = .type "list_iterator" ∨ o.cls = .type "tuple_iterator") := by
  cases b with
  | false => obtain ⟨o, e, c, d⟩ := x; exact ⟨o, e, d, .inl c⟩
  | true => obtain ⟨o, e, c, d⟩ := x; exact ⟨o, e, d, .inr c⟩
theorem ItB.at {b : Bool} {h h' : Heap} {it a : Addr} {i : Nat} (x : ItB b h it a i) (k : ∀ o, h.get? it = some o → h'.get? it = some o) : ItB b h' it a i := by
  cases b with
  | false => obtain ⟨o, e, r⟩ := x; exact ⟨o, k o e, r⟩
  | true => obtain ⟨o, e, r⟩ := x; exact ⟨o, k o e, r⟩
theorem ItB.new {b : Bool} {h : Heap} {it a : Addr} (e : h.get? it = some (obB b a)) : ItB b h it a 0 := by
  cases b with
  | false => exact ⟨_, e, rfl, rfl⟩
  | true => exact ⟨_, e, rfl, rfl⟩
theorem AtB.obj {b : Bool} {h : Heap} {a : Addr} {its : List Value} (x : AtB b h a its) : ∃ o n, h.get? a = some o ∧ o.data = .seq its.toArray n ∧ (o.cls = .type "list" ∨ o.cls = .type "tuple") := by
  cases b with
  | false => obtain ⟨o, e, c, n, d⟩ := x; exact ⟨o, n, e, d, .inl c⟩
  | true => obtain ⟨o, e, c, n, d⟩ := x; exact ⟨o, n, e, d, .inr c⟩
section
variable {X : Cx} {pins : List (Addr × Obj)} {σ : L2.St} {H : Hp} {s : Shared}
theorem sqB_at {b : Bool} {a : Addr} {xs : List V} (I : L2.Inv X pins σ H s) (q : SqB b X.K H a xs) : ∃ its : List Value, Vals xs its ∧ AtB b s.heap a its := by
  cases b with
  | false => obtain ⟨its, r, p, _⟩ := I.list q; exact ⟨its, r, p.isList⟩
  | true => obtain ⟨its, r, p, _⟩ := I.tuple q; exact ⟨its, r, p⟩
theorem sqB_inj {b : Bool} {a : Addr} {xs ys : List V} (I : L2.Inv X pins σ H s) (q : SqB b X.K H a xs) (q' : SqB b X.K H a ys) : xs = ys := by
  cases b with
  | false => exact I.list_inj q q'
  | true => exact I.tuple_inj q q'
end
theorem drawsB {prog : Program} {w : World} {A : Around} (b : Bool) (hh : A.handled = none) {h : Heap} {it a : Addr} {i : Nat} {its : List Value} (x : ItB b h it a i) (y : AtB b h a its) :
    Draws prog w A it [it, a] its.toArray.size (fun j v => its.toArray[j]? = some v) (fun j h => ItB b h it a j ∧ AtB b h a its) := by
  have ne : a ≠ it := fun z => by
    obtain ⟨o, e, _, c⟩ := x.obj
    obtain ⟨o', n, e', _, c'⟩ := y.obj
    rw [z, e] at e'
    cases e'
    rcases c with c | c <;> rcases c' with c' | c' <;> rw [c] at c' <;> exact absurd c' (by decide)
  cases b with
  | false => exact Draws.list hh it a ne its.toArray
  | true => exact Draws.tuple hh it a ne its.toArray
set_option maxHeartbeats 1000000 in
theorem meets_enum1 {v : Value} {o : Obj} {H : Heap → Prop} (B : Begins v o H) :
    Meets (Builtin.«enumerate.__new__» ⟨[.type "enumerate", v], []⟩) (fun _ R s => H s.heap ∧
      R (.ok (.ret (.ref (s.heap.push o).objs.size))) { s with heap := (s.heap.push o).push { cls := .type "enumerate", data := .fields #[.none, .bool false, .ref s.heap.objs.size, rawInt 0, .none, .none] } }) :=
  .of_wp fun prog w A R s h => by
    obtain ⟨hp, g, d, tk, os⟩ := s; obtain ⟨h1, h⟩ := h
    have hsub := sub_enumerate
    have q1 : ∀ {A' : Around} {E : Value → Shared → Prop} {Q : Value → Shared → Prop}, Q (.ref hp.objs.size) ⟨hp.push o, g, d, tk, os⟩ → wpAny (model prog w) A' (pyIter v) Q E ⟨hp, g, d, tk, os⟩ :=
      fun q => B.iter prog w _ _ ⟨hp, g, d, tk, os⟩ _ h1 q
    wp_walk using q1
    refine wpAny_stack_any fun st => wpAny_pure ?_
    split
    · rename_i c _ _ _ _ _
      cases (c == Value.type "enumerate")
      · wp_walk using q1
        exact ⟨_, rfl, h⟩
      · wp_walk using q1
        exact ⟨_, rfl, h⟩
    · wp_walk using q1
      exact ⟨_, rfl, h⟩
section
variable {prog : Program} {w : World} {A : Around} {E : Value → Shared → Prop} {s : Shared}
theorem call_enum1 {v : Value} {o : Obj} {H : Heap → Prop} {Q : Value → Shared → Prop} (B : Begins v o H) (h1 : H s.heap)
    (h : ∀ h', IsEnum h' (s.heap.objs.size + 1) s.heap.objs.size 0 .none → h'.get? s.heap.objs.size = some o → h'.objs.size = s.heap.objs.size + 2 →
      (∀ b o, s.heap.get? b = some o → h'.get? b = some o) → Q (.ref (s.heap.objs.size + 1)) { s with heap := h' }) :
    wpAny (model prog w) A (call (.type "enumerate") [v]) Q E s := by
  refine callType_new F.called_enumerate (by decide) (F.typeCall_enumerate_1 _) (F.newCall_enumerate_1 _) (fun obj => F.args_object_init_2 obj _) F.entry_enumerate_new
    (meets_enum1 B) ⟨h1, ?_⟩
  have hz : (s.heap.push o).objs.size = s.heap.objs.size + 1 := Heap.size_push ..
  show _ ∧ _
  rw [hz]
  have he : IsEnum ((s.heap.push o).push { cls := .type "enumerate", data := .fields #[.none, .bool false, .ref s.heap.objs.size, rawInt 0, .none, .none] }) (s.heap.objs.size + 1) s.heap.objs.size 0 .none := by
    have := Heap.get?_push_size (s.heap.push o) (o := { cls := .type "enumerate", data := .fields #[.none, .bool false, .ref s.heap.objs.size, rawInt 0, .none, .none] }) rfl
    rw [hz] at this; exact this
  refine ⟨⟨_, he, rfl⟩, h _ he (Heap.get?_push_of_some _ (Heap.get?_push_size _ B.free)) (by rw [Heap.size_push, hz]) fun b o x => Heap.get?_push_of_some _ (Heap.get?_push_of_some _ x)⟩
end
/-- the sequence at a as it stands at each turn, each item in a new pair -/
def IteB (b : Bool) (K : PySem.W.Frag) (a : Addr) : It :=
  ⟨fun i H => ∃ (xs : List V) (x : V), SqB b K H a xs ∧ xs[i]? = some x, fun i H v H' => ∃ (T : Addr) (x : V) (ob : Obj), v = .ref T ∧ H T = none ∧ ob.dict = none ∧ H' = upd H T (.frz ob (.tup [.int (i : Nat), x])) ∧ ∀ xs, SqB b K H a xs → xs[i]? = some x, fun i H => ∃ xs : List V, SqB b K H a xs ∧ xs.length ≤ i⟩
theorem turn_enumB {P : Program} {w : World} {K : PySem.W.Frag} {elts : List Expr} {kk : Nat} {tpos : Pos} (b : Bool) (a e it : Addr) :
    Turn P w K (.Tuple elts kk tpos) (IteB b K a) [e, it] e (fun i h => (∃ old, IsEnum h e it ((i : Nat) : Int) old) ∧ ItB b h it a i ∧ e ≠ it) where
  mem := by simp
  obj := fun i h st c hc => by
    obtain ⟨⟨old, he⟩, hi, _⟩ := st
    obtain ⟨o, ho, hd, _⟩ := hi.obj
    have e' : c = e ∨ c = it := by simpa using hc
    rcases e' with z | z
    · rw [z]; exact ⟨_, he, fun v q => nomatch q⟩
    · rw [z]; exact ⟨o, ho, fun v q => by rw [hd] at q; cases q⟩
  keep := fun i h h' st k => let ⟨⟨old, he⟩, hi, hne⟩ := st; ⟨⟨old, k e (by simp) _ he⟩, hi.at fun o q => k it (by simp) o q, hne⟩
  item := by
    intro X hP hw hK hc i pins s σ H E I hf st hg
    subst hP hw hK
    obtain ⟨⟨old, he⟩, hit, hne⟩ := st
    obtain ⟨xs, x, hq, hx⟩ := hg
    obtain ⟨its, rv, hat⟩ := sqB_at I hq
    obtain ⟨u, hu, ru⟩ := rv.get hx
    have hel : e < s.heap.objs.size := Heap.lt_size he
    have hil : it < s.heap.objs.size := by obtain ⟨_, q, _⟩ := hit.obj; exact Heap.lt_size q
    have hea : e ≠ a := fun z => by
      obtain ⟨o', n, e', _, c'⟩ := hat.obj
      rw [← z, he] at e'
      cases e'
      rcases c' with c' | c'
      · exact absurd (show Value.type "enumerate" = Value.type "list" from c') (by decide)
      · exact absurd (show Value.type "enumerate" = Value.type "tuple" from c') (by decide)
    refine wpAny_pyNext_enum_itemD (drawsB (A := X.A.in1) b (show X.A.in1.handled = none from I.ok.hd hc) hit hat) he ⟨hit, hat⟩ (by simpa using (List.getElem?_eq_some_iff.mp hu).1) hne (by simp [hne, hea]) fun x' h' tk hP ho hst' hT hsz hk => ?_
    obtain rfl : x' = u := by
      have hP' : its[i]? = some x' := by simpa using hP
      rw [hu] at hP'; exact (Option.some.inj hP').symm
    refine ⟨_, rfl, wpAny_letOwnedTupleGo_enum (s := { s with heap := h', toks := tk + 1 }) ho fun h'' he' sb => ?_⟩
    have hT2 : h''.get? s.heap.objs.size = some { cls := .type "tuple", data := .seq #[.int i tk, x'] } := (sb.2 _ (Nat.ne_of_gt hel)).trans hT
    have new : ObjOk X.prog X.w (upd H s.heap.objs.size (.frz { cls := .type "tuple", data := .seq #[.int i tk, x'] } (.tup [.int (i : Nat), x]))) h'' s.heap.objs.size (.frz { cls := .type "tuple", data := .seq #[.int i tk, x'] } (.tup [.int (i : Nat), x])) :=
      ⟨hT2, by show 2 ≤ sizeLine; decide, [.int i tk, x'], .cons ⟨_, rfl⟩ (.cons ru .nil), ⟨_, hT2, rfl, _, rfl⟩⟩
    have I1 : L2.Inv X pins σ (upd H s.heap.objs.size (.frz { cls := .type "tuple", data := .seq #[.int i tk, x'] } (.tup [.int (i : Nat), x]))) { s with heap := h'', toks := tk + 1 } :=
      I.turnedNew (ch := [e, it]) (fun b ob hb q => (sb.2 b (fun z => hb (by simp [z]))).trans (hk b ob (fun z => hb (by simp [z])) (fun z => hb (by simp [z])) q)) hf (Nat.le_refl _) new
    refine ⟨.ref s.heap.objs.size, _, I1, rfl, ⟨_, x, _, rfl, I.hok.fresh (Nat.le_refl _), rfl, rfl, fun ys hy => by rw [sqB_inj I hy hq]; exact hx⟩, ⟨⟨x', ?_⟩, hst'.1.at fun o q => (sb.2 it (Ne.symm hne)).trans q, hne⟩, fun c hb => ?_⟩
    · have e1 : ((i + 1 : Nat) : Int) = (i : Int) + 1 := by omega
      rw [e1]; exact he'
    · have hb' : c < s.heap.objs.size := by
        have e' : c = e ∨ c = it := by simpa using hb
        rcases e' with z | z
        · rw [z]; exact hel
        · rw [z]; exact hil
      rw [upd_ne (Nat.ne_of_lt hb')]
      exact (hf c hb).1
  done := by
    intro X hP hw hK hc i pins s σ H E I hf st hg
    subst hP hw hK
    obtain ⟨⟨old, he⟩, hit, hne⟩ := st
    obtain ⟨xs, hq, hx⟩ := hg
    obtain ⟨its, rv, hat⟩ := sqB_at I hq
    obtain ⟨f0, f1, f2, f3, f4, f5⟩ := hf it (by simp)
    have hl := rv.length
    cases b with
    | false =>
      exact wpAny_pyNext_enum_end (I.ok.hd hc) he hit hat (by simp; omega) fun h' eb => ⟨rfl, I.turned (t' := s.toks) (fun b o hb q => eb b o hb q) f0 f1 f3 f4 f5⟩
    | true =>
      have hT : s.TypeIs (.ref e) "enumerate" := ⟨_, he, rfl⟩
      unfold pyNext
      refine wpAny_bind (wpAny_attempt (wpAny_callSpecial?_slot (name := Str.ofString "__next__") hT F.slot_enumerate_next
        (wpAny_call_entry F.slot_enumerate_next hT F.entry_enumerate_next ?_ (F.args_enumerate_next_1 _))))
      show wpAny _ _ (field (.ref e) 2 >>= _) _ _ _
      refine wpAny_bind (wpAny_field he rfl (x := .ref it) rfl ?_)
      refine wpAny_bind (wpAny_nextOf_tuple_end (A := X.A.in1) (I.ok.hd hc) hit hat (by simp; omega) fun h' x he' hx' => ?_)
      obtain ⟨o, ho, hc⟩ := hx'
      refine wpAny_bind (wpAny_isInstance (T := "StopIteration") (b := true) ⟨o, ho, hc⟩ isSubtype_stop ?_)
      exact wpAny_pure ⟨rfl, I.turned (t' := s.toks) (fun b o hb q => he' b o hb q) f0 f1 f3 f4 f5⟩
  self := fun A i s Q E st h => let ⟨⟨_, he⟩, _⟩ := st; wpAny_pyIter_enum he h
def iEnumB (b : Bool) (K : PySem.W.Frag) (ta : TA) : TI := fun σ H R => ta σ H fun vs H1 => ∃ a xs, vs = [.ref a] ∧ SqB b K H1 a xs ∧ R (IteB b K a) H1
theorem pi_enumB (b : Bool) {X : Cx} {e : Expr} {ta : TA} {p pos tpos : Pos} {elts : List Expr} {kk : Nat} (hg : Gl X "enumerate") (hm : X.mg "enumerate" = none) (ha : PA X [e] ta) (hs : starEach [e] X.env = [(false, eval e X.env)] := by rfl) :
    PI X (.Tuple elts kk tpos) (.Call (.Name "enumerate" p) [e] [] pos) (iEnumB b X.K ta) := by
  refine ⟨fun pins s σ H R I h => ?_⟩
  refine Call_ (ld_blt I hg hm boot_enumerate (PyProof.Rows.callWith_type1 (thn (ha.run pos pins s σ H _ I h) fun us s1 ⟨vs, H1, I1, r1, q1⟩ => ?_) hs rfl))
  obtain ⟨a, xs, ex, hq, q⟩ := q1
  subst ex
  cases r1 with
  | cons r rr =>
    cases rr
    cases r
    obtain ⟨its, rv, hat⟩ := sqB_at I1 hq
    refine call_enum1 (begB b a its) hat fun h' he hit hsz hk => wpAny_pyIter_enum he ?_
    have I2 : L2.Inv X pins σ H1 { s1 with heap := h' } := I1.kept (t' := s1.toks) hk
    refine ⟨s1.heap.objs.size + 1, [s1.heap.objs.size + 1, s1.heap.objs.size], _, _, H1, rfl, I2, turn_enumB b a (s1.heap.objs.size + 1) s1.heap.objs.size, ⟨⟨.none, he⟩, ItB.new hit, Nat.succ_ne_self _⟩, fun c hb => ?_, q⟩
    have e' : c = s1.heap.objs.size + 1 ∨ c = s1.heap.objs.size := by simpa using hb
    have hle : s1.heap.objs.size ≤ c := by
      rcases e' with z | z
      · rw [z]; exact Nat.le_add_right _ _
      · rw [z]; exact Nat.le_refl _
    exact I1.fpOk hle (I1.hok.fresh hle)
/-- the sequences at a, b as they stand at each turn, the items in new pairs -/
def ItzB (b c : Bool) (K : PySem.W.Frag) (a d : Addr) : It :=
  ⟨fun i H => ∃ (xs ys : List V) (x y : V), SqB b K H a xs ∧ SqB c K H d ys ∧ xs[i]? = some x ∧ ys[i]? = some y,
    fun i H v H' => ∃ (T : Addr) (x y : V) (ob : Obj), v = .ref T ∧ H T = none ∧ ob.dict = none ∧ H' = upd H T (.frz ob (.tup [x, y])) ∧ (∀ xs, SqB b K H a xs → xs[i]? = some x) ∧ ∀ ys, SqB c K H d ys → ys[i]? = some y,
    fun i H => ∃ xs ys : List V, SqB b K H a xs ∧ SqB c K H d ys ∧ i ≤ xs.length ∧ i ≤ ys.length ∧ (i = xs.length ∨ i = ys.length)⟩
structure Apart5 (z TI TO i1 i2 : Addr) : Prop where
  TIz : TI ≠ z
  TOz : TO ≠ z
  TITO : TI ≠ TO
  TIi1 : TI ≠ i1
  TIi2 : TI ≠ i2
  zi1 : z ≠ i1
  zi2 : z ≠ i2
  Ti1 : TO ≠ i1
  Ti2 : TO ≠ i2
  i12 : i1 ≠ i2
theorem ne_seq {h : Heap} {b : Bool} {a c : Addr} {its : List Value} {o : Obj} (x : AtB b h a its) (e : h.get? c = some o) (h1 : o.cls ≠ .type "list") (h2 : o.cls ≠ .type "tuple") : c ≠ a := fun z => by
  obtain ⟨o', n, e', _, c'⟩ := x.obj
  rw [← z, e] at e'
  cases e'
  rcases c' with c' | c'
  · exact h1 c'
  · exact h2 c'
theorem ne_it {h : Heap} {b c : Bool} {a i1 d : Addr} {k : Nat} {its : List Value} (x : AtB b h a its) (y : ItB c h i1 d k) : i1 ≠ a := by
  obtain ⟨o, e, _, cl⟩ := y.obj
  rcases cl with cl | cl
  · exact ne_seq x e (by rw [cl]; decide) (by rw [cl]; decide)
  · exact ne_seq x e (by rw [cl]; decide) (by rw [cl]; decide)
theorem ne_of_fp {X : Cx} {pins : List (Addr × Obj)} {σ : L2.St} {H : Hp} {s : Shared} {b : Bool} {t a : Addr} {xs : List V} (I : L2.Inv X pins σ H s) (f : FpOk X pins H t) (q : SqB b X.K H a xs) : t ≠ a := fun z => by
  subst z
  have rd : ∀ u, Rd H t u → False := fun u r => by
    rcases r with r | ⟨o, r⟩ <;> rw [f.1] at r <;> cases r
  have kd : ∀ o, X.K.lookup t = some o → False := fun o e => by
    have e1 := I.ok.mod.kin t o e
    rcases f.2.2.2.1 with z | z
    · exact I.ok.noex t o e1 z
    · exact absurd (Nat.lt_of_lt_of_le (Heap.lt_size e1) (Nat.le_trans I.ok.bsz z)) (Nat.lt_irrefl _)
  cases b with
  | false =>
    rcases q with r | ⟨o, its, n, hk, _⟩
    · exact rd _ r
    · exact kd o hk
  | true =>
    rcases q with r | ⟨o, its, n, hk, _⟩
    · exact rd _ r
    · exact kd o hk
theorem turn_zipB {P : Program} {w : World} {K : PySem.W.Frag} {elts : List Expr} {kk : Nat} {tpos : Pos} (b c : Bool) {a d z TI TO i1 i2 : Addr} (D : Apart5 z TI TO i1 i2) :
    Turn P w K (.Tuple elts kk tpos) (ItzB b c K a d) [z, TI, TO, i1, i2] z (fun i h => IsZip h z TI TO .none ∧ IsPair h TI (.ref i1) (.ref i2) ∧ (∃ x y, IsPair h TO x y) ∧ ItB b h i1 a i ∧ ItB c h i2 d i) where
  mem := by simp
  obj := fun i h st e he => by
    obtain ⟨hz, hTI, ⟨x, y, hTO⟩, h1, h2⟩ := st
    obtain ⟨o1, e1, d1, _⟩ := h1.obj
    obtain ⟨o2, e2, d2, _⟩ := h2.obj
    have e' : e = z ∨ e = TI ∨ e = TO ∨ e = i1 ∨ e = i2 := by simpa using he
    rcases e' with q | q | q | q | q
    · rw [q]; exact ⟨_, hz, fun v q => nomatch q⟩
    · rw [q]; exact ⟨_, hTI, fun v q => nomatch q⟩
    · rw [q]; exact ⟨_, hTO, fun v q => nomatch q⟩
    · rw [q]; exact ⟨o1, e1, fun v q => by rw [d1] at q; cases q⟩
    · rw [q]; exact ⟨o2, e2, fun v q => by rw [d2] at q; cases q⟩
  keep := fun i h h' st k => by
    obtain ⟨hz, hTI, ⟨x, y, hTO⟩, h1, h2⟩ := st
    exact ⟨k z (by simp) _ hz, k TI (by simp) _ hTI, ⟨x, y, k TO (by simp) _ hTO⟩, h1.at fun o q => k i1 (by simp) o q, h2.at fun o q => k i2 (by simp) o q⟩
  item := by
    intro X hP hw hK hc i pins s σ H E I hf st hg
    subst hP hw hK
    obtain ⟨hz, hTI, ⟨x0, y0, hTO⟩, h1, h2⟩ := st
    obtain ⟨xs, ys, x, y, hqx, hqy, hx, hy⟩ := hg
    obtain ⟨its, rv, p⟩ := sqB_at I hqx
    obtain ⟨its2, rv2, p2⟩ := sqB_at I hqy
    obtain ⟨u, hu, ru⟩ := rv.get hx
    obtain ⟨u2, hu2, ru2⟩ := rv2.get hy
    have hzl : z < s.heap.objs.size := Heap.lt_size hz
    have na : ∀ t ∈ [z, TI, TO, i1, i2], t ≠ a ∧ t ≠ d := fun t ht => ⟨ne_of_fp I (hf t ht) hqx, ne_of_fp I (hf t ht) hqy⟩
    have S : ZipSep2 z TI TO i1 i2 [i1, a] [i2, d] := ⟨D.TIz, D.TOz, D.TITO, D.TIi1, by simp, by simp [D.zi1, (na z (by simp)).1], by simp [D.Ti1, (na TO (by simp)).1], D.TIi2, by simp, by simp [D.zi2, (na z (by simp)).2], by simp [D.Ti2, (na TO (by simp)).2], by simp [D.i12, (na i1 (by simp)).2], by simp [D.i12.symm, (na i2 (by simp)).1]⟩
    refine wpAny_pyNext_zipD2_item S (drawsB (A := X.A.in1) b (show X.A.in1.handled = none from I.ok.hd hc) h1 p) (drawsB (A := X.A.in1) c (show X.A.in1.handled = none from I.ok.hd hc) h2 p2) hz hTI hTO ⟨h1, p⟩ ⟨h2, p2⟩
      (by simpa using (List.getElem?_eq_some_iff.mp hu).1) (by simpa using (List.getElem?_eq_some_iff.mp hu2).1) fun v1 v2 h' tk P1 P2 z' TO' h1' h2' hT hsz hk => ?_
    obtain rfl : v1 = u := by
      have hP' : its[i]? = some v1 := by simpa using P1
      rw [hu] at hP'; exact (Option.some.inj hP').symm
    obtain rfl : v2 = u2 := by
      have hP' : its2[i]? = some v2 := by simpa using P2
      rw [hu2] at hP'; exact (Option.some.inj hP').symm
    refine ⟨_, rfl, wpAny_letOwnedTupleGo_zip (s := { s with heap := h', toks := tk }) z' fun h'' z'' sb => ?_⟩
    have hT2 : h''.get? s.heap.objs.size = some { cls := .type "tuple", data := .seq #[v1, v2] } := (sb.2 _ (Nat.ne_of_gt hzl)).trans hT
    have new : ObjOk X.prog X.w (upd H s.heap.objs.size (.frz { cls := .type "tuple", data := .seq #[v1, v2] } (.tup [x, y]))) h'' s.heap.objs.size (.frz { cls := .type "tuple", data := .seq #[v1, v2] } (.tup [x, y])) :=
      ⟨hT2, by show 2 ≤ sizeLine; decide, [v1, v2], .cons ru (.cons ru2 .nil), ⟨_, hT2, rfl, _, rfl⟩⟩
    have I1 : L2.Inv X pins σ (upd H s.heap.objs.size (.frz { cls := .type "tuple", data := .seq #[v1, v2] } (.tup [x, y]))) { s with heap := h'', toks := tk } :=
      I.turnedNew (t' := tk) (ch := [z, TI, TO, i1, i2]) (fun c o hb q => (sb.2 c (fun q' => hb (by simp [q']))).trans (hk c o (fun q' => hb (by simp [q'])) (fun q' => hb (by simp [q'])) (fun q' => hb (by simp [q'])) (fun q' => hb (by simp [q'])) q)) hf (Nat.le_refl _) new
    refine ⟨.ref s.heap.objs.size, _, I1, rfl, ⟨_, x, y, _, rfl, I.hok.fresh (Nat.le_refl _), rfl, rfl, fun l hl => by rw [sqB_inj I hl hqx]; exact hx, fun l hl => by rw [sqB_inj I hl hqy]; exact hy⟩, ⟨z'', ?_, ⟨v1, v2, ?_⟩, ?_, ?_⟩, fun c hcm => ?_⟩
    · exact (sb.2 _ D.TIz).trans (hk _ _ D.TIz D.TITO D.TIi1 D.TIi2 hTI)
    · exact (sb.2 _ D.TOz).trans TO'
    · exact h1'.1.at fun o q => (sb.2 _ D.zi1.symm).trans q
    · exact h2'.1.at fun o q => (sb.2 _ D.zi2.symm).trans q
    · have hlt : c < s.heap.objs.size := by
        have e' : c = z ∨ c = TI ∨ c = TO ∨ c = i1 ∨ c = i2 := by simpa using hcm
        rcases e' with q | q | q | q | q
        · rw [q]; exact hzl
        · rw [q]; exact Heap.lt_size hTI
        · rw [q]; exact Heap.lt_size hTO
        · rw [q]; obtain ⟨_, e1, _⟩ := h1.obj; exact Heap.lt_size e1
        · rw [q]; obtain ⟨_, e2, _⟩ := h2.obj; exact Heap.lt_size e2
      rw [upd_ne (Nat.ne_of_lt hlt)]
      exact (hf c hcm).1
  done := by
    intro X hP hw hK hc i pins s σ H E I hf st hg
    subst hP hw hK
    obtain ⟨hz, hTI, ⟨x0, y0, hTO⟩, h1, h2⟩ := st
    obtain ⟨xs, ys, hqx, hqy, l1, l2, hend⟩ := hg
    obtain ⟨its, rv, p⟩ := sqB_at I hqx
    obtain ⟨its2, rv2, p2⟩ := sqB_at I hqy
    have e1 := rv.length
    have e2 := rv2.length
    have na : ∀ t ∈ [z, TI, TO, i1, i2], t ≠ a ∧ t ≠ d := fun t ht => ⟨ne_of_fp I (hf t ht) hqx, ne_of_fp I (hf t ht) hqy⟩
    have S : ZipSep2 z TI TO i1 i2 [i1, a] [i2, d] := ⟨D.TIz, D.TOz, D.TITO, D.TIi1, by simp, by simp [D.zi1, (na z (by simp)).1], by simp [D.Ti1, (na TO (by simp)).1], D.TIi2, by simp, by simp [D.zi2, (na z (by simp)).2], by simp [D.Ti2, (na TO (by simp)).2], by simp [D.i12, (na i1 (by simp)).2], by simp [D.i12.symm, (na i2 (by simp)).1]⟩
    exact wpAny_pyNext_zipD2_end S (drawsB (A := X.A.in1) b (show X.A.in1.handled = none from I.ok.hd hc) h1 p) (drawsB (A := X.A.in1) c (show X.A.in1.handled = none from I.ok.hd hc) h2 p2) hz hTI hTO ⟨h1, p⟩ ⟨h2, p2⟩
      (by simp; omega) (by simp; omega) (by simp; omega) fun h' tk hk => ⟨rfl, I.turnedL (t' := tk) (ch := [z, TI, TO, i1, i2]) (fun c o hb q =>
      hk c o (fun q' => hb (by simp [q'])) (fun q' => hb (by simp [q'])) (fun q' => hb (by simp [q'])) (fun q' => hb (by simp [q'])) q) hf⟩
  self := fun A i s Q E st h => wpAny_pyIter_zip st.1 h
def iZipB (b c : Bool) (K : PySem.W.Frag) (ta : TA) : TI := fun σ H R => ta σ H fun vs H1 => ∃ a d xs ys, vs = [.ref a, .ref d] ∧ SqB b K H1 a xs ∧ SqB c K H1 d ys ∧ R (ItzB b c K a d) H1
theorem pi_zipB (b c : Bool) {X : Cx} {e e2 : Expr} {ta : TA} {p pos tpos : Pos} {elts : List Expr} {kk : Nat} (hg : Gl X "zip") (hm : X.mg "zip" = none) (ha : PA X [e, e2] ta)
    (hs : starEach [e, e2] X.env = (false, eval e X.env) :: starEach [e2] X.env := by rfl) (hpl : (backTo pos (starEach [e2] X.env)).any (·.1) = false := by rfl) :
    PI X (.Tuple elts kk tpos) (.Call (.Name "zip" p) [e, e2] [] pos) (iZipB b c X.K ta) := by
  refine ⟨fun pins s σ H R I h => ?_⟩
  refine Call_ (ld_blt I hg hm PyProof.Rows.boot_zip (PyProof.Rows.callWith_type1 (thn (ha.run pos pins s σ H _ I h) fun us s1 ⟨vs, H1, I1, r1, q1⟩ => ?_) hs hpl))
  obtain ⟨a, d, xs, ys, ex, hqx, hqy, q⟩ := q1
  subst ex
  cases r1 with
  | cons r rr =>
    cases rr with
    | cons r' rr =>
      cases rr
      cases r
      cases r'
      obtain ⟨its, rv, p⟩ := sqB_at I1 hqx
      obtain ⟨its2, rv2, p2⟩ := sqB_at I1 hqy
      refine zip_begins2 (begB b a its) (begB c d its2) p p2 fun h' hz hTI hTO g1 g2 hsz hk => wpAny_pyIter_zip hz ?_
      have I2 : L2.Inv X pins σ H1 { s1 with heap := h' } := I1.kept (t' := s1.toks) hk
      refine ⟨s1.heap.objs.size + 4, [s1.heap.objs.size + 4, s1.heap.objs.size + 2, s1.heap.objs.size + 3, s1.heap.objs.size, s1.heap.objs.size + 1], _, _, H1, rfl, I2, turn_zipB b c (a := a) (d := d) ⟨?_, ?_, ?_, ?_, ?_, ?_, ?_, ?_, ?_, ?_⟩, ⟨hz, hTI, ⟨_, _, hTO⟩, ItB.new g1, ItB.new g2⟩, fun e he => ?_, q⟩
      case refine_11 =>
        have e' : e = s1.heap.objs.size + 4 ∨ e = s1.heap.objs.size + 2 ∨ e = s1.heap.objs.size + 3 ∨ e = s1.heap.objs.size ∨ e = s1.heap.objs.size + 1 := by simpa using he
        have hle : s1.heap.objs.size ≤ e := by
          rcases e' with z | z | z | z | z
          · rw [z]; exact Nat.le_add_right _ _
          · rw [z]; exact Nat.le_add_right _ _
          · rw [z]; exact Nat.le_add_right _ _
          · rw [z]; exact Nat.le_refl _
          · rw [z]; exact Nat.le_add_right _ _
        exact I1.fpOk hle (I1.hok.fresh hle)
      all_goals
        have e0 : ∀ (n i j : Nat), i ≠ j → n + i ≠ n + j := fun n i j h z => h (Nat.add_left_cancel z)
        first
          | exact e0 s1.heap.objs.size _ _ (by decide)
          | exact e0 s1.heap.objs.size _ 0 (by decide)
          | exact e0 s1.heap.objs.size 0 _ (by decide)

/-! ### typed -/
/-- a sequence that is walked -/
def RdQ (b : Bool) (K : PySem.W.Frag) (M : Mm) (lp : Bool) (te : TE) (env : List Sl) (P : List D → Prop) : Prop :=
  ∀ S0 H0 σ S H, St0 K M S0 H0 S H env σ → ∀ Q : VK, (∀ ds a S1 H1, P ds → Step M S H S1 H1 → (∀ S' H', Rch K M lp S0 H0 S1 H1 S' H' → ∃ vs, SqB b K H' a vs ∧ Dens K S' ds vs) → Q (.ref a) H1) → te σ H Q
structure RQ (b : Bool) (X : Cx) (M : Mm) (lp : Bool) {α : Type} [Rep α] (e : Expr) (env : List Sl) (m : R (List α)) : Prop where
  run : m.p → RdQ b X.K M lp (star X e) env (· = m.v.map rep)
instance {b : Bool} {X : Cx} {M : Mm} {lp : Bool} {α : Type} [Rep α] {e : Expr} {env : List Sl} {m : R (List α)} : CoeFun (RQ b X M lp e env m) (fun _ => m.p → RdQ b X.K M lp (star X e) env (· = m.v.map rep)) := ⟨RQ.run⟩
section
variable {X : Cx} {M : Mm} {env : List Sl} {pos : Pos} {lp : Bool} {α β : Type} [Rep α] [Rep β] {tg iter e a b c : Expr} {wi : TI}
theorem RQ.ofP {m : R (List α)} (h : RP X M lp e env m) : RQ false X M lp e env m := .mk fun p S0 H0 σ S H st Q q => h p S0 H0 σ S H st Q fun ds a S1 H1 ed t hp => q ds a S1 H1 ed t fun S' H' rc => by
  obtain ⟨vs, e1, r⟩ := hp S' H' rc
  exact ⟨vs, sql_of e1, r⟩
theorem RQ.ofT {m : R (Tu α)} (h : RE X M e env m) : RQ true X M lp e env (R.map Tu.l m) := .mk fun p S0 H0 σ S H st Q q => h p _ _ _ _ _ st _ fun d v S1 H1 ed r t => by
  subst ed
  cases r with
  | tup e' r => exact q _ _ S1 H1 rfl t fun S' H' rc => ⟨_, sub_sqt rc.1.sub (sub_sqt rc.2.1 e'.sqt), r.mon rc.2.1⟩
theorem Rch.init {K : PySem.W.Frag} {S0 H0 S1 H1 : Hp} {σ : L2.St} (st : St0 K M S0 H0 S1 H1 env σ) : Rch K M lp S0 H0 S1 H1 S1 H1 := ⟨st.gd, fun _ _ e => e, by
  cases lp with
  | true => exact st.stp
  | false => exact Step.refl st.gd.sub⟩
theorem RI.enumQ {bb : Bool} {elts : List Expr} {kk : Nat} {tpos p0 : Pos} {m : R (List α)} (hg : Gl X "enumerate") (hm : X.mg "enumerate" = none) (h : RQ bb X M lp e env m) (hs : starEach [e] X.env = (false, eval e X.env) :: starEach [] X.env := by rfl)
    (hs1 : starEach [e] X.env = [(false, eval e X.env)] := by rfl) :
    RI X M lp (.Tuple elts kk tpos) (.Call (.Name "enumerate" p0) [e] [] pos) env (R.enum m) := .mk fun p => RdI.of (pi_enumB bb hg hm (pa_cons star_pe pa_nil hs) hs1) fun S0 H0 σ S H st Rr q =>
  h p _ _ _ _ _ st _ fun ds a S1 H1 ed t hp => by
    subst ed
    obtain ⟨vs0, e0, _⟩ := hp S1 H1 (Rch.init (st.step t))
    refine ⟨a, vs0, rfl, e0, q _ _ S1 H1 rfl t ⟨fun S' H' i d rc hd => ?_, fun S' H' i rc hd hd2 => ?_⟩⟩
    · obtain ⟨x, hx, rfl⟩ := enum_get hd
      obtain ⟨vs, e1, r⟩ := hp S' H' rc
      obtain ⟨v, hv, rv⟩ := r.get (show (m.v.map rep)[i]? = some (rep x) by rw [List.getElem?_map, hx]; rfl)
      refine ⟨⟨vs, v, e1, hv⟩, fun y H2 yy => ?_⟩
      obtain ⟨T, z, ob, rfl, hT, hob, rfl, hz⟩ := yy
      have e2 := hz vs e1
      rw [hv] at e2
      cases e2
      exact newtup rc.1 hT hob (.cons (.int _) (.cons rv .nil))
    · obtain ⟨vs, e1, r⟩ := hp S' H' rc
      refine ⟨vs, e1, ?_⟩
      rw [← r.length]
      have : (FP.enum m.v).length ≤ i := by simpa [R.enum, R.map] using hd
      rw [enum_len] at this
      simpa using this
theorem RI.zipQ {b1 b2 : Bool} {elts : List Expr} {kk : Nat} {tpos p0 : Pos} {m : R (List α)} {n : R (List β)} (hg : Gl X "zip") (hm : X.mg "zip" = none) (h : RQ b1 X M lp a env m) (h' : RQ b2 X M lp b env n)
    (hs : starEach [a, b] X.env = (false, eval a X.env) :: starEach [b] X.env := by rfl) (hs2 : starEach [b] X.env = (false, eval b X.env) :: starEach [] X.env := by rfl) (hpl : (backTo pos (starEach [b] X.env)).any (·.1) = false := by rfl) :
    RI X M lp (.Tuple elts kk tpos) (.Call (.Name "zip" p0) [a, b] [] pos) env (R.zip m n) := .mk fun p => RdI.of (pi_zipB b1 b2 hg hm (pa_cons star_pe (pa_cons star_pe pa_nil hs2) hs) hs hpl) fun S0 H0 σ S H st Rr q =>
  h p.1 _ _ _ _ _ st _ fun ds a S1 H1 ed t hp => by
    subst ed
    refine h' p.2.1 _ _ _ _ _ (st.step t) _ fun ds b S2 H2 ed t2 hp2 => ?_
    subst ed
    have back : ∀ S' H', Rch X.K M lp S0 H0 S2 H2 S' H' → Rch X.K M lp S0 H0 S1 H1 S' H' := fun S' H' rc => ⟨rc.1, fun x o e => rc.2.1 x o (t2.ss x o e), by
      have z := rc.2.2
      cases lp with
      | true => exact z
      | false => exact t2.trans z⟩
    have now : Rch X.K M lp S0 H0 S2 H2 S2 H2 := Rch.init ((st.step t).step t2)
    obtain ⟨vs0, e0, _⟩ := hp S2 H2 (back _ _ now)
    obtain ⟨us0, f0, _⟩ := hp2 S2 H2 now
    refine ⟨a, b, vs0, us0, rfl, e0, f0, q _ _ S2 H2 rfl (t.trans t2) ⟨fun S' H' i d rc hd => ?_, fun S' H' i rc hd hd2 => ?_⟩⟩
    · obtain ⟨x, y, hx, hy, rfl⟩ := zip_get hd
      obtain ⟨vs, e1, r⟩ := hp S' H' (back _ _ rc)
      obtain ⟨us, f1, r'⟩ := hp2 S' H' rc
      obtain ⟨v, hv, rv⟩ := r.get (show (m.v.map rep)[i]? = some (rep x) by rw [List.getElem?_map, hx]; rfl)
      obtain ⟨u, hu, ru⟩ := r'.get (show (n.v.map rep)[i]? = some (rep y) by rw [List.getElem?_map, hy]; rfl)
      refine ⟨⟨vs, us, v, u, e1, f1, hv, hu⟩, fun y' H3 yy => ?_⟩
      obtain ⟨T, z, z', ob, rfl, hT, hob, rfl, hz, hz'⟩ := yy
      have e2 := hz vs e1
      rw [hv] at e2
      cases e2
      have e3 := hz' us f1
      rw [hu] at e3
      cases e3
      exact newtup rc.1 hT hob (.cons rv (.cons ru .nil))
    · obtain ⟨vs, e1, r⟩ := hp S' H' (back _ _ rc)
      obtain ⟨us, f1, r'⟩ := hp2 S' H' rc
      have h1 := r.length
      have h2 := r'.length
      simp only [R.zip, R.o2, List.length_map, List.length_zip] at h1 h2 hd hd2
      exact ⟨vs, us, e1, f1, by omega, by omega, by omega⟩
end
end FP
namespace FP
open PySem PySem.Spec PyProof.Rows L2
open Rep (rep)
theorem cell_by {scope : Scope} (h : (scope.names.all fun y => match y.2 with | .cell => false | _ => true) = true) : ∀ y ∈ scope.names, y.2 ≠ .cell := fun y hy e => by
  have := List.all_eq_true.mp h y hy
  rw [e] at this
  cases this
end FP
namespace FP
open PySem PySem.Spec PyProof.Rows L2
open Rep (rep)
/-! ### values that are drawn: what must hold for all, what may come -/
structure N (α : Type) where
  p : Prop
  S : α → Prop
@[simp] def N.of {α : Type} (m : R α) : N α := ⟨m.p, fun x => x = m.v⟩
@[simp] def N.any : N Int := ⟨True, fun _ => True⟩
@[simp] def N.map {α β : Type} (f : α → β) (m : N α) : N β := ⟨m.p, fun z => ∃ x, m.S x ∧ z = f x⟩
@[simp] def N.o1 {α β : Type} (C : α → Prop) (f : α → β) (m : N α) : N β := ⟨m.p ∧ ∀ x, m.S x → C x, fun z => ∃ x, m.S x ∧ z = f x⟩
@[simp] def N.o2 {α β γ : Type} (C : α → β → Prop) (f : α → β → γ) (m : N α) (n : N β) : N γ := ⟨m.p ∧ n.p ∧ ∀ x y, m.S x → n.S y → C x y, fun z => ∃ x y, m.S x ∧ n.S y ∧ z = f x y⟩
@[simp] def N.ite {α : Type} (c : R Bool) (a b : N α) : N α := ⟨c.p ∧ (c.v = true → a.p) ∧ (c.v = false → b.p), fun z => (c.v = true ∧ a.S z) ∨ (c.v = false ∧ b.S z)⟩
@[simp] def N.nil : N (List D) := ⟨True, fun l => l = []⟩
@[simp] def N.cons {α : Type} [Rep α] (m : N α) (l : N (List D)) : N (List D) := ⟨m.p ∧ l.p, fun ds => ∃ x r, m.S x ∧ l.S r ∧ ds = rep x :: r⟩
@[simp] def N.lnil {α : Type} : N (List α) := ⟨True, fun l => l = []⟩
@[simp] def N.lcons {α : Type} (m : N α) (l : N (List α)) : N (List α) := ⟨m.p ∧ l.p, fun ds => ∃ x r, m.S x ∧ l.S r ∧ ds = x :: r⟩
@[simp] def N.sz {α : Type} (m : N (List α)) : N (List α) := ⟨m.p ∧ ∀ x, m.S x → x.length ≤ 100000, m.S⟩
@[simp] def N.tup2 {α β : Type} (m : N α) (n : N β) : N (α × β) := ⟨m.p ∧ n.p, fun z => ∃ x y, m.S x ∧ n.S y ∧ z = (x, y)⟩
@[simp] def N.tup3 {α β γ : Type} (m : N α) (n : N β) (o : N γ) : N (T3 α β γ) := ⟨m.p ∧ n.p ∧ o.p, fun z => ∃ x y w, m.S x ∧ n.S y ∧ o.S w ∧ z = ⟨x, y, w⟩⟩
@[simp] def N.draw (m : N Int) : N Int := ⟨m.p ∧ ∀ n, m.S n → 0 < n ∧ n < 1073741824, fun i => ∃ n, m.S n ∧ 0 ≤ i ∧ i < n⟩
@[simp] def N.c1 {α0 β : Type} (f : α0 → R β) (m0 : N α0) : N β := ⟨m0.p ∧ ∀ x, m0.S x → (f x).p, fun z => ∃ x, m0.S x ∧ z = (f x).v⟩
@[simp] def N.c2 {α0 α1 β : Type} (f : α0 → α1 → R β) (m0 : N α0) (m1 : N α1) : N β := ⟨m0.p ∧ m1.p ∧ ∀ x y, m0.S x → m1.S y → (f x y).p, fun z => ∃ x y, m0.S x ∧ m1.S y ∧ z = (f x y).v⟩
@[simp] def N.rng1 (m : N Int) : N (List Int) := N.o1 (fun n : Int => -1000000 ≤ n ∧ n ≤ 1000000) (fun n => rng 0 n) m
@[simp] def N.rng2 (m n : N Int) : N (List Int) := N.o2 (fun i j : Int => (-1000000 ≤ i ∧ i ≤ 1000000) ∧ -1000000 ≤ j ∧ j ≤ 1000000) rng m n
/-- each of ys may come of its x -/
def Each {α β : Type} (f : α → N β) (xs : List α) (ys : List β) : Prop := ys.length = xs.length ∧ ∀ (i : Nat) x y, xs[i]? = some x → ys[i]? = some y → (f x).S y
@[simp] def N.lc {α β : Type} (m : N (List α)) (t : α → R Bool) (f : α → N β) : N (List β) :=
  ⟨m.p ∧ ∀ xs, m.S xs → xs.length ≤ 100000 ∧ ∀ x ∈ xs, (t x).p ∧ ((t x).v = true → (f x).p), fun ys => ∃ xs, m.S xs ∧ Each f (xs.filter fun x => (t x).v) ys⟩
@[simp] def N.setIx {α : Type} (xs : List α) (m : N α) (n : N Int) : N (List α) := ⟨m.p ∧ n.p ∧ ∀ i, n.S i → 0 ≤ i ∧ i < xs.length, fun z => ∃ x i, m.S x ∧ n.S i ∧ z = xs.set i.toNat x⟩
@[simp] def N.app {α : Type} (xs : List α) (m : N α) : N (List α) := ⟨m.p ∧ xs.length < 100000, fun z => ∃ x, m.S x ∧ z = xs ++ [x]⟩
section
variable (X : Cx) (M : Mm) {α : Type} [Rep α]
structure NE (e : Expr) (env : List Sl) (m : N α) : Prop where
  run : m.p → EV X M e env (fun d => ∃ x, m.S x ∧ d = rep x)
structure NB (e : Expr) (env : List Sl) (m : N α) : Prop where
  run : m.p → EB X M e env (fun d => ∃ x, m.S x ∧ d = rep x)
structure NF (e : Expr) (env : List Sl) (m : N (List α)) : Prop where
  run : m.p → EF X M e env (fun ds => ∃ x, m.S x ∧ ds = x.map rep)
structure NA (es : List Expr) (env : List Sl) (ms : List Bool) (m : N (List D)) : Prop where
  run : m.p → EA X M es env ms m.S
structure NL (es : List Expr) (env : List Sl) (m : N (List α)) : Prop where
  run : m.p → EA X M es env (List.replicate es.length true) (fun ds => ∃ x, m.S x ∧ ds = x.map rep)
structure NT (e : Expr) (env : List Sl) (m : N Bool) : Prop where
  run : m.p → ET X M e env m.S
structure NI (lp : Bool) (tg iter : Expr) (env : List Sl) (m : N (List α)) : Prop where
  run : m.p → RdI X.K M lp (starI X tg iter) env (fun ds => ∃ x, m.S x ∧ ds = x.map rep)
end
section
variable {X : Cx} {M : Mm} {env : List Sl} {a b c e : Expr} {es : List Expr} {pos : Pos} {α β γ : Type} [Rep α] [Rep β] [Rep γ]
theorem NE.of {m : R α} (h : RE X M e env m) : NE X M e env (N.of m) := .mk fun p => RdE.imp (h p) fun d ed => ⟨_, rfl, ed⟩
theorem NB.of {m : R α} (h : RB X M e env m) : NB X M e env (N.of m) := .mk fun p S0 H0 σ S H st Q q => h p S0 H0 σ S H st Q fun d v S' H' ed => q d v S' H' ⟨_, rfl, ed⟩
theorem NF.of {m : R (List α)} (h : RF X M e env m) : NF X M e env (N.of m) := .mk fun p => RdF.imp (h p) fun d ed => ⟨_, rfl, ed⟩
theorem NT.of {m : R Bool} (h : RT X M e env m) : NT X M e env (N.of m) := .mk fun p => h p
theorem NI.of {lp : Bool} {tg iter : Expr} {m : R (List α)} (h : RI X M lp tg iter env m) : NI X M lp tg iter env (N.of m) := .mk fun p S0 H0 σ S H st Rr q => h p S0 H0 σ S H st Rr fun ds J S1 H1 ed => q ds J S1 H1 ⟨_, rfl, ed⟩
theorem NE.nb {m : N α} (h : NE X M e env m) : NB X M e env m := .mk fun p => RdE.b (h.run p)
theorem NF.ne {m : N (List α)} (h : NF X M e env m) : NE X M e env m := .mk fun p => (RdF.e (h.run p)).imp fun d ⟨ds, e1, x, sx, e2⟩ => ⟨x, sx, by rw [e1, e2]; rfl⟩
theorem Sem2.imp {K : PySem.W.Frag} {r : R2} {d e : D} {T T' : D → Prop} (h : Sem2 K M r d e T) (i : ∀ t, T t → T' t) : Sem2 K M r d e T' := fun S H x y g bx bY Q q => h S H x y g bx bY Q fun t v S' H' tt => q t v S' H' (i t tt)
theorem NE.bin {op : Operator} {C : α → β → Prop} {f : α → β → γ} (o : Op2 X M op C f) {m : N α} {n : N β} (ha : NB X M a env m) (hb : NB X M b env n) : NE X M (.BinOp a op b pos) env (N.o2 C f m n) := .mk fun hp => by
  obtain ⟨r, ho, hs⟩ := o.ex
  exact EV.of (pe_op ho star_pe star_pe) (RdE.op (ha.run hp.1) (fun _ _ => hb.run hp.2.1) fun d e' ⟨x, sx, ed⟩ ⟨y, sy, ee⟩ => by rw [ed, ee]; exact (hs _ _ (hp.2.2 x y sx sy)).imp fun t et => ⟨_, ⟨x, y, sx, sy, rfl⟩, et⟩)
theorem NE.ix {C : α → β → Prop} {f : α → β → γ} (o : Ix2 X M C f) {m : N α} {n : N β} (ha : NB X M a env m) (hb : NB X M b env n) (hs : PlainIx b) : NE X M (.Subscript a b pos) env (N.o2 C f m n) := .mk fun hp => by
  obtain ⟨r, ho, hr⟩ := o.ex
  exact EV.of (pe_ix ho star_pe star_pe hs) (RdE.op (ha.run hp.1) (fun _ _ => hb.run hp.2.1) fun d e' ⟨x, sx, ed⟩ ⟨y, sy, ee⟩ => by rw [ed, ee]; exact (hr _ _ (hp.2.2 x y sx sy)).imp fun t et => ⟨_, ⟨x, y, sx, sy, rfl⟩, et⟩)
theorem NE.cmp {op : CmpOp} {C : α → β → Prop} {f : α → β → Bool} (o : Cm2 X M op C f) {m : N α} {n : N β} (ha : NB X M a env m) (hb : NB X M b env n) (hm : behindInMarks op b = false) : NE X M (.Compare a [op] [b] pos) env (N.o2 C f m n) := .mk fun hp => by
  obtain ⟨r, ho, hs⟩ := o.ex
  exact EV.of (pe_cmpR ho star_pe star_pe hm) (RdE.op (ha.run hp.1) (fun _ _ => hb.run hp.2.1) fun d e' ⟨x, sx, ed⟩ ⟨y, sy, ee⟩ => by rw [ed, ee]; exact (hs _ _ (hp.2.2 x y sx sy)).imp fun t et => ⟨_, ⟨x, y, sx, sy, rfl⟩, et⟩)
theorem NT.cmp {op : CmpOp} {C : α → β → Prop} {f : α → β → Bool} (o : Cm2 X M op C f) {m : N α} {n : N β} (ha : NB X M a env m) (hb : NB X M b env n) (hm : behindInMarks op b = false) : NT X M (.Compare a [op] [b] pos) env (N.o2 C f m n) := .mk fun hp => by
  obtain ⟨r, ho, hs⟩ := o.ex
  exact ET.of (pt_cmpR ho star_pe star_pe hm) (RdT.tst (RdE.b (RdE.op (T := fun d => ∃ b, d = .bool b ∧ (N.o2 C f m n).S b) (ha.run hp.1) (fun _ _ => hb.run hp.2.1) fun d e' ⟨x, sx, ed⟩ ⟨y, sy, ee⟩ => by rw [ed, ee]; exact (hs _ _ (hp.2.2 x y sx sy)).imp fun t et => ⟨_, et, ⟨x, y, sx, sy, rfl⟩⟩)))
theorem NT.not {m : N Bool} (h : NT X M a env m) : NT X M (.UnaryOp .Not a pos) env (N.map (fun b => !b) m) := .mk fun p =>
  ET.of (pt_not star_pt) fun S0 H0 σ S H st Q q => h.run p _ _ _ _ _ st _ fun c S1 H1 ec t1 => q (!c) S1 H1 ⟨c, ec, rfl⟩ t1
theorem NT.tru {C : α → Prop} {f : α → Bool} (o : Tr1 X M C f) {m : N α} (h : NB X M a env m) (he : ∀ whole, isTrue a X.env whole = (do let v ← whole; standAt a.pos; holding [v] (truthy v))) : NT X M a env (N.o1 C f m) := .mk fun p =>
  ET.of (pt_truth star_pe he) fun S0 H0 σ S H st Q q => by
    refine h.run p.1 _ _ _ _ _ st _ fun d v S1 H1 ⟨x, sx, ed⟩ r t1 => ?_
    subst ed
    exact ⟨_, o.ex _ (p.2 x sx) S1 H1 v (st.step t1).gd r, q _ S1 H1 ⟨x, sx, rfl⟩ t1⟩
theorem NE.ite {c : R Bool} {m n : N α} {ce : Expr} (hc : RT X M ce env c) (ha : NE X M a env m) (hb : NE X M b env n) : NE X M (.IfExp ce a b pos) env (N.ite c m n) := .mk fun p =>
  EV.of (pe_ifExp star_pt star_pe star_pe) (RdE.if (hc p.1) (fun h => RdE.imp (ha.run (p.2.1 h.symm)) fun d ⟨x, sx, e'⟩ => ⟨x, .inl ⟨h.symm, sx⟩, e'⟩) fun h => RdE.imp (hb.run (p.2.2 h.symm)) fun d ⟨x, sx, e'⟩ => ⟨x, .inr ⟨h.symm, sx⟩, e'⟩)
/-! argument lists, displays -/
theorem NA.nil : NA X M [] env [] N.nil := .mk fun _ => EA.of pa_nil RdA.nil
theorem NA.im {ms : List Bool} {m : N α} {l : N (List D)} (h : NE X M e env m) (hr : NA X M es env ms l) (hs : starEach (e :: es) X.env = (false, eval e X.env) :: starEach es X.env := by rfl) : NA X M (e :: es) env (true :: ms) (N.cons m l) := .mk fun p =>
  EA.of (pa_cons star_pe star_pa hs) fun S0 H0 σ S H st Q q => RdA.im (h.run p.1) (fun _ _ => hr.run p.2) _ _ _ _ _ st Q fun ds vs S' H' ⟨d, ds', ⟨x, sx, e1⟩, e2, e3⟩ => q ds vs S' H' ⟨x, ds', sx, e2, by rw [e3, e1]⟩
theorem NA.br {ms : List Bool} {m : N α} {l : N (List D)} (h : NB X M e env m) (hr : NA X M es env ms l) (hs : starEach (e :: es) X.env = (false, eval e X.env) :: starEach es X.env := by rfl) : NA X M (e :: es) env (false :: ms) (N.cons m l) := .mk fun p =>
  EA.of (pa_cons star_pe star_pa hs) fun S0 H0 σ S H st Q q => RdA.br (h.run p.1) (fun _ _ => hr.run p.2) _ _ _ _ _ st Q fun ds vs S' H' ⟨d, ds', ⟨x, sx, e1⟩, e2, e3⟩ => q ds vs S' H' ⟨x, ds', sx, e2, by rw [e3, e1]⟩
theorem NL.nil : NL X M (α := α) [] env N.lnil := .mk fun _ => EA.of pa_nil fun S0 H0 σ S H st Q q => RdA.nil S0 H0 σ S H st Q fun ds vs S' H' ed => q ds vs S' H' ⟨[], rfl, ed⟩
theorem NL.cons {m : N α} {l : N (List α)} (h : NE X M e env m) (hr : NL X M es env l) (hs : starEach (e :: es) X.env = (false, eval e X.env) :: starEach es X.env := by rfl) : NL X M (e :: es) env (N.lcons m l) := .mk fun p =>
  EA.of (pa_cons star_pe star_pa hs) fun S0 H0 σ S H st Q q => RdA.im (h.run p.1) (fun _ _ => hr.run p.2) _ _ _ _ _ st Q fun ds vs S' H' ⟨d, ds', ⟨x, sx, e1⟩, ⟨r, sr, e2⟩, e3⟩ => q ds vs S' H' ⟨x :: r, ⟨x, r, sx, sr, rfl⟩, by rw [e3, e1, e2]; rfl⟩
theorem NF.lst {m : N (List α)} (h : NL X M es env m) : NF X M (.List es pos) env (N.sz m) := .mk fun p =>
  EF.of (pe_lst star_pa) (RdF.lst (h.run p.1) (all_rep _) fun ds ⟨x, sx, e⟩ => by rw [e, List.length_map]; exact sz_of (p.2 x sx))
theorem NE.tu {m : N (List α)} {k : Nat} (h : NL X M es env m) : NE X M (.Tuple es k pos) env (N.map Tu.mk (N.sz m)) := .mk fun p =>
  EV.of (pe_tupN star_pa) (RdE.imp (RdE.tup (h.run p.1) (all_rep _) fun ds ⟨x, sx, e⟩ => by rw [e, List.length_map]; exact sz_of (p.2 x sx)) fun d ⟨ds, ⟨x, sx, e1⟩, e2⟩ => ⟨_, ⟨x, sx, rfl⟩, by rw [e2, e1]; rfl⟩)
theorem NE.tup2 {m : N α} {n : N β} {k : Nat} (h : NA X M es env [true, true] (N.cons m (N.cons n N.nil))) : NE X M (.Tuple es k pos) env (N.tup2 m n) := .mk fun p =>
  EV.of (pe_tupN star_pa) (RdE.imp (RdE.tup (h.run ⟨p.1, p.2, trivial⟩) rfl fun ds ⟨x, r, _, ⟨y, r', _, e2, e3⟩, e⟩ => by
    have e2 : r' = [] := e2
    rw [e, e3, e2]; exact sz_of (by simp)) fun d ⟨ds, ⟨x, r, sx, ⟨y, r', sy, e2, e3⟩, e⟩, e4⟩ => ⟨(x, y), ⟨x, y, sx, sy, rfl⟩, by
    have e2 : r' = [] := e2
    rw [e4, e, e3, e2]; rfl⟩)
theorem NE.tup3 {m : N α} {n : N β} {o : N γ} {k : Nat} (h : NA X M es env [true, true, true] (N.cons m (N.cons n (N.cons o N.nil)))) : NE X M (.Tuple es k pos) env (N.tup3 m n o) := .mk fun p =>
  EV.of (pe_tupN star_pa) (RdE.imp (RdE.tup (h.run ⟨p.1, p.2.1, p.2.2, trivial⟩) rfl fun ds ⟨x, r, _, ⟨y, r', _, ⟨z, r2, _, e2, e5⟩, e3⟩, e⟩ => by
    have e2 : r2 = [] := e2
    rw [e, e3, e5, e2]; exact sz_of (by simp)) fun d ⟨ds, ⟨x, r, sx, ⟨y, r', sy, ⟨z, r2, sz, e2, e5⟩, e3⟩, e⟩, e4⟩ => ⟨⟨x, y, z⟩, ⟨x, y, z, sx, sy, sz, rfl⟩, by
    have e2 : r2 = [] := e2
    rw [e4, e, e3, e5, e2]; rfl⟩)
theorem NE.fst {p2 : Pos} {j : Nat} {m : N (α × β)} (h : NB X M a env m) (hs : PlainIx (.Constant (.int 0) j p2)) : NE X M (.Subscript a (.Constant (.int 0) j p2) pos) env (N.map Prod.fst m) := .mk fun p => by
  refine EV.of (pe_ix ix_tup star_pe pe_int hs) (RdE.op (h.run p) (Q := fun _ e => e = .int 0) (fun _ _ => RdB.con fun _ => .int 0) fun d e' ⟨x, sx, hd⟩ he S H v y g bx by' Q q => ?_)
  subst he
  subst hd
  obtain ⟨pp, vs, rfl, sq, r⟩ := bx.tup (ds := [rep x.1, rep x.2]) g
  obtain ⟨v, hv, rv⟩ := r.get (i := 0) (d := rep x.1) rfl
  have hl : 0 < vs.length := (List.getElem?_eq_some_iff.mp hv).1
  refine ⟨pp, vs, 0, v, rfl, by'.int, sub_sqt g.sub sq, ?_, q (rep x.1) v S H ⟨_, ⟨x, sx, rfl⟩, rfl⟩ rv (Step.refl g.sub)⟩
  unfold atI ixN
  rw [if_pos (by decide), if_pos (by omega)]
  exact hv
/-! built-ins of one -/
section
variable {nm : Str} {p0 : Pos}
theorem NE.b1 {fn : String} {C : α → Prop} {f : α → β} (o : Cb1 X M (.builtin fn) C f) {m : N α} (hg : Gl X nm) (hm : X.mg nm = none) (hv : bootBuiltins nm = Option.some (.builtin fn)) (h : NB X M a env m) (hs : starEach [a] X.env = (false, eval a X.env) :: starEach [] X.env := by rfl)
    (hn : OkN nm) (hpl : (backTo pos (starEach [] X.env)).any (·.1) = false := by rfl) : NE X M (.Call (.Name nm p0) [a] [] pos) env (N.o1 C f m) := .mk fun p => by
  obtain ⟨r, ho, hr⟩ := o.ex
  refine EV.of (pe_callB ho hg hm hv star_pa hn.n hn.d hs hpl) (RdE.cb ((NA.br h NA.nil hs).run ⟨p.1, trivial⟩) fun ds ⟨x, r, sx, er, e⟩ => ?_)
  have er : r = [] := er
  rw [e, er]
  exact fun S H xs g bb Q q => hr x (p.2 x sx) S H xs g bb Q fun t v S' H' et => q t v S' H' ⟨_, ⟨x, sx, rfl⟩, et⟩
theorem NE.ty1 {fn : String} {C : α → Prop} {f : α → β} (o : Cb1 X M (.type fn) C f) {m : N α} (hg : Gl X nm) (hm : X.mg nm = none) (hv : bootBuiltins nm = Option.some (.type fn)) (h : NB X M a env m) (hs : starEach [a] X.env = (false, eval a X.env) :: starEach [] X.env := by rfl)
    (hn : OkN nm) (hpl : (backTo pos (starEach [] X.env)).any (·.1) = false := by rfl) : NE X M (.Call (.Name nm p0) [a] [] pos) env (N.o1 C f m) := .mk fun p => by
  obtain ⟨r, ho, hr⟩ := o.ex
  refine EV.of (pe_callTy ho hg hm hv star_pa hn.n hn.d hs hpl) (RdE.cb ((NA.br h NA.nil hs).run ⟨p.1, trivial⟩) fun ds ⟨x, r, sx, er, e⟩ => ?_)
  have er : r = [] := er
  rw [e, er]
  exact fun S H xs g bb Q q => hr x (p.2 x sx) S H xs g bb Q fun t v S' H' et => q t v S' H' ⟨_, ⟨x, sx, rfl⟩, et⟩
theorem NF.ty1 {fn : String} {C : α → Prop} {f : α → List β} (o : Cb1F X M (.type fn) C f) {m : N α} (hg : Gl X nm) (hm : X.mg nm = none) (hv : bootBuiltins nm = Option.some (.type fn)) (h : NB X M a env m) (hs : starEach [a] X.env = (false, eval a X.env) :: starEach [] X.env := by rfl)
    (hn : OkN nm) (hpl : (backTo pos (starEach [] X.env)).any (·.1) = false := by rfl) : NF X M (.Call (.Name nm p0) [a] [] pos) env (N.o1 C f m) := .mk fun p => by
  obtain ⟨r, ho, hr⟩ := o.ex
  refine EF.of (pe_callTy ho hg hm hv star_pa hn.n hn.d hs hpl) (RdF.cb ((NA.br h NA.nil hs).run ⟨p.1, trivial⟩) fun ds ⟨x, r, sx, er, e⟩ => ?_)
  have er : r = [] := er
  rw [e, er]
  exact fun S H xs g bb Q q => hr x (p.2 x sx) S H xs g bb Q fun es p vs S' H' et => q es p vs S' H' ⟨_, ⟨x, sx, rfl⟩, et⟩
theorem NF.b1 {fn : String} {C : α → Prop} {f : α → List β} (o : Cb1F X M (.builtin fn) C f) {m : N α} (hg : Gl X nm) (hm : X.mg nm = none) (hv : bootBuiltins nm = Option.some (.builtin fn)) (h : NB X M a env m) (hs : starEach [a] X.env = (false, eval a X.env) :: starEach [] X.env := by rfl)
    (hn : OkN nm) (hpl : (backTo pos (starEach [] X.env)).any (·.1) = false := by rfl) : NF X M (.Call (.Name nm p0) [a] [] pos) env (N.o1 C f m) := .mk fun p => by
  obtain ⟨r, ho, hr⟩ := o.ex
  refine EF.of (pe_callB ho hg hm hv star_pa hn.n hn.d hs hpl) (RdF.cb ((NA.br h NA.nil hs).run ⟨p.1, trivial⟩) fun ds ⟨x, r, sx, er, e⟩ => ?_)
  have er : r = [] := er
  rw [e, er]
  exact fun S H xs g bb Q q => hr x (p.2 x sx) S H xs g bb Q fun es p vs S' H' et => q es p vs S' H' ⟨_, ⟨x, sx, rfl⟩, et⟩
/-! calls of what draws nothing -/
theorem NE.call1 {α0 : Type} [Rep α0] {f : α0 → R β} {k j : Nat} {ms : List Bool} {e0 : Expr} {m0 : N α0} (c : Fn X.prog X.w X.K X.mg X.base k nm (SpD X.K M.t ms (G1 f))) (hr : Room j X.A) (hk : k ≤ j) (hg : Gl X nm) (ha : NA X M [e0] env ms (N.cons m0 N.nil))
    (hn : OkN nm) (he : starEach (e0 :: []) X.env = (false, eval e0 X.env) :: starEach [] X.env := by rfl) (hpl : (backTo pos (starEach [] X.env)).any (·.1) = false := by rfl) :
    NE X M (.Call (.Name nm p0) [e0] [] pos) env (N.c1 f m0) := .mk fun p =>
  EV.call c hr hk hg (ha.run ⟨p.1, trivial⟩) (fun ds ⟨x, r, sx, er, e⟩ => ⟨x, by have er : r = [] := er; rw [e, er], p.2 x sx, _, ⟨x, sx, rfl⟩, rfl⟩) hn he hpl
theorem NE.call2 {α0 α1 : Type} [Rep α0] [Rep α1] {f : α0 → α1 → R β} {k j : Nat} {ms : List Bool} {e0 e1 : Expr} {m0 : N α0} {m1 : N α1} (c : Fn X.prog X.w X.K X.mg X.base k nm (SpD X.K M.t ms (G2 f))) (hr : Room j X.A) (hk : k ≤ j) (hg : Gl X nm) (ha : NA X M [e0, e1] env ms (N.cons m0 (N.cons m1 N.nil)))
    (hn : OkN nm) (he : starEach (e0 :: [e1]) X.env = (false, eval e0 X.env) :: starEach [e1] X.env := by rfl) (hpl : (backTo pos (starEach [e1] X.env)).any (·.1) = false := by rfl) :
    NE X M (.Call (.Name nm p0) [e0, e1] [] pos) env (N.c2 f m0 m1) := .mk fun p =>
  EV.call c hr hk hg (ha.run ⟨p.1, p.2.1, trivial⟩) (fun ds ⟨x, r, sx, ⟨y, r', sy, er, e'⟩, e⟩ => ⟨x, y, by have er : r' = [] := er; rw [e, e', er], p.2.2 x y sx sy, _, ⟨x, y, sx, sy, rfl⟩, rfl⟩) hn he hpl
end
/-! what is walked -/
theorem NI.range1 {lp : Bool} {tg : Expr} {m : N Int} {p0 : Pos} (hg : Gl X "range") (hm : X.mg "range" = none) (h : NB X M a env m) (hs : starEach [a] X.env = [(false, eval a X.env)] := by rfl) :
    NI X M lp tg (.Call (.Name "range" p0) [a] [] pos) env (N.rng1 m) := .mk fun p => RdI.of (pi_range1 hg hm (pa_cons star_pe pa_nil (by rw [hs]; rfl)) hs) fun S0 H0 σ S H st Rr q =>
  h.run p.1 _ _ _ _ _ st _ fun d v S1 H1 ⟨x, sx, ed⟩ r t => by
    subst ed
    rw [r.int]
    have h1 := p.2 x sx
    have e : (x - 0).toNat = x.toNat := by rw [Int.sub_zero]
    refine ⟨x, rfl, by omega, by omega, ?_⟩
    rw [← e]
    exact q _ _ S1 H1 ⟨_, ⟨x, sx, rfl⟩, rfl⟩ t (rng_it fun S H rc => rc.1)
theorem NI.range2 {lp : Bool} {tg : Expr} {m n : N Int} {p0 : Pos} (hg : Gl X "range") (hm : X.mg "range" = none) (h : NB X M a env m) (h' : NB X M b env n) (hs : starEach [a, b] X.env = [(false, eval a X.env), (false, eval b X.env)] := by rfl) (hs2 : starEach [b] X.env = [(false, eval b X.env)] := by rfl) :
    NI X M lp tg (.Call (.Name "range" p0) [a, b] [] pos) env (N.rng2 m n) := .mk fun p => RdI.of (pi_range2 hg hm (pa_cons star_pe (pa_cons star_pe pa_nil (by rw [hs2]; rfl)) (by rw [hs, hs2])) hs hs2) fun S0 H0 σ S H st Rr q =>
  h.run p.1 _ _ _ _ _ st _ fun d v S1 H1 ⟨x, sx, ed⟩ r t => by
    subst ed
    refine h'.run p.2.1 _ _ _ _ _ (st.step t) _ fun d v S2 H2 ⟨y, sy, ed⟩ r2 t2 => ?_
    subst ed
    rw [r.int, r2.int]
    have h1 := p.2.2 x y sx sy
    exact ⟨x, y, rfl, ⟨by omega, by omega, by omega, by omega⟩, q _ _ S2 H2 ⟨_, ⟨x, y, sx, sy, rfl⟩, rfl⟩ (t.trans t2) (rng_it fun S H rc => rc.1)⟩
end
/-! comprehensions of what is drawn -/
theorem Each.nil {α β : Type} {f : α → N β} : Each f ([] : List α) [] := ⟨rfl, fun i x y h => by simp at h⟩
theorem Each.snoc {α β : Type} {f : α → N β} {xs : List α} {ys : List β} {x : α} {y : β} (h : Each f xs ys) (hy : (f x).S y) : Each f (xs ++ [x]) (ys ++ [y]) := by
  obtain ⟨hl, hh⟩ := h
  refine ⟨by simp [hl], fun i a b ha hb => ?_⟩
  by_cases hi : i < xs.length
  · rw [List.getElem?_append_left hi] at ha
    rw [List.getElem?_append_left (by omega)] at hb
    exact hh i a b ha hb
  · rw [List.getElem?_append_right (by omega)] at ha
    rw [List.getElem?_append_right (by omega)] at hb
    have e1 : i - xs.length = 0 := by
      have := (List.getElem?_eq_some_iff.mp ha).1
      simp at this
      omega
    rw [e1] at ha
    rw [hl, e1] at hb
    simp at ha hb
    rw [← ha, ← hb]; exact hy
section
variable {K : PySem.W.Frag} {M : Mm} {env : List Sl} {α β : Type} [Rep α] [Rep β]
theorem RdF.lcN {wi : TI} {g : TG} {tt : TT} {te : TE} {vs : List Nat} {m : N (List α)} {t : α → R Bool} {f : α → N β} {tE : α → List Sl} (hi : RdI K M false wi env (fun ds => ∃ x, m.S x ∧ ds = x.map rep)) {ix : List Nat} (hix : ∀ i ∈ ix, i ∈ vs)
    (hg : ∀ x, RdG K M g ix (rep x) (wipeE env vs) (· = tE x)) (ht : ∀ x, (t x).p → RdT K M tt (tE x) (· = (t x).v)) (hf : ∀ x, (f x).p → RdE K M te (tE x) (fun d => ∃ y, (f x).S y ∧ d = rep y)) (hp : ∀ xs, m.S xs → xs.length ≤ 100000 ∧ ∀ x ∈ xs, (t x).p ∧ ((t x).v = true → (f x).p)) :
    RdF K M (tLc wi g tt te vs) env (fun ds => ∃ ys, (N.lc m t f).S ys ∧ ds = ys.map rep) := fun S0 H0 σ S H st Q q => by
  refine hi _ _ _ _ _ st _ fun ds J S1 H1 ⟨xs, sxs, ed⟩ t1 it => ?_
  subst ed
  have hp := hp xs sxs
  intro D hD
  have st1 := st.step t1
  have g1 := st1.gd
  have tN := Step.new g1 (.lst []) hD
  refine ⟨fun i k H' => k = xs.length - i ∧ i ≤ xs.length ∧ ∃ S' us ys, Step M S1 H1 S' H' ∧ S' D = none ∧ H' D = some (.lst us) ∧ Dens K S' (ys.map rep) us ∧ Each f ((xs.take i).filter fun x => (t x).v) ys ∧ ys.length ≤ i, ⟨xs.length, by simp, Nat.zero_le _, S1, [], [], tN, g1.fresh hD, upd_same, .nil, by simpa using Each.nil, Nat.le_refl _⟩, ?_⟩
  rintro i k H' ⟨rfl, hil, S', us, ys, t2, hn, hu, r, hE, hyl⟩
  have st2 : St0 K M S0 H0 S' H' env σ := st1.step t2
  have rc : Rch K M false S0 H0 S1 H1 S' H' := ⟨st2.gd, t2.ss, t2⟩
  by_cases hlt : i < xs.length
  · refine .inr ?_
    have hx : xs[i]? = some xs[i] := List.getElem?_eq_getElem hlt
    generalize xs[i] = x at hx
    have hmem : x ∈ xs := List.mem_of_getElem? hx
    obtain ⟨go, yl⟩ := it.go S' H' i (rep x) rc (by rw [List.getElem?_map, hx]; rfl)
    have htk : (xs.take (i + 1)).filter (fun x => (t x).v) = if (t x).v = true then (xs.take i).filter (fun x => (t x).v) ++ [x] else (xs.take i).filter (fun x => (t x).v) := by
      rw [List.take_add_one, hx, List.filter_append]
      simp only [Option.toList_some, List.filter_cons, List.filter_nil]
      split <;> simp
    refine ⟨go, fun H3 => ∃ S3 us3 ys3, Step M S1 H1 S3 H3 ∧ S3 D = none ∧ H3 D = some (.lst us3) ∧ Dens K S3 (ys3.map rep) us3 ∧ Each f ((xs.take (i + 1)).filter fun x => (t x).v) ys3 ∧ ys3.length ≤ i + 1, fun H3 ⟨S3, us3, ys3, w1, w2, w3, w4, w5, w6⟩ => ⟨xs.length - (i + 1), by omega, rfl, hlt, S3, us3, ys3, w1, w2, w3, w4, w5, w6⟩, fun v H3 hy => ?_⟩
    obtain ⟨S3, t3, dn⟩ := yl v H3 hy
    have st3 := (st2.step t3).wipe vs
    refine hg x S0 H0 _ S3 H3 v st3 dn _ fun env4 σ4 S4 H4 e4 st4 t4 l4 k4 => ?_
    subst e4
    refine ⟨wipe_eq (by rw [l4]) fun j hj => k4 j fun z => hj (hix j z), ?_⟩
    refine ht x (hp.2 x hmem).1 S0 H0 σ4 S4 H4 st4 _ fun b S5 H5 eb t5 => ?_
    have dkeep : ∀ {Sx Hx : Hp}, Step M S' H' Sx Hx → Sx D = none ∧ Hx D = some (.lst us) := fun {Sx Hx} tx =>
      ⟨tx.cap D hn (by rw [hu]; exact fun z => nomatch z), tx.ext D _ hu (fun m' => by
        have := st1.gd.vol D m'
        exact this.1 hD) lst_noT⟩
    cases b with
    | true =>
      rw [if_pos rfl]
      refine hf x ((hp.2 x hmem).2 eb.symm) S0 H0 σ4 S5 H5 (st4.step t5) _ fun d v6 S6 H6 ⟨y6, sy6, ed⟩ dn6 t6 => ?_
      subst ed
      have tt6 := ((t3.trans t4).trans t5).trans t6
      obtain ⟨n6, h6⟩ := dkeep tt6
      have hlen : us.length = ys.length := by have := r.length; simpa using this.symm
      refine ⟨us, h6, ?_, S6, us ++ [v6], ys ++ [y6], ?_, n6, upd_same, ?_, ?_, by simp; omega⟩
      · have : sizeLine = 16777216 := sizeLine_eq
        have := hp.1
        omega
      · have t7 := t2.trans tt6
        exact ⟨t7.ss, fun a o e => by rw [upd_ne (ne_of_none e n6)]; exact t7.sh a o e, fun a o e m' n' => by rw [upd_ne (ne_of_none e hD)]; exact t7.ext a o e m' n', fun a ps e tr => by
            rw [upd_ne (ne_of_none e hD)]; exact t7.tb a ps e tr, t7.cap, fun a m' vk => by
            have z : a ≠ D := fun z => by subst z; exact (st1.gd.vol _ m').1 hD
            rw [upd_ne z]; exact t7.vk a m' vk, fun a n' => by
            by_cases z : a = D
            · subst z; exact absurd hD n'
            · rw [upd_ne z]; exact t7.keep a n'⟩
      · rw [List.map_append]
        exact (r.mon tt6.ss).append (.cons dn6 .nil)
      · rw [htk, if_pos eb.symm]
        exact hE.snoc sy6
    | false =>
      rw [if_neg (by decide)]
      have tt5 := (t3.trans t4).trans t5
      obtain ⟨n5, h5⟩ := dkeep tt5
      refine ⟨S5, us, ys, t2.trans tt5, n5, h5, r.mon tt5.ss, ?_, by omega⟩
      rw [htk, if_neg (by rw [← eb]; decide)]
      exact hE
  · refine .inl ⟨it.stop S' H' i rc (by rw [List.length_map]; omega) (by rw [List.length_map]; omega), ?_⟩
    rw [List.take_of_length_le (by omega)] at hE
    refine q _ D us S' H' ⟨ys, ⟨xs, sxs, hE⟩, rfl⟩ ?_ hn hu r (t1.trans t2)
    cases z : H D with
    | none => rfl
    | some o => exact absurd hD (t1.keep D (by rw [z]; exact fun z => nomatch z))
end
end FP
namespace FP
open PySem PySem.Spec PyProof.Rows L2
open Rep (rep)
/-! ### statements that draw: what must hold that all ends as wanted -/
section
variable (X : Cx) (M : Mm) {σT σU β : Type} [Rep β]
abbrev pW (E : σT → List Sl) (K : σT → Prop) (Kr : β → Prop) : Post := ⟨fun e => ∃ s, K s ∧ e = E s, fun d => ∃ b, Kr b ∧ d = rep b, fun _ => False, fun _ => False⟩
structure NS (st : Stmt) (env : List Sl) (E : σT → List Sl) (m : N σT) : Prop where
  run : m.p → RdS X.K M (starS X st) env (pN (fun e => ∃ s, m.S s ∧ e = E s))
structure WS (st : Stmt) (env : List Sl) (E : σT → List Sl) (W : (σT → Prop) → (β → Prop) → Prop) : Prop where
  run : ∀ (K : σT → Prop) (Kr : β → Prop), W K Kr → RdS X.K M (starS X st) env (pW E K Kr)
structure WB (sts : List Stmt) (env : List Sl) (E : σT → List Sl) (W : (σT → Prop) → (β → Prop) → Prop) : Prop where
  run : ∀ (K : σT → Prop) (Kr : β → Prop), W K Kr → RdS X.K M (starB X sts) env (pW E K Kr)
end
@[simp] def W.of {σT β : Type} (m : N σT) : (σT → Prop) → (β → Prop) → Prop := fun K _ => m.p ∧ ∀ s, m.S s → K s
@[simp] def W.seq {σT σU β : Type} (a : (σU → Prop) → (β → Prop) → Prop) (b : σU → (σT → Prop) → (β → Prop) → Prop) : (σT → Prop) → (β → Prop) → Prop := fun K Kr => a (fun s => b s K Kr) Kr
@[simp] def W.nil {σT β : Type} (s : σT) : (σT → Prop) → (β → Prop) → Prop := fun K _ => K s
@[simp] def W.ret {σT β : Type} (m : N β) : (σT → Prop) → (β → Prop) → Prop := fun _ Kr => m.p ∧ ∀ b, m.S b → Kr b
@[simp] def W.ite {σT β : Type} (c : N Bool) (a b : (σT → Prop) → (β → Prop) → Prop) : (σT → Prop) → (β → Prop) → Prop := fun K Kr => c.p ∧ (c.S true → a K Kr) ∧ (c.S false → b K Kr)
def W.for {σT β α : Type} (m : N (List α)) (s0 : σT) (b : σT → α → (σT → Prop) → (β → Prop) → Prop) : (σT → Prop) → (β → Prop) → Prop := fun K Kr =>
  m.p ∧ ∀ xs, m.S xs → ∃ I : Nat → σT → Prop, I 0 s0 ∧ (∀ (i : Nat) x s, xs[i]? = some x → I i s → b s x (fun s' => I (i + 1) s') Kr) ∧ ∀ s, I xs.length s → K s
def W.while {σT β : Type} (s0 : σT) (c : σT → N Bool) (b : σT → (σT → Prop) → (β → Prop) → Prop) : (σT → Prop) → (β → Prop) → Prop := fun K Kr =>
  ∃ (I : Nat → σT → Prop) (n : Nat), I n s0 ∧ ∀ n s, I n s → (c s).p ∧ ((c s).S true → b s (fun s' => ∃ n', n' < n ∧ I n' s') Kr) ∧ ((c s).S false → K s)
section
variable {X : Cx} {M : Mm} {σT σU β : Type} [Rep β] {st : Stmt} {sts rest : List Stmt} {env env' : List Sl} {E : σT → List Sl} {E1 : σU → List Sl} {α γ : Type} [Rep α] [Rep γ]
theorem NS.of {m : R σT} (h : SN X M st env E m) : NS X M st env E (N.of m) := .mk fun p => (h.run p).imp (fun e ee => ⟨_, rfl, ee⟩) (fun _ z => z) (fun _ z => z) fun _ z => z
theorem WS.of {m : N σT} (h : NS X M st env E m) : WS X M (β := β) st env E (W.of m) := .mk fun K Kr ⟨p, k⟩ => (h.run p).imp (fun e ⟨s, ss, ee⟩ => ⟨s, k s ss, ee⟩) (fun _ z => z.elim) (fun _ z => z.elim) fun _ z => z.elim
theorem WB.nil (s : σT) (h : LE env (E s)) : WB X M (β := β) [] env E (W.nil s) := .mk fun K Kr k => RdS.weak h (RdS.ofB pss_nil (RdS.next ⟨s, k, rfl⟩))
theorem WB.cons {a : (σU → Prop) → (β → Prop) → Prop} {b : σU → (σT → Prop) → (β → Prop) → Prop} (h : WS X M st env E1 a) (k : ∀ s, WB X M rest (E1 s) E (b s)) : WB X M (st :: rest) env E (W.seq a b) := .mk fun K Kr w =>
  RdS.consB (h.run _ Kr w) fun e ⟨s, ks, ee⟩ => by rw [ee]; exact (k s).run K Kr ks
theorem WB.weak {W : (σT → Prop) → (β → Prop) → Prop} (l : LE env env') (h : WB X M sts env' E W) : WB X M sts env E W := .mk fun K Kr w => RdS.weak l (h.run K Kr w)
theorem WB.ret {e : Expr} {pos : Pos} {m : N β} (h : NE X M e env m) : WB X M [.Return (some e) pos] env E (W.ret m) := .mk fun K Kr ⟨p, k⟩ => RdS.oneB (RdS.ofS (ps_ret star_pe) (RdS.ret (h.run p) fun _ ⟨b, sb, e⟩ => ⟨b, k b sb, e⟩))
theorem WB.retO {pos pos' : Pos} {x : List α} (i : Nat) {nm : Str} (hi : env[i]? = some (.ow (x.map rep))) (h : RE X M (.Name nm pos') (env.set i (.im (rep x))) (R.pure x)) : WB X M (β := List α) [.Return (some (.Name nm pos')) pos] env E (W.ret (N.of (R.pure x))) := .mk fun K Kr ⟨p, k⟩ =>
  RdS.oneB fun S0 H0 σ S H st Dl q1 q2 q3 q4 => by
    obtain ⟨a, vs, _, _, _, _, _, sb, h1⟩ := st.frz hi
    exact RdS.ofS (ps_ret star_pe) (RdS.ret (Z := pR (· = rep x)) (h trivial) fun _ e => e) S0 H0 σ _ H h1 Dl (fun _ _ _ _ z => z.elim) (fun d v S' H' ed => q2 d v S' H' ⟨x, k x rfl, ed⟩) (fun _ _ _ _ z => z.elim) (fun _ _ _ _ z => z.elim)
theorem WS.ite {c : Expr} {a b : List Stmt} {pos : Pos} {mc : N Bool} {wa wb : (σT → Prop) → (β → Prop) → Prop} (hc : NT X M c env mc) (h1 : WB X M a env E wa) (h2 : WB X M b env E wb) : WS X M (.If c a b pos) env E (W.ite mc wa wb) := .mk fun K Kr ⟨p, w1, w2⟩ =>
  RdS.ofS (ps_if star_pt star_pss star_pss) (RdS.if (hc.run p) (fun e => h1.run K Kr (w1 e)) fun e => h2.run K Kr (w2 e))
theorem WS.for {tg iter : Expr} {body : List Stmt} {pos : Pos} {m : N (List α)} {w : σT → α → (σT → Prop) → (β → Prop) → Prop} {ix : List Nat} {tE : σT → α → List Sl} (s0 : σT) (hp : PassesOwn (model X.prog X.w) X.A X.env X.xe) (hc : X.calm = true) (h0 : LE env (E s0)) (hi : NI X M true tg iter (E s0) m)
    (hg : ∀ s x, RG X M tg ix (rep x) (E s) (tE s x)) (hb : ∀ s x, WB X M body (tE s x) E (w s x)) (hs : ∀ x, foldedSetIterable iter X.env x = pure x) : WS X M (.For tg iter body [] pos) env E (W.for m s0 w) := .mk fun K Kr ⟨p, hw⟩ =>
  RdS.weak h0 (RdS.ofS (ps_for hp hc star_pi star_pg star_pss hs) fun S0 H0 σ S H st Dl q1 q2 q3 q4 => by
    -- the items first
    refine hi.run p S0 H0 σ S H st _ fun ds J S1 H1 ⟨xs, sxs, ed⟩ t1 it => ?_
    obtain ⟨I, i0, ib, ie⟩ := hw xs sxs
    subst ed
    have st1 := st.step t1
    refine ⟨fun i m σ' H' => m = xs.length - i ∧ i ≤ xs.length ∧ ∃ S' s, St0 X.K M S0 H0 S' H' (E s) σ' ∧ Sub S1 S' ∧ I i s, ⟨xs.length, by simp, Nat.zero_le _, S1, s0, st1, fun _ _ e => e, i0⟩, ?_⟩
    rintro i m σ' H' ⟨rfl, hil, S', s, st', sb, hI⟩
    have rc : Rch X.K M true S0 H0 S1 H1 S' H' := ⟨st'.gd, sb, st'.stp⟩
    by_cases hlt : i < xs.length
    · have hx : xs[i]? = some xs[i] := List.getElem?_eq_getElem hlt
      generalize xs[i] = x at hx
      obtain ⟨go, yl⟩ := it.go S' H' i (rep x) rc (by rw [List.getElem?_map, hx]; rfl)
      refine .inr ⟨go, fun σ2 H2 => ∃ S2 s2, St0 X.K M S0 H0 S2 H2 (E s2) σ2 ∧ Sub S1 S2 ∧ I (i + 1) s2, fun σ2 H2 ⟨S2, e2, w1, w2, w3⟩ => ⟨xs.length - (i + 1), by omega, rfl, hlt, S2, e2, w1, w2, w3⟩, fun v H2 hy => ?_⟩
      obtain ⟨S2, t2, dn⟩ := yl v H2 hy
      refine (hg s x).run S0 H0 σ' S2 H2 v (st'.step t2) dn _ fun e3 σ3 S3 H3 ee st3 t3 _ _ => ?_
      subst ee
      have s3 : Sub S1 S3 := fun x o z => t3.ss x o (t2.ss x o (sb x o z))
      exact (hb s x).run _ Kr (ib i x s hx hI) S0 H0 σ3 S3 H3 st3 _ (fun e4 σ4 S4 H4 ⟨s4, p4, ee⟩ s t => by subst ee; exact ⟨S4, s4, s, fun x o z => t x o (s3 x o z), p4⟩) q2 (fun e4 σ4 S4 H4 p s t => p.elim) (fun e4 σ4 S4 H4 p s t => p.elim)
    · have hi' : i = xs.length := by omega
      subst hi'
      exact .inl ⟨it.stop S' H' _ rc (by rw [List.length_map]; exact Nat.le_refl _) (by rw [List.length_map]; exact Nat.le_refl _), q1 _ σ' S' H' ⟨s, ie s hI, rfl⟩ st' fun x o z => sb x o (t1.ss x o z)⟩)
theorem WS.while {c : Expr} {body : List Stmt} {pos : Pos} {mc : σT → N Bool} {w : σT → (σT → Prop) → (β → Prop) → Prop} (s0 : σT) (hp : PassesOwn (model X.prog X.w) X.A X.env X.xe) (h0 : LE env (E s0)) (hc : ∀ s, NT X M c (E s) (mc s)) (hb : ∀ s, WB X M body (E s) E (w s)) : WS X M (.While c body [] pos) env E (W.while s0 mc w) := .mk fun K Kr ⟨I, n, i0, ib⟩ =>
  RdS.weak h0 (RdS.ofS (ps_while hp star_pt star_pss) (RdS.while (I := fun k e => ∃ s, e = E s ∧ I k s) n ⟨s0, rfl, i0⟩ fun k e ⟨s, e1, hI⟩ => by
    subst e1
    obtain ⟨h1, h2, h3⟩ := ib k s hI
    refine ⟨_, (hc s).run h1, fun e => ?_, fun e => ⟨s, h3 e, rfl⟩⟩
    exact ((hb s).run _ Kr (h2 e)).imp (fun e' ⟨s', ⟨n', l, i'⟩, ee⟩ => ⟨n', l, s', ee, i'⟩) (fun _ z => z) (fun _ z => z.elim) fun _ z => z.elim))
/-! stores of what is drawn -/
theorem NS.set {e : Expr} {pos pos' : Pos} {m : N α} (i : Nat) {nm : Str} (hN : X.N.Nodup) (hi : X.N[i]? = some nm) (hx : Loc X.env.scope nm) (hf : X.fn nm = true ∨ X.env.scope.names.lookup nm = some .local) {E : α → List Sl} (h : NE X M e env m) (hE : ∀ v, env.set i (.im (rep v)) = E v) (hs : swapsWith e (some (.Name nm pos')) pos.line X.env = pure false := by rfl) :
    NS X M (.Assign [.Name nm pos'] e pos) env E m := .mk fun p => RdS.ofS (ps_set hN hi hx star_pe hs hf) (RdS.set (h.run p) fun d ⟨x, sx, ed⟩ => ⟨x, sx, by rw [ed]; exact hE _⟩)
theorem NS.setF {e : Expr} {pos pos' : Pos} {m : N (List α)} (i : Nat) {nm : Str} (hN : X.N.Nodup) (hi : X.N[i]? = some nm) (hx : Loc X.env.scope nm) (hf : X.fn nm = true ∨ X.env.scope.names.lookup nm = some .local) {E : List α → List Sl} (h : NF X M e env m) (hE : ∀ v : List α, env.set i (.ow (v.map rep)) = E v) (hs : swapsWith e (some (.Name nm pos')) pos.line X.env = pure false := by rfl) :
    NS X M (.Assign [.Name nm pos'] e pos) env E m := .mk fun p => RdS.ofS (ps_set hN hi hx star_pe hs hf) (RdS.setF (h.run p) fun d ⟨x, sx, ed⟩ => ⟨x, sx, by rw [ed]; exact hE _⟩)
theorem NS.tgt {e tg : Expr} {pos : Pos} {m : N α} {ix : List Nat} {E : α → List Sl} (h : NE X M e env m) (hg : ∀ v : α, RG X M tg ix (rep v) env (E v)) (hs : swapsWithSole [tg] e pos.line X.env = pure false := by rfl) (hw : swappedStores [tg] e X.env = pure none := by rfl)
    (h1 : (assignEach [tg] X.env).map (·.2) = [assign tg X.env] := by rfl) : NS X M (.Assign [tg] e pos) env E m := .mk fun p =>
  RdS.ofS (ps_asg star_pe star_pg hs hw h1) (RdS.tgt (G := fun d e => ∃ s, m.S s ∧ d = rep s ∧ e = E s) (P := fun d => ∃ x, m.S x ∧ d = rep x) (h.run p) (fun d ⟨x, sx, ed⟩ => by
    subst ed
    intro S0 H0 σ S H v st dn Q q
    exact (hg x).run S0 H0 σ S H v st dn Q fun e σ' S' H' ee => q e σ' S' H' ⟨x, sx, rfl, ee⟩) fun d e' _ ⟨s, ss, _, h⟩ => ⟨s, ss, h⟩)
theorem NS.par {a b : Expr} {px py pt pos : Pos} {kt k2 : Nat} {pt2 : Pos} {m : N α} {n : N γ} (i j : Nat) {x y : Str} {E : α × γ → List Sl} (hE : ∀ v : α × γ, (env.set i (.im (rep v.1))).set j (.im (rep v.2)) = E v) (hc : X.calm = true) (hN : X.N.Nodup) (hi : X.N[i]? = some x) (hj : X.N[j]? = some y) (hij : i ≠ j)
    (hx : X.env.scope.names.lookup x = some .local) (hy : X.env.scope.names.lookup y = some .local) (ha : NA X M [a, b] env [true, true] (N.cons m (N.cons n N.nil)))
    (hw : swappedStores [.Tuple [.Name x px, .Name y py] kt pt] (.Tuple [a, b] k2 pt2) X.env = pure (some [x, y])) (hs : swapsWithSole [.Tuple [.Name x px, .Name y py] kt pt] (.Tuple [a, b] k2 pt2) pos.line X.env = pure false := by rfl) :
    NS X M (.Assign [.Tuple [.Name x px, .Name y py] kt pt] (.Tuple [a, b] k2 pt2) pos) env E (N.tup2 m n) := .mk fun p =>
  RdS.ofS (ps_par hc hN hi hj hij hx hy star_pa hw hs) fun S0 H0 σ S H st Dl q1 _ _ _ => ha.run ⟨p.1, p.2, trivial⟩ S0 H0 σ S H st _ fun ds vs S1 H1 ⟨x1, r1, sx, ⟨y1, r2, sy, er, e2⟩, e1⟩ bs t => by
    have er : r2 = [] := er
    subst e1 e2 er
    cases bs with
    | im r1 bs =>
      cases bs with
      | im r2 bs =>
        cases bs
        exact ⟨_, _, rfl, q1 _ _ S1 H1 ⟨(x1, y1), ⟨x1, y1, sx, sy, rfl⟩, rfl⟩ (by rw [← hE]; exact ((st.step t).putIm i r1).putIm j r2) t.ss⟩
theorem NS.setIx {e ei : Expr} {pos pos' pn : Pos} {m : N α} {n : N Int} {xs : List α} (i : Nat) {nm : Str} {E : List α → List Sl} (hi : env[i]? = some (.ow (xs.map rep))) (hE : ∀ v : List α, env.set i (.ow (v.map rep)) = E v) (hN : X.N[i]? = some nm) (hv : Vis X.env.scope nm) (hk : OkN nm) (h : NE X M e env m) (h' : NB X M ei env n)
    (ha : ∀ v, assign (.Subscript (.Name nm pn) ei pos') X.env v = (do
      let ov ← holding [v] (eval (.Name nm pn) X.env)
      let iv ← holding [v, ov] (eval ei X.env)
      standAt pos'
      holding [v, ov, iv] (setItem ov iv v)
      release [v, ov, iv] []) := by intro _; rfl) (hs : swapsWithSole [.Subscript (.Name nm pn) ei pos'] e pos.line X.env = pure false := by rfl) (hw : swappedStores [.Subscript (.Name nm pn) ei pos'] e X.env = pure none := by rfl)
    (h1 : (assignEach [.Subscript (.Name nm pn) ei pos'] X.env).map (·.2) = [assign (.Subscript (.Name nm pn) ei pos') X.env] := by rfl) :
    NS X M (.Assign [.Subscript (.Name nm pn) ei pos'] e pos) env E (N.setIx xs m n) := .mk fun p =>
  RdS.ofS (ps_asg star_pe (pg_sub (pe_var hN hv hk.d hk.c) star_pe set_list ha) hs hw h1) fun S0 H0 σ S H st Dl q1 _ _ _ => by
    refine h.run p.1 S0 H0 σ S H st _ fun d v S1 H1 ⟨x, sx, ed⟩ r t1 => ?_
    subst ed
    obtain ⟨a, vs, e1, _⟩ := (st.step t1).mut hi
    refine ⟨.ref a, e1, ?_⟩
    refine h'.run p.2.1 S0 H0 σ S1 H1 (st.step t1) _ fun d u S2 H2 ⟨j, sj, ed⟩ r2 t2 => ?_
    subst ed
    have st2 := (st.step t1).step t2
    obtain ⟨a', vs', e1', e2', rd', nm', ns', up⟩ := st2.mut hi
    rw [e1] at e1'
    cases e1'
    have hj := p.2.2 j sj
    refine ⟨a, vs', j, j.toNat, rfl, r2.int, e2', ixN_of ⟨hj.1, ?_⟩, ?_⟩
    · have := rd'.length
      rw [List.length_map] at this
      rw [← this]
      exact hj.2
    · refine q1 _ σ S2 _ ⟨xs.set j.toNat x, ⟨x, j, sx, sj, rfl⟩, rfl⟩ ?_ fun x o z => t2.ss x o (t1.ss x o z)
      have := up (vs'.set j.toNat v) ((xs.set j.toNat x).map rep) (by rw [List.map_set]; exact rd'.set (r.mon t2.ss) _)
      rw [hE] at this
      exact this
theorem NS.append {e : Expr} {pos apos cpos pn : Pos} {m : N α} {xs : List α} (i : Nat) {nm : Str} {E : List α → List Sl} (hi : env[i]? = some (.ow (xs.map rep))) (hE : ∀ v : List α, env.set i (.ow (v.map rep)) = E v) (hN : X.N[i]? = some nm) (hv : Vis X.env.scope nm) (hk : OkN nm) (h : NE X M e env m)
    (hbase : attributeBase (.Name nm pn) "append" X.env (eval (.Name nm pn) X.env) = eval (.Name nm pn) X.env := by rfl)
    (hfew : ((backTo cpos (starEach [e] X.env)).all (fun x => !x.1) && (backToKw cpos (keywordEach [] X.env)).all (fun x => x.1.isSome) && decide ([e].length + ([] : List Keyword).length + (if ([] : List Keyword).isEmpty then 0 else 1) < 30)) = true := by rfl)
    (hline : (apos.endLine == cpos.line) = true := by rfl) (hst : starEach [e] X.env = (false, eval e X.env) :: starEach [] X.env := by rfl) (hplain : (backTo cpos (starEach [] X.env)).any (·.1) = false := by rfl)
    (hs : swapsWith (.Call (.Attribute (.Name nm pn) "append" apos) [e] [] cpos) none pos.line X.env = pure false := by rfl) :
    NS X M (.Expr (.Call (.Attribute (.Name nm pn) "append" apos) [e] [] cpos) pos) env E (N.app xs m) := .mk fun p =>
  RdS.ofS (ps_expr (pe_bm PySem.F.plainAttrs_list PySem.F.slot_list_append PySem.F.type_list_append mt_append (pe_var hN hv hk.d hk.c) (pa_cons star_pe pa_nil hst) hbase hfew hline hst hplain) hs) fun S0 H0 σ S H st Dl q1 _ _ _ => by
    obtain ⟨a, vs, e1, e2, _⟩ := st.mut hi
    refine ⟨.ref a, e1, .inl ⟨rfl, vs, sql_of e2⟩, ?_⟩
    refine h.run p.1 S0 H0 σ S H st _ fun d v S1 H1 ⟨x, sx, ed⟩ r t1 => ?_
    subst ed
    obtain ⟨a', vs', e1', e2', rd', nm', ns', up⟩ := (st.step t1).mut hi
    rw [e1] at e1'
    cases e1'
    refine ⟨a, vs', v, rfl, rfl, e2', ?_, ?_⟩
    · have := rd'.length
      rw [List.length_map] at this
      have h2 := p.2
      have : sizeLine = 16777216 := sizeLine_eq
      omega
    · refine q1 _ σ S1 _ ⟨xs ++ [x], ⟨x, sx, rfl⟩, rfl⟩ ?_ t1.ss
      have := up (vs' ++ [v]) ((xs ++ [x]).map rep) (by rw [List.map_append]; exact rd'.append (.cons r .nil))
      rw [hE] at this
      exact this
/-! comprehensions -/
theorem NF.lc {elt tg iter : Expr} {ifs : List Expr} {scope : Scope} {own : List (Str × Nat)} {pos : Pos} {m : N (List α)} {t : α → R Bool} {f : α → N γ} {tE : α → List Sl} {ix : List Nat} (hc : X.calm = true) (hN : X.N.Nodup) (ok : BlkOk X.N X.env.scope scope own) (hl : ifs.length ≤ 1) (hix : ∀ i ∈ ix, i ∈ own.map (·.2))
    (hi : NI X M false tg iter env m) (hg : ∀ x, Blk X scope fun Y => RG Y M tg ix (rep x) (wipeE env (own.map (·.2))) (tE x)) (ht : ∀ x, RTs X scope M ifs (tE x) (t x)) (he : ∀ x, Blk X scope fun Y => NE Y M elt (tE x) (f x)) (hs : ∀ x, foldedSetIterable iter X.env x = pure x) :
    NF X M (.ListComp elt [⟨tg, iter, ifs, 0⟩] scope pos) env (N.lc m t f) := .mk fun p => by
  obtain ⟨tt, pt, rt⟩ := lc_pts (X := X) (M := M) (scope := scope) hl
  exact EF.of (pe_lc (g := bG X scope tg) (te := bE X scope elt) hc hN star_pi ok (fun s H C cl fp => ⟨fun pins s' σ H' v u Q I r h => h s H C cl fp pins s' u I r⟩) pt (fun s H C cl fp => ⟨fun pins s' σ H' Q I h => h s H C cl fp pins s' I⟩) hs)
    (RdF.lcN (hi.run p.1) hix (fun x S0 H0 σ S H v st dn Q q s H' C cl fp => (hg x s H' C cl fp).run S0 H0 σ S H v st dn Q q) (fun x hp => rt _ _ (ht x) hp) (fun x hp S0 H0 σ S H st Q q s H' C cl fp => (he x s H' C cl fp).run hp S0 H0 σ S H st Q q) p.2)
theorem lcset_rdN {elt tg iter : Expr} {ifs : List Expr} {scope : Scope} {own : List (Str × Nat)} {pos spos py : Pos} {m : N (List α)} {t : α → R Bool} {f : α → N γ} {tE : α → List Sl} {ix : List Nat} (i : Nat) {nm : Str} (hc : X.calm = true) (hN : X.N.Nodup) (hy : X.N[i]? = some nm) (hyl : X.env.scope.names.lookup nm = some .local)
    (hsw : swapsWith (.ListComp elt [⟨tg, iter, ifs, 0⟩] scope pos) (some (.Name nm py)) spos.line X.env = pure true) (ok : BlkOk X.N X.env.scope scope own) (hl : ifs.length ≤ 1) (hix : ∀ i ∈ ix, i ∈ own.map (·.2))
    (hi : NI X M false tg iter env m) (hg : ∀ x, Blk X scope fun Y => RG Y M tg ix (rep x) (wipeE env (own.map (·.2))) (tE x)) (ht : ∀ x, RTs X scope M ifs (tE x) (t x)) (he : ∀ x, Blk X scope fun Y => NE Y M elt (tE x) (f x)) (hs : ∀ x, foldedSetIterable iter X.env x = pure x) (p : (N.lc m t f).p) :
    ∃ te, PS X (.Assign [.Name nm py] (.ListComp elt [⟨tg, iter, ifs, 0⟩] scope pos) spos) (tAsg te (gName i)) ∧ RdF X.K M te env (fun ds => ∃ ys, (N.lc m t f).S ys ∧ ds = ys.map rep) := by
  obtain ⟨tt, pt, rt⟩ := lc_pts (X := X) (M := M) (scope := scope) hl
  exact ⟨_, ps_setLc (g := bG X scope tg) (te := bE X scope elt) hc hN hy hyl hsw star_pi ok (fun s H C cl fp => ⟨fun pins s' σ H' v u Q I r h => h s H C cl fp pins s' u I r⟩) pt (fun s H C cl fp => ⟨fun pins s' σ H' Q I h => h s H C cl fp pins s' I⟩) hs,
    RdF.lcN (hi.run p.1) hix (fun x S0 H0 σ S H v st dn Q q s H' C cl fp => (hg x s H' C cl fp).run S0 H0 σ S H v st dn Q q) (fun x hp => rt _ _ (ht x) hp) (fun x hp S0 H0 σ S H st Q q s H' C cl fp => (he x s H' C cl fp).run hp S0 H0 σ S H st Q q) p.2⟩
theorem NS.lcF {elt tg iter : Expr} {ifs : List Expr} {scope : Scope} {own : List (Str × Nat)} {pos spos py : Pos} {m : N (List α)} {t : α → R Bool} {f : α → N γ} {tE : α → List Sl} {ix : List Nat} (i : Nat) {nm : Str} {E : List γ → List Sl} (hE : ∀ v : List γ, env.set i (.ow (v.map rep)) = E v) (hc : X.calm = true) (hN : X.N.Nodup) (hy : X.N[i]? = some nm) (hyl : X.env.scope.names.lookup nm = some .local)
    (hsw : swapsWith (.ListComp elt [⟨tg, iter, ifs, 0⟩] scope pos) (some (.Name nm py)) spos.line X.env = pure true) (ok : BlkOk X.N X.env.scope scope own) (hl : ifs.length ≤ 1) (hix : ∀ i ∈ ix, i ∈ own.map (·.2))
    (hi : NI X M false tg iter env m) (hg : ∀ x, Blk X scope fun Y => RG Y M tg ix (rep x) (wipeE env (own.map (·.2))) (tE x)) (ht : ∀ x, RTs X scope M ifs (tE x) (t x)) (he : ∀ x, Blk X scope fun Y => NE Y M elt (tE x) (f x)) (hs : ∀ x, foldedSetIterable iter X.env x = pure x) :
    NS X M (.Assign [.Name nm py] (.ListComp elt [⟨tg, iter, ifs, 0⟩] scope pos) spos) env E (N.lc m t f) := .mk fun p => by
  obtain ⟨te, h1, h2⟩ := lcset_rdN i hc hN hy hyl hsw ok hl hix hi hg ht he hs p
  exact RdS.ofS h1 (RdS.setF h2 fun d ⟨ys, sy, ed⟩ => ⟨ys, sy, by rw [ed]; exact hE _⟩)
theorem NS.lc {elt tg iter : Expr} {ifs : List Expr} {scope : Scope} {own : List (Str × Nat)} {pos spos py : Pos} {m : N (List α)} {t : α → R Bool} {f : α → N γ} {tE : α → List Sl} {ix : List Nat} (i : Nat) {nm : Str} {E : List γ → List Sl} (hE : ∀ v : List γ, env.set i (.im (rep v)) = E v) (hc : X.calm = true) (hN : X.N.Nodup) (hy : X.N[i]? = some nm) (hyl : X.env.scope.names.lookup nm = some .local)
    (hsw : swapsWith (.ListComp elt [⟨tg, iter, ifs, 0⟩] scope pos) (some (.Name nm py)) spos.line X.env = pure true) (ok : BlkOk X.N X.env.scope scope own) (hl : ifs.length ≤ 1) (hix : ∀ i ∈ ix, i ∈ own.map (·.2))
    (hi : NI X M false tg iter env m) (hg : ∀ x, Blk X scope fun Y => RG Y M tg ix (rep x) (wipeE env (own.map (·.2))) (tE x)) (ht : ∀ x, RTs X scope M ifs (tE x) (t x)) (he : ∀ x, Blk X scope fun Y => NE Y M elt (tE x) (f x)) (hs : ∀ x, foldedSetIterable iter X.env x = pure x) :
    NS X M (.Assign [.Name nm py] (.ListComp elt [⟨tg, iter, ifs, 0⟩] scope pos) spos) env E (N.lc m t f) := .mk fun p => by
  obtain ⟨te, h1, h2⟩ := lcset_rdN i hc hN hy hyl hsw ok hl hix hi hg ht he hs p
  exact RdS.ofS h1 (RdS.set h2.e fun d ⟨ds, e1, ys, sy, e2⟩ => ⟨ys, sy, by rw [e1, e2]; exact hE _⟩)
end
/-! ### what draws: its promise -/
def SpM (K : PySem.W.Frag) (T : Addr → Prop) (ms : List Bool) (G : List D → (D → Prop) → Prop) : Sp := fun vs H Q _ =>
  ∃ (M : Mm) (S : Hp) (sa sc : Addr) (is : List Int) (rest : List V) (ds : List D) (P : D → Prop), M.t = T ∧ Gd M S H ∧ vs = .ref sa :: .ref sc :: rest ∧ rest.length = ms.length ∧ M sa ∧ Vk (H sa) ∧ ScOk K M H sc is ∧ Bors K M S H ms ds rest ∧ G ds P ∧
    ∀ d v S' H', P d → Den K S' d v → Step M S H S' H' → Q v H'
def D0 {β : Type} [Rep β] (f : N β) : List D → (D → Prop) → Prop := fun ds P => ds = [] ∧ f.p ∧ ∀ x, f.S x → P (rep x)
def D1 {α0 β : Type} [Rep α0] [Rep β] (f : α0 → N β) : List D → (D → Prop) → Prop := fun ds P => ∃ x0, ds = [rep x0] ∧ (f x0).p ∧ ∀ x, (f x0).S x → P (rep x)
def D2 {α0 α1 β : Type} [Rep α0] [Rep α1] [Rep β] (f : α0 → α1 → N β) : List D → (D → Prop) → Prop := fun ds P => ∃ x0 x1, ds = [rep x0, rep x1] ∧ (f x0 x1).p ∧ ∀ x, (f x0 x1).S x → P (rep x)
def D3 {α0 α1 α2 β : Type} [Rep α0] [Rep α1] [Rep α2] [Rep β] (f : α0 → α1 → α2 → N β) : List D → (D → Prop) → Prop := fun ds P => ∃ x0 x1 x2, ds = [rep x0, rep x1, rep x2] ∧ (f x0 x1 x2).p ∧ ∀ x, (f x0 x1 x2).S x → P (rep x)
@[simp] def N.d0 {β : Type} (f : N β) : N β := f
@[simp] def N.d1 {α0 β : Type} (f : α0 → N β) (m0 : N α0) : N β := ⟨m0.p ∧ ∀ x, m0.S x → (f x).p, fun z => ∃ x, m0.S x ∧ (f x).S z⟩
@[simp] def N.d2 {α0 α1 β : Type} (f : α0 → α1 → N β) (m0 : N α0) (m1 : N α1) : N β := ⟨m0.p ∧ m1.p ∧ ∀ x y, m0.S x → m1.S y → (f x y).p, fun z => ∃ x y, m0.S x ∧ m1.S y ∧ (f x y).S z⟩
@[simp] def N.d3 {α0 α1 α2 β : Type} (f : α0 → α1 → α2 → N β) (m0 : N α0) (m1 : N α1) (m2 : N α2) : N β := ⟨m0.p ∧ m1.p ∧ m2.p ∧ ∀ x y w, m0.S x → m1.S y → m2.S w → (f x y w).p, fun z => ∃ x y w, m0.S x ∧ m1.S y ∧ m2.S w ∧ (f x y w).S z⟩
section
variable {X : Cx} {M : Mm} {env : List Sl} {pos p p1 p2 : Pos} {nm na nb : Str}
theorem EV.callM {ms : List Bool} {G : List D → (D → Prop) → Prop} {A : List D → Prop} {P : D → Prop} {k j : Nat} {is : List Int} {es : List Expr} (i1 i2 : Nat) (c : Fn X.prog X.w X.K X.mg X.base k nm (SpM X.K M.t ms G)) (hr : Room j X.A) (hk : k ≤ j) (hg : Gl X nm)
    (h1 : env[i1]? = some .st) (hN1 : X.N[i1]? = some na) (hv1 : Vis X.env.scope na) (hk1 : OkN na) (h2 : env[i2]? = some (.sc is)) (hN2 : X.N[i2]? = some nb) (hv2 : Vis X.env.scope nb) (hk2 : OkN nb)
    (ha : EA X M es env ms A) (h : ∀ ds, A ds → G ds P)
    (hn : OkN nm) (he : starEach (.Name na p1 :: .Name nb p2 :: es) X.env = (false, eval (.Name na p1) X.env) :: starEach (.Name nb p2 :: es) X.env := by rfl) (he2 : starEach (.Name nb p2 :: es) X.env = (false, eval (.Name nb p2) X.env) :: starEach es X.env := by rfl) (hpl : (backTo pos (starEach (.Name nb p2 :: es) X.env)).any (·.1) = false := by rfl) :
    EV X M (.Call (.Name nm p) (.Name na p1 :: .Name nb p2 :: es) [] pos) env P :=
  EV.of (pe_fn c hr hk hg (pa_cons (pe_var hN1 hv1 hk1.d hk1.c) (pa_cons (pe_var hN2 hv2 hk2.d hk2.c) star_pa he2) he) hn he hpl) fun S0 H0 σ S H st Q q => by
    obtain ⟨O, _, _, sl⟩ := st.own
    obtain ⟨sa, e1, m1, v1⟩ := sl i1 _ h1
    obtain ⟨sc, e2, q2⟩ := sl i2 _ h2
    refine ⟨.ref sa, e1, .ref sc, e2, ?_⟩
    refine ha _ _ _ _ _ st _ fun ds vs S1 H1 ad bs t1 => ?_
    show SpM X.K M.t ms G ((.ref sa :: .ref sc :: vs) ++ []) H1 Q E0
    rw [List.append_nil]
    exact ⟨M, S1, sa, sc, is, vs, ds, P, rfl, (st.step t1).gd, rfl, bs.length.2.symm, m1, t1.vk sa m1 v1, (q2.step st.stp).step t1, bs, h ds ad, fun d v S' H' pd r t => q d v S' H' pd r (t1.trans t)⟩
theorem NE.drw0 {β : Type} [Rep β] {f : N β} {k j : Nat} {is : List Int} (i1 i2 : Nat) (c : Fn X.prog X.w X.K X.mg X.base k nm (SpM X.K M.t [] (D0 f))) (hr : Room j X.A) (hk : k ≤ j) (hg : Gl X nm)
    (h1 : env[i1]? = some .st) (hN1 : X.N[i1]? = some na) (hv1 : Vis X.env.scope na) (hk1 : OkN na) (h2 : env[i2]? = some (.sc is)) (hN2 : X.N[i2]? = some nb) (hv2 : Vis X.env.scope nb) (hk2 : OkN nb)
    (hn : OkN nm) (he : starEach (.Name na p1 :: .Name nb p2 :: []) X.env = (false, eval (.Name na p1) X.env) :: starEach (.Name nb p2 :: []) X.env := by rfl) (he2 : starEach (.Name nb p2 :: []) X.env = (false, eval (.Name nb p2) X.env) :: starEach [] X.env := by rfl) (hpl : (backTo pos (starEach (.Name nb p2 :: []) X.env)).any (·.1) = false := by rfl) :
    NE X M (.Call (.Name nm p) [.Name na p1, .Name nb p2] [] pos) env (N.d0 f) := .mk fun p =>
  EV.callM i1 i2 c hr hk hg h1 hN1 hv1 hk1 h2 hN2 hv2 hk2 (NA.nil.run trivial) (fun ds e => ⟨e, p, fun z sz => ⟨z, sz, rfl⟩⟩) hn he he2 hpl
theorem NE.drw1 {α0 β : Type} [Rep α0] [Rep β] {f : α0 → N β} {k j : Nat} {is : List Int} {ms : List Bool} {e0 : Expr} {m0 : N α0} (i1 i2 : Nat) (c : Fn X.prog X.w X.K X.mg X.base k nm (SpM X.K M.t ms (D1 f))) (hr : Room j X.A) (hk : k ≤ j) (hg : Gl X nm)
    (h1 : env[i1]? = some .st) (hN1 : X.N[i1]? = some na) (hv1 : Vis X.env.scope na) (hk1 : OkN na) (h2 : env[i2]? = some (.sc is)) (hN2 : X.N[i2]? = some nb) (hv2 : Vis X.env.scope nb) (hk2 : OkN nb) (ha : NA X M [e0] env ms (N.cons m0 N.nil))
    (hn : OkN nm) (he : starEach (.Name na p1 :: .Name nb p2 :: [e0]) X.env = (false, eval (.Name na p1) X.env) :: starEach (.Name nb p2 :: [e0]) X.env := by rfl) (he2 : starEach (.Name nb p2 :: [e0]) X.env = (false, eval (.Name nb p2) X.env) :: starEach [e0] X.env := by rfl) (hpl : (backTo pos (starEach (.Name nb p2 :: [e0]) X.env)).any (·.1) = false := by rfl) :
    NE X M (.Call (.Name nm p) [.Name na p1, .Name nb p2, e0] [] pos) env (N.d1 f m0) := .mk fun p =>
  EV.callM i1 i2 c hr hk hg h1 hN1 hv1 hk1 h2 hN2 hv2 hk2 (ha.run ⟨p.1, trivial⟩) (fun ds ⟨x, r, sx, er, e⟩ => ⟨x, by have er : r = [] := er; rw [e, er], p.2 x sx, fun z sz => ⟨z, ⟨x, sx, sz⟩, rfl⟩⟩) hn he he2 hpl
theorem NE.drw2 {α0 α1 β : Type} [Rep α0] [Rep α1] [Rep β] {f : α0 → α1 → N β} {k j : Nat} {is : List Int} {ms : List Bool} {e0 e1 : Expr} {m0 : N α0} {m1 : N α1} (i1 i2 : Nat) (c : Fn X.prog X.w X.K X.mg X.base k nm (SpM X.K M.t ms (D2 f))) (hr : Room j X.A) (hk : k ≤ j) (hg : Gl X nm)
    (h1 : env[i1]? = some .st) (hN1 : X.N[i1]? = some na) (hv1 : Vis X.env.scope na) (hk1 : OkN na) (h2 : env[i2]? = some (.sc is)) (hN2 : X.N[i2]? = some nb) (hv2 : Vis X.env.scope nb) (hk2 : OkN nb) (ha : NA X M [e0, e1] env ms (N.cons m0 (N.cons m1 N.nil)))
    (hn : OkN nm) (he : starEach (.Name na p1 :: .Name nb p2 :: [e0, e1]) X.env = (false, eval (.Name na p1) X.env) :: starEach (.Name nb p2 :: [e0, e1]) X.env := by rfl) (he2 : starEach (.Name nb p2 :: [e0, e1]) X.env = (false, eval (.Name nb p2) X.env) :: starEach [e0, e1] X.env := by rfl) (hpl : (backTo pos (starEach (.Name nb p2 :: [e0, e1]) X.env)).any (·.1) = false := by rfl) :
    NE X M (.Call (.Name nm p) [.Name na p1, .Name nb p2, e0, e1] [] pos) env (N.d2 f m0 m1) := .mk fun p =>
  EV.callM i1 i2 c hr hk hg h1 hN1 hv1 hk1 h2 hN2 hv2 hk2 (ha.run ⟨p.1, p.2.1, trivial⟩) (fun ds ⟨x, r, sx, ⟨y, r', sy, er, e'⟩, e⟩ => ⟨x, y, by have er : r' = [] := er; rw [e, e', er], p.2.2 x y sx sy, fun z sz => ⟨z, ⟨x, y, sx, sy, sz⟩, rfl⟩⟩) hn he he2 hpl
end
end FP
namespace FP
open PySem PySem.Spec PyProof.Rows L2
open Rep (rep)
/-! ### defs that draw, by their body -/
theorem St0.startM {M : Mm} {K : PySem.W.Frag} {S H : Hp} {ms : List Bool} {ds : List D} {l : List Sl} {vs : List V} {sa sc : Addr} {is : List Int} (g : Gd M S H) (ma : M sa) (va : Vk (H sa)) (qc : ScOk K M H sc is) (a : Args ms ds l) (b : Bors K M S H ms ds vs) (n : Nat) :
    St0 K M S H S H ((.st :: .sc is :: l) ++ List.replicate n .un) ((.ref sa :: .ref sc :: vs).map some ++ List.replicate n none) := by
  obtain ⟨h1, h2⟩ := Args.sl g a b
  refine ⟨by simp [h1], Step.refl g.sub, g, fun _ => [], (fun _ _ _ z => nomatch z), (fun _ _ z => nomatch z), fun i s e => ?_⟩
  match i with
  | 0 => simp at e; subst e; exact ⟨sa, rfl, ma, va⟩
  | 1 => simp at e; subst e; exact ⟨sc, rfl, qc⟩
  | i + 2 =>
    have e' : (l ++ List.replicate n Sl.un)[i]? = some s := by simpa using e
    have goal : SlOk K M S H H [] s ((vs.map some ++ List.replicate n none)[i]?) := by
      by_cases hi : i < l.length
      · rw [List.getElem?_append_left hi] at e'
        obtain ⟨v, e1, e2⟩ := h2 i s e'
        rw [List.getElem?_append_left (by simpa [h1] using hi), List.getElem?_map, e1]
        exact e2
      · rw [List.getElem?_append_right (by omega)] at e'
        have := List.mem_of_getElem? e'
        rw [List.mem_replicate] at this
        rw [this.2]
        trivial
    simpa using goal
theorem Fn.ofM {T : Addr → Prop} {P : Program} {w : World} {K : PySem.W.Frag} {mg : Str → Option Value} {base : Heap} {x qual : Str} {params : Arguments} {body : List Stmt} {scope : Scope} {f : Addr} {fd : FuncData} {N ps : List Str} {k : Nat} {ms : List Bool} {G : List D → (D → Prop) → Prop}
    (F : FunD K x qual params body scope [] [] f fd) (S : FnScope N ps scope) (hm : mg x = some (.ref f)) (hb : Binds K fd ps []) (hl : ms.length + 2 = ps.length)
    (h : ∀ ds P', G ds P' → ∃ l : List Sl, Args ms ds l ∧ ∀ (cd : Value) (A : Around) (outer : List Env) (s : Shared) (H : Hp) (E : XK) (M : Mm) (is : List Int), fd.code = cd → Room k (A.deeper (envOfC qual scope s.heap.objs.size f cd)) → M.t = T →
      RdS K M (starB (cxF P w K mg base N qual scope f cd A outer s H E) body) ((.st :: .sc is :: l) ++ List.replicate (N.length - ps.length) .un) (pR P')) : Fn P w K mg base (k + 1) x (SpM K T ms G) := by
  refine ⟨f, fd, ps, fun_ok F S (fun vs H Q E hsp => ?_) (fun cd A outer s H vs Q E hcd hr hsp => ?_), hm, F.kp, hb⟩
  · obtain ⟨M, S, sa, sc, is, rest, ds, P', _, _, e, hl', _⟩ := hsp
    rw [e, List.length_cons, List.length_cons, hl', hl]
  · obtain ⟨M, S', sa, sc, is, rest, ds, P', eT, g, e, hl', ma, va, qc, b, gg, q⟩ := hsp
    subst e
    obtain ⟨l, ha, hbody⟩ := h ds P' gg
    have hN : (V.ref sa :: .ref sc :: rest).length = ps.length := by rw [List.length_cons, List.length_cons, hl', hl]
    refine ⟨_, PSs.nox star_pss, ?_⟩
    unfold L2.start
    rw [hN]
    exact hbody cd A outer s H E M is hcd hr eT S' H _ S' H (St0.startM g ma va qc ha b _) _ (fun _ _ _ _ z => z.elim) (fun d v S2 H2 p r t => q d v S2 H2 p r t) (fun _ _ _ _ z => z.elim) (fun _ _ _ _ z => z.elim)
/-! ### the state, the script -/
theorem Step.vol {M : Mm} {S H : Hp} (g : Gd M S H) {a : Addr} (m : M a) (v : Vk (H a)) (i j : Int) : Step M S H S (upd H a (.lst [.int i, .int j])) where
  ss := fun _ _ e => e
  sh := fun b o e => by rw [upd_ne (ne_of_none e (g.vol a m).2)]; exact g.sub b o e
  ext := fun b o e n _ => by
    have z : b ≠ a := fun z => by subst z; exact n m
    rw [upd_ne z]; exact e
  tb := fun b ps e t => by
    obtain ⟨x, y, e2⟩ := v
    have z : b ≠ a := fun z => by subst z; rw [e] at e2; cases e2
    exact ⟨ps, by rw [upd_ne z]; exact e, t⟩
  cap := fun _ e _ => e
  vk := fun b _ vb => by
    by_cases z : b = a
    · subst z; exact ⟨i, j, upd_same⟩
    · rw [upd_ne z]; exact vb
  keep := fun b n => by
    by_cases z : b = a
    · subst z; rw [upd_same]; exact fun q => nomatch q
    · rw [upd_ne z]; exact n
section
variable {X : Cx} {M : Mm} {env : List Sl} {pos pn : Pos} {nm : Str} {e : Expr}
theorem NE.stIx {k : Int} {j : Nat} {p2 : Pos} (i : Nat) (hi : env[i]? = some .st) (hk2 : k = 0 ∨ k = 1) (hN : X.N[i]? = some nm) (hv : Vis X.env.scope nm) (hk : OkN nm) (hs : PlainIx (.Constant (.int k) j p2)) : NE X M (.Subscript (.Name nm pn) (.Constant (.int k) j p2) pos) env N.any := .mk fun _ =>
  EV.of (pe_ix ix_list (pe_var hN hv hk.d hk.c) pe_int hs) fun S0 H0 σ S H st Q q => by
    obtain ⟨O, _, _, sl⟩ := st.own
    obtain ⟨sa, e1, m1, x, y, hx⟩ := sl i _ hi
    refine ⟨.ref sa, e1, ?_⟩
    rcases hk2 with rfl | rfl
    · exact ⟨sa, _, 0, .int x, rfl, rfl, sql_of hx, rfl, q _ _ S H ⟨x, trivial, rfl⟩ (.int x) (Step.refl st.gd.sub)⟩
    · exact ⟨sa, _, 1, .int y, rfl, rfl, sql_of hx, rfl, q _ _ S H ⟨y, trivial, rfl⟩ (.int y) (Step.refl st.gd.sub)⟩
theorem NS.stSet {k : Int} {j : Nat} {p2 pos' : Pos} {m : N Int} (i : Nat) {E : Unit → List Sl} (hi : env[i]? = some .st) (hk2 : k = 0 ∨ k = 1) (hN : X.N[i]? = some nm) (hv : Vis X.env.scope nm) (hk : OkN nm) (h : NE X M e env m) (hE : E () = env)
    (ha : ∀ v, assign (.Subscript (.Name nm pn) (.Constant (.int k) j p2) pos') X.env v = (do
      let ov ← holding [v] (eval (.Name nm pn) X.env)
      let iv ← holding [v, ov] (eval (.Constant (.int k) j p2) X.env)
      standAt pos'
      holding [v, ov, iv] (setItem ov iv v)
      release [v, ov, iv] []) := by intro _; rfl) (hs : swapsWithSole [.Subscript (.Name nm pn) (.Constant (.int k) j p2) pos'] e pos.line X.env = pure false := by rfl) (hw : swappedStores [.Subscript (.Name nm pn) (.Constant (.int k) j p2) pos'] e X.env = pure none := by rfl)
    (h1 : (assignEach [.Subscript (.Name nm pn) (.Constant (.int k) j p2) pos'] X.env).map (·.2) = [assign (.Subscript (.Name nm pn) (.Constant (.int k) j p2) pos') X.env] := by rfl) :
    NS X M (.Assign [.Subscript (.Name nm pn) (.Constant (.int k) j p2) pos'] e pos) env E (⟨m.p, fun _ => True⟩ : N Unit) := .mk fun p =>
  RdS.ofS (ps_asg star_pe (pg_sub (pe_var hN hv hk.d hk.c) pe_int set_list ha) hs hw h1) fun S0 H0 σ S H st Dl q1 _ _ _ => by
    refine h.run p S0 H0 σ S H st _ fun d v S1 H1 ⟨x, sx, ed⟩ r t1 => ?_
    subst ed
    cases r
    obtain ⟨O, _, _, sl⟩ := (st.step t1).own
    obtain ⟨sa, e1, m1, v1⟩ := sl i _ hi
    obtain ⟨y, z, hy⟩ := id v1
    refine ⟨.ref sa, e1, ?_⟩
    rcases hk2 with rfl | rfl
    · refine ⟨sa, _, 0, 0, rfl, rfl, hy, rfl, q1 env σ S1 _ ⟨(), trivial, hE.symm⟩ ((st.step t1).step (Step.vol (st.step t1).gd m1 v1 x z)) t1.ss⟩
    · refine ⟨sa, _, 1, 1, rfl, rfl, hy, rfl, q1 env σ S1 _ ⟨(), trivial, hE.symm⟩ ((st.step t1).step (Step.vol (st.step t1).gd m1 v1 y x)) t1.ss⟩
theorem scVar {K : PySem.W.Frag} {S0 H0 S H : Hp} {σ : L2.St} {i : Nat} {is : List Int} (st : St0 K M S0 H0 S H env σ) (hi : env[i]? = some (.sc is)) : ∃ a, σ[i]? = some (some (.ref a)) ∧ ScOk K M H a is := by
  obtain ⟨O, _, _, sl⟩ := st.own
  obtain ⟨a, e1, q⟩ := sl i _ hi
  exact ⟨a, e1, q.step st.stp⟩
theorem RT.truSc {is : List Int} (i : Nat) (hi : env[i]? = some (.sc is)) (hN : X.N[i]? = some nm) (hv : Vis X.env.scope nm) (hk : OkN nm) (he : ∀ whole, isTrue (.Name nm pn) X.env whole = (do let v ← whole; standAt (Expr.Name nm pn).pos; holding [v] (truthy v))) : RT X M (.Name nm pn) env (R.pure (!is.isEmpty)) := .mk fun _ =>
  ET.of (pt_truth (pe_var hN hv hk.d hk.c) he) fun S0 H0 σ S H st Q q => by
    obtain ⟨a, e1, qa⟩ := scVar st hi
    refine ⟨.ref a, e1, !is.isEmpty, .inl ⟨_, qa.sql, ?_⟩, q _ S H rfl (Step.refl st.gd.sub)⟩
    cases is <;> rfl
theorem RE.lenSc {is : List Int} {p0 : Pos} (i : Nat) (hi : env[i]? = some (.sc is)) (hN : X.N[i]? = some nm) (hv : Vis X.env.scope nm) (hk : OkN nm) (hg : Gl X "len") (hm : X.mg "len" = none) (hs : starEach [.Name nm pn] X.env = (false, eval (.Name nm pn) X.env) :: starEach [] X.env := by rfl) (hpl : (backTo pos (starEach [] X.env)).any (·.1) = false := by rfl) :
    RE X M (.Call (.Name "len" p0) [.Name nm pn] [] pos) env (R.pure (is.length : Int)) := .mk fun _ =>
  EV.of (pe_callB call_len hg hm boot_len (pa_cons (pe_var hN hv hk.d hk.c) pa_nil hs) kb_len.n kb_len.d hs hpl) fun S0 H0 σ S H st Q q => by
    obtain ⟨a, e1, qa⟩ := scVar st hi
    exact ⟨.ref a, e1, _, is.length, rfl, .inl ⟨_, qa.sql, by simp⟩, q _ _ S H rfl (.int _) (Step.refl st.gd.sub)⟩
theorem NE.ixSc {is : List Int} {ei : Expr} {m : N Int} (i : Nat) (hi : env[i]? = some (.sc is)) (hN : X.N[i]? = some nm) (hv : Vis X.env.scope nm) (hk : OkN nm) (h : NB X M ei env m) (hs : PlainIx ei) : NE X M (.Subscript (.Name nm pn) ei pos) env (⟨m.p ∧ ∀ k, m.S k → 0 ≤ k ∧ k < is.length, fun _ => True⟩ : N Int) := .mk fun p =>
  EV.of (pe_ix ix_list (pe_var hN hv hk.d hk.c) star_pe hs) fun S0 H0 σ S H st Q q => by
    obtain ⟨a, e1, qa⟩ := scVar st hi
    refine ⟨.ref a, e1, ?_⟩
    refine h.run p.1 S0 H0 σ S H st _ fun d v S1 H1 ⟨k, sk, ed⟩ r t1 => ?_
    subst ed
    obtain ⟨h0, h1⟩ := p.2 k sk
    have hl : k.toNat < is.length := by omega
    refine ⟨a, _, k, .int is[k.toNat], rfl, r.int, (qa.step t1).sql, ?_, q _ _ S1 H1 ⟨_, trivial, rfl⟩ (.int _) t1⟩
    unfold atI ixN
    rw [if_pos h0, if_pos (by simp; omega)]
    simp [hl]
end
/-! ### _law_refill -/
def SpR (K : PySem.W.Frag) (T : Addr → Prop) : Sp := fun vs H Q _ =>
  ∃ (M : Mm) (S : Hp) (sc : Addr) (is : List Int) (k : Int), M.t = T ∧ Gd M S H ∧ vs = [.ref sc, .int k] ∧ ScOk K M H sc is ∧ ∀ (i : Int) S' H', Step M S H S' H' → Q (.int i) H'
theorem Fn.ofR {T : Addr → Prop} {P : Program} {w : World} {K : PySem.W.Frag} {mg : Str → Option Value} {base : Heap} {x qual : Str} {params : Arguments} {body : List Stmt} {scope : Scope} {f : Addr} {fd : FuncData} {N ps : List Str} {k : Nat}
    (F : FunD K x qual params body scope [] [] f fd) (S : FnScope N ps scope) (hm : mg x = some (.ref f)) (hb : Binds K fd ps []) (hl : ps.length = 2)
    (h : ∀ (cd : Value) (A : Around) (outer : List Env) (s : Shared) (H : Hp) (E : XK) (M : Mm) (is : List Int) (k0 : Int), Room k (A.deeper (envOfC qual scope s.heap.objs.size f cd)) →
      RdS K M (starB (cxF P w K mg base N qual scope f cd A outer s H E) body) ([.sc is, .im (.int k0)] ++ List.replicate (N.length - ps.length) .un) (pR fun d => ∃ i, d = .int i)) : Fn P w K mg base (k + 1) x (SpR K T) := by
  refine ⟨f, fd, ps, fun_ok F S (fun vs H Q E hsp => ?_) (fun cd A outer s H vs Q E hcd hr hsp => ?_), hm, F.kp, hb⟩
  · obtain ⟨M, S, sc, is, k0, _, _, e, _⟩ := hsp
    rw [e, hl]; rfl
  · obtain ⟨M, S', sc, is, k0, eT, g, e, qc, q⟩ := hsp
    subst e
    refine ⟨_, PSs.nox star_pss, ?_⟩
    unfold L2.start
    have hN : ([V.ref sc, .int k0] : List V).length = ps.length := by rw [hl]; rfl
    rw [hN]
    refine h cd A outer s H E M is k0 hr S' H _ S' H ⟨by simp, Step.refl g.sub, g, fun _ => [], (fun _ _ _ z => nomatch z), (fun _ _ z => nomatch z), fun i s e => ?_⟩ _ (fun _ _ _ _ z => z.elim) (fun d v S2 H2 ⟨i, ei⟩ r t => by subst ei; cases r; exact q i S2 H2 t) (fun _ _ _ _ z => z.elim) (fun _ _ _ _ z => z.elim)
    match i with
    | 0 => simp at e; subst e; exact ⟨sc, rfl, qc⟩
    | 1 => simp at e; subst e; exact ⟨.int k0, rfl, .int k0⟩
    | i + 2 =>
      have e' : (List.replicate (N.length - ps.length) Sl.un)[i]? = some s := by simpa using e
      have := List.mem_of_getElem? e'
      rw [List.mem_replicate] at this
      rw [this.2]
      trivial
theorem NE.refill {X : Cx} {M : Mm} {env : List Sl} {pos p p1 : Pos} {nm na : Str} {is : List Int} {k j : Nat} {e0 : Expr} {m0 : N Int} (i1 : Nat) (c : Fn X.prog X.w X.K X.mg X.base k nm (SpR X.K M.t)) (hr : Room j X.A) (hk : k ≤ j) (hg : Gl X nm)
    (h1 : env[i1]? = some (.sc is)) (hN1 : X.N[i1]? = some na) (hv1 : Vis X.env.scope na) (hk1 : OkN na) (h : NE X M e0 env m0)
    (hn : OkN nm) (he : starEach (.Name na p1 :: [e0]) X.env = (false, eval (.Name na p1) X.env) :: starEach [e0] X.env := by rfl) (he2 : starEach (e0 :: []) X.env = (false, eval e0 X.env) :: starEach [] X.env := by rfl) (hpl : (backTo pos (starEach [e0] X.env)).any (·.1) = false := by rfl) :
    NE X M (.Call (.Name nm p) [.Name na p1, e0] [] pos) env (⟨m0.p, fun _ => True⟩ : N Int) := .mk fun p =>
  EV.of (pe_fn c hr hk hg (pa_cons (pe_var hN1 hv1 hk1.d hk1.c) (pa_cons star_pe pa_nil he2) he) hn he hpl) fun S0 H0 σ S H st Q q => by
    obtain ⟨a, e1, qa⟩ := scVar st h1
    refine ⟨.ref a, e1, ?_⟩
    refine h.run p S0 H0 σ S H st _ fun d v S1 H1 ⟨x, sx, ed⟩ r t1 => ?_
    subst ed
    cases r
    exact ⟨M, S1, a, is, x, rfl, (st.step t1).gd, rfl, qa.step t1, fun i S' H' t => q (rep i) _ S' H' ⟨i, trivial, rfl⟩ (.int i) (t1.trans t)⟩
/-! ### the law -/
def SpL (K : PySem.W.Frag) (T : Addr → Prop) : Sp := fun vs H Q _ => ∃ (a : Addr) (is : List Int), vs = [.ref a] ∧ SqL K H a (is.map V.int) ∧ (∀ p, T p → TbG H p) ∧ ∀ H', Q (.bl true) H'
theorem Fn.law {T : Addr → Prop} {P : Program} {w : World} {K : PySem.W.Frag} {mg : Str → Option Value} {base : Heap} {x qual : Str} {params : Arguments} {rest : List Stmt} {scope : Scope} {f : Addr} {fd : FuncData} {N ps : List Str} {k : Nat} {p1 p2 p3 p4 p5 : Pos} {j1 j2 : Nat}
    (F : FunD K x qual params (.Assign [.Name "state" p1] (.List [.Constant (.int 0) j1 p2, .Constant (.int 0) j2 p3] p4) p5 :: rest) scope [] [] f fd) (S : FnScope N ps scope) (hl : ps.length = 1) (hN : N[1]? = some (Str.ofString "state")) (hx : Loc scope "state") (hln : 2 ≤ N.length)
    (hs : ∀ env : Env, env.scope = scope → swapsWith (.List [.Constant (.int 0) j1 p2, .Constant (.int 0) j2 p3] p4) (some (.Name "state" p1)) p5.line env = pure false)
    (hst : ∀ env : Env, starEach [.Constant (.int 0) j1 p2, .Constant (.int 0) j2 p3] env = (false, eval (.Constant (.int 0) j1 p2) env) :: starEach [.Constant (.int 0) j2 p3] env) (hst2 : ∀ env : Env, starEach [.Constant (.int 0) j2 p3] env = (false, eval (.Constant (.int 0) j2 p3) env) :: starEach [] env)
    (h : ∀ (cd : Value) (A : Around) (outer : List Env) (s : Shared) (H : Hp) (E : XK) (M : Mm) (is : List Int), fd.code = cd → Room k (A.deeper (envOfC qual scope s.heap.objs.size f cd)) → M.t = T →
      RdS K M (starB (cxF P w K mg base N qual scope f cd A outer s H E) rest) (.sc is :: .st :: List.replicate (N.length - 2) .un) (pR (· = .bool true))) : FnOk P w K mg base CX0 (k + 1) f fd ps (SpL K T) := by
  refine fun_ok F S (fun vs H Q E hsp => ?_) (fun cd A outer s H vs Q E hcd hr hsp => ?_)
  · obtain ⟨a, is, e, _⟩ := hsp
    rw [e, hl]; rfl
  · obtain ⟨a, is, e, qa, hT, q⟩ := hsp
    subst e
    refine ⟨_, PSs.nox (pss_cons (ps_set (i := 1) (X := cxF P w K mg base N qual scope f cd A outer s H E) S.nd hN hx (pe_lst (pa_cons pe_int (pa_cons pe_int pa_nil (hst2 _)) (hst _))) (hs _ rfl) (.inl rfl)) star_pss), ?_⟩
    refine ⟨by show 2 ≤ sizeLine; decide, fun p hp => ?_⟩
    have tn : ∀ P, T P → P ≠ p := fun P t => by
      obtain ⟨ps, e, _⟩ := hT P t
      exact ne_of_none e hp
    have e1 : (L2.start N [V.ref a]).set 1 (some (.ref p)) = some (.ref a) :: some (.ref p) :: List.replicate (N.length - 2) none := by
      unfold L2.start
      obtain ⟨n, hn⟩ : ∃ n, N.length = n + 2 := ⟨N.length - 2, by omega⟩
      have e2 : N.length - [V.ref a].length = n + 1 := by rw [hn]; rfl
      have e3 : N.length - 2 = n := by omega
      rw [e2, e3]
      rfl
    show starB _ rest _ ((L2.start N [V.ref a]).set 1 (some (.ref p))) _
    rw [e1]
    refine h cd A outer s H E ⟨(· = p), T⟩ is hcd hr rfl (fun _ => none) (upd H p (.lst [.int 0, .int 0])) _ (fun _ => none) _ ⟨by simp, Step.refl (fun _ _ z => nomatch z), ⟨(fun _ _ z => nomatch z), fun b hb => ?_, fun P t => ?_⟩, fun _ => [], (fun _ _ _ z => nomatch z), (fun _ _ z => nomatch z), fun i s e => ?_⟩ _ (fun _ _ _ _ z => z.elim) (fun d v S2 H2 ed r t => by subst ed; cases r; exact q H2) (fun _ _ _ _ z => z.elim) (fun _ _ _ _ z => z.elim)
    · have hb : b = p := hb
      subst hb
      exact ⟨by rw [upd_same]; exact (fun z => nomatch z), rfl⟩
    · obtain ⟨ps, e, ok⟩ := hT P t
      exact ⟨⟨ps, by rw [upd_ne (tn P t)]; exact e, ok⟩, rfl⟩
    · match i with
      | 0 =>
        simp at e; subst e
        refine ⟨a, rfl, ?_⟩
        rcases qa with r | qa
        · refine .inl ⟨?_, ?_⟩
          · rcases r with r | ⟨o, r⟩
            · exact .inl (by rw [upd_ne (ne_of_none r hp)]; exact r)
            · exact .inr ⟨o, by rw [upd_ne (ne_of_none r hp)]; exact r⟩
          · intro z
            have z : a = p := z
            subst z
            rcases r with r | ⟨o, r⟩ <;> rw [hp] at r <;> cases r
        · exact .inr fun H' => .inr qa
      | 1 => simp at e; subst e; exact ⟨p, rfl, rfl, 0, 0, upd_same⟩
      | i + 2 =>
        have e' : (List.replicate (N.length - 2) Sl.un)[i]? = some s := by simpa using e
        have := List.mem_of_getElem? e'
        rw [List.mem_replicate] at this
        rw [this.2]
        trivial
end FP
namespace FP
open PySem PySem.Spec PyProof.Rows L2
open Rep (rep)
/-! ### data as such: for _law_exact -/
def tyD : D → String
  | .none => "NoneType"
  | .bool _ => "bool"
  | .int _ => "int"
  | .str _ => "str"
  | .list _ => "list"
  | .tuple _ => "tuple"
  | .dict _ => "dict"
def isi1 (d : D) (n : String) : Bool := match d, n with
  | .bool _, "bool" => true
  | .bool _, "int" => true
  | .int _, "int" => true
  | .str _, "str" => true
  | .list _, "list" => true
  | .tuple _, "tuple" => true
  | _, _ => false
def isSq (d : D) : Bool := match d with
  | .list _ => true
  | .tuple _ => true
  | _ => false
def itemsD : D → List D
  | .list ds => ds
  | .tuple ds => ds
  | _ => []
theorem Den.tyx {K : PySem.W.Frag} {S H : Hp} (sb : Sub S H) {d : D} {v : V} (b : Den K S d v) : TyX K H v (.type (tyD d)) ∧ ∀ kvs, d ≠ .dict kvs := by
  cases b with
  | non => exact ⟨.base .non, fun _ z => nomatch z⟩
  | bl b => exact ⟨.base (.bl b), fun _ z => nomatch z⟩
  | int i => exact ⟨.base (.int i), fun _ z => nomatch z⟩
  | str s => exact ⟨.base (.str s), fun _ z => nomatch z⟩
  | lst e r => exact ⟨.base (.lst (sb _ _ e)), fun _ z => nomatch z⟩
  | tup e r =>
    refine ⟨?_, fun _ z => nomatch z⟩
    rcases sub_sqt sb e.sqt with (e | ⟨o, e⟩) | ⟨o, its, n, hk, hc, _⟩
    · exact .base (.tup e)
    · exact .fTuple e
    · exact .kTuple hk hc
section
variable {X : Cx} {M : Mm} {env : List Sl} {pos p0 p1 tp : Pos} {e a : Expr} {es : List Expr} {nm : Str}
theorem isi_kit (K : PySem.W.Frag) (d : D) (hd : ∀ kvs, d ≠ .dict kvs) {n : String} (hn : n = "list" ∨ n = "tuple" ∨ n = "str" ∨ n = "bool" ∨ n = "int") : PySem.W.kitOne K (.type (tyD d)) (.type n) = some (isi1 d n) := by
  rcases hn with rfl | rfl | rfl | rfl | rfl <;> cases d <;> first | rfl | exact absurd rfl (hd _)
/-- isinstance(e, T) -/
theorem RE.isi1 {n : String} {m : R D} (hn : n = "list" ∨ n = "tuple" ∨ n = "str" ∨ n = "bool" ∨ n = "int") (hg : Gl X "isinstance") (hm : X.mg "isinstance" = none) (hgn : Gl X nm) (hmn : X.mg nm = none) (hv : bootBuiltins nm = some (.type n)) (hk : OkN nm) (h : RE X M e env m)
    (hs : starEach [e, .Name nm p1] X.env = (false, eval e X.env) :: starEach [.Name nm p1] X.env := by rfl) (hs2 : starEach [.Name nm p1] X.env = (false, eval (.Name nm p1) X.env) :: starEach [] X.env := by rfl) (hpl : (backTo pos (starEach [.Name nm p1] X.env)).any (·.1) = false := by rfl) :
    RE X M (.Call (.Name "isinstance" p0) [e, .Name nm p1] [] pos) env (R.o1 T1 (fun d => FP.isi1 d n) m) := .mk fun p =>
  EV.of (pe_callB call_isi hg hm PyProof.Rows.boot_isinstance (pa_cons star_pe (pa_cons (pe_bltn hgn hmn hv (v := .ty n) rfl hk.n hk.d) pa_nil hs2) hs) (by decide) (by decide) hs hpl) fun S0 H0 σ S H st Q q => by
    refine h.run p.1 S0 H0 σ S H st _ fun d v S1 H1 ed r t1 => ?_
    subst ed
    obtain ⟨ty, nd⟩ := Den.tyx (st.step t1).gd.sub r
    exact ⟨v, .ty n, _, _, _, rfl, .ty n, ty, isi_kit X.K m.v nd hn, q _ _ S1 H1 rfl (.bl _) t1⟩
/-- isinstance(e, (list, tuple)) -/
theorem RE.isi2 {m : R D} {k : Nat} {p2 : Pos} (hg : Gl X "isinstance") (hm : X.mg "isinstance" = none) (hg1 : Gl X "list") (hm1 : X.mg "list" = none) (hg2 : Gl X "tuple") (hm2 : X.mg "tuple" = none) (h : RE X M e env m)
    (hs : starEach [e, .Tuple [.Name "list" p1, .Name "tuple" p2] k tp] X.env = (false, eval e X.env) :: starEach [.Tuple [.Name "list" p1, .Name "tuple" p2] k tp] X.env := by rfl) (hs2 : starEach [.Tuple [.Name "list" p1, .Name "tuple" p2] k tp] X.env = (false, eval (.Tuple [.Name "list" p1, .Name "tuple" p2] k tp) X.env) :: starEach [] X.env := by rfl)
    (hs3 : starEach [.Name "list" p1, .Name "tuple" p2] X.env = (false, eval (.Name "list" p1) X.env) :: starEach [.Name "tuple" p2] X.env := by rfl) (hs4 : starEach [.Name "tuple" p2] X.env = (false, eval (.Name "tuple" p2) X.env) :: starEach [] X.env := by rfl) (hpl : (backTo pos (starEach [.Tuple [.Name "list" p1, .Name "tuple" p2] k tp] X.env)).any (·.1) = false := by rfl) :
    RE X M (.Call (.Name "isinstance" p0) [e, .Tuple [.Name "list" p1, .Name "tuple" p2] k tp] [] pos) env (R.o1 T1 isSq m) := .mk fun p =>
  EV.of (pe_callB call_isiT hg hm PyProof.Rows.boot_isinstance (pa_cons star_pe (pa_cons (pe_tup (pa_cons (pe_bltn hg1 hm1 bb_list (v := .ty "list") rfl kb_list.n kb_list.d) (pa_cons (pe_bltn hg2 hm2 bb_tuple (v := .ty "tuple") rfl kb_tuple.n kb_tuple.d) pa_nil hs4) hs3)) pa_nil hs2) hs) (by decide) (by decide) hs hpl) fun S0 H0 σ S H st Q q => by
    refine h.run p.1 S0 H0 σ S H st _ fun d v S1 H1 ed r t1 => ?_
    subst ed
    refine ⟨by show 2 ≤ sizeLine; decide, fun tp htp => ?_⟩
    have g1 := (st.step t1).gd
    have t2 := Step.new g1 (.tup [.ty "list", .ty "tuple"]) htp
    obtain ⟨ty, nd⟩ := Den.tyx ((st.step t1).step t2).gd.sub r
    refine ⟨v, tp, _, _, [.type "list", .type "tuple"], isSq m.v, rfl, upd_same, .cons (.ty "list") (.cons (.ty "tuple") .nil), ty, ?_, q _ _ _ _ rfl (.bl _) (t1.trans t2)⟩
    unfold PySem.W.kitAny
    rw [isi_kit X.K (rep m.v) nd (.inl rfl)]
    have nd : ∀ kvs, m.v ≠ .dict kvs := nd
    show (match some (FP.isi1 m.v "list") with | some true => some true | some false => PySem.W.kitAny X.K (.type (tyD m.v)) [.type "tuple"] | none => none) = some (isSq m.v)
    cases hd : m.v <;> first | rfl | exact absurd hd (nd _)
/-- len, x[k] -/
theorem b_lenD : Cb1 X M (.builtin "len") (fun d : D => isSq d = true) (fun d : D => ((itemsD d).length : Int)) := ⟨_, call_len, fun d hd S H vs g b Q q => by
  obtain ⟨v, rfl, c⟩ := one_of b
  cases d with
  | list ds =>
    obtain ⟨a, us, rfl, e1, _, r⟩ := Bor.lst (ds := ds) g c
    have hl := r.length
    exact ⟨_, us.length, rfl, .inl ⟨us, sql_of e1, rfl⟩, q _ _ S H rfl (by rw [← hl]; exact .int _) (Step.refl g.sub)⟩
  | tuple ds =>
    obtain ⟨a, us, rfl, e1, r⟩ := Bor.tup (ds := ds) g c
    have hl := r.length
    exact ⟨_, us.length, rfl, .inr ⟨us, sub_sqt g.sub e1, rfl⟩, q _ _ S H rfl (by rw [← hl]; exact .int _) (Step.refl g.sub)⟩
  | _ => cases hd⟩
theorem ix_or : IxR X (fun x y H Q => rIxL X.K x y H Q ∨ rIxT X.K x y H Q) := by
  intro va sl pins s σ H x y v u Q I rx ry h hs
  rcases h with h | h
  · exact ix_list va sl pins s σ H x y v u Q I rx ry h hs
  · exact ix_tup va sl pins s σ H x y v u Q I rx ry h hs
instance : Inhabited D := ⟨.none⟩
theorem x_D : Ix2 X M (fun (d : D) (i : Int) => isSq d = true ∧ 0 ≤ i ∧ i < (itemsD d).length) (fun d i => nth (itemsD d) i) := ⟨_, ix_or, fun d i h S H x y g bx bY Q q => by
  obtain ⟨hd, h0, h1⟩ := h
  have hN : ∀ n : Nat, i < (n : Int) → ixN n i = some i.toNat := fun n hn => by unfold ixN; rw [if_pos h0, if_pos hn]
  cases d with
  | list ds =>
    obtain ⟨a, vs, rfl, e1, _, r⟩ := Bor.lst (ds := ds) g bx
    have h1 : i < (ds.length : Int) := h1
    have hj : i.toNat < ds.length := by omega
    obtain ⟨v, hv, rv⟩ := r.get (i := i.toNat) (d := nth ds i) (by unfold nth; rw [if_pos h0]; simp [List.getD, List.getElem?_eq_getElem hj])
    refine .inl ⟨a, vs, i, v, rfl, bY.int, sql_of e1, ?_, q _ v S H rfl rv (Step.refl g.sub)⟩
    unfold atI
    rw [hN _ (by rw [← r.length]; exact h1)]
    exact hv
  | tuple ds =>
    obtain ⟨a, vs, rfl, e1, r⟩ := Bor.tup (ds := ds) g bx
    have h1 : i < (ds.length : Int) := h1
    have hj : i.toNat < ds.length := by omega
    obtain ⟨v, hv, rv⟩ := r.get (i := i.toNat) (d := nth ds i) (by unfold nth; rw [if_pos h0]; simp [List.getD, List.getElem?_eq_getElem hj])
    refine .inr ⟨a, vs, i, v, rfl, bY.int, sub_sqt g.sub e1, ?_, q _ v S H rfl rv (Step.refl g.sub)⟩
    unfold atI
    rw [hN _ (by rw [← r.length]; exact h1)]
    exact hv
  | _ => cases hd⟩
def isNn (d : D) : Bool := match d with
  | .none => true
  | _ => false
theorem c_isND : Cm2 X M .Is T2 (fun (x : D) (_ : Option Unit) => isNn x) := ⟨_, op_isN, fun i j _ S H x y g bx bY Q q => by
  have ey : y = .non := by
    have bY' : Bor X.K M S H .none y := by cases j <;> exact bY
    rcases bY' with b | ⟨a, ds, vs, e1, _⟩
    · cases b; rfl
    · cases e1
  refine ⟨ey, ?_⟩
  have bx : Bor X.K M S H i x := bx
  have e : decide (x = .non) = isNn i := by
    rcases bx with b | ⟨a, ds, vs, rfl, e1, _⟩
    · cases b <;> first | rfl | exact decide_eq_false (fun z => nomatch z)
    · rw [e1]; rfl
  rw [e]
  exact q _ _ S H rfl (.bl _) (Step.refl g.sub)⟩
theorem c_eqD {k : Nat} (hr : Room k X.A) : Cm2 X M .Eq (fun x y : D => SeqAt.shaped x = true ∧ SeqAt.shaped y = true) (fun x y : D => PyData.eqv x y) := ⟨_, op_eqD (Room.units hr), fun i j h S H x y g bx bY Q q =>
  ⟨i, j, bx.dp g, bY.dp g, h.1, h.2, q _ _ S H rfl (.bl _) (Step.refl g.sub)⟩⟩
end
/-! ### its promise -/
open Classical in
noncomputable def exB (x y : D) : Bool := decide (x = y)
mutual
def smD : PyData → Bool
  | .list xs => decide (xs.length ≤ 100000) && smAll xs
  | .tuple xs => decide (xs.length ≤ 100000) && smAll xs
  | _ => true
def smAll : List PyData → Bool
  | [] => true
  | x :: xs => smD x && smAll xs
end
theorem smAll_iff (l : List PyData) : smAll l = true ↔ ∀ x ∈ l, smD x = true := by
  induction l with
  | nil => simp [smAll]
  | cons a l ih => simp [smAll, ih]
noncomputable def exF (k : Nat) (x y : D) : R Bool := ⟨x.depth < k ∧ SeqAt.shaped x = true ∧ SeqAt.shaped y = true ∧ smD x = true, exB x y⟩
theorem Fn.bot {T : Addr → Prop} {P : Program} {w : World} {K : PySem.W.Frag} {mg : Str → Option Value} {base : Heap} {x : Str} {f : Addr} {fd : FuncData} {ps : List Str} (hm : mg x = some (.ref f)) (kp : PySem.W.keepIn K (.ref f) = true) (hb : Binds K fd ps []) : Fn P w K mg base 0 x (SpD K T [true, true] (G2 (exF 0))) :=
  ⟨f, fd, ps, ⟨fun vs H Q E ⟨S, ds, P', _, _, _, ⟨x0, x1, _, h, _⟩, _⟩ => absurd h.1 (Nat.not_lt_zero _), fun A outer s H args us vs Q E hr e0 hb r ⟨S, ds, P', _, _, _, ⟨x0, x1, _, h, _⟩, _⟩ => absurd h.1 (Nat.not_lt_zero _)⟩, hm, kp, hb⟩
theorem Fn.mono {P : Program} {w : World} {K : PySem.W.Frag} {mg : Str → Option Value} {base : Heap} {k : Nat} {x : Str} {T : Addr → Prop} {ms : List Bool} {G G' : List D → (D → Prop) → Prop} (h : Fn P w K mg base k x (SpD K T ms G)) (i : ∀ ds P', G' ds P' → G ds P') : Fn P w K mg base k x (SpD K T ms G') := by
  obtain ⟨f, fd, ps, F, hm, kp, hb⟩ := h.ex
  refine ⟨f, fd, ps, ⟨fun vs H Q E ⟨S, ds, P', a, b, c, g, d⟩ => F.len vs H Q E ⟨S, ds, P', a, b, c, i _ _ g, d⟩, fun A outer s H args us vs Q E hr e0 hb r ⟨S, ds, P', a, b, c, g, d⟩ => F.run A outer s H args us vs Q E hr e0 hb r ⟨S, ds, P', a, b, c, i _ _ g, d⟩⟩, hm, kp, hb⟩
/-- what tells its values apart -/
class PX (α : Type) [Rep α] where
  inj : ∀ x y : α, rep x = rep y → x = y
  lay : ∀ x : α, PyData.canLay0 (rep x) = true
  dp : Nat
  hdp : ∀ x : α, (rep x : D).depth ≤ dp
section
variable {α β γ δ : Type} [Rep α] [Rep β] [Rep γ] [Rep δ]
theorem injAll {l k : List α} (h : ∀ x y : α, rep x = rep y → x = y) (e : l.map rep = k.map rep) : l = k := by
  induction l generalizing k with
  | nil => cases k with
    | nil => rfl
    | cons y k => cases e
  | cons x l ih => cases k with
    | nil => cases e
    | cons y k =>
      simp only [List.map_cons, List.cons.injEq] at e
      rw [h x y e.1, ih e.2]
instance : PX Int := ⟨fun x y e => by cases e; rfl, fun _ => rfl, 0, fun _ => Nat.le_refl _⟩
instance : PX Bool := ⟨fun x y e => by cases e; rfl, fun _ => rfl, 0, fun _ => Nat.le_refl _⟩
instance [PX α] : PX (List α) := ⟨fun x y e => by
  have e' : PyData.list (x.map rep) = PyData.list (y.map rep) := e
  injection e' with e'
  exact injAll PX.inj e', fun x => layAll_map PX.lay, PX.dp α + 1, fun x => Nat.succ_le_succ (depAll_map PX.hdp)⟩
instance [PX α] : PX (Tu α) := ⟨fun x y e => by
  have e' : PyData.tuple (x.l.map rep) = PyData.tuple (y.l.map rep) := e
  injection e' with e'
  obtain ⟨a⟩ := x
  obtain ⟨a'⟩ := y
  exact congrArg Tu.mk (injAll PX.inj e'), fun x => layAll_map PX.lay, PX.dp α + 1, fun x => Nat.succ_le_succ (depAll_map PX.hdp)⟩
instance [PX α] [PX β] : PX (α × β) := ⟨fun x y e => by
  have e' : PyData.tuple [rep x.1, rep x.2] = PyData.tuple [rep y.1, rep y.2] := e
  injection e' with e'
  injection e' with e1 e2
  injection e2 with e2 _
  exact Prod.ext (PX.inj _ _ e1) (PX.inj _ _ e2), fun x => by
  show PyData.canLayAll0 [rep x.1, rep x.2] = true
  simp [PyData.canLayAll0, PX.lay], max (PX.dp α) (PX.dp β) + 1, fun x => by
  show PyData.depthAll [rep x.1, rep x.2] + 1 ≤ _
  have h1 := PX.hdp x.1
  have h2 := PX.hdp x.2
  simp only [PyData.depthAll]; omega⟩
instance [PX α] [PX β] [PX γ] : PX (T3 α β γ) := ⟨fun x y e => by
  have e' : PyData.tuple [rep x.a, rep x.b, rep x.c] = PyData.tuple [rep y.a, rep y.b, rep y.c] := e
  injection e' with e'
  injection e' with e1 e2
  injection e2 with e2 e3
  injection e3 with e3 _
  exact congr (congr (congrArg T3.mk (PX.inj _ _ e1)) (PX.inj _ _ e2)) (PX.inj _ _ e3), fun x => by
  show PyData.canLayAll0 [rep x.a, rep x.b, rep x.c] = true
  simp [PyData.canLayAll0, PX.lay], max (PX.dp α) (max (PX.dp β) (PX.dp γ)) + 1, fun x => by
  show PyData.depthAll [rep x.a, rep x.b, rep x.c] + 1 ≤ _
  have h1 := PX.hdp x.a
  have h2 := PX.hdp x.b
  have h3 := PX.hdp x.c
  simp only [PyData.depthAll]; omega⟩
instance [PX α] [NN α] : PX (Option α) := ⟨fun x y e => by
  cases x with
  | none => cases y with
    | none => rfl
    | some y => exact absurd (show rep y = PyData.none from e.symm) (NN.ne y)
  | some x => cases y with
    | none => exact absurd (show rep x = PyData.none from e) (NN.ne x)
    | some y => rw [PX.inj x y e], fun x => by
  cases x with
  | none => rfl
  | some x => exact PX.lay x, PX.dp α, fun x => by
  cases x with
  | none => exact Nat.zero_le _
  | some x => exact PX.hdp x⟩
/-- [x, y], [x, y, z] of unlike kinds -/
structure H2 (α β : Type) where
  a : α
  b : β
deriving DecidableEq, Inhabited
structure H3 (α β γ : Type) where
  a : α
  b : β
  c : γ
deriving DecidableEq, Inhabited
instance : Rep (H2 α β) := ⟨fun t => .list [rep t.a, rep t.b]⟩
instance : Rep (H3 α β γ) := ⟨fun t => .list [rep t.a, rep t.b, rep t.c]⟩
instance [PX α] [PX β] : PX (H2 α β) := ⟨fun x y e => by
  have e' : PyData.list [rep x.a, rep x.b] = PyData.list [rep y.a, rep y.b] := e
  injection e' with e'
  injection e' with e1 e2
  injection e2 with e2 _
  exact congr (congrArg H2.mk (PX.inj _ _ e1)) (PX.inj _ _ e2), fun x => by
  show PyData.canLayAll0 [rep x.a, rep x.b] = true
  simp [PyData.canLayAll0, PX.lay], max (PX.dp α) (PX.dp β) + 1, fun x => by
  show PyData.depthAll [rep x.a, rep x.b] + 1 ≤ _
  have h1 := PX.hdp x.a
  have h2 := PX.hdp x.b
  simp only [PyData.depthAll]; omega⟩
instance [PX α] [PX β] [PX γ] : PX (H3 α β γ) := ⟨fun x y e => by
  have e' : PyData.list [rep x.a, rep x.b, rep x.c] = PyData.list [rep y.a, rep y.b, rep y.c] := e
  injection e' with e'
  injection e' with e1 e2
  injection e2 with e2 e3
  injection e3 with e3 _
  exact congr (congr (congrArg H3.mk (PX.inj _ _ e1)) (PX.inj _ _ e2)) (PX.inj _ _ e3), fun x => by
  show PyData.canLayAll0 [rep x.a, rep x.b, rep x.c] = true
  simp [PyData.canLayAll0, PX.lay], max (PX.dp α) (max (PX.dp β) (PX.dp γ)) + 1, fun x => by
  show PyData.depthAll [rep x.a, rep x.b, rep x.c] + 1 ≤ _
  have h1 := PX.hdp x.a
  have h2 := PX.hdp x.b
  have h3 := PX.hdp x.c
  simp only [PyData.depthAll]; omega⟩
def Sm {α : Type} [Rep α] (x : α) : Prop := smD (rep x) = true
@[simp] theorem sm_int (i : Int) : Sm i := rfl
@[simp] theorem sm_bool (i : Bool) : Sm i := rfl
@[simp] theorem sm_str (i : Str) : Sm i := rfl
theorem smAll_map (l : List α) : smAll (l.map rep) = true ↔ ∀ x ∈ l, Sm x := by
  rw [smAll_iff]
  constructor
  · exact fun h x hx => h _ (List.mem_map_of_mem hx)
  · intro h x hx
    obtain ⟨y, hy, rfl⟩ := List.mem_map.mp hx
    exact h y hy
@[simp] theorem sm_list (l : List α) : Sm l ↔ l.length ≤ 100000 ∧ ∀ x ∈ l, Sm x := by
  rw [← smAll_map]
  show smD (.list (l.map rep)) = true ↔ _
  simp [smD]
@[simp] theorem sm_tu (l : Tu α) : Sm l ↔ l.l.length ≤ 100000 ∧ ∀ x ∈ l.l, Sm x := by
  rw [← smAll_map]
  show smD (.tuple (l.l.map rep)) = true ↔ _
  simp [smD]
@[simp] theorem sm_pair (x : α × β) : Sm x ↔ Sm x.1 ∧ Sm x.2 := by
  show smD (.tuple [rep x.1, rep x.2]) = true ↔ _
  simp [smD, smAll, Sm]
@[simp] theorem sm_t3 (x : T3 α β γ) : Sm x ↔ Sm x.a ∧ Sm x.b ∧ Sm x.c := by
  show smD (.tuple [rep x.a, rep x.b, rep x.c]) = true ↔ _
  simp [smD, smAll, Sm]
@[simp] theorem sm_h2 (x : H2 α β) : Sm x ↔ Sm x.a ∧ Sm x.b := by
  show smD (.list [rep x.a, rep x.b]) = true ↔ _
  simp [smD, smAll, Sm]
@[simp] theorem sm_h3 (x : H3 α β γ) : Sm x ↔ Sm x.a ∧ Sm x.b ∧ Sm x.c := by
  show smD (.list [rep x.a, rep x.b, rep x.c]) = true ↔ _
  simp [smD, smAll, Sm]
@[simp] theorem sm_none [NN α] : Sm (none : Option α) := rfl
@[simp] theorem sm_some [NN α] (x : α) : Sm (some x) ↔ Sm x := Iff.rfl
@[simp] def exact {α : Type} [Rep α] [DecidableEq α] (x y : α) : R Bool := ⟨Sm x, decide (x = y)⟩
theorem Fn.exact [DecidableEq α] [PX α] {P : Program} {w : World} {K : PySem.W.Frag} {mg : Str → Option Value} {base : Heap} {k j : Nat} {x : Str} {T : Addr → Prop} (h : Fn P w K mg base k x (SpD K T [true, true] (G2 (exF j)))) (hj : PX.dp α < j) (h64 : PX.dp α ≤ 64) : Fn P w K mg base k x (SpD K T [true, true] (G2 (FP.exact (α := α)))) :=
  h.mono fun ds P' ⟨x, y, e, sm, p⟩ => ⟨rep x, rep y, e, ⟨Nat.lt_of_le_of_lt (PX.hdp x) hj, by
    unfold SeqAt.shaped
    rw [PX.lay x, Bool.true_and, decide_eq_true_eq]
    exact Nat.le_trans (PX.hdp x) h64, by
    unfold SeqAt.shaped
    rw [PX.lay y, Bool.true_and, decide_eq_true_eq]
    exact Nat.le_trans (PX.hdp y) h64, sm⟩, by
    have : exB (rep x) (rep y) = decide (x = y) := by
      unfold exB
      by_cases hxy : x = y
      · subst hxy; simp
      · rw [decide_eq_false hxy]
        exact @decide_eq_false _ (Classical.propDecidable _) (fun z => hxy (PX.inj x y z))
    show P' (.bool (exB (rep x) (rep y)))
    rw [this]
    exact p⟩
end
/-! ### what _law_exact needs -/
theorem canAll_iff (l : List PyData) : PyData.canLayAll0 l = true ↔ ∀ x ∈ l, PyData.canLay0 x = true := by
  induction l with
  | nil => simp [PyData.canLayAll0]
  | cons a l ih => simp [PyData.canLayAll0, ih]
theorem depAll_iff (l : List PyData) (k : Nat) : PyData.depthAll l ≤ k ↔ ∀ x ∈ l, x.depth ≤ k := by
  induction l with
  | nil => simp [PyData.depthAll]
  | cons a l ih => simp [PyData.depthAll, Nat.max_le, ih]
theorem nthD (l : List PyData) (i : Nat) (h : i < l.length) : nth l (i : Int) = l[i] := by
  unfold nth
  rw [if_pos (by omega)]
  simp [List.getD, List.getElem?_eq_getElem h]
open Classical in
theorem all_exB (xs ys : List PyData) (h : xs.length = ys.length) : (((rng 0 (xs.length : Int)).map fun i => exB (nth xs i) (nth ys i)).all id) = decide (xs = ys) := by
  rw [Bool.eq_iff_iff, decide_eq_true_eq, List.all_eq_true]
  constructor
  · intro hh
    apply List.ext_getElem h
    intro i h1 h2
    have := hh (exB (nth xs (i : Int)) (nth ys (i : Int))) (List.mem_map.mpr ⟨(i : Int), List.mem_map.mpr ⟨i, by simp [h1], by simp⟩, rfl⟩)
    rw [nthD _ _ h1, nthD _ _ h2] at this
    simpa [exB] using this
  · rintro rfl b hb
    obtain ⟨i, hi, rfl⟩ := List.mem_map.mp hb
    simp [exB]
section
variable {X : Cx} {M : Mm} {env : List Sl} {es : List Expr} {pos : Pos} {α β γ : Type} [Rep α] [Rep β] [Rep γ]
@[simp] def R.h2 {α β : Type} (m : R α) (n : R β) : R (H2 α β) := ⟨m.p ∧ n.p, ⟨m.v, n.v⟩⟩
@[simp] def R.h3 {α β γ : Type} (m : R α) (n : R β) (o : R γ) : R (H3 α β γ) := ⟨m.p ∧ n.p ∧ o.p, ⟨m.v, n.v, o.v⟩⟩
theorem RE.h2 {m : R α} {n : R β} (h : RA X M es env [true, true] (R.cons m (R.cons n R.nil))) : RE X M (.List es pos) env (R.h2 m n) := .mk fun p =>
  RdE.imp (RdF.e (EF.of (pe_lst star_pa) (RdF.lst (h ⟨p.1, p.2, trivial⟩) rfl fun ds e => by rw [e]; exact sz_of (by simp)))) fun d ⟨ds, e1, e2⟩ => by rw [e1, e2]; rfl
theorem RE.h3 {m : R α} {n : R β} {o : R γ} (h : RA X M es env [true, true, true] (R.cons m (R.cons n (R.cons o R.nil)))) : RE X M (.List es pos) env (R.h3 m n o) := .mk fun p =>
  RdE.imp (RdF.e (EF.of (pe_lst star_pa) (RdF.lst (h ⟨p.1, p.2.1, p.2.2, trivial⟩) rfl fun ds e => by rw [e]; exact sz_of (by simp)))) fun d ⟨ds, e1, e2⟩ => by rw [e1, e2]; rfl
end
end FP
namespace FP
open PySem PySem.Spec PyProof.Rows L2
open Rep (rep)
theorem kb_bool : OkN "bool" := ⟨by decide +kernel, by decide +kernel, by decide +kernel⟩
theorem bb_bool : bootBuiltins ("bool" : Str) = some (.type "bool") := by decide +kernel
@[simp] def m_draw (n : Int) : N Int := ⟨0 < n ∧ n < 1073741824, fun i => 0 ≤ i ∧ i < n⟩
end FP
namespace FP
open PySem PySem.Spec PyProof.Rows L2
open Rep (rep)
/-! ### x[i], x[j] = a, b -/
def RdGs (K : PySem.W.Frag) (M : Mm) (g : TG) (d : D) (env : List Sl) (P : List Sl → Prop) : Prop :=
  ∀ S0 H0 σ S H v, St0 K M S0 H0 S H env σ → Den K S d v → ∀ Q : L2.St → Hp → Prop,
    (∀ env' σ' S' H', P env' → St0 K M S0 H0 S' H' env' σ' → Sub S S' → Q σ' H') → g v σ H Q
section
variable {X : Cx} {M : Mm} {env : List Sl} {pos pn pos' : Pos} {nm : Str} {α : Type} [Rep α] {ei : Expr}
theorem RdGs.sub {n : R Int} {xs : List α} {y : α} (i : Nat) (hi : env[i]? = some (.ow (xs.map rep))) (hN : X.N[i]? = some nm) (hv : Vis X.env.scope nm) (hk : OkN nm) (h' : RB X M ei env n) (hp : n.p ∧ 0 ≤ n.v ∧ n.v < xs.length) :
    RdGs X.K M (gSub (tVar i) (star X ei) rSetL) (rep y) env (fun e => e = env.set i (.ow ((xs.set n.v.toNat y).map rep))) := fun S0 H0 σ S H v st dn Q q => by
  obtain ⟨a, vs, e1, _⟩ := st.mut hi
  refine ⟨.ref a, e1, ?_⟩
  refine h' hp.1 S0 H0 σ S H st _ fun d u S2 H2 ed r2 t2 => ?_
  subst ed
  have st2 := st.step t2
  obtain ⟨a', vs', e1', e2', rd', nm', ns', up⟩ := st2.mut hi
  rw [e1] at e1'
  cases e1'
  refine ⟨a, vs', n.v, n.v.toNat, rfl, r2.int, e2', ixN_of ⟨hp.2.1, ?_⟩, ?_⟩
  · have := rd'.length
    rw [List.length_map] at this
    rw [← this]
    exact hp.2.2
  · exact q _ σ S2 _ rfl (up (vs'.set n.v.toNat v) ((xs.set n.v.toNat y).map rep) (by rw [List.map_set]; exact rd'.set (dn.mon t2.ss) _)) t2.ss
@[simp] def R.set2 {α : Type} (xs : List α) (m : R (α × α)) (n1 : R Int) (n2 : List α → R Int) : R (List α) :=
  ⟨m.p ∧ (n1.p ∧ 0 ≤ n1.v ∧ n1.v < xs.length) ∧ ((n2 (xs.set n1.v.toNat m.v.1)).p ∧ 0 ≤ (n2 (xs.set n1.v.toNat m.v.1)).v ∧ (n2 (xs.set n1.v.toNat m.v.1)).v < xs.length), (xs.set n1.v.toNat m.v.1).set (n2 (xs.set n1.v.toNat m.v.1)).v.toNat m.v.2⟩
theorem SN.set2 {e e1 e2 : Expr} {k : Nat} {p1 p2 q1 q2 tp : Pos} {m : R (α × α)} {n1 : R Int} {n2 : List α → R Int} {xs : List α} (i : Nat) {E : List α → List Sl} (hi : env[i]? = some (.ow (xs.map rep))) (hE : ∀ v : List α, env.set i (.ow (v.map rep)) = E v) (hi2 : ∀ v : List α, (E v)[i]? = some (.ow (v.map rep))) (hE2 : ∀ v w : List α, (E v).set i (.ow (w.map rep)) = E w)
    (hc : X.calm = true) (hN : X.N[i]? = some nm) (hv : Vis X.env.scope nm) (hk : OkN nm) (h : RE X M e env m) (h1 : RB X M e1 env n1) (h2 : ∀ ys, RB X M e2 (E ys) (n2 ys))
    (ha : ∀ v, assign (.Subscript (.Name nm p1) e1 q1) X.env v = (do
      let ov ← holding [v] (eval (.Name nm p1) X.env)
      let iv ← holding [v, ov] (eval e1 X.env)
      standAt q1
      holding [v, ov, iv] (setItem ov iv v)
      release [v, ov, iv] []) := by intro _; rfl) (ha2 : ∀ v, assign (.Subscript (.Name nm p2) e2 q2) X.env v = (do
      let ov ← holding [v] (eval (.Name nm p2) X.env)
      let iv ← holding [v, ov] (eval e2 X.env)
      standAt q2
      holding [v, ov, iv] (setItem ov iv v)
      release [v, ov, iv] []) := by intro _; rfl)
    (hs : swapsWithSole [.Tuple [.Subscript (.Name nm p1) e1 q1, .Subscript (.Name nm p2) e2 q2] k tp] e pos.line X.env = pure false := by rfl) (hw : swappedStores [.Tuple [.Subscript (.Name nm p1) e1 q1, .Subscript (.Name nm p2) e2 q2] k tp] e X.env = pure none := by rfl)
    (hh : (assignEach [.Tuple [.Subscript (.Name nm p1) e1 q1, .Subscript (.Name nm p2) e2 q2] k tp] X.env).map (·.2) = [assign (.Tuple [.Subscript (.Name nm p1) e1 q1, .Subscript (.Name nm p2) e2 q2] k tp) X.env] := by rfl)
    (hn : (assignEach [.Subscript (.Name nm p1) e1 q1, .Subscript (.Name nm p2) e2 q2] X.env).length = 2 := by rfl) (hst : (assignEach [.Subscript (.Name nm p1) e1 q1, .Subscript (.Name nm p2) e2 q2] X.env).findIdx? (·.1) = none := by rfl)
    (hs1 : (assignEach [.Subscript (.Name nm p1) e1 q1, .Subscript (.Name nm p2) e2 q2] X.env).map (·.2) = assign (.Subscript (.Name nm p1) e1 q1) X.env :: (assignEach [.Subscript (.Name nm p2) e2 q2] X.env).map (·.2) := by rfl) (hs2 : (assignEach [.Subscript (.Name nm p2) e2 q2] X.env).map (·.2) = assign (.Subscript (.Name nm p2) e2 q2) X.env :: (assignEach [] X.env).map (·.2) := by rfl) :
    SN X M (.Assign [.Tuple [.Subscript (.Name nm p1) e1 q1, .Subscript (.Name nm p2) e2 q2] k tp] e pos) env E (R.set2 xs m n1 n2) := .mk fun p =>
  RdS.ofS (ps_asg star_pe (pg_tup hc (pgs_cons (pg_sub (pe_var hN hv hk.d hk.c) star_pe set_list ha) (pgs_cons (pg_sub (pe_var hN hv hk.d hk.c) star_pe set_list ha2) pgs_nil hs2) hs1) hn hst) hs hw hh) fun S0 H0 σ S H st Dl q1' _ _ _ => by
    refine h p.1 S0 H0 σ S H st _ fun d v S1 H1 ed r t1 => ?_
    subst ed
    have st1 := st.step t1
    have rx : Den X.K S1 (.tuple [rep m.v.1, rep m.v.2]) v := r
    cases rx with
    | tup e' ra =>
      cases ra with
      | cons r1 rb =>
        cases rb with
        | cons r2 rc =>
          cases rc
          rename_i a v1 v2
          refine ⟨a, _, rfl, sub_sqt st1.gd.sub e'.sqt, rfl, v1, [v2], rfl, ?_⟩
          refine RdGs.sub (xs := xs) i hi hN hv hk h1 p.2.1 S0 H0 σ S1 H1 v1 st1 r1 _ fun env' σ' S2 H2 ee st2 sb => ?_
          subst ee
          rw [hE] at st2
          refine ⟨v2, [], rfl, ?_⟩
          have p2 := p.2.2
          refine RdGs.sub (env := E (xs.set n1.v.toNat m.v.1)) (xs := xs.set n1.v.toNat m.v.1) i (hi2 _) hN hv hk (h2 _) ⟨p2.1, p2.2.1, by rw [List.length_set]; exact p2.2.2⟩ S0 H0 σ' S2 H2 v2 st2 (r2.mon sb) _ fun env'' σ'' S3 H3 ee st3 sb2 => ?_
          subst ee
          rw [hE2] at st3
          exact ⟨rfl, q1' _ σ'' S3 H3 rfl st3 fun x o z => sb2 x o (sb x o (t1.ss x o z))⟩
end
end FP
namespace FP
open PySem PySem.Spec PyProof.Rows L2
open Rep (rep)
/-! ### data with an order: compared, sorted -/
class POrd (α : Type) [Rep α] [DecidableEq α] extends PEq α where
  lt : α → α → Bool
  alk : ∀ a b : α, PySem.W.alike (rep a) (rep b) = true
  nn : ∀ a : α, (rep a : D) ≠ .none
  lt_eq : ∀ a b : α, PySem.W.dataLt (rep a) (rep b) = lt a b
instance : POrd Int where
  lt a b := decide (a < b)
  alk a b := by show PySem.W.alike (.int a) (.int b) = true; simp only [PySem.W.alike]
  nn a := fun e => by cases e
  lt_eq a b := PySem.W.dataLt_int a b
instance : POrd Bool where
  lt a b := !a && b
  alk a b := by show PySem.W.alike (.bool a) (.bool b) = true; simp only [PySem.W.alike]
  nn a := fun e => by cases e
  lt_eq a b := by
    refine (PySem.W.dataLt_bool a b).trans ?_
    cases a <;> cases b <;> rfl
section
variable {α β γ : Type} [Rep α] [DecidableEq α] [POrd α] [Rep β] [DecidableEq β] [POrd β] [Rep γ] [DecidableEq γ] [POrd γ]
/-- the first difference decides, else the shorter is the less -/
def lLt : List α → List α → Bool
  | [], [] => false
  | [], _ :: _ => true
  | _ :: _, [] => false
  | x :: xs, y :: ys => if x = y then lLt xs ys else POrd.lt x y
theorem alkAll : ∀ xs ys : List α, PySem.W.alikeAll (xs.map rep) (ys.map rep) = true
  | [], _ => by rw [List.map_nil, PySem.W.alikeAll]
  | _ :: _, [] => by rw [List.map_nil, List.map_cons, PySem.W.alikeAll]
  | x :: xs, y :: ys => by
    rw [List.map_cons, List.map_cons, PySem.W.alikeAll, POrd.alk x y, alkAll xs ys]
    rfl
theorem eqv_yes {x y : α} (h : x = y) : PyData.eqv (rep x) (rep y) = true := by rw [PEq.eqv, decide_eq_true_eq]; exact h
theorem eqv_no {x y : α} (h : ¬ x = y) : PyData.eqv (rep x) (rep y) = false := by rw [PEq.eqv, decide_eq_false_iff_not]; exact h
theorem lexAll : ∀ xs ys : List α, PyProof.Rows.lexLt PyProof.Rows.itemOrd (PySem.W.keyToksAll (xs.map rep)) (PySem.W.keyToksAll (ys.map rep)) = lLt xs ys
  | [], [] => PyProof.Rows.lex_irrefl _
  | [], y :: ys => by
    rw [List.map_nil, List.map_cons, PySem.W.toks_all_cons]
    simp only [PySem.W.keyToksAll]
    rw [PyProof.Rows.lex_diff (O := PyProof.Rows.itemOrd) (by simp)]
    rfl
  | x :: xs, [] => by
    rw [List.map_nil, List.map_cons, PySem.W.toks_all_cons]
    simp only [PySem.W.keyToksAll]
    rw [PyProof.Rows.lex_diff (O := PyProof.Rows.itemOrd) (by simp)]
    rfl
  | x :: xs, y :: ys => by
    rw [List.map_cons, List.map_cons, lLt]
    by_cases h : x = y
    · rw [if_pos h, PySem.W.dataLt_all_yes (POrd.alk x y) (eqv_yes h), lexAll xs ys]
    · rw [if_neg h, PySem.W.dataLt_all_no (POrd.alk x y) (eqv_no h)]
      exact POrd.lt_eq x y
instance : POrd (List α) where
  lt := lLt
  alk xs ys := by show PySem.W.alike (.list _) (.list _) = true; simp only [PySem.W.alike]; exact alkAll xs ys
  nn a := fun e => by cases e
  lt_eq xs ys := (PySem.W.dataLt_list _ _).trans (lexAll xs ys)
instance : POrd (Tu α) where
  lt t u := lLt t.l u.l
  alk t u := by show PySem.W.alike (.tuple _) (.tuple _) = true; simp only [PySem.W.alike]; exact alkAll t.l u.l
  nn a := fun e => by cases e
  lt_eq t u := (PySem.W.dataLt_tuple _ _).trans (lexAll t.l u.l)
theorem lt_self (x : α) : POrd.lt x x = false := (POrd.lt_eq x x).symm.trans (PySem.W.dataLt_self _)
instance : POrd (α × β) where
  lt p q := if p.1 = q.1 then POrd.lt p.2 q.2 else POrd.lt p.1 q.1
  alk p q := by
    show PySem.W.alike (.tuple [_, _]) (.tuple [_, _]) = true
    simp only [PySem.W.alike, PySem.W.alikeAll, POrd.alk, Bool.and_self]
  nn a := fun e => by cases e
  lt_eq p q := by
    refine (PySem.W.dataLt_tuple _ _).trans ?_
    by_cases h : p.1 = q.1
    · rw [if_pos h, PySem.W.dataLt_all_yes (POrd.alk p.1 q.1) (eqv_yes h)]
      by_cases h2 : p.2 = q.2
      · rw [PySem.W.dataLt_all_yes (POrd.alk p.2 q.2) (eqv_yes h2), PyProof.Rows.lex_irrefl, h2, lt_self]
      · rw [PySem.W.dataLt_all_no (POrd.alk p.2 q.2) (eqv_no h2)]
        exact POrd.lt_eq p.2 q.2
    · rw [if_neg h, PySem.W.dataLt_all_no (POrd.alk p.1 q.1) (eqv_no h)]
      exact POrd.lt_eq p.1 q.1
instance : POrd (T3 α β γ) where
  lt p q := if p.a = q.a then (if p.b = q.b then POrd.lt p.c q.c else POrd.lt p.b q.b) else POrd.lt p.a q.a
  alk p q := by
    show PySem.W.alike (.tuple [_, _, _]) (.tuple [_, _, _]) = true
    simp only [PySem.W.alike, PySem.W.alikeAll, POrd.alk, Bool.and_self]
  nn a := fun e => by cases e
  lt_eq p q := by
    refine (PySem.W.dataLt_tuple _ _).trans ?_
    by_cases h : p.a = q.a
    · rw [if_pos h, PySem.W.dataLt_all_yes (POrd.alk p.a q.a) (eqv_yes h)]
      by_cases h2 : p.b = q.b
      · rw [if_pos h2, PySem.W.dataLt_all_yes (POrd.alk p.b q.b) (eqv_yes h2)]
        by_cases h3 : p.c = q.c
        · rw [PySem.W.dataLt_all_yes (POrd.alk p.c q.c) (eqv_yes h3), PyProof.Rows.lex_irrefl, h3, lt_self]
        · rw [PySem.W.dataLt_all_no (POrd.alk p.c q.c) (eqv_no h3)]
          exact POrd.lt_eq p.c q.c
      · rw [if_neg h2, PySem.W.dataLt_all_no (POrd.alk p.b q.b) (eqv_no h2)]
        exact POrd.lt_eq p.b q.b
    · rw [if_neg h, PySem.W.dataLt_all_no (POrd.alk p.a q.a) (eqv_no h)]
      exact POrd.lt_eq p.a q.a
end
/-! comparing -/
def rCmpD (K : PySem.W.Frag) (f : D → D → Bool) : R2 := fun x y H Q => ∃ d e, Dp K H x d ∧ Dp K H y e ∧ PySem.W.alike d e = true ∧ d ≠ .none ∧ d.depth ≤ 60 ∧ Q (.bl (f d e)) H
section
variable {X : Cx}
theorem op_ltD (hu : X.A.units + 64 < cLine) : OpR X (compareOp .Lt) (rCmpD X.K fun d e => PySem.W.dataLt d e) := by
  intro pins s σ H x y v u Q I rx ry h
  obtain ⟨d, e, hd, he, ha, hn, hp, q⟩ := h
  obtain ⟨as, r1⟩ := Dp.reads I d x v hd rx
  obtain ⟨bs, r2⟩ := Dp.reads I e y u he ry
  exact PySem.W.lt_data r1 r2 ha hn (by omega) ⟨.bl _, H, I, rfl, q⟩
theorem op_gtD (hu : X.A.units + 64 < cLine) : OpR X (compareOp .Gt) (rCmpD X.K fun d e => PySem.W.dataLt e d) := by
  intro pins s σ H x y v u Q I rx ry h
  obtain ⟨d, e, hd, he, ha, hn, hp, q⟩ := h
  obtain ⟨as, r1⟩ := Dp.reads I d x v hd rx
  obtain ⟨bs, r2⟩ := Dp.reads I e y u he ry
  exact PySem.W.gt_data r1 r2 ha hn (by omega) ⟨.bl _, H, I, rfl, q⟩
theorem op_leD (hu : X.A.units + 64 < cLine) : OpR X (compareOp .LtE) (rCmpD X.K fun d e => !PySem.W.dataLt e d) := by
  intro pins s σ H x y v u Q I rx ry h
  obtain ⟨d, e, hd, he, ha, hn, hp, q⟩ := h
  obtain ⟨as, r1⟩ := Dp.reads I d x v hd rx
  obtain ⟨bs, r2⟩ := Dp.reads I e y u he ry
  exact PySem.W.le_data r1 r2 ha hn (by omega) ⟨.bl _, H, I, rfl, q⟩
theorem op_geD (hu : X.A.units + 64 < cLine) : OpR X (compareOp .GtE) (rCmpD X.K fun d e => !PySem.W.dataLt d e) := by
  intro pins s σ H x y v u Q I rx ry h
  obtain ⟨d, e, hd, he, ha, hn, hp, q⟩ := h
  obtain ⟨as, r1⟩ := Dp.reads I d x v hd rx
  obtain ⟨bs, r2⟩ := Dp.reads I e y u he ry
  exact PySem.W.ge_data r1 r2 ha hn (by omega) ⟨.bl _, H, I, rfl, q⟩
end
section
variable {X : Cx} {M : Mm} {α : Type} [Rep α] [DecidableEq α] [POrd α] {k : Nat}
theorem c_ltD (hr : Room k X.A) (h : PEq.dp α ≤ 60) : Cm2 X M .Lt T2 (fun x y : α => POrd.lt x y) := ⟨_, op_ltD (Room.units hr), fun i j _ S H x y g bx bY Q q =>
  ⟨rep i, rep j, bx.dp g, bY.dp g, POrd.alk i j, POrd.nn i, Nat.le_trans (PEq.hdp i) h, q _ _ S H rfl (by show Den _ _ _ (.bl (PySem.W.dataLt (rep i) (rep j))); rw [POrd.lt_eq]; exact .bl _) (Step.refl g.sub)⟩⟩
theorem c_gtD (hr : Room k X.A) (h : PEq.dp α ≤ 60) : Cm2 X M .Gt T2 (fun x y : α => POrd.lt y x) := ⟨_, op_gtD (Room.units hr), fun i j _ S H x y g bx bY Q q =>
  ⟨rep i, rep j, bx.dp g, bY.dp g, POrd.alk i j, POrd.nn i, Nat.le_trans (PEq.hdp i) h, q _ _ S H rfl (by show Den _ _ _ (.bl (PySem.W.dataLt (rep j) (rep i))); rw [POrd.lt_eq]; exact .bl _) (Step.refl g.sub)⟩⟩
theorem c_leD (hr : Room k X.A) (h : PEq.dp α ≤ 60) : Cm2 X M .LtE T2 (fun x y : α => !POrd.lt y x) := ⟨_, op_leD (Room.units hr), fun i j _ S H x y g bx bY Q q =>
  ⟨rep i, rep j, bx.dp g, bY.dp g, POrd.alk i j, POrd.nn i, Nat.le_trans (PEq.hdp i) h, q _ _ S H rfl (by show Den _ _ _ (.bl (!PySem.W.dataLt (rep j) (rep i))); rw [POrd.lt_eq]; exact .bl _) (Step.refl g.sub)⟩⟩
theorem c_geD (hr : Room k X.A) (h : PEq.dp α ≤ 60) : Cm2 X M .GtE T2 (fun x y : α => !POrd.lt x y) := ⟨_, op_geD (Room.units hr), fun i j _ S H x y g bx bY Q q =>
  ⟨rep i, rep j, bx.dp g, bY.dp g, POrd.alk i j, POrd.nn i, Nat.le_trans (PEq.hdp i) h, q _ _ S H rfl (by show Den _ _ _ (.bl (!PySem.W.dataLt (rep i) (rep j))); rw [POrd.lt_eq]; exact .bl _) (Step.refl g.sub)⟩⟩
end
/-! sorting -/
def rSortD (K : PySem.W.Frag) {β : Type} (enc : β → D) : List V → Hp → VK → Prop := fun vs H Q => ∃ (a : Addr) (xs : List V) (bs : List β) (Rx : V → β → Prop), vs = [V.ref a] ∧ SqL K H a xs ∧ PySem.W.EachIs Rx xs bs ∧ (∀ x b, Rx x b → Dp K H x (enc b)) ∧ PySem.W.AllAlike (bs.map enc) ∧ PySem.W.Sortable (bs.map enc) ∧ (∀ b ∈ bs, (enc b).depth ≤ 60) ∧
  ∀ ys p, PySem.W.EachIs Rx ys (bs.mergeSort (PySem.W.dataLe false enc)) → H p = none → Q (.ref p) (upd H p (.lst ys))
theorem each_vals {β : Type} {Rx : V → β → Prop} : ∀ {xs : List V} {us : List Value} {bs : List β}, Vals xs us → PySem.W.EachIs Rx xs bs → PySem.W.EachIs (fun u b => ∃ x, RelV x u ∧ Rx x b) us bs
  | _, _, _, .nil, h => by cases h; exact .nil
  | _, _, _, .cons r t, h => by
    cases h with
    | cons a s => exact .cons ⟨_, r, a⟩ (each_vals t s)
theorem vals_each {β : Type} {Rx : V → β → Prop} : ∀ {us : List Value} {bs : List β}, PySem.W.EachIs (fun u b => ∃ x, RelV x u ∧ Rx x b) us bs → ∃ xs : List V, Vals xs us ∧ PySem.W.EachIs Rx xs bs
  | _, _, .nil => ⟨[], .nil, .nil⟩
  | _, _, .cons ⟨x, r, a⟩ t => by
    obtain ⟨xs, h1, h2⟩ := vals_each t
    exact ⟨x :: xs, .cons r h1, .cons a h2⟩
theorem cr_sortD {X : Cx} {β : Type} {enc : β → D} (hu : X.A.units + 64 < cLine) : CallR X (.builtin "sorted") (rSortD X.K enc) := by
  intro pins s σ H vs us Q I r h
  obtain ⟨a, xs, bs, Rx, rfl, hs, he, hd, hal, hk, hdp, q⟩ := h
  obtain ⟨its, rv, hl, hz⟩ := I.list hs
  rw [Vals.ref1 r]
  have e := each_vals rv he
  have er : PySem.W.EachIs (fun v b => ∃ as, PySem.Reads s.heap v (enc b) as) its bs := e.mono fun u b ⟨x, r, hx⟩ => Dp.reads I (enc b) x u (hd x b hx) r
  refine PySem.W.sorted_data hl.isList e er hal hk (by rw [← e.length, ← rv.length]; exact hz) (fun b hb => by have := hdp b hb; omega) fun out ho eo => ?_
  obtain ⟨ys, h1, h2⟩ := vals_each eo
  obtain ⟨ep, he'⟩ := PyProof.Rows.sortedAll_at s.heap its out.toArray
  have hlen : ys.length ≤ sizeLine := by
    rw [h1.length, ho, ← e.length, ← rv.length]
    exact hz
  exact ⟨.ref _, upd H (s.heap.objs.size + 1) (.lst ys), I.laid (t' := s.toks) (fun _ _ => PyProof.Rows.sortedAll_old) (Nat.le_succ _) ⟨hlen, out, ep, h1, he'⟩, rfl, q _ _ h2 (I.hok.fresh (Nat.le_succ _))⟩
section
variable {X : Cx} {M : Mm} {α : Type} [Rep α] [DecidableEq α] [POrd α] {k : Nat}
def srtD (xs : List α) : List α := xs.mergeSort fun a b => !POrd.lt b a
theorem dens_each {K : PySem.W.Frag} {S : Hp} : ∀ {xs : List α} {us : List V}, Dens K S (xs.map rep) us → PySem.W.EachIs (fun v (b : α) => Den K S (rep b) v) us xs
  | [], _, h => by cases h; exact .nil
  | x :: xs, _, h => by
    cases h with
    | cons a t => exact .cons a (dens_each t)
theorem each_dens {K : PySem.W.Frag} {S : Hp} : ∀ {xs : List α} {us : List V}, PySem.W.EachIs (fun v (b : α) => Den K S (rep b) v) us xs → Dens K S (xs.map rep) us
  | _, _, .nil => .nil
  | _, _, .cons a t => .cons a (each_dens t)
theorem b_sortD (hr : Room k X.A) (h : PEq.dp α ≤ 60) : Cb1F X M (.builtin "sorted") (fun xs : List α => PySem.W.Sortable (xs.map rep)) srtD := ⟨_, cr_sortD (enc := fun x : α => (rep x : D)) (Room.units hr), fun xs hs S H vs g b Q q => by
  obtain ⟨v, rfl, c⟩ := one_of b
  obtain ⟨a, us, rfl, e1, _, r⟩ := c.lst g
  refine ⟨a, us, xs, fun v b => Den X.K S (rep b) v, rfl, sql_of e1, dens_each r, fun x b d => Den.dp _ _ (d.mon g.sub), PySem.W.AllAlike.of POrd.alk, hs, fun b _ => Nat.le_trans (PEq.hdp b) h, fun ys p hy hp => ?_⟩
  have e : PySem.W.dataLe false (fun x : α => (rep x : D)) = fun a b => !POrd.lt b a := by
    rw [PySem.W.dataLe_eq]
    funext a b
    show (!PySem.W.dataLt (rep b) (rep a)) = _
    rw [POrd.lt_eq]
  rw [e] at hy
  exact q _ p _ S _ rfl hp (g.fresh hp) upd_same (each_dens hy) (Step.new g _ hp)⟩
end
theorem srtb_int (xs : List Int) : PySem.W.Sortable (xs.map rep) := .inr fun d hd => by
  obtain ⟨b, hb, rfl⟩ := List.mem_map.mp hd
  exact ⟨fun z => (by cases z), fun _ z => (by cases z)⟩
theorem srtb_pair {α β : Type} [Rep α] [Rep β] (xs : List (α × β)) : PySem.W.Sortable (xs.map rep) := PySem.W.Sortable.tuples fun b => ⟨_, _, rfl⟩
theorem srtb_t3 {α β γ : Type} [Rep α] [Rep β] [Rep γ] (xs : List (T3 α β γ)) : PySem.W.Sortable (xs.map rep) := PySem.W.Sortable.tuples fun b => ⟨_, _, rfl⟩
theorem srtb_tu {α : Type} [Rep α] (xs : List (Tu α)) (h : ∀ x ∈ xs, x.l ≠ []) : PySem.W.Sortable (xs.map rep) := .inl fun d hd => by
  obtain ⟨b, hb, rfl⟩ := List.mem_map.mp hd
  have := h b hb
  cases b with
  | mk l =>
    cases l with
    | nil => exact (this rfl).elim
    | cons x l => exact ⟨rep x, l.map rep, rfl⟩
end FP
/-! ### a set made of a list of ints -/
namespace FPset
open PySem PySem.Spec PySem.Calls PyProof.Rows L2
abbrev sOb (w : World) : Obj := { cls := .type "set", dict := none, data := .set #[] 0 (.fresh 0 0 (!w.params.followText "set-order")) }
abbrev sPu (w : World) (s : Shared) : Shared := { s with heap := s.heap.push (sOb w) }
section
variable {P : Program} {w : World} {A : Around} {E : Value → Shared → Prop} {s : Shared}
set_option maxRecDepth 100000 in
set_option maxHeartbeats 3200000 in
theorem made {l : Addr} {xs : Array Value} (ns : List Int) {Q : Value → Shared → Prop} (hh : A.handled = none) (hl : s.heap.IsList l xs) (hi : IntsAre xs.toList ns) (hb : ns.length + 1 < scanBound)
    (k : ∀ (g : Heap) (tk c : Nat), SetR w g s.heap.objs.size (fun j => decide (j ∈ ns)) c → c ≤ ns.length → (∀ b o, s.heap.get? b = some o → g.get? b = some o) → Q (.ref s.heap.objs.size) { s with heap := g, toks := tk }) :
    wpAny (model P w) A (call (.type "set") [.ref l]) Q E s := by
  have hsz : xs.size = ns.length := by simpa using IntsAre.length hi
  obtain ⟨_, _, mro⟩ := F.called_set.mro
  have a1 := F.called_set.made
  have a2 := F.called_set.sub
  have a3 := F.called_set.notType
  have a4 := F.called_set.canCreate
  have a5 := F.typeCall_set_1 (.ref l)
  refine wpAny_call (codeAny_of_tree (?_ : wpAny _ _ (callAny (.type "set") _) _ _ _))
  refine wpAny_pure ⟨Code.quiet_builtin _ (by decide +kernel), codeAny_builtin F.entry_type_call (by
    rw [Around.under_plain (weight_type_call_type "set" [.ref l] []) rfl]
    repeat (any_goals (first | assumption | wp_step))
    refine codeAny_mono (code_set_led1 (w := w) (.ref l) (E := E) (Q₁ := fun o t => o = .ref s.heap.objs.size ∧ t = sPu w s) ⟨rfl, rfl⟩) fun r t hr => ?_
    cases r with
    | error e => exact hr
    | ok fl =>
      cases fl with
      | ret o =>
        obtain ⟨rfl, rfl⟩ := hr
        have g0 : (s.heap.push (sOb w)).get? s.heap.objs.size = some (sOb w) := Heap.get?_push_size _ rfl
        have g1 : Shared.TypeIs (sPu w s) (.ref s.heap.objs.size) "set" := ⟨_, g0, rfl⟩
        have a6 := F.called_set.init.lookup
        have a7 := F.called_set.init.bind (.ref s.heap.objs.size)
        repeat (any_goals (first | assumption | wp_step))
        refine codeAny_mono (codeAny_call_builtin (R := wants (fun r t => r = .none ∧ ∃ g tk c, t = { s with heap := g, toks := tk } ∧ SetR w g s.heap.objs.size (fun j => decide (j ∈ ns)) c ∧ c ≤ ns.length ∧ ∀ b o, s.heap.get? b = some o → g.get? b = some o) E) F.called_set.init.plain F.entry_set_init (check_set_init_1 g1 ?_)) fun r2 t2 h2 => ?_
        · obtain ⟨⟨c1, c2, c3, c4⟩, e1, e2, n, e3⟩ := hl
          simp only at e2 e3
          subst e2 e3
          have g2 : (s.heap.push (sOb w)).get? l = some { cls := .type "list", dict := c2, data := .seq xs n, slots := c4 } := Heap.get?_push_of_some _ e1
          have b1 := F.sub_list_set
          have b2 := F.sub_list_frozenset
          have b3 : (Value.type "list" == Value.type "dict") = false := by decide
          have g3 : (s.heap.push (sOb w)).IsList l xs := ⟨_, g2, rfl, n, rfl⟩
          have lt : l < s.heap.objs.size := Heap.lt_size e1
          have ps : (s.heap.push (sOb w)).objs.size = s.heap.objs.size + 1 := Heap.size_push ..
          unfold Builtin.«set.__init__» noKeywords Builtin.Frozenset.updateFrom
          generalize hI : pyIter = I
          wp_walk
          subst hI
          refine wpAny_pyIter_list g3 (wpAny_bind (wpAny_runValue ?_))
          have hd : A.in1.in1.in1.handled = none := by simp [hh]
          refine set_update_ints ((Walks.list hd _ l (by show l ≠ (s.heap.push (sOb w)).objs.size; rw [ps]; exact Nat.ne_of_lt (Nat.lt_succ_of_lt lt)) xs).toS) s.heap.objs.size (by show s.heap.objs.size ∉ [(s.heap.push (sOb w)).objs.size, l]; rw [ps]; simp; exact Nat.ne_of_gt lt) ns hsz hb (fun i v hv => ?_) (xs.size - 0) 0 _ (by omega) (Nat.zero_le _) ⟨⟨_, Heap.get?_push_size _ rfl, rfl, rfl⟩, g3.push _⟩ ⟨0, Nat.le_refl 0, setR_new_at (Heap.get?_push_of_some _ g0)⟩ fun t c hm hc hR => ?_
          · have il : i < ns.length := by rw [← hsz]; exact (Array.getElem?_eq_some_iff.mp hv).1
            obtain ⟨z, ez⟩ := IntsAre.int_at hi i v (by rw [Array.getElem?_toList]; exact hv)
            exact ⟨ns[i], z, List.getElem?_eq_getElem il, by rw [ez]; simp [List.getD, List.getElem?_eq_getElem il]⟩
          · obtain ⟨h1, h2, h3, h4, h5⟩ := t
            cases (show h2 = s.gens from hm.gens)
            cases (show h3 = s.drawn from hm.drawn)
            cases (show h5 = s.os from hm.os)
            refine wpAny_pure (?_ : wpAny _ _ (ret Value.none) _ _ _)
            refine wpAny_pure ⟨rfl, h1, h4, c, rfl, hR, by omega, fun b o e => hm.heap b o ?_ (Heap.get?_push_of_some _ (Heap.get?_push_of_some _ e))⟩
            have bl : b < s.heap.objs.size := Heap.lt_size e
            simp only [List.mem_cons, List.not_mem_nil, or_false, not_or]
            refine ⟨Nat.ne_of_lt bl, ?_⟩
            rw [ps]
            exact Nat.ne_of_lt (Nat.lt_succ_of_lt bl)
        · cases r2 with
          | error e => exact h2
          | ok f2 =>
            cases f2 with
            | ret r =>
              obtain ⟨rfl, g, tk, c, rfl, q1, q2, q3⟩ := h2
              repeat (any_goals (first | assumption | wp_step))
              exact k _ _ _ q1 q2 q3
            | _ => exact h2.elim
      | _ => exact hr.elim)⟩
end
end FPset
namespace FP
open PySem PySem.Spec PyProof.Rows L2
open Rep (rep)
/-! ### sets of ints, sorted at once -/
def rSetI (K : PySem.W.Frag) (w : World) : List V → Hp → VK → Prop := fun vs H Q => ∃ (a : Addr) (ns : List Int), vs = [V.ref a] ∧ (SqL K H a (ns.map V.int) ∨ SqT K H a (ns.map V.int)) ∧ ns.length ≤ 60 ∧
  ∀ p n, H p = none → n ≤ 60 → Q (.ref p) (upd H p (SetO w p (fun j => decide (j ∈ ns)) n))
theorem cr_setI {X : Cx} (hc : X.calm = true) : CallR X (.type "set") (rSetI X.K X.w) := by
  intro pins s σ H vs us Q I r h
  obtain ⟨a, ns, rfl, hs, hl, q⟩ := h
  rw [Vals.ref1 r]
  have fin : ∀ (g : Heap) (tk c : Nat), SetR X.w g s.heap.objs.size (fun j => decide (j ∈ ns)) c → c ≤ ns.length → (∀ b o, s.heap.get? b = some o → g.get? b = some o) → EP X pins σ Q (.ref s.heap.objs.size) { s with heap := g, toks := tk } := fun g tk c R hcn k =>
    ⟨.ref _, upd H s.heap.objs.size (SetO X.w s.heap.objs.size (fun j => decide (j ∈ ns)) c), I.laid (t' := tk) k (Nat.le_refl _) (setO_new R), rfl, q _ _ (I.hok.fresh (Nat.le_refl _)) (by omega)⟩
  rcases hs with hs | hs
  · obtain ⟨its, rv, pl, hz⟩ := I.list hs
    exact FPset.made ns (I.ok.hd hc) pl.isList (by simpa using ints_of_vals rv) (by unfold scanBound; omega) fin
  · obtain ⟨its, rv, pt, hz⟩ := I.tuple hs
    have hi : IntsAre its.toArray.toList ns := ints_of_vals rv
    exact call_set_tupI ns (I.ok.hd hc) (show s.heap.IsTuple a its.toArray from pt) hi (by unfold scanBound; omega) fin
/-- the members, ascending -/
def sset (l : List Int) : List Int := srtD l.eraseDups
theorem eraseDups_nodup : ∀ (n : Nat) (l : List Int), l.length ≤ n → l.eraseDups.Nodup
  | 0, l, h => by
    have : l = [] := List.length_eq_zero_iff.mp (by omega)
    subst this
    simp
  | n + 1, [], _ => by simp
  | n + 1, x :: l, h => by
    rw [List.eraseDups_cons, List.nodup_cons]
    constructor
    · intro z
      rw [List.mem_eraseDups] at z
      simp at z
    · apply eraseDups_nodup n
      have := List.length_filter_le (fun b => !b == x) l
      simp at h
      omega
theorem int_srt (xs : List Int) : (srtD xs).Pairwise (· ≤ ·) := by
  have := List.pairwise_mergeSort (le := fun a b : Int => !POrd.lt b a) (fun a b c h1 h2 => by
    show (!decide (c < a)) = true
    have h1 : (!decide (b < a)) = true := h1
    have h2 : (!decide (c < b)) = true := h2
    simp at *; omega) (fun a b => by
    show (!decide (b < a) || !decide (a < b)) = true
    simp; omega) xs
  refine this.imp fun {p q} h => ?_
  have h : (!decide (q < p)) = true := h
  simp at h
  omega
theorem sset_mem {l : List Int} {x : Int} : x ∈ sset l ↔ x ∈ l := by
  unfold sset
  have h : (srtD l.eraseDups).Perm l.eraseDups := List.mergeSort_perm ..
  rw [h.mem_iff, List.mem_eraseDups]
theorem sset_asc (l : List Int) : (sset l).Pairwise (· < ·) := by
  unfold sset
  have h : (srtD l.eraseDups).Perm l.eraseDups := List.mergeSort_perm ..
  have hn : (srtD l.eraseDups).Nodup := h.nodup_iff.mpr (eraseDups_nodup _ l (Nat.le_refl _))
  refine ((int_srt l.eraseDups).and hn).imp fun {a b} hh => ?_
  have := hh.1
  have := hh.2
  omega
theorem asc_uniq : ∀ {a b : List Int}, a.Pairwise (· < ·) → b.Pairwise (· < ·) → (∀ x, x ∈ a ↔ x ∈ b) → a = b
  | [], [], _, _, _ => rfl
  | [], y :: b, _, _, h => by have := (h y).mpr List.mem_cons_self; cases this
  | x :: a, [], _, _, h => by have := (h x).mp List.mem_cons_self; cases this
  | x :: a, y :: b, ha, hb, h => by
    have a1 := List.pairwise_cons.mp ha
    have b1 := List.pairwise_cons.mp hb
    have hx := (h x).mp List.mem_cons_self
    have hy := (h y).mpr List.mem_cons_self
    have e : x = y := by
      rcases List.mem_cons.mp hx with z | z
      · exact z
      · rcases List.mem_cons.mp hy with q | q
        · exact q.symm
        · have := b1.1 x z
          have := a1.1 y q
          omega
    subst e
    rw [asc_uniq a1.2 b1.2 fun z => ?_]
    constructor
    · intro hz
      have := a1.1 z hz
      rcases List.mem_cons.mp ((h z).mp (List.mem_cons_of_mem _ hz)) with q | q
      · omega
      · exact q
    · intro hz
      have := b1.1 z hz
      rcases List.mem_cons.mp ((h z).mpr (List.mem_cons_of_mem _ hz)) with q | q
      · omega
      · exact q
section
variable {X : Cx} {M : Mm} {env : List Sl} {a b c e : Expr} {α β γ : Type} [Rep α] [Rep β] [Rep γ] {pos p0 p1 q0 : Pos} {lp : Bool} {tg : Expr}
theorem sset_core {ns : List Int} {H : Hp} {S : Hp} (g : Gd M S H) {x : V} {aa : Addr} (ex : x = .ref aa) (hs : SqL X.K H aa (ns.map V.int) ∨ SqT X.K H aa (ns.map V.int)) (hl : ns.length ≤ 60) (Q : VK)
    (q : ∀ p vs S' H', H p = none → S' p = none → H' p = some (.lst vs) → Dens X.K S' ((sset ns).map rep) vs → Step M S H S' H' → Q (.ref p) H') : rSetI X.K X.w [x] H fun v H1 => rSortedSet X.w [v] H1 Q := by
  subst ex
  refine ⟨aa, ns, rfl, hs, hl, fun p n hp hn => ⟨p, _, n, rfl, upd_same, by omega, fun ms r ha hm hml hr => ?_⟩⟩
  have e : ms = sset ns := asc_uniq ha (sset_asc ns) fun k => by rw [hm, sset_mem]; simp
  subst e
  have hrp : r ≠ p := fun z => by subst z; rw [upd_same] at hr; cases hr
  have hr0 : H r = none := by rw [upd_ne hrp] at hr; exact hr
  have t1 := Step.new g (SetO X.w p (fun j => decide (j ∈ ns)) n) hp
  have g1 := g.step t1
  exact q r _ S _ hr0 (g.fresh hr0) upd_same (Dens.ofInts (sset ns)) (t1.trans (Step.new g1 _ hr))
theorem RF.sortSetT {m : R (Tu Int)} {nm nm2 : Str} (hc : X.calm = true) (hg : Gl X nm) (hm : X.mg nm = none) (hv : bootBuiltins nm = some (.builtin "sorted")) (hn : OkN nm) (hg2 : Gl X nm2) (hm2 : X.mg nm2 = none) (hv2 : bootBuiltins nm2 = some (.type "set")) (hn2 : OkN nm2) (h : RB X M a env m)
    (hs : starEach [a] X.env = (false, eval a X.env) :: starEach [] X.env := by rfl) (hpl : (backTo q0 (starEach [] X.env)).any (·.1) = false := by rfl)
    (hs2 : starEach [.Call (.Name nm2 p1) [a] [] q0] X.env = (false, eval (.Call (.Name nm2 p1) [a] [] q0) X.env) :: starEach [] X.env := by rfl) (hpl2 : (backTo pos (starEach [] X.env)).any (·.1) = false := by rfl) :
    RF X M (.Call (.Name nm p0) [.Call (.Name nm2 p1) [a] [] q0] [] pos) env (R.o1 (fun t : Tu Int => t.l.length ≤ 60) (fun t => sset t.l) m) := .mk fun p =>
  EF.of (pe_callB (cr_sortedSet hc) hg hm hv (pa_cons (pe_callTy (cr_setI hc) hg2 hm2 hv2 star_pa hn2.n hn2.d hs hpl) pa_nil hs2) hn.n hn.d hs2 hpl2) fun S0 H0 σ S H st Q q =>
    RA.br h RA.nil hs ⟨p.1, trivial⟩ S0 H0 σ S H st _ fun ds vs S1 H1 ed bx t1 => by
      subst ed
      obtain ⟨v, rfl, c⟩ := one_of bx
      have g1 := (st.step t1).gd
      obtain ⟨aa, us, ex, e1, r⟩ := c.tup g1
      have e2 : us = m.v.l.map V.int := Dens.ints (is := m.v.l) r
      subst e2
      refine sset_core g1 ex (.inr (sub_sqt g1.sub e1)) p.2 Q fun p1 vs S2 H2 h1 h2 h3 h4 t2 => q _ p1 vs S2 H2 rfl ?_ h2 h3 h4 (t1.trans t2)
      cases z : H p1 with
      | none => rfl
      | some o => exact absurd h1 (t1.keep p1 (by rw [z]; exact fun z => nomatch z))
theorem RF.sortSetL {m : R (List Int)} {nm nm2 : Str} (hc : X.calm = true) (hg : Gl X nm) (hm : X.mg nm = none) (hv : bootBuiltins nm = some (.builtin "sorted")) (hn : OkN nm) (hg2 : Gl X nm2) (hm2 : X.mg nm2 = none) (hv2 : bootBuiltins nm2 = some (.type "set")) (hn2 : OkN nm2) (h : RB X M a env m)
    (hs : starEach [a] X.env = (false, eval a X.env) :: starEach [] X.env := by rfl) (hpl : (backTo q0 (starEach [] X.env)).any (·.1) = false := by rfl)
    (hs2 : starEach [.Call (.Name nm2 p1) [a] [] q0] X.env = (false, eval (.Call (.Name nm2 p1) [a] [] q0) X.env) :: starEach [] X.env := by rfl) (hpl2 : (backTo pos (starEach [] X.env)).any (·.1) = false := by rfl) :
    RF X M (.Call (.Name nm p0) [.Call (.Name nm2 p1) [a] [] q0] [] pos) env (R.o1 (fun t : List Int => t.length ≤ 60) (fun t => sset t) m) := .mk fun p =>
  EF.of (pe_callB (cr_sortedSet hc) hg hm hv (pa_cons (pe_callTy (cr_setI hc) hg2 hm2 hv2 star_pa hn2.n hn2.d hs hpl) pa_nil hs2) hn.n hn.d hs2 hpl2) fun S0 H0 σ S H st Q q =>
    RA.br h RA.nil hs ⟨p.1, trivial⟩ S0 H0 σ S H st _ fun ds vs S1 H1 ed bx t1 => by
      subst ed
      obtain ⟨v, rfl, c⟩ := one_of bx
      have g1 := (st.step t1).gd
      obtain ⟨aa, us, ex, e1, _, r⟩ := c.lst g1
      have e2 : us = m.v.map V.int := Dens.ints (is := m.v) r
      subst e2
      refine sset_core g1 ex (.inl (sql_of e1)) p.2 Q fun p1 vs S2 H2 h1 h2 h3 h4 t2 => q _ p1 vs S2 H2 rfl ?_ h2 h3 h4 (t1.trans t2)
      cases z : H p1 with
      | none => rfl
      | some o => exact absurd h1 (t1.keep p1 (by rw [z]; exact fun z => nomatch z))
/-! gcd, list(range ..), range down -/
theorem rgV_dens {K : PySem.W.Frag} {S : Hp} (lo hi : Int) : Dens K S ((rng lo hi).map rep) (rgV lo hi) := by
  have e : rgV lo hi = (rng lo hi).map V.int := by
    unfold rgV rng
    rw [List.map_map]
    rfl
  rw [e]
  exact Dens.ofInts (rng lo hi)
theorem RF.listRng1 {m : R Int} (hc : X.calm = true) (hg : Gl X "list") (hm : X.mg "list" = none) (hg2 : Gl X "range") (hm2 : X.mg "range" = none) (h : RB X M a env m)
    (na : starEach [a] X.env = (false, eval a X.env) :: starEach [] X.env := by rfl) (na2 : starEach [.Call (.Name "range" p1) [a] [] q0] X.env = (false, eval (.Call (.Name "range" p1) [a] [] q0) X.env) :: starEach [] X.env := by rfl) :
    RF X M (.Call (.Name "list" p0) [.Call (.Name "range" p1) [a] [] q0] [] pos) env (R.rng1 m) := .mk fun p =>
  EF.of (pe_listRg hc hg hm (prg_1 hg2 hm2 star_pe na) na2) fun S0 H0 σ S H st Q q =>
    h p.1.1 S0 H0 σ S H st _ fun d v S1 H1 ed r t1 => by
      subst ed
      have h1 : -1000000 ≤ m.v := p.1.2
      have h2 : m.v ≤ 1000000 := p.2
      refine ⟨m.v, r.int, ⟨by omega, by omega, by omega, by omega, by omega⟩, fun p1 hp => ?_⟩
      have g1 := (st.step t1).gd
      refine q _ p1 _ S1 _ rfl ?_ (g1.fresh hp) upd_same (rgV_dens 0 m.v) (t1.trans (Step.new g1 _ hp))
      cases z : H p1 with
      | none => rfl
      | some o => exact absurd hp (t1.keep p1 (by rw [z]; exact fun z => nomatch z))
/-- lo, lo - 1, .. above hi -/
def rngD (lo hi : Int) : List Int := (List.range (lo - hi).toNat).map fun (i : Nat) => lo + (i : Int) * -1
@[simp] def R.rngD (m n : R Int) : R (List Int) := R.o2 (fun i j : Int => (-1000000 ≤ i ∧ i ≤ 1000000) ∧ -1000000 ≤ j ∧ j ≤ 1000000) FP.rngD m n
theorem rngD_it {K : PySem.W.Frag} {rch : Hp → Hp → Prop} {lo hi : Int} (hr : ∀ S H, rch S H → Gd M S H) : ItOk K M rch ((rngD lo hi).map rep) (Itc lo (-1) (lo - hi).toNat) where
  go := fun S H i d rc hd => by
    have hl : i < (lo - hi).toNat := by
      have := (List.getElem?_eq_some_iff.mp hd).1
      simpa [FP.rngD] using this
    unfold FP.rngD at hd
    rw [List.map_map, List.getElem?_map, List.getElem?_range hl] at hd
    have hd := (Option.some.inj hd).symm
    subst hd
    exact ⟨hl, fun x H' ⟨e1, e2⟩ => ⟨S, by rw [e1]; exact Step.refl (hr S H rc).sub, by rw [e2]; exact .int _⟩⟩
  stop := fun S H i rc hd _ => by
    have : ((FP.rngD lo hi).map (rep : Int → D)).length = (lo - hi).toNat := by simp [FP.rngD]
    rw [this] at hd
    exact hd
theorem RI.rangeD {m n o : R Int} {p0 : Pos} (hg : Gl X "range") (hm : X.mg "range" = none) (h : RB X M a env m) (h' : RB X M b env n) (h'' : RB X M c env o) (ho : o.p ∧ o.v = -1) (hs : starEach [a, b, c] X.env = (false, eval a X.env) :: starEach [b, c] X.env := by rfl) (hs2 : starEach [b, c] X.env = (false, eval b X.env) :: starEach [c] X.env := by rfl) (hs3 : starEach [c] X.env = (false, eval c X.env) :: starEach [] X.env := by rfl) (hpl : (backTo pos (starEach [b, c] X.env)).any (·.1) = false := by rfl) :
    RI X M lp tg (.Call (.Name "range" p0) [a, b, c] [] pos) env (R.rngD m n) := .mk fun p => RdI.of (pi_range3 hg hm (pa_cons star_pe (pa_cons star_pe (pa_cons star_pe pa_nil hs3) hs2) hs) hs hpl) fun S0 H0 σ S H st Rr q =>
  h p.1 _ _ _ _ _ st _ fun d v S1 H1 ed r t => by
    subst ed
    refine h' p.2.1 _ _ _ _ _ (st.step t) _ fun d v S2 H2 ed r2 t2 => ?_
    subst ed
    refine h'' ho.1 _ _ _ _ _ ((st.step t).step t2) _ fun d v S3 H3 ed r3 t3 => ?_
    subst ed
    rw [r.int, r2.int, r3.int, ho.2]
    have h1 : (-1000000 ≤ m.v ∧ m.v ≤ 1000000) ∧ -1000000 ≤ n.v ∧ n.v ≤ 1000000 := p.2.2
    exact ⟨m.v, n.v, -1, _, rfl, RgC.neg (by omega) (by omega) (by omega) (by omega), q _ _ S3 H3 rfl ((t.trans t2).trans t3) (rngD_it fun S H rc => rc.1)⟩
end
/-! ### a while with ways out -/
def wlV {σT β L : Type} (c : σT → R Bool) (f : σT → R (Fl σT β σT)) : Nat → σT → Fl σT β L
  | 0, s => .nx s
  | n + 1, s => if (c s).v = true then (match (f s).v with
    | .nx s' => wlV c f n s'
    | .ct s' => wlV c f n s'
    | .bk s' => .nx s'
    | .rt b => .rt b) else .nx s
def wlP {σT β : Type} (c : σT → R Bool) (f : σT → R (Fl σT β σT)) : Nat → σT → Prop
  | 0, s => (c s).p ∧ (c s).v = false
  | n + 1, s => (c s).p ∧ ((c s).v = true → (f s).p ∧ match (f s).v with
    | .nx s' => wlP c f n s'
    | .ct s' => wlP c f n s'
    | .bk _ => True
    | .rt _ => True)
@[simp] def R.wlg {σT β L : Type} (n : Nat) (s : σT) (c : σT → R Bool) (f : σT → R (Fl σT β σT)) : R (Fl σT β L) := ⟨wlP c f n s, wlV c f n s⟩
section
variable {X : Cx} {M : Mm} {env : List Sl} {σT β L : Type} [Rep β] {E : σT → List Sl} {EL : L → List Sl}
theorem SG.while {c : Expr} {body : List Stmt} {pos : Pos} {mc : σT → R Bool} {f : σT → R (Fl σT β σT)} (n : Nat) (s0 : σT) (hp : PassesOwn (model X.prog X.w) X.A X.env X.xe) (h0 : LE env (E s0)) (hc : ∀ s, RT X M c (E s) (mc s)) (hb : ∀ s, BG X M body (E s) E E (f s)) : SG X M (.While c body [] pos) env E EL (R.wlg n s0 mc f) := .mk fun p =>
  RdS.weak h0 (RdS.ofS (ps_while hp star_pt star_pss) (RdS.while (I := fun k e => ∃ s, e = E s ∧ wlP mc f k s ∧ (wlV mc f k s : Fl σT β L) = wlV mc f n s0) n ⟨s0, rfl, p, rfl⟩ fun k e ⟨s, e1, hP, hV⟩ => by
    subst e1
    cases k with
    | zero =>
      refine ⟨_, hc s hP.1, fun e => ?_, fun e => ?_⟩
      · rw [hP.2] at e; cases e
      · exact ⟨s, by show (wlV mc f n s0 : Fl σT β L) = .nx s; rw [← hV]; rfl, rfl⟩
    | succ k =>
      refine ⟨_, hc s hP.1, fun e => ?_, fun e => ?_⟩
      · obtain ⟨h1, h2⟩ := hP.2 e.symm
        have hV' : (match (f s).v with
          | .nx s' => wlV mc f k s'
          | .ct s' => wlV mc f k s'
          | .bk s' => .nx s'
          | .rt b => .rt b : Fl σT β L) = wlV mc f n s0 := by
          rw [← hV]
          exact (if_pos e.symm).symm
        refine (hb s h1).imp (fun e' ⟨s', z, ee⟩ => ?_) (fun d ⟨b, z, ed⟩ => ?_) (fun e' ⟨s', z, ee⟩ => ?_) fun e' ⟨s', z, ee⟩ => ?_
        · rw [z] at h2 hV'
          exact ⟨k, Nat.lt_succ_self _, s', ee, h2, hV'⟩
        · rw [z] at hV'
          exact ⟨b, hV'.symm, ed⟩
        · rw [z] at hV'
          exact ⟨s', hV'.symm, ee⟩
        · rw [z] at h2 hV'
          exact ⟨k, Nat.lt_succ_self _, s', ee, h2, hV'⟩
      · refine ⟨s, ?_, rfl⟩
        show (wlV mc f n s0 : Fl σT β L) = .nx s
        rw [← hV]
        exact if_neg (by rw [← e]; decide)))
end
end FP
namespace FP
open PySem PySem.Spec PyProof.Rows L2
open Rep (rep)
/-! ### two names at once, lists of one's own among the values -/
section
variable {X : Cx} {M : Mm} {α β γ : Type} [Rep α] [Rep β] [Rep γ] {env : List Sl} {a b c : Expr} {px py pz pt pos : Pos} {kt k2 : Nat} {pt2 : Pos}
theorem keep_none {M : Mm} {S H S' H' : Hp} (t : Step M S H S' H') {p : Addr} (h : H' p = none) : H p = none := by
  cases z : H p with
  | none => rfl
  | some o => exact absurd h (t.keep p (by rw [z]; exact fun z => nomatch z))
theorem SN.parIF {m : R α} {n : R (List β)} (i j : Nat) {x y : Str} {E : α × List β → List Sl} (hE : ∀ v : α × List β, (env.set i (.im (rep v.1))).set j (.ow (v.2.map rep)) = E v) (hc : X.calm = true) (hN : X.N.Nodup) (hi : X.N[i]? = some x) (hj : X.N[j]? = some y) (hij : i ≠ j)
    (hx : X.env.scope.names.lookup x = some .local) (hy : X.env.scope.names.lookup y = some .local) (ha : RE X M a env m) (hb : RF X M b env n)
    (hw : swappedStores [.Tuple [.Name x px, .Name y py] kt pt] (.Tuple [a, b] k2 pt2) X.env = pure (some [x, y])) (hs : swapsWithSole [.Tuple [.Name x px, .Name y py] kt pt] (.Tuple [a, b] k2 pt2) pos.line X.env = pure false := by rfl)
    (h1 : starEach [a, b] X.env = (false, eval a X.env) :: starEach [b] X.env := by rfl) (h2 : starEach [b] X.env = (false, eval b X.env) :: starEach [] X.env := by rfl) :
    SN X M (.Assign [.Tuple [.Name x px, .Name y py] kt pt] (.Tuple [a, b] k2 pt2) pos) env E (R.tup2 m n) := .mk fun p =>
  RdS.ofS (ps_par hc hN hi hj hij hx hy (pa_cons star_pe (pa_cons star_pe pa_nil h2) h1) hw hs) fun S0 H0 σ S H st Dl q1 _ _ _ =>
    ha p.1 S0 H0 σ S H st _ fun d v S1 H1 ed r1 t1 => by
      refine hb p.2 S0 H0 σ S1 H1 (st.step t1) _ fun ds q vs S2 H2 ed2 e1 e2 e3 r2 t2 => ?_
      subst ed ed2
      exact ⟨_, _, rfl, q1 _ _ S2 H2 rfl (by rw [← hE]; exact ((st.step t1).putIm i r1).putOw t2 j e1 e2 e3 r2) fun x o z => t2.ss x o (t1.ss x o z)⟩
theorem SN.parFI {m : R (List α)} {n : R β} (i j : Nat) {x y : Str} {E : List α × β → List Sl} (hE : ∀ v : List α × β, (env.set i (.ow (v.1.map rep))).set j (.im (rep v.2)) = E v) (hc : X.calm = true) (hN : X.N.Nodup) (hi : X.N[i]? = some x) (hj : X.N[j]? = some y) (hij : i ≠ j)
    (hx : X.env.scope.names.lookup x = some .local) (hy : X.env.scope.names.lookup y = some .local) (ha : RF X M a env m) (hb : RE X M b env n)
    (hw : swappedStores [.Tuple [.Name x px, .Name y py] kt pt] (.Tuple [a, b] k2 pt2) X.env = pure (some [x, y])) (hs : swapsWithSole [.Tuple [.Name x px, .Name y py] kt pt] (.Tuple [a, b] k2 pt2) pos.line X.env = pure false := by rfl)
    (h1 : starEach [a, b] X.env = (false, eval a X.env) :: starEach [b] X.env := by rfl) (h2 : starEach [b] X.env = (false, eval b X.env) :: starEach [] X.env := by rfl) :
    SN X M (.Assign [.Tuple [.Name x px, .Name y py] kt pt] (.Tuple [a, b] k2 pt2) pos) env E (R.tup2 m n) := .mk fun p =>
  RdS.ofS (ps_par hc hN hi hj hij hx hy (pa_cons star_pe (pa_cons star_pe pa_nil h2) h1) hw hs) fun S0 H0 σ S H st Dl q1 _ _ _ =>
    ha p.1 S0 H0 σ S H st _ fun ds q vs S1 H1 ed e1 e2 e3 r1 t1 => by
      refine hb p.2 S0 H0 σ S1 H1 (st.step t1) _ fun d v S2 H2 ed2 r2 t2 => ?_
      subst ed ed2
      have nq : ¬ M q := st.gd.notM e1
      have n3 : H1 q ≠ none := by rw [e3]; exact fun z => nomatch z
      exact ⟨_, _, rfl, q1 _ _ S2 H2 rfl (by rw [← hE]; exact (st.putOw (t1.trans t2) i e1 (t2.cap q e2 n3) (t2.ext q _ e3 nq lst_noT) (r1.mon t2.ss)).putIm j r2) fun x o z => t2.ss x o (t1.ss x o z)⟩
theorem SN.parFF {m : R (List α)} {n : R (List β)} (i j : Nat) {x y : Str} {E : List α × List β → List Sl} (hE : ∀ v : List α × List β, (env.set i (.ow (v.1.map rep))).set j (.ow (v.2.map rep)) = E v) (hc : X.calm = true) (hN : X.N.Nodup) (hi : X.N[i]? = some x) (hj : X.N[j]? = some y) (hij : i ≠ j)
    (hx : X.env.scope.names.lookup x = some .local) (hy : X.env.scope.names.lookup y = some .local) (ha : RF X M a env m) (hb : RF X M b env n)
    (hw : swappedStores [.Tuple [.Name x px, .Name y py] kt pt] (.Tuple [a, b] k2 pt2) X.env = pure (some [x, y])) (hs : swapsWithSole [.Tuple [.Name x px, .Name y py] kt pt] (.Tuple [a, b] k2 pt2) pos.line X.env = pure false := by rfl)
    (h1 : starEach [a, b] X.env = (false, eval a X.env) :: starEach [b] X.env := by rfl) (h2 : starEach [b] X.env = (false, eval b X.env) :: starEach [] X.env := by rfl) :
    SN X M (.Assign [.Tuple [.Name x px, .Name y py] kt pt] (.Tuple [a, b] k2 pt2) pos) env E (R.tup2 m n) := .mk fun p =>
  RdS.ofS (ps_par hc hN hi hj hij hx hy (pa_cons star_pe (pa_cons star_pe pa_nil h2) h1) hw hs) fun S0 H0 σ S H st Dl q1 _ _ _ =>
    ha p.1 S0 H0 σ S H st _ fun ds q vs S1 H1 ed e1 e2 e3 r1 t1 => by
      have s1 := st.putOw t1 i e1 e2 e3 r1
      refine hb p.2 S0 H0 σ S1 H1 (st.step t1) _ fun d v us S2 H2 ed2 f1 f2 f3 r2 t2 => ?_
      subst ed ed2
      exact ⟨_, _, rfl, q1 _ _ S2 H2 rfl (by rw [← hE]; exact s1.putOw t2 j f1 f2 f3 r2) fun x o z => t2.ss x o (t1.ss x o z)⟩
end
end FP
namespace FP
open PySem PySem.Spec PyProof.Rows L2
open Rep (rep)
/-! ### what a value that may fail comes to -/
def Ok {α : Type} (m : R α) (P : α → Prop) : Prop := m.p ∧ P m.v
theorem Ok.imp {α : Type} {m : R α} {P Q : α → Prop} (h : Ok m P) (k : ∀ x, P x → Q x) : Ok m Q := ⟨h.1, k _ h.2⟩
theorem Ok.pure {α : Type} {x : α} {P : α → Prop} (h : P x) : Ok (R.pure x) P := ⟨trivial, h⟩
theorem Ok.bind {α β : Type} {m : R α} {f : α → R β} {Q : β → Prop} (h : Ok m fun x => Ok (f x) Q) : Ok (R.bind m f) Q := ⟨⟨h.1, h.2.1⟩, h.2.2⟩
theorem Ok.eq {α : Type} {m : R α} {x : α} {P : α → Prop} (h : Ok m (· = x)) (hp : P x) : Ok m P := ⟨h.1, by rw [h.2]; exact hp⟩
theorem Ok.ite {α : Type} {c : R Bool} {a b : R α} {P : α → Prop} (h : Ok c fun x => if x = true then Ok a P else Ok b P) : Ok (R.ite c a b) P := by
  obtain ⟨p, h⟩ := h
  cases e : c.v
  · rw [e] at h
    simp at h
    exact ⟨⟨p, fun z => (Bool.false_ne_true (e.symm.trans z)).elim, fun _ => h.1⟩, by show P (if c.v = true then a.v else b.v); rw [e]; exact h.2⟩
  · rw [e] at h
    simp at h
    exact ⟨⟨p, fun _ => h.1, fun z => (Bool.false_ne_true (z.symm.trans e)).elim⟩, by show P (if c.v = true then a.v else b.v); rw [e]; exact h.2⟩
theorem Ok.tt {α : Type} {c : R Bool} {a b : R α} {P : α → Prop} (h : Ok c (· = true)) (k : Ok a P) : Ok (R.ite c a b) P := Ok.ite (h.imp fun x e => by rw [if_pos e]; exact k)
theorem Ok.ff {α : Type} {c : R Bool} {a b : R α} {P : α → Prop} (h : Ok c (· = false)) (k : Ok b P) : Ok (R.ite c a b) P := Ok.ite (h.imp fun x e => by rw [if_neg (by rw [e]; decide)]; exact k)
theorem foldP_inv {σT α : Type} {f : σT → α → R σT} (J : Nat → σT → Prop) : ∀ (xs : List α) (k : Nat) (s : σT), J k s → (∀ (i : Nat) x s, xs[i]? = some x → J (k + i) s → (f s x).p ∧ J (k + i + 1) (f s x).v) → foldP f s xs ∧ J (k + xs.length) (foldV f s xs)
  | [], k, s, h, _ => ⟨trivial, h⟩
  | x :: xs, k, s, h, hs => by
    obtain ⟨p, q⟩ := hs 0 x s rfl h
    obtain ⟨p2, q2⟩ := foldP_inv J xs (k + 1) (f s x).v q fun i y t hy ht => by
      have := hs (i + 1) y t (by simpa using hy) (by have e : k + (i + 1) = k + 1 + i := by omega
                                                     rw [e]; exact ht)
      have e : k + (i + 1) = k + 1 + i := by omega
      rw [e] at this
      exact this
    refine ⟨⟨p, p2⟩, ?_⟩
    have e : k + (x :: xs).length = k + 1 + xs.length := by simp; omega
    rw [e]
    exact q2
/-- a walk, by what holds behind each turn -/
theorem Ok.fold {σT α : Type} {m : R (List α)} {s : σT} {f : σT → α → R σT} {P : σT → Prop} (J : Nat → σT → Prop) (xs : List α) (hm : Ok m (· = xs)) (h0 : J 0 s) (hs : ∀ (i : Nat) x s, xs[i]? = some x → J i s → Ok (f s x) (J (i + 1))) (he : ∀ s, J xs.length s → P s) : Ok (R.fold m s f) P := by
  obtain ⟨p, e⟩ := hm
  have := foldP_inv (f := f) J xs 0 s h0 fun i x s hx hj => by
    have e : 0 + i = i := by omega
    rw [e] at hj ⊢
    exact hs i x s hx hj
  refine ⟨⟨p, by rw [e]; exact this.1⟩, ?_⟩
  show P (foldV f s m.v)
  rw [e]
  have q := this.2
  rw [Nat.zero_add] at q
  exact he _ q
/-! ### the law's own statements -/
theorem W.seq_of {σT σU β : Type} {m : R σU} {b : σU → (σT → Prop) → (β → Prop) → Prop} {K : σT → Prop} {Kr : β → Prop} (h : Ok m fun x => b x K Kr) : W.seq (W.of (N.of m)) b K Kr := ⟨h.1, fun s e => by rw [e]; exact h.2⟩
theorem W.seq_n {σT σU β : Type} {m : N σU} {b : σU → (σT → Prop) → (β → Prop) → Prop} {K : σT → Prop} {Kr : β → Prop} (h : m.p) (k : ∀ s, m.S s → b s K Kr) : W.seq (W.of m) b K Kr := ⟨h, k⟩
theorem W.guard {σT β : Type} {c : R Bool} {r : (Unit → Prop) → (β → Prop) → Prop} {b : Unit → (σT → Prop) → (β → Prop) → Prop} {K : σT → Prop} {Kr : β → Prop} (h : Ok c (· = false)) (k : b () K Kr) : W.seq (W.ite (N.of c) r (W.nil ())) b K Kr :=
  ⟨h.1, fun e => (Bool.false_ne_true (h.2.symm.trans (show c.v = true from Eq.symm e))).elim, fun _ => k⟩
theorem W.seq_if {σT σU β : Type} {c : R Bool} {a1 a2 : (σU → Prop) → (β → Prop) → Prop} {b : σU → (σT → Prop) → (β → Prop) → Prop} {K : σT → Prop} {Kr : β → Prop} (h : Ok c fun x => if x = true then a1 (fun s => b s K Kr) Kr else a2 (fun s => b s K Kr) Kr) : W.seq (W.ite (N.of c) a1 a2) b K Kr := by
  obtain ⟨p, h⟩ := h
  refine ⟨p, fun e => ?_, fun e => ?_⟩
  · have e : true = c.v := e
    rw [← e] at h; exact h
  · have e : false = c.v := e
    rw [← e] at h; exact h
theorem W.seq_for {σT σU β α : Type} {m : R (List α)} {s0 : σU} {f : σU → α → (σU → Prop) → (β → Prop) → Prop} {b : σU → (σT → Prop) → (β → Prop) → Prop} {K : σT → Prop} {Kr : β → Prop} (J : Nat → σU → Prop) (xs : List α) (hm : Ok m (· = xs)) (h0 : J 0 s0) (hs : ∀ (i : Nat) x s, xs[i]? = some x → J i s → f s x (fun s' => J (i + 1) s') Kr) (he : ∀ s, J xs.length s → b s K Kr) : W.seq (W.for (N.of m) s0 f) b K Kr := by
  obtain ⟨p, e⟩ := hm
  refine ⟨p, fun ys ey => ?_⟩
  have : ys = xs := by rw [ey, e]
  subst this
  exact ⟨J, h0, hs, he⟩
theorem Ok.exact {α : Type} [Rep α] [DecidableEq α] {a b : R α} (x : α) (ha : Ok a (· = x)) (hb : Ok b (· = x)) (hs : Sm x) : Ok (R.not (R.o1 T1 (fun i : Bool => i) (R.c2 FP.exact a b))) (· = false) := by
  obtain ⟨a1, a2⟩ := ha
  obtain ⟨b1, b2⟩ := hb
  refine ⟨⟨⟨a1, b1, ?_⟩, trivial⟩, ?_⟩
  · show Sm a.v
    rw [a2]; exact hs
  · show (!decide (a.v = b.v)) = false
    rw [a2, b2]; simp
/-! ### lists -/
theorem bnd {a b A B : Int} (h1 : 0 ≤ a) (h2 : a ≤ A) (h3 : 0 ≤ b) (h4 : b ≤ B) : 0 ≤ a * b ∧ a * b ≤ A * B :=
  ⟨Int.mul_nonneg h1 h3, Int.mul_le_mul h2 h4 h3 (Int.le_trans h1 h2)⟩
theorem cmL {i j : Int} (h1 : -10000000000000000000 ≤ i) (h2 : i ≤ 10000000000000000000) : CMul i j := .inl (by omega)
theorem cmR {i j : Int} (h1 : -10000000000000000000 ≤ j) (h2 : j ≤ 10000000000000000000) : CMul i j := .inr (by omega)
theorem nth_at {α : Type} [Inhabited α] (l : List α) (i : Nat) (h : i < l.length) : nth l (i : Int) = l[i] := by
  unfold nth
  rw [if_pos (by omega)]
  simp [List.getD, List.getElem?_eq_getElem h]
theorem nth_zero {α : Type} [Inhabited α] (x : α) (l : List α) : nth (x :: l) 0 = x := rfl
theorem nth_succ {α : Type} [Inhabited α] (x : α) (l : List α) (i : Nat) : nth (x :: l) ((i : Int) + 1) = nth l (i : Int) := by
  have e : ((i : Int) + 1).toNat = i + 1 := by omega
  unfold nth
  rw [if_pos (by omega), if_pos (by omega), e]
  simp
theorem nth_map {α β : Type} [Inhabited α] [Inhabited β] (f : α → β) (l : List α) (i : Nat) (h : i < l.length) : nth (l.map f) (i : Int) = f (nth l (i : Int)) := by
  rw [nth_at _ _ (by simpa using h), nth_at _ _ h, List.getElem_map]
theorem nth_mem {α : Type} [Inhabited α] (l : List α) (i : Nat) (h : i < l.length) : nth l (i : Int) ∈ l := by
  rw [nth_at _ _ h]; exact List.getElem_mem _
theorem mem_nth {α : Type} [Inhabited α] {l : List α} {x : α} (h : x ∈ l) : ∃ i : Nat, i < l.length ∧ nth l (i : Int) = x := by
  obtain ⟨i, hi, e⟩ := List.mem_iff_getElem.mp h
  exact ⟨i, hi, by rw [nth_at _ _ hi]; exact e⟩
theorem nth_set {α : Type} [Inhabited α] (l : List α) (i j : Nat) (x : α) (hi : i < l.length) (hj : j < l.length) : nth (l.set i x) (j : Int) = if i = j then x else nth l (j : Int) := by
  rw [nth_at _ j (by simpa using hj), nth_at _ j hj, List.getElem_set]
theorem list_ext {α : Type} [Inhabited α] {l k : List α} (hl : l.length = k.length) (h : ∀ i : Nat, i < l.length → nth l (i : Int) = nth k (i : Int)) : l = k := by
  apply List.ext_getElem hl
  intro i h1 h2
  have := h i h1
  rwa [nth_at _ _ h1, nth_at _ _ h2] at this
theorem rng_at {lo hi : Int} {i : Nat} {x : Int} (h : (rng lo hi)[i]? = some x) : x = lo + i ∧ x < hi := by
  unfold rng at h
  rw [List.getElem?_map] at h
  by_cases hi' : i < (hi - lo).toNat
  · rw [List.getElem?_range hi'] at h
    simp at h
    omega
  · rw [List.getElem?_eq_none (by simp; omega)] at h
    simp at h
theorem mem_rng {lo hi x : Int} : x ∈ rng lo hi ↔ lo ≤ x ∧ x < hi := by
  unfold rng
  rw [List.mem_map]
  constructor
  · rintro ⟨i, h, rfl⟩
    have := List.mem_range.mp h
    omega
  · rintro ⟨h1, h2⟩
    exact ⟨(x - lo).toNat, List.mem_range.mpr (by omega), by omega⟩
theorem mem_rngN {n : Nat} {x : Int} : x ∈ rng 0 (n : Int) ↔ ∃ i : Nat, i < n ∧ x = i := by
  rw [mem_rng]
  constructor
  · rintro ⟨h1, h2⟩; exact ⟨x.toNat, by omega, by omega⟩
  · rintro ⟨i, h, rfl⟩; omega
theorem rng_nodup (lo hi : Int) : (rng lo hi).Nodup := by
  unfold rng
  refine List.Pairwise.map _ (fun a b h => ?_) List.nodup_range
  omega
theorem rng_nat (n : Nat) : rng 0 (n : Int) = (List.range n).map fun (i : Nat) => (i : Int) := by
  unfold rng
  have e : ((n : Int) - 0).toNat = n := by omega
  rw [e]
  simp
theorem map_nth {α : Type} [Inhabited α] (l : List α) : (rng 0 (l.length : Int)).map (fun i => nth l i) = l := by
  rw [rng_nat, List.map_map]
  apply List.ext_getElem (by simp)
  intro i h1 h2
  simp
  exact nth_at _ _ h2
theorem enum_eq {α : Type} [Inhabited α] (l : List α) : enum l = (rng 0 (l.length : Int)).map fun i => (i, nth l i) := by
  rw [rng_nat, List.map_map]
  unfold enum
  apply List.ext_getElem (by simp)
  intro i h1 h2
  have h3 : i < l.length := by simpa using h1
  simp [nth_at _ _ h3]
theorem enum_mem {α : Type} [Inhabited α] {l : List α} {x : Int × α} : x ∈ enum l ↔ ∃ i : Nat, i < l.length ∧ x = ((i : Int), nth l (i : Int)) := by
  rw [enum_eq, List.mem_map]
  constructor
  · rintro ⟨a, h, rfl⟩
    obtain ⟨i, hi, rfl⟩ := mem_rngN.mp h
    exact ⟨i, hi, rfl⟩
  · rintro ⟨i, hi, rfl⟩
    exact ⟨i, mem_rngN.mpr ⟨i, hi, rfl⟩, rfl⟩
theorem zip_mem {α β : Type} [Inhabited α] [Inhabited β] {l : List α} {k : List β} (hl : k.length = l.length) {x : α × β} : x ∈ l.zip k ↔ ∃ i : Nat, i < l.length ∧ x = (nth l (i : Int), nth k (i : Int)) := by
  constructor
  · intro h
    obtain ⟨i, hi, e⟩ := List.mem_iff_getElem.mp h
    have h1 : i < l.length := by simp at hi; omega
    have h2 : i < k.length := by omega
    refine ⟨i, h1, ?_⟩
    rw [nth_at _ _ h1, nth_at _ _ h2, ← e, List.getElem_zip]
  · rintro ⟨i, h1, rfl⟩
    have h2 : i < k.length := by omega
    rw [nth_at _ _ h1, nth_at _ _ h2]
    exact List.mem_iff_getElem.mpr ⟨i, by simp; omega, by rw [List.getElem_zip]⟩
theorem set_sum (l : List Int) : ∀ (i : Nat) (x : Int), i < l.length → (l.set i x).sum = l.sum - nth l (i : Int) + x := by
  induction l with
  | nil => intro i x h; simp at h
  | cons a l ih =>
    intro i x h
    cases i with
    | zero =>
      rw [nth_at _ 0 h]
      simp
      omega
    | succ i =>
      have h' : i < l.length := by simpa using h
      have := ih i x h'
      rw [nth_at _ _ h'] at this
      rw [nth_at _ _ h]
      simp [this]
      omega
theorem sum_le {α : Type} (L : List α) (f g : α → Int) (h : ∀ x ∈ L, f x ≤ g x) : (L.map f).sum ≤ (L.map g).sum := by
  induction L with
  | nil => simp
  | cons x L ih =>
    have := ih fun y hy => h y (List.mem_cons_of_mem _ hy)
    have := h x List.mem_cons_self
    simp
    omega
theorem sum_add {α : Type} (L : List α) (f g : α → Int) : (L.map fun x => f x + g x).sum = (L.map f).sum + (L.map g).sum := by
  induction L with
  | nil => simp
  | cons x L ih => simp [ih]; omega
theorem sum_mul {α : Type} (L : List α) (c : Int) (f : α → Int) : (L.map fun x => c * f x).sum = c * (L.map f).sum := by
  induction L with
  | nil => simp
  | cons x L ih => simp [ih, Int.mul_add]
theorem sum_nonneg (l : List Int) (h : ∀ x ∈ l, 0 ≤ x) : 0 ≤ l.sum := by
  induction l with
  | nil => simp
  | cons x l ih =>
    have := ih fun y hy => h y (List.mem_cons_of_mem _ hy)
    have := h x List.mem_cons_self
    simp
    omega
theorem sum_bd (l : List Int) (a b : Int) (h : ∀ x ∈ l, a ≤ x ∧ x ≤ b) : a * l.length ≤ l.sum ∧ l.sum ≤ b * l.length := by
  induction l with
  | nil => simp
  | cons x l ih =>
    have := ih fun y hy => h y (List.mem_cons_of_mem _ hy)
    have := h x List.mem_cons_self
    have e1 : a * ((l.length : Int) + 1) = a * l.length + a := by rw [Int.mul_add]; simp
    have e2 : b * ((l.length : Int) + 1) = b * l.length + b := by rw [Int.mul_add]; simp
    simp [e1, e2]
    omega
theorem sum_zero (l : List Int) (h : ∀ x ∈ l, x = 0) : l.sum = 0 := by
  induction l with
  | nil => rfl
  | cons x l ih => simp [ih fun y hy => h y (List.mem_cons_of_mem _ hy), h x List.mem_cons_self]
/-- without one item -/
theorem sum_without {α : Type} [DecidableEq α] (L : List α) (f : α → Int) (a : α) (hn : L.Nodup) (ha : a ∈ L) : ((L.filter fun x => decide (x ≠ a)).map f).sum = (L.map f).sum - f a := by
  induction L with
  | nil => simp at ha
  | cons x L ih =>
    obtain ⟨h1, h2⟩ := List.nodup_cons.mp hn
    by_cases e : x = a
    · subst e
      have : L.filter (fun y => decide (y ≠ x)) = L := List.filter_eq_self.mpr fun y hy => by
        have : y ≠ x := fun z => h1 (z ▸ hy)
        simpa using this
      rw [List.filter_cons_of_neg (by simp), this]
      simp
      omega
    · have ha' : a ∈ L := by
        rcases List.mem_cons.mp ha with z | z
        · exact (e z.symm).elim
        · exact z
      rw [List.filter_cons_of_pos (by simpa using e), List.map_cons, List.sum_cons, ih h2 ha', List.map_cons, List.sum_cons]
      omega
theorem flat_one {α : Type} (n : Nat) (x : α) : (List.replicate n [x]).flatten = List.replicate n x := by
  induction n with
  | zero => rfl
  | succ n ih => rw [List.replicate_succ, List.flatten_cons, ih]; rfl
theorem filter_all {α : Type} (l : List α) : l.filter (fun _ => true) = l := by simp
/-- sums across -/
theorem cross0 {α : Type} (L : List α) (c d : Int) (f g : α → Int) (h : ∀ j ∈ L, c * f j ≤ g j * d) : c * (L.map f).sum ≤ (L.map g).sum * d := by
  induction L with
  | nil => simp
  | cons x L ih =>
    have h1 := ih fun y hy => h y (List.mem_cons_of_mem _ hy)
    have h2 := h x List.mem_cons_self
    rw [List.map_cons, List.map_cons, List.sum_cons, List.sum_cons, Int.mul_add, Int.add_mul]
    omega
theorem cross1 {α : Type} [DecidableEq α] (L : List α) (c d e : Int) (f g : α → Int) (i : α) (hi : i ∈ L) (he : 0 ≤ e) (h : ∀ j ∈ L, j ≠ i → c * f j ≤ g j * d) (h' : c * f i + e ≤ g i * d) : c * (L.map f).sum + e ≤ (L.map g).sum * d := by
  have hall : ∀ j ∈ L, c * f j ≤ g j * d := fun j hj => by
    by_cases z : j = i
    · subst z; omega
    · exact h j hj z
  induction L with
  | nil => simp at hi
  | cons x L ih =>
    rw [List.map_cons, List.map_cons, List.sum_cons, List.sum_cons, Int.mul_add, Int.add_mul]
    by_cases z : x = i
    · subst z
      have := cross0 L c d f g fun y hy => hall y (List.mem_cons_of_mem _ hy)
      omega
    · have hi' : i ∈ L := by
        rcases List.mem_cons.mp hi with w | w
        · exact (z w.symm).elim
        · exact w
      have := ih hi' (fun j hj => h j (List.mem_cons_of_mem _ hj)) fun j hj => hall j (List.mem_cons_of_mem _ hj)
      have := hall x List.mem_cons_self
      omega
/-! ### flags, generators, walks with a way out -/
/-- all(.. for x in xs) -/
theorem Ok.all {α : Type} {m : R (List α)} {f : α → R Bool} (xs : List α) (q : α → Bool) (hm : Ok m (· = xs)) (hf : ∀ x ∈ xs, Ok (f x) (· = q x)) : Ok (R.gx false m (fun _ => R.pure true) f) (· = xs.all q) := by
  obtain ⟨p, e⟩ := hm
  refine ⟨⟨p, by rw [e]; exact gxP_of fun x hx => ⟨trivial, fun _ => (hf x hx).1⟩⟩, ?_⟩
  show gxV false _ f m.v = _
  rw [e, gxV_all]
  simp
  rw [Bool.eq_iff_iff]
  simp
  constructor
  · intro h x hx; rw [← (hf x hx).2]; exact h x hx
  · intro h x hx; rw [(hf x hx).2]; exact h x hx
theorem flag_fold {α : Type} {f : Bool → α → R Bool} (q : α → Bool) : ∀ (xs : List α) (s : Bool), (∀ s, ∀ x ∈ xs, (f s x).p ∧ (f s x).v = (s && !q x)) → foldP f s xs ∧ foldV f s xs = (s && xs.all fun x => !q x)
  | [], s, _ => ⟨trivial, by simp [foldV]⟩
  | x :: xs, s, h => by
    obtain ⟨p, e⟩ := h s x List.mem_cons_self
    obtain ⟨p2, e2⟩ := flag_fold q xs (f s x).v fun s y hy => h s y (List.mem_cons_of_mem _ hy)
    refine ⟨⟨p, p2⟩, ?_⟩
    show foldV f (f s x).v xs = _
    rw [e2, e, List.all_cons, Bool.and_assoc]
open Classical in
theorem loop_all {α L : Type} {f : Unit → α → R (Fl Unit Bool Unit)} (q : α → Prop) : ∀ xs : List α, (∀ x ∈ xs, (f () x).p ∧ (f () x).v = if q x then .nx () else .rt false) → loopP f () xs ∧ (loopV f () xs : Fl Unit Bool L) = if ∀ x ∈ xs, q x then .nx () else .rt false
  | [], _ => ⟨trivial, by simp [loopV]⟩
  | x :: xs, h => by
    obtain ⟨p, v⟩ := h x List.mem_cons_self
    obtain ⟨p2, v2⟩ := loop_all (L := L) q xs fun y hy => h y (List.mem_cons_of_mem _ hy)
    by_cases hq : q x
    · rw [if_pos hq] at v
      constructor
      · unfold loopP; rw [v]; exact ⟨p, p2⟩
      · unfold loopV; rw [v]; simp [hq, v2]
    · rw [if_neg hq] at v
      constructor
      · unfold loopP; rw [v]; exact ⟨p, trivial⟩
      · unfold loopV; rw [v]; simp [hq]
theorem Each.all {α β : Type} {f : α → N β} {xs : List α} {ys : List β} (h : Each f xs ys) {P : β → Prop} (hp : ∀ x ∈ xs, ∀ y, (f x).S y → P y) : ∀ y ∈ ys, P y := by
  intro y hy
  obtain ⟨i, hi, e⟩ := List.mem_iff_getElem.mp hy
  have hx : i < xs.length := by rw [← h.1]; exact hi
  exact hp _ (List.getElem_mem hx) _ (h.2 i xs[i] y (List.getElem?_eq_getElem hx) (by rw [List.getElem?_eq_getElem hi, e]))
/-! ways out -/
theorem Ok.flR_nx {σU β : Type} {m : R (Fl σU β Empty)} {f : σU → R β} {P : β → Prop} {s : σU} (h : Ok m (· = .nx s)) (k : Ok (f s) P) : Ok (R.flR m f) P := by
  obtain ⟨mp, mv⟩ := m
  obtain ⟨h1, h2⟩ := h
  have h2 : mv = .nx s := h2
  subst h2
  exact ⟨⟨h1, k.1⟩, k.2⟩
theorem Ok.flR_rt {σU β : Type} {m : R (Fl σU β Empty)} {f : σU → R β} {P : β → Prop} {b : β} (h : Ok m (· = .rt b)) (k : P b) : Ok (R.flR m f) P := by
  obtain ⟨mp, mv⟩ := m
  obtain ⟨h1, h2⟩ := h
  have h2 : mv = .rt b := h2
  subst h2
  exact ⟨⟨h1, trivial⟩, k⟩
theorem Ok.fl_nx {σU σT β L : Type} {m : R (Fl σU β L)} {f : σU → R (Fl σT β L)} {P : Fl σT β L → Prop} {s : σU} (h : Ok m (· = .nx s)) (k : Ok (f s) P) : Ok (R.fl m f) P := by
  obtain ⟨mp, mv⟩ := m
  obtain ⟨h1, h2⟩ := h
  have h2 : mv = .nx s := h2
  subst h2
  exact ⟨⟨h1, k.1⟩, k.2⟩
theorem Ok.fl_rt {σU σT β L : Type} {m : R (Fl σU β L)} {f : σU → R (Fl σT β L)} {P : Fl σT β L → Prop} {b : β} (h : Ok m (· = .rt b)) (k : P (.rt b)) : Ok (R.fl m f) P := by
  obtain ⟨mp, mv⟩ := m
  obtain ⟨h1, h2⟩ := h
  have h2 : mv = .rt b := h2
  subst h2
  exact ⟨⟨h1, trivial⟩, k⟩
/-- behind a turn of a loop: what holds on going on, on a return, on a break -/
def FlP {σT β L : Type} (J : σT → Prop) (Q : β → Prop) (B : L → Prop) : Fl σT β L → Prop
  | .nx s => J s
  | .rt b => Q b
  | .bk l => B l
  | .ct _ => False
def FlC {σT β : Type} (J : σT → Prop) (Q : β → Prop) (B : σT → Prop) : Fl σT β σT → Prop
  | .nx s => J s
  | .rt b => Q b
  | .bk l => B l
  | .ct s => J s
theorem loop_inv {σT α β L : Type} {f : σT → α → R (Fl σT β σT)} (J : Nat → σT → Prop) (Q : β → Prop) (B : σT → Prop) : ∀ (xs : List α) (k : Nat) (s : σT), J k s → (∀ (i : Nat) x s, xs[i]? = some x → J (k + i) s → Ok (f s x) (FlC (J (k + i + 1)) Q B)) → loopP f s xs ∧ FlP (fun s => J (k + xs.length) s ∨ B s) Q (fun _ => False) (loopV f s xs : Fl σT β L)
  | [], k, s, h, _ => ⟨trivial, .inl h⟩
  | x :: xs, k, s, h, hs => by
    have h0 := hs 0 x s rfl h
    have go : ∀ s', J (k + 1) s' → loopP f s' xs ∧ FlP (fun s => J (k + (x :: xs).length) s ∨ B s) Q (fun _ => False) (loopV f s' xs : Fl σT β L) := fun s' hj => by
      have e : k + (x :: xs).length = k + 1 + xs.length := by simp; omega
      rw [e]
      exact loop_inv J Q B xs (k + 1) s' hj fun i y t hy ht => by
        have e : k + 1 + i = k + (i + 1) := by omega
        rw [e] at ht ⊢
        exact hs (i + 1) y t (by simpa using hy) ht
    obtain ⟨p, q⟩ := h0
    unfold loopP loopV
    revert q
    cases (f s x).v with
    | nx s' => intro q; exact ⟨⟨p, (go s' q).1⟩, (go s' q).2⟩
    | ct s' => intro q; exact ⟨⟨p, (go s' q).1⟩, (go s' q).2⟩
    | bk s' => intro q; exact ⟨⟨p, trivial⟩, .inr q⟩
    | rt b => intro q; exact ⟨⟨p, trivial⟩, q⟩
theorem Ok.loop {σT α β L : Type} {m : R (List α)} {s : σT} {f : σT → α → R (Fl σT β σT)} (J : Nat → σT → Prop) (Q : β → Prop) (B : σT → Prop) (xs : List α) (hm : Ok m (· = xs)) (h0 : J 0 s) (hs : ∀ (i : Nat) x s, xs[i]? = some x → J i s → Ok (f s x) (FlC (J (i + 1)) Q B)) : Ok (R.loop (L := L) m s f) (FlP (fun s => J xs.length s ∨ B s) Q fun _ => False) := by
  obtain ⟨p, e⟩ := hm
  have := loop_inv (L := L) (f := f) J Q B xs 0 s h0 fun i x s hx hj => by
    have e : 0 + i = i := by omega
    rw [e] at hj ⊢
    exact hs i x s hx hj
  rw [Nat.zero_add] at this
  refine ⟨⟨p, by rw [e]; exact this.1⟩, ?_⟩
  show FlP _ _ _ (loopV f s m.v)
  rw [e]
  exact this.2
theorem Ok.flR {σU β : Type} {m : R (Fl σU β Empty)} {f : σU → R β} {P : β → Prop} (h : Ok m (FlP (fun s => Ok (f s) P) P fun _ => False)) : Ok (R.flR m f) P := by
  obtain ⟨mp, mv⟩ := m
  obtain ⟨h1, h2⟩ := h
  cases mv with
  | nx s => exact ⟨⟨h1, h2.1⟩, h2.2⟩
  | rt b => exact ⟨⟨h1, trivial⟩, h2⟩
  | bk l => exact nomatch l
  | ct l => exact nomatch l
theorem FlP.imp {σT β L : Type} {J J' : σT → Prop} {Q Q' : β → Prop} {B B' : L → Prop} {z : Fl σT β L} (h : FlP J Q B z) (h1 : ∀ s, J s → J' s) (h2 : ∀ b, Q b → Q' b) (h3 : ∀ l, B l → B' l) : FlP J' Q' B' z := by
  cases z with
  | nx s => exact h1 s h
  | rt b => exact h2 b h
  | bk l => exact h3 l h
  | ct l => exact h
open Classical in
/-- for x in xs: if not q x: return False -/
theorem Ok.loop_q {α L : Type} {m : R (List α)} {f : Unit → α → R (Fl Unit Bool Unit)} (xs : List α) (q : α → Prop) (hm : Ok m (· = xs)) (hf : ∀ x ∈ xs, Ok (f () x) (· = if q x then .nx () else .rt false)) : Ok (R.loop (L := L) m () f) (· = if ∀ x ∈ xs, q x then .nx () else .rt false) := by
  obtain ⟨p, e⟩ := hm
  have := loop_all (L := L) (f := f) q xs hf
  refine ⟨⟨p, by rw [e]; exact this.1⟩, ?_⟩
  show loopV f () m.v = _
  rw [e]
  exact this.2
open Classical in
theorem Ok.loop_qR {α : Type} {m : R (List α)} {f : Unit → α → R (Fl Unit Bool Unit)} (xs : List α) (q : α → Prop) (hm : Ok m (· = xs)) (hf : ∀ x ∈ xs, Ok (f () x) (· = if q x then .nx () else .rt false)) : Ok (R.flR (R.loop m () f) fun _ => R.pure true) (· = decide (∀ x ∈ xs, q x)) := by
  have h := Ok.loop_q (L := Empty) xs q hm hf
  by_cases c : ∀ x ∈ xs, q x
  · rw [if_pos c] at h
    exact Ok.flR_nx h (Ok.pure (decide_eq_true c).symm)
  · rw [if_neg c] at h
    exact Ok.flR_rt h (decide_eq_false c).symm
open Classical in
theorem Ok.loop_qF {α : Type} {m : R (List α)} {f : Unit → α → R (Fl Unit Bool Unit)} (xs : List α) (q : α → Prop) (hm : Ok m (· = xs)) (hf : ∀ x ∈ xs, Ok (f () x) (· = if q x then .nx () else .rt false)) : Ok (R.fl (R.loop (L := Unit) m () f) fun _ => R.pure (Fl.nx () : Fl Unit Bool Unit)) (· = if ∀ x ∈ xs, q x then .nx () else .rt false) := by
  have h := Ok.loop_q (L := Unit) xs q hm hf
  by_cases c : ∀ x ∈ xs, q x
  · rw [if_pos c] at h ⊢
    exact Ok.fl_nx h (Ok.pure rfl)
  · rw [if_neg c] at h ⊢
    exact Ok.fl_rt h rfl
/-! what is drawn -/
theorem drw {n i : Int} (h : (N.d1 m_draw (N.of (R.pure n))).S i) : 0 ≤ i ∧ i < n := by
  obtain ⟨_, rfl, h1, h2⟩ := h
  exact ⟨h1, h2⟩
theorem drwP {n : Int} (h1 : 0 < n) (h2 : n < 1073741824) : (N.d1 m_draw (N.of (R.pure n))).p := ⟨trivial, by rintro _ rfl; exact ⟨h1, h2⟩⟩
theorem W.seq_draw {σT β : Type} {n : Int} {b : Int → (σT → Prop) → (β → Prop) → Prop} {K : σT → Prop} {Kr : β → Prop} (h1 : 0 < n) (h2 : n < 1073741824) (k : ∀ s, 0 ≤ s → s < n → b s K Kr) : W.seq (W.of (N.d1 m_draw (N.of (R.pure n)))) b K Kr := ⟨drwP h1 h2, fun s hs => k s (drw hs).1 (drw hs).2⟩
theorem W.seq_draw1 {σT β : Type} {n : Int} {b : Int → (σT → Prop) → (β → Prop) → Prop} {K : σT → Prop} {Kr : β → Prop} (h1 : 0 < n) (h2 : n < 1073741824) (k : ∀ s, 0 ≤ s → s < n → b (1 + s) K Kr) : W.seq (W.of (N.o2 T2 (fun i j : Int => i + j) (N.of (R.pure (1 : Int))) (N.d1 m_draw (N.of (R.pure n))))) b K Kr := ⟨⟨trivial, drwP h1 h2, fun _ _ _ _ => trivial⟩, by
  rintro _ ⟨_, y, rfl, hy, rfl⟩
  exact k y (drw hy).1 (drw hy).2⟩
theorem W.seq_pick {σT β α : Type} [Inhabited α] {n : Int} {m : R (List α)} (l : List α) (hm : m.p) (e : m.v = l) {b : α → (σT → Prop) → (β → Prop) → Prop} {K : σT → Prop} {Kr : β → Prop} (h1 : 0 < n) (h2 : n < 1073741824) (hl : (l.length : Int) = n) (k : ∀ i : Nat, i < l.length → b (nth l (i : Int)) K Kr) : W.seq (W.of (N.o2 (fun (xs : (List α)) i => ixOk xs.length i) nth (N.of m) (N.d1 m_draw (N.of (R.pure n))))) b K Kr := by
  refine ⟨⟨hm, drwP h1 h2, fun x y hx hy => ?_⟩, ?_⟩
  · have hx : x = m.v := hx
    rw [hx, e]
    have := drw hy
    unfold ixOk
    omega
  · rintro _ ⟨x, y, hx, hy, rfl⟩
    have hx : x = m.v := hx
    rw [hx, e]
    have := drw hy
    have := k y.toNat (by omega)
    have e2 : ((y.toNat : Nat) : Int) = y := by omega
    rw [e2] at this
    exact this
/-- [1 + draw(g) for j in range(1 + draw(n))] -/
theorem W.seq_drawn {σT β : Type} {m : N (List Int)} {f : Int → N Int} {b : List Int → (σT → Prop) → (β → Prop) → Prop} {K : σT → Prop} {Kr : β → Prop} (lo hi : Nat) (A B : Int) (hm : m.p) (hl : ∀ xs, m.S xs → lo ≤ xs.length ∧ xs.length ≤ hi) (hh : hi ≤ 100000) (hf : ∀ x, (f x).p) (hv : ∀ x y, (f x).S y → A ≤ y ∧ y ≤ B) (k : ∀ l : List Int, lo ≤ l.length → l.length ≤ hi → (∀ x ∈ l, A ≤ x ∧ x ≤ B) → b l K Kr) : W.seq (W.of (N.lc m (fun _ => R.pure true) f)) b K Kr := by
  refine ⟨⟨hm, fun xs hx => ⟨by have := hl xs hx; omega, fun x _ => ⟨trivial, fun _ => hf x⟩⟩⟩, ?_⟩
  rintro l ⟨xs, hx, he⟩
  have h1 := he.1
  have h3 : xs.filter (fun x => ((fun _ => R.pure true : Int → R Bool) x).v) = xs := List.filter_eq_self.mpr (fun _ _ => rfl)
  rw [h3] at h1
  have h2 := hl xs hx
  exact k l (by omega) (by omega) (he.all fun x _ y hy => hv x y hy)
theorem W.seq_eq {σT σU β : Type} {m : R σU} {b : σU → (σT → Prop) → (β → Prop) → Prop} {K : σT → Prop} {Kr : β → Prop} (x : σU) (h : Ok m (· = x)) (k : b x K Kr) : W.seq (W.of (N.of m)) b K Kr := W.seq_of (Ok.eq h k)
theorem drwM {m : R Int} {i : Int} (h : (N.d1 m_draw (N.of m)).S i) : 0 ≤ i ∧ i < m.v := by
  obtain ⟨_, rfl, h1, h2⟩ := h
  exact ⟨h1, h2⟩
theorem drwMP {m : R Int} (h : m.p) (h1 : 0 < m.v) (h2 : m.v < 1073741824) : (N.d1 m_draw (N.of m)).p := ⟨h, by rintro _ rfl; exact ⟨h1, h2⟩⟩
theorem Ok.flag {α : Type} {m : R (List α)} {s : Bool} {f : Bool → α → R Bool} (q : α → Bool) (xs : List α) (hm : Ok m (· = xs)) (hf : ∀ s, ∀ x ∈ xs, Ok (f s x) (· = (s && !q x))) : Ok (R.fold m s f) (· = (s && xs.all fun x => !q x)) := by
  obtain ⟨p, e⟩ := hm
  have := flag_fold (f := f) q xs s hf
  refine ⟨⟨p, by rw [e]; exact this.1⟩, ?_⟩
  show foldV f s m.v = _
  rw [e]
  exact this.2
/-! sorting -/
theorem map_rng {α β : Type} [Inhabited α] (f : α → β) (l : List α) : l.map f = (rng 0 (l.length : Int)).map fun k => f (nth l k) := by
  have h : (rng 0 (l.length : Int)).map (fun k => f (nth l k)) = ((rng 0 (l.length : Int)).map fun k => nth l k).map f := by rw [List.map_map]; rfl
  rw [h, map_nth]
theorem lt_pair (p q : Int × Int) : POrd.lt p q = decide (p.1 < q.1 ∨ (p.1 = q.1 ∧ p.2 < q.2)) := by
  show (if p.1 = q.1 then decide (p.2 < q.2) else decide (p.1 < q.1)) = _
  by_cases h : p.1 = q.1
  · rw [if_pos h, Bool.eq_iff_iff]; simp [h]
  · rw [if_neg h, Bool.eq_iff_iff]; simp [h]
theorem srt_perm {α : Type} [Rep α] [DecidableEq α] [POrd α] (xs : List α) : (srtD xs).Perm xs := List.mergeSort_perm ..
theorem srt_len {α : Type} [Rep α] [DecidableEq α] [POrd α] (xs : List α) : (srtD xs).length = xs.length := (srt_perm xs).length_eq
theorem srt_mem {α : Type} [Rep α] [DecidableEq α] [POrd α] {xs : List α} {x : α} : x ∈ srtD xs ↔ x ∈ xs := (srt_perm xs).mem_iff
theorem srt_pair (xs : List (Int × Int)) : (srtD xs).Pairwise fun p q => p.1 < q.1 ∨ (p.1 = q.1 ∧ p.2 ≤ q.2) := by
  have := List.pairwise_mergeSort (le := fun a b : Int × Int => !POrd.lt b a) (fun a b c h1 h2 => by
    rw [lt_pair] at *; simp at *; omega) (fun a b => by
    rw [lt_pair, lt_pair]; simp; omega) xs
  refine this.imp fun {p q} h => ?_
  rw [lt_pair] at h
  simp at h
  omega
theorem srt_int (xs : List Int) : (srtD xs).Pairwise (· ≤ ·) := by
  have := List.pairwise_mergeSort (le := fun a b : Int => !POrd.lt b a) (fun a b c h1 h2 => by
    show (!decide (c < a)) = true
    have h1 : (!decide (b < a)) = true := h1
    have h2 : (!decide (c < b)) = true := h2
    simp at *; omega) (fun a b => by
    show (!decide (b < a) || !decide (a < b)) = true
    simp; omega) xs
  refine this.imp fun {p q} h => ?_
  have h : (!decide (q < p)) = true := h
  simp at h
  omega
theorem perm_sum {l k : List Int} (h : l.Perm k) : l.sum = k.sum := by
  induction h with
  | nil => rfl
  | cons x _ ih => simp [ih]
  | swap x y l => simp; omega
  | trans _ _ ih1 ih2 => rw [ih1, ih2]
/-- how many of a list's items are in another one -/
theorem sum_ind (L T : List Int) (hL : L.Nodup) (hT : T.Nodup) (hs : ∀ x ∈ T, x ∈ L) : (L.map fun k => if k ∈ T then (1 : Int) else 0).sum = T.length := by
  have h1 : ∀ M : List Int, (M.map fun k => if k ∈ T then (1 : Int) else 0).sum = (M.filter fun k => decide (k ∈ T)).length := by
    intro M
    induction M with
    | nil => rfl
    | cons x M ih =>
      by_cases c : x ∈ T
      · rw [List.map_cons, List.sum_cons, ih, if_pos c, List.filter_cons_of_pos (by simpa using c)]
        simp
        omega
      · rw [List.map_cons, List.sum_cons, ih, if_neg c, List.filter_cons_of_neg (by simpa using c)]
        simp
  rw [h1]
  have : (L.filter fun k => decide (k ∈ T)).Perm T := by
    rw [List.perm_ext_iff_of_nodup (hL.filter _) hT]
    intro a
    simp
    exact fun h => hs a h
  rw [this.length_eq]
theorem rng_asc (lo hi : Int) : (rng lo hi).Pairwise (· < ·) := by
  unfold rng
  refine List.Pairwise.map _ (fun a b h => ?_) List.pairwise_lt_range
  omega
/-- the least one of those that are wanted stands first -/
theorem first_of {l : List Int} (hl : l.Pairwise (· < ·)) (q : Int → Bool) (x : Int) (hx : x ∈ l) (hq : q x = true) (hm : ∀ y ∈ l, q y = true → x ≤ y) : ∃ r, l.filter q = x :: r := by
  have hf : (l.filter q).Pairwise (· < ·) := hl.filter q
  have hxm : x ∈ l.filter q := List.mem_filter.mpr ⟨hx, hq⟩
  cases e : l.filter q with
  | nil => rw [e] at hxm; cases hxm
  | cons y r =>
    rw [e] at hxm hf
    have hy : y ∈ l.filter q := by rw [e]; exact List.mem_cons_self
    obtain ⟨hy1, hy2⟩ := List.mem_filter.mp hy
    have h1 := hm y hy1 hy2
    rcases List.mem_cons.mp hxm with z | z
    · exact ⟨r, by rw [z]⟩
    · have := (List.pairwise_cons.mp hf).1 x z
      omega
theorem lmax_is {xs : List Int} {m : Int} (h1 : m ∈ xs) (h2 : ∀ x ∈ xs, x ≤ m) : lmax xs = m := by
  cases xs with
  | nil => cases h1
  | cons x xs =>
    obtain ⟨a, b, c⟩ := foldl_max_ge (x :: xs) x
    show (x :: xs).foldl max x = m
    have hm := b m h1
    rcases c with c | c
    · have := h2 x List.mem_cons_self; omega
    · have := h2 _ c; omega
theorem cut_take {α : Type} (xs : List α) (k : Int) (h0 : 0 ≤ k) (h1 : k ≤ xs.length) : cut xs none (some k) = xs.take k.toNat := by
  unfold cut HT.sIx
  simp
  rw [if_neg (by omega)]
  congr 1
  omega
theorem cut_tail {α : Type} (x : α) (xs : List α) : cut (x :: xs) (some 1) none = xs := by
  unfold cut HT.sIx
  simp
/-! tests -/
theorem Ok.orF {a b : R Bool} (ha : Ok a (· = false)) (hb : Ok b (· = false)) : Ok (R.or a b) (· = false) := by
  refine ⟨⟨ha.1, fun _ => hb.1⟩, ?_⟩
  show (a.v || b.v) = false
  rw [ha.2, hb.2]; rfl
theorem Ok.andF {a b : R Bool} (ha : Ok a fun x => x = false ∨ Ok b (· = false)) : Ok (R.and a b) (· = false) := by
  obtain ⟨p, h⟩ := ha
  rcases h with h | h
  · refine ⟨⟨p, fun z => (Bool.false_ne_true (h.symm.trans z)).elim⟩, ?_⟩
    show (a.v && b.v) = false
    rw [h]; rfl
  · refine ⟨⟨p, fun _ => h.1⟩, ?_⟩
    show (a.v && b.v) = false
    rw [h.2]; cases a.v <;> rfl
theorem Ok.andL {a b : R Bool} (ha : Ok a (· = false)) : Ok (R.and a b) (· = false) := Ok.andF (ha.imp fun _ h => .inl h)
theorem Ok.andR {a b : R Bool} (ha : a.p) (hb : Ok b (· = false)) : Ok (R.and a b) (· = false) := Ok.andF ⟨ha, .inr hb⟩
theorem Ok.andT {a b : R Bool} (ha : Ok a (· = true)) (hb : Ok b (· = true)) : Ok (R.and a b) (· = true) := by
  refine ⟨⟨ha.1, fun _ => hb.1⟩, ?_⟩
  show (a.v && b.v) = true
  rw [ha.2, hb.2]; rfl
theorem Ok.and {a b : R Bool} {x y : Bool} (ha : Ok a (· = x)) (hb : x = true → Ok b (· = y)) : Ok (R.and a b) (· = (x && y)) := by
  obtain ⟨p, h⟩ := ha
  cases x with
  | false =>
    refine ⟨⟨p, fun z => (Bool.false_ne_true (h.symm.trans z)).elim⟩, ?_⟩
    show (a.v && b.v) = _
    rw [h]; rfl
  | true =>
    refine ⟨⟨p, fun _ => (hb rfl).1⟩, ?_⟩
    show (a.v && b.v) = _
    rw [h, (hb rfl).2]
theorem Ok.or {a b : R Bool} {x y : Bool} (ha : Ok a (· = x)) (hb : x = false → Ok b (· = y)) : Ok (R.or a b) (· = (x || y)) := by
  obtain ⟨p, h⟩ := ha
  cases x with
  | true =>
    refine ⟨⟨p, fun z => (Bool.false_ne_true (z.symm.trans h)).elim⟩, ?_⟩
    show (a.v || b.v) = _
    rw [h]; rfl
  | false =>
    refine ⟨⟨p, fun _ => (hb rfl).1⟩, ?_⟩
    show (a.v || b.v) = _
    rw [h, (hb rfl).2]
theorem Ok.notT {c : R Bool} (h : Ok c (· = true)) : Ok (R.not (R.o1 T1 (fun i : Bool => i) c)) (· = false) := by
  refine ⟨⟨h.1, trivial⟩, ?_⟩
  show (!c.v) = false
  rw [h.2]; rfl
theorem Ok.not {c : R Bool} {x : Bool} (h : Ok c (· = x)) : Ok (R.not (R.o1 T1 (fun i : Bool => i) c)) (· = !x) := by
  refine ⟨⟨h.1, trivial⟩, ?_⟩
  show (!c.v) = _
  rw [h.2]
theorem allB {l : List Int} {f : Int → Bool} {P : Prop} [Decidable P] (h : (∀ x ∈ l, f x = true) ↔ P) : ((l.filter fun _ => true).map f).all id = decide P := by
  rw [filter_all, Bool.eq_iff_iff, decide_eq_true_iff, ← h]
  simp
end FP
namespace FP
open PySem PySem.Spec PyProof.Rows L2
open Rep (rep)
/-! ### fractions -/
def fr (x : Rat) : Int × Int := (x.num, (x.den : Int))
def rat (p q : Int) : Rat := mkRat p q.toNat
theorem fr_inj {x y : Rat} : fr x = fr y ↔ x = y := by
  constructor
  · intro h
    have h1 : x.num = y.num := congrArg Prod.fst h
    have h2 : ((x.den : Nat) : Int) = y.den := congrArg Prod.snd h
    exact Rat.ext h1 (by omega)
  · rintro rfl; rfl
theorem den_pos (x : Rat) : 0 < (x.den : Int) := by have := x.den_pos; omega
theorem rat_self (x : Rat) : rat x.num x.den = x := by
  unfold rat
  rw [Int.toNat_natCast]
  exact Rat.mkRat_self x
theorem rat_fr (x : Rat) : rat (fr x).1 (fr x).2 = x := rat_self x
theorem rat_one (p : Int) : rat p 1 = (p : Rat) := Rat.mkRat_one p
theorem fr_int (p : Int) : fr (p : Rat) = (p, 1) := rfl
theorem fr_zero : fr 0 = (0, 1) := rfl
theorem fr_one : fr 1 = (1, 1) := rfl
theorem rat_div {p q : Int} (hq : 0 < q) : rat p q = (p : Rat) / (q : Rat) := by
  unfold rat
  rw [Rat.mkRat_eq_div]
  have : ((q.toNat : Nat) : Int) = q := by omega
  rw [← this]
  rfl
theorem rat_add {a b c d : Int} (hb : 0 < b) (hd : 0 < d) : rat a b + rat c d = rat (a * d + c * b) (b * d) := by
  unfold rat
  rw [Rat.mkRat_add_mkRat _ _ (by omega) (by omega)]
  have e1 : ((d.toNat : Nat) : Int) = d := by omega
  have e2 : ((b.toNat : Nat) : Int) = b := by omega
  rw [e1, e2]
  congr 1
  have : 0 ≤ b * d := Int.mul_nonneg (by omega) (by omega)
  have e3 : ((b.toNat * d.toNat : Nat) : Int) = b * d := by rw [Int.natCast_mul, e1, e2]
  omega
theorem rat_mul {a b c d : Int} (hb : 0 < b) (hd : 0 < d) : rat a b * rat c d = rat (a * c) (b * d) := by
  unfold rat
  rw [Rat.mkRat_mul_mkRat]
  congr 1
  have e1 : ((d.toNat : Nat) : Int) = d := by omega
  have e2 : ((b.toNat : Nat) : Int) = b := by omega
  have : 0 ≤ b * d := Int.mul_nonneg (by omega) (by omega)
  have e3 : ((b.toNat * d.toNat : Nat) : Int) = b * d := by rw [Int.natCast_mul, e1, e2]
  omega
theorem rat_neg (a b : Int) : -rat a b = rat (-a) b := Rat.neg_mkRat _ _
theorem rat_eq {a b c d : Int} (hb : 0 < b) (hd : 0 < d) : rat a b = rat c d ↔ a * d = c * b := by
  unfold rat
  rw [Rat.mkRat_eq_iff (by omega) (by omega)]
  have e1 : ((d.toNat : Nat) : Int) = d := by omega
  have e2 : ((b.toNat : Nat) : Int) = b := by omega
  rw [e1, e2]
theorem rat_zero {b : Int} (hb : 0 < b) : rat 0 b = 0 := by
  have : (0 : Rat) = rat 0 1 := rfl
  rw [this, rat_eq hb (by omega)]
  simp
/-- what two ints in lowest terms are -/
theorem fr_rat {p q : Int} (hq : 0 < q) : fr (rat p q) = (p / ((Nat.gcd p.natAbs q.natAbs : Nat) : Int), q / ((Nat.gcd p.natAbs q.natAbs : Nat) : Int)) := by
  unfold fr rat
  have hq2 : q.toNat ≠ 0 := by omega
  have e : q.natAbs = q.toNat := by omega
  rw [Rat.mkRat_def, dif_neg hq2, Rat.normalize_eq, e]
  apply Prod.ext
  · rfl
  · show ((q.toNat / p.natAbs.gcd q.toNat : Nat) : Int) = _
    rw [Int.natCast_ediv]
    congr 1
    omega
theorem gcd_bd {p q : Int} (hq : 0 < q) : 0 < ((Nat.gcd p.natAbs q.natAbs : Nat) : Int) ∧ ((Nat.gcd p.natAbs q.natAbs : Nat) : Int) ≤ q := by
  have h1 : 0 < Nat.gcd p.natAbs q.natAbs := Nat.gcd_pos_of_pos_right _ (by omega)
  have h2 : Nat.gcd p.natAbs q.natAbs ≤ q.natAbs := Nat.gcd_le_right _ (by omega)
  omega
theorem fr_lt {x y : Rat} : (fr x).1 * (fr y).2 < (fr y).1 * (fr x).2 ↔ x < y := (Rat.lt_iff x y).symm
/-- a whole number of n-ths -/
def Ovr (n : Nat) (x : Rat) : Prop := ∃ k : Int, x = rat k n
theorem Ovr.add {n : Nat} {x y : Rat} (hn : 0 < n) (hx : Ovr n x) (hy : Ovr n y) : Ovr n (x + y) := by
  obtain ⟨a, rfl⟩ := hx
  obtain ⟨b, rfl⟩ := hy
  refine ⟨a + b, ?_⟩
  rw [rat_add (by omega) (by omega), rat_eq (Int.mul_pos (by omega) (by omega)) (by omega)]
  grind
theorem Ovr.neg {n : Nat} {x : Rat} (hx : Ovr n x) : Ovr n (-x) := by
  obtain ⟨a, rfl⟩ := hx
  exact ⟨-a, rat_neg _ _⟩
theorem Ovr.sub {n : Nat} {x y : Rat} (hn : 0 < n) (hx : Ovr n x) (hy : Ovr n y) : Ovr n (x - y) := by
  rw [Rat.sub_eq_add_neg]
  exact hx.add hn hy.neg
theorem Ovr.int {n : Nat} (hn : 0 < n) (k : Int) : Ovr n (k : Rat) := by
  refine ⟨k * n, ?_⟩
  rw [← rat_one, rat_eq (by omega) (by omega)]
  simp
theorem Ovr.of {n m : Nat} (hn : 0 < n) (hm : 0 < m) (h : m ∣ n) (k : Int) : Ovr n (rat k m) := by
  obtain ⟨c, rfl⟩ := h
  refine ⟨k * c, ?_⟩
  rw [rat_eq (by omega) (by omega), Int.natCast_mul]
  grind
theorem Ovr.den {n : Nat} (hn : 0 < n) {x : Rat} (hx : Ovr n x) : (x.den : Int) ≤ n := by
  obtain ⟨a, rfl⟩ := hx
  have h := congrArg Prod.snd (fr_rat (p := a) (q := (n : Int)) (by omega))
  have h : ((rat a n).den : Int) = (n : Int) / ((Nat.gcd a.natAbs (n : Int).natAbs : Nat) : Int) := h
  rw [h]
  exact Int.ediv_le_self _ (by omega)
theorem rat_nonneg {p q : Int} (hq : 0 < q) : 0 ≤ rat p q ↔ 0 ≤ p := by
  rw [← Rat.num_nonneg]
  have h : (rat p q).num = p / ((Nat.gcd p.natAbs q.natAbs : Nat) : Int) := congrArg Prod.fst (fr_rat (p := p) hq)
  have g := gcd_bd (p := p) hq
  rw [h]
  exact Int.ediv_nonneg_iff_of_pos g.1
theorem rat_le {a b c d : Int} (hb : 0 < b) (hd : 0 < d) : rat a b ≤ rat c d ↔ a * d ≤ c * b := by
  rw [Rat.le_iff_sub_nonneg, Rat.sub_eq_add_neg, rat_neg, rat_add hd hb, rat_nonneg (Int.mul_pos hd hb), Int.neg_mul]
  omega
theorem rat_lt {a b c d : Int} (hb : 0 < b) (hd : 0 < d) : rat a b < rat c d ↔ a * d < c * b := by
  rw [← Rat.not_le, rat_le hd hb]
  omega
theorem fr_neg (x : Rat) : (-(fr x).1, (fr x).2) = fr (-x) := by
  unfold fr
  rw [Rat.neg_num, Rat.neg_den]
def rabs (x : Rat) : Rat := if x < 0 then -x else x
theorem num_neg {x : Rat} : (fr x).1 < 0 ↔ x < 0 := by
  have h := @Rat.num_nonneg x
  constructor
  · intro z
    apply Rat.not_le.mp
    intro q
    have := h.mpr q
    have z : x.num < 0 := z
    omega
  · intro z
    have : ¬ 0 ≤ x.num := fun q => Rat.not_le.mpr z (h.mp q)
    show x.num < 0
    omega
theorem fr_abs (x : Rat) : ((if (fr x).1 < 0 then -(fr x).1 else (fr x).1), (fr x).2) = fr (rabs x) := by
  unfold rabs
  by_cases c : x < 0
  · rw [if_pos (num_neg.mpr c), if_pos c, fr_neg]
  · rw [if_neg fun z => c (num_neg.mp z), if_neg c]
theorem Ovr.abs {n : Nat} {x : Rat} (hx : Ovr n x) : Ovr n (rabs x) := by
  unfold rabs
  split
  · exact hx.neg
  · exact hx
theorem Ovr.zero (n : Nat) : Ovr n 0 := ⟨0, by unfold rat; simp⟩
/-! ### whiles, by what holds and what falls -/
theorem wl_inv {σT β L : Type} {c : σT → R Bool} {f : σT → R (Fl σT β σT)} (I : σT → Prop) (μ : σT → Nat) (Q : β → Prop) (B : σT → Prop) (hc : ∀ s, I s → (c s).p) (hs : ∀ s, I s → (c s).v = true → Ok (f s) (FlC (fun s' => I s' ∧ μ s' < μ s) Q B)) : ∀ (n : Nat) (s : σT), I s → μ s < n → wlP c f n s ∧ FlP (fun s => (I s ∧ (c s).v = false) ∨ B s) Q (fun _ => False) (wlV c f n s : Fl σT β L)
  | 0, s, _, h => by omega
  | n + 1, s, hI, h => by
    by_cases hv : (c s).v = true
    · obtain ⟨p, q⟩ := hs s hI hv
      have key : ∀ s', (I s' ∧ μ s' < μ s) → wlP c f n s' ∧ FlP (fun s => (I s ∧ (c s).v = false) ∨ B s) Q (fun _ => False) (wlV c f n s' : Fl σT β L) := fun s' hj => wl_inv I μ Q B hc hs n s' hj.1 (by omega)
      unfold wlP wlV
      rw [if_pos hv]
      revert q
      cases (f s).v with
      | nx s' => intro q; exact ⟨⟨hc s hI, fun _ => ⟨p, (key s' q).1⟩⟩, (key s' q).2⟩
      | ct s' => intro q; exact ⟨⟨hc s hI, fun _ => ⟨p, (key s' q).1⟩⟩, (key s' q).2⟩
      | bk s' => intro q; exact ⟨⟨hc s hI, fun _ => ⟨p, trivial⟩⟩, .inr q⟩
      | rt b => intro q; exact ⟨⟨hc s hI, fun _ => ⟨p, trivial⟩⟩, q⟩
    · have hf : (c s).v = false := by cases e : (c s).v with
        | true => exact (hv e).elim
        | false => rfl
      unfold wlP wlV
      rw [if_neg hv]
      exact ⟨⟨hc s hI, fun z => (hv z).elim⟩, .inl ⟨hI, hf⟩⟩
theorem Ok.wlg {σT β L : Type} {c : σT → R Bool} {f : σT → R (Fl σT β σT)} {n : Nat} {s0 : σT} (I : σT → Prop) (μ : σT → Nat) (Q : β → Prop) (B : σT → Prop) (hI : I s0) (hμ : μ s0 < n) (hc : ∀ s, I s → (c s).p) (hs : ∀ s, I s → (c s).v = true → Ok (f s) (FlC (fun s' => I s' ∧ μ s' < μ s) Q B)) : Ok (R.wlg (L := L) n s0 c f) (FlP (fun s => (I s ∧ (c s).v = false) ∨ B s) Q fun _ => False) := wl_inv I μ Q B hc hs n s0 hI hμ
theorem wh_inv {σT : Type} {c : σT → R Bool} {f : σT → R σT} (I : σT → Prop) (μ : σT → Nat) (hc : ∀ s, I s → (c s).p) (hs : ∀ s, I s → (c s).v = true → Ok (f s) (fun s' => I s' ∧ μ s' < μ s)) : ∀ (n : Nat) (s : σT), I s → μ s < n → whileP c f n s ∧ I (whileV c f n s) ∧ (c (whileV c f n s)).v = false
  | 0, s, _, h => by omega
  | n + 1, s, hI, h => by
    by_cases hv : (c s).v = true
    · obtain ⟨p, q⟩ := hs s hI hv
      have := wh_inv I μ hc hs n _ q.1 (by omega)
      unfold whileP whileV
      rw [if_pos hv]
      exact ⟨⟨hc s hI, fun _ => ⟨p, this.1⟩⟩, this.2⟩
    · have hf : (c s).v = false := by cases e : (c s).v with
        | true => exact (hv e).elim
        | false => rfl
      unfold whileP whileV
      rw [if_neg hv]
      exact ⟨⟨hc s hI, fun z => (hv z).elim⟩, hI, hf⟩
theorem Ok.whl {σT : Type} {c : σT → R Bool} {f : σT → R σT} {n : Nat} {s0 : σT} {P : σT → Prop} (I : σT → Prop) (μ : σT → Nat) (hI : I s0) (hμ : μ s0 < n) (hc : ∀ s, I s → (c s).p) (hs : ∀ s, I s → (c s).v = true → Ok (f s) (fun s' => I s' ∧ μ s' < μ s)) (hP : ∀ s, I s → (c s).v = false → P s) : Ok (R.whl n s0 c f) P := by
  obtain ⟨h1, h2, h3⟩ := wh_inv I μ hc hs n s0 hI hμ
  exact ⟨h1, hP _ h2 h3⟩
end FP
namespace FP
open PySem PySem.Spec PyProof.Rows L2
open Rep (rep)

/-! ### a place that no slot owns, and that may turn: the list a comprehension of two clauses builds -/
def badT : HO := .tbl #[Value.ref 0]
theorem badT_no {ps : Array Value} (h : badT = .tbl ps) : ¬ TriplesOk ps.toList := by
  cases h
  exact fun z => z
theorem badT_NoT : ¬ NoT badT := fun h => h _ rfl
section
variable {K : PySem.W.Frag} {M : Mm} {S0 H0 S H : Hp} {env : List Sl} {σ : L2.St} {D : Addr}
theorem owns_upd {p : Addr} {o : HO} {dss : List (List PyData)} {as : List Addr} (h : Owns K S H dss as) (n : ∀ a ∈ as, a ≠ p) : Owns K S (upd H p o) dss as := Owns.upd n h
theorem St0.shield (h : St0 K M S0 H0 S H env σ) (hD : H D = none) (o : HO) : St0 K M S0 (upd H0 D badT) S (upd H D o) env σ := by
  have hS : S D = none := h.gd.fresh hD
  have hM : ¬ M D := h.gd.notM hD
  have hM0 : H0 D = none := by
    cases q : H0 D with
    | none => rfl
    | some o => exact absurd hD (h.stp.keep D (by rw [q]; exact fun z => nomatch z))
  obtain ⟨len, stp, gd, O, inj, out, sl⟩ := h
  have nO : ∀ i a, a ∈ O i → a ≠ D := fun i a m z => (out i a m).2.2.2 (by rw [z]; exact hD)
  refine ⟨len, ⟨stp.ss, fun a u e => ?_, fun a u e m n => ?_, fun a ps e t => ?_, fun a e n => ?_, fun a m v => ?_, fun a n => ?_⟩, ⟨fun a u e => ?_, fun a m => ?_, fun p m => ?_⟩, O, inj, fun i a m => ?_, fun i s e => ?_⟩
  · rw [upd_ne (ne_of_none e hS)]; exact gd.sub a u e
  · by_cases z : a = D
    · subst z; rw [upd_same] at e; cases e; exact absurd n badT_NoT
    · rw [upd_ne z] at e ⊢; exact stp.ext a u e m n
  · by_cases z : a = D
    · subst z; rw [upd_same] at e; exact absurd t (badT_no (Option.some.inj e))
    · rw [upd_ne z] at e ⊢; exact stp.tb a ps e t
  · by_cases z : a = D
    · rw [z]; exact hS
    · rw [upd_ne z] at n; exact stp.cap a e n
  · have z : a ≠ D := fun z => hM (z ▸ m)
    rw [upd_ne z] at v ⊢; exact stp.vk a m v
  · by_cases z : a = D
    · subst z; rw [upd_same]; exact fun q => nomatch q
    · rw [upd_ne z] at n ⊢; exact stp.keep a n
  · rw [upd_ne (ne_of_none e hS)]; exact gd.sub a u e
  · have z : a ≠ D := fun z => hM (z ▸ m)
    rw [upd_ne z]; exact gd.vol a m
  · obtain ⟨⟨ps, e, t⟩, n⟩ := gd.tab p m
    have z : p ≠ D := ne_of_none e hD
    exact ⟨⟨ps, by rw [upd_ne z]; exact e, t⟩, n⟩
  · obtain ⟨o1, o2, o3, o4⟩ := out i a m
    rw [upd_ne (nO i a m), upd_ne (nO i a m)]; exact ⟨o1, o2, o3, o4⟩
  · have := sl i s e
    cases s with
    | un => trivial
    | im d => exact this
    | ow ds =>
      obtain ⟨a, vs, e0, e1, e2, r⟩ := this
      exact ⟨a, vs, e0, e1, by rw [upd_ne (nO i a (by rw [e0]; exact List.mem_cons_self))]; exact e2, r⟩
    | br ds =>
      obtain ⟨a, vs, e1, e2, e3, r⟩ := this
      exact ⟨a, vs, e1, by rw [upd_ne (ne_of_none e2 hM0)]; exact e2, e3, r⟩
    | oo dss =>
      obtain ⟨a, as, e0, nd, e1, e2, r⟩ := this
      exact ⟨a, as, e0, nd, e1, by rw [upd_ne (nO i a (by rw [e0]; exact List.mem_cons_self))]; exact e2, owns_upd r fun b hb => nO i b (by rw [e0]; exact List.mem_cons_of_mem _ hb)⟩
    | st =>
      obtain ⟨a, e1, m, v⟩ := this
      have z : a ≠ D := fun z => hM (z ▸ m)
      exact ⟨a, e1, m, by rw [upd_ne z]; exact v⟩
    | sc is =>
      obtain ⟨a, e1, x⟩ := this
      refine ⟨a, e1, ?_⟩
      rcases x with ⟨r, m⟩ | x
      · refine .inl ⟨?_, m⟩
        rcases r with r | ⟨o, r⟩
        · exact .inl (by rw [upd_ne (ne_of_none r hM0)]; exact r)
        · exact .inr ⟨o, by rw [upd_ne (ne_of_none r hM0)]; exact r⟩
      · exact .inr x
theorem St0.repl (h : St0 K M S0 (upd H0 D badT) S H env σ) (hS : S D = none) (hM : ¬ M D) (hT : ¬ M.t D) (o : HO) : St0 K M S0 (upd H0 D badT) S (upd H D o) env σ := by
  obtain ⟨len, stp, gd, O, inj, out, sl⟩ := h
  have nO : ∀ i a, a ∈ O i → a ≠ D := fun i a m z => by
    have := (out i a m).2.1
    rw [z, upd_same] at this
    cases this
  refine ⟨len, ⟨stp.ss, fun a u e => ?_, fun a u e m n => ?_, fun a ps e t => ?_, stp.cap, fun a m v => ?_, fun a n => ?_⟩, ⟨fun a u e => ?_, fun a m => ?_, fun p m => ?_⟩, O, inj, fun i a m => ?_, fun i s e => ?_⟩
  · rw [upd_ne (ne_of_none e hS)]; exact gd.sub a u e
  · by_cases z : a = D
    · subst z; rw [upd_same] at e; cases e; exact absurd n badT_NoT
    · have := stp.ext a u e m n
      rw [upd_ne z]; exact this
  · by_cases z : a = D
    · subst z; rw [upd_same] at e; exact absurd t (badT_no (Option.some.inj e))
    · have := stp.tb a ps e t
      rw [upd_ne z]; exact this
  · have z : a ≠ D := fun z => hM (z ▸ m)
    have := stp.vk a m v
    rw [upd_ne z]; exact this
  · by_cases z : a = D
    · subst z; rw [upd_same]; exact fun q => nomatch q
    · have := stp.keep a n
      rw [upd_ne z]; exact this
  · rw [upd_ne (ne_of_none e hS)]; exact gd.sub a u e
  · have z : a ≠ D := fun z => hM (z ▸ m)
    rw [upd_ne z]; exact gd.vol a m
  · have z : p ≠ D := fun z => hT (z ▸ m)
    obtain ⟨⟨ps, e, t⟩, n⟩ := gd.tab p m
    exact ⟨⟨ps, by rw [upd_ne z]; exact e, t⟩, n⟩
  · obtain ⟨o1, o2, o3, o4⟩ := out i a m
    exact ⟨o1, o2, o3, by rw [upd_ne (nO i a m)]; exact o4⟩
  · have := sl i s e
    cases s with
    | un => trivial
    | im d => exact this
    | ow ds =>
      obtain ⟨a, vs, e0, e1, e2, r⟩ := this
      exact ⟨a, vs, e0, e1, by rw [upd_ne (nO i a (by rw [e0]; exact List.mem_cons_self))]; exact e2, r⟩
    | br ds => exact this
    | oo dss =>
      obtain ⟨a, as, e0, nd, e1, e2, r⟩ := this
      exact ⟨a, as, e0, nd, e1, by rw [upd_ne (nO i a (by rw [e0]; exact List.mem_cons_self))]; exact e2, owns_upd r fun b hb => nO i b (by rw [e0]; exact List.mem_cons_of_mem _ hb)⟩
    | st =>
      obtain ⟨a, e1, m, v⟩ := this
      have z : a ≠ D := fun z => hM (z ▸ m)
      exact ⟨a, e1, m, by rw [upd_ne z]; exact v⟩
    | sc is => exact this
/-- what was not yet is turned behind a step -/
theorem step_repl {S1 H1 S' H' : Hp} (t : Step M S1 H1 S' H') (g1 : Gd M S1 H1) (hD : H1 D = none) (hn : S' D = none) (o : HO) : Step M S1 H1 S' (upd H' D o) :=
  ⟨t.ss, fun a u e => by rw [upd_ne (ne_of_none e hn)]; exact t.sh a u e, fun a u e m' n' => by rw [upd_ne (ne_of_none e hD)]; exact t.ext a u e m' n', fun a ps e tr => by
    rw [upd_ne (ne_of_none e hD)]; exact t.tb a ps e tr, t.cap, fun a m' vk => by
    have z : a ≠ D := fun z => by subst z; exact (g1.vol _ m').1 hD
    rw [upd_ne z]; exact t.vk a m' vk, fun a n' => by
    by_cases z : a = D
    · subst z; exact absurd hD n'
    · rw [upd_ne z]; exact t.keep a n'⟩
end
/-- a comprehension of two clauses -/
@[simp] def R.lc2 {α β γ : Type} (m : R (List α)) (t : α → R Bool) (m1 : α → R (List γ)) (t1 : α → γ → R Bool) (f : α → γ → R β) : R (List β) :=
  ⟨m.p ∧ m.v.length ≤ 10000 ∧ ∀ x ∈ m.v, (t x).p ∧ ((t x).v = true → (m1 x).p ∧ (m1 x).v.length ≤ 1000 ∧ ∀ y ∈ (m1 x).v, (t1 x y).p ∧ ((t1 x y).v = true → (f x y).p)),
   (m.v.filter fun x => (t x).v).flatMap fun x => ((m1 x).v.filter fun y => (t1 x y).v).map fun y => (f x y).v⟩
section
variable {K : PySem.W.Frag} {M : Mm} {env : List Sl} {α β γ : Type} [Rep α] [Rep β] [Rep γ]
theorem RdF.lc2 {wi wi1 : TI} {g g1 : TG} {tt tt1 : TT} {te : TE} {vs vs1 : List Nat} {m : R (List α)} {t : α → R Bool} {m1 : α → R (List γ)} {t1 : α → γ → R Bool} {f : α → γ → R β} {tE : α → List Sl} {tE1 : α → γ → List Sl}
    (hi : RdI K M false wi env (· = m.v.map rep)) {ix ix1 : List Nat} (hix : ∀ i ∈ ix, i ∈ vs) (hix1 : ∀ i ∈ ix1, i ∈ vs1)
    (hg : ∀ x ∈ m.v, RdG K M g ix (rep x) (wipeE env vs) (· = tE x)) (ht : ∀ x ∈ m.v, (t x).p → RdT K M tt (tE x) (· = (t x).v))
    (hi1 : ∀ x ∈ m.v, (m1 x).p → RdI K M true wi1 (tE x) (· = (m1 x).v.map rep))
    (hg1 : ∀ x ∈ m.v, ∀ y ∈ (m1 x).v, RdG K M g1 ix1 (rep y) (wipeE (tE x) vs1) (· = tE1 x y)) (ht1 : ∀ x ∈ m.v, ∀ y ∈ (m1 x).v, (t1 x y).p → RdT K M tt1 (tE1 x y) (· = (t1 x y).v))
    (hf : ∀ x ∈ m.v, ∀ y ∈ (m1 x).v, (f x y).p → RdE K M te (tE1 x y) (· = rep (f x y).v))
    (hp : m.v.length ≤ 10000 ∧ ∀ x ∈ m.v, (t x).p ∧ ((t x).v = true → (m1 x).p ∧ (m1 x).v.length ≤ 1000 ∧ ∀ y ∈ (m1 x).v, (t1 x y).p ∧ ((t1 x y).v = true → (f x y).p))) :
    RdF K M (tLc2 wi g tt wi1 g1 tt1 te vs vs1) env (· = (R.lc2 m t m1 t1 f).v.map rep) := fun S0 H0 σ S H st Q q => by
  refine hi _ _ _ _ _ st _ fun ds J S1 H1 ed t1' it => ?_
  subst ed
  intro D hD
  have st1 := st.step t1'
  have g1' := st1.gd
  have hMD : ¬ M D := g1'.notM hD
  have hTD : ¬ M.t D := fun z => by
    obtain ⟨⟨ps, e, _⟩, _⟩ := g1'.tab D z
    rw [hD] at e; cases e
  have tN := Step.new g1' (.lst []) hD
  let row : α → List β := fun x => ((m1 x).v.filter fun y => (t1 x y).v).map fun y => (f x y).v
  let got : Nat → List β := fun i => ((m.v.take i).filter fun x => (t x).v).flatMap row
  refine ⟨fun i k H' => k = m.v.length - i ∧ i ≤ m.v.length ∧ ∃ S' us, Step M S1 H1 S' H' ∧ S' D = none ∧ H' D = some (.lst us) ∧ Dens K S' ((got i).map rep) us ∧ (got i).length ≤ 1000 * i ∧ St0 K M S0 (upd H0 D badT) S' H' env σ,
    ⟨m.v.length, by simp, Nat.zero_le _, S1, [], tN, g1'.fresh hD, upd_same, by simp [got]; exact .nil, by simp [got], st1.shield hD _⟩, ?_⟩
  rintro i k H' ⟨rfl, hil, S', us, t2, hn, hu, r, hlen, stA⟩
  have rc : Rch K M false S0 H0 S1 H1 S' H' := ⟨stA.gd, t2.ss, t2⟩
  by_cases hlt : i < m.v.length
  · refine .inr ?_
    have hx : m.v[i]? = some m.v[i] := List.getElem?_eq_getElem hlt
    generalize m.v[i] = x at hx
    have hmem : x ∈ m.v := List.mem_of_getElem? hx
    obtain ⟨go, yl⟩ := it.go S' H' i (rep x) rc (by rw [List.getElem?_map, hx]; rfl)
    have hsucc : got (i + 1) = if (t x).v = true then got i ++ row x else got i := by
      simp only [got]
      rw [List.take_add_one, hx, List.filter_append, List.flatMap_append]
      simp only [Option.toList_some, List.filter_cons, List.filter_nil]
      split <;> simp
    refine ⟨go, fun H3 => ∃ S3 us3, Step M S1 H1 S3 H3 ∧ S3 D = none ∧ H3 D = some (.lst us3) ∧ Dens K S3 ((got (i + 1)).map rep) us3 ∧ (got (i + 1)).length ≤ 1000 * (i + 1) ∧ St0 K M S0 (upd H0 D badT) S3 H3 env σ,
      fun H3 ⟨S3, us3, w1, w2, w3, w4, w5, w6⟩ => ⟨m.v.length - (i + 1), by omega, rfl, hlt, S3, us3, w1, w2, w3, w4, w5, w6⟩, fun v H3 hy => ?_⟩
    obtain ⟨S3, t3, dn⟩ := yl v H3 hy
    have st3 := (stA.step t3).wipe vs
    refine hg x hmem S0 _ _ S3 H3 v st3 dn _ fun env4 σ4 S4 H4 e4 st4 t4 l4 k4 => ?_
    subst e4
    refine ⟨wipe_eq (by rw [l4]) fun j hj => k4 j fun z => hj (hix j z), ?_⟩
    refine ht x hmem (hp.2 x hmem).1 S0 _ σ4 S4 H4 st4 _ fun b S5 H5 eb t5 => ?_
    have dkeep : ∀ {Sy Hy Sx Hx : Hp} {ws : List V}, Step M Sy Hy Sx Hx → Sy D = none → Hy D = some (.lst ws) → Sx D = none ∧ Hx D = some (.lst ws) := fun {Sy Hy Sx Hx ws} tx hn hu =>
      ⟨tx.cap D hn (by rw [hu]; exact fun z => nomatch z), tx.ext D _ hu hMD lst_noT⟩
    have tt5 := (t3.trans t4).trans t5
    obtain ⟨n5, h5⟩ := dkeep tt5 hn hu
    cases b with
    | false =>
      rw [if_neg (by decide)]
      refine ⟨S5, us, t2.trans tt5, n5, h5, ?_, ?_, stA.step tt5⟩
      · rw [hsucc, if_neg (by rw [← eb]; decide)]
        exact r.mon tt5.ss
      · rw [hsucc, if_neg (by rw [← eb]; decide)]
        omega
    | true =>
      rw [if_pos rfl]
      obtain ⟨pm1, hl1, hy1⟩ := (hp.2 x hmem).2 eb.symm
      have hsucc : got (i + 1) = got i ++ row x := by rw [hsucc, if_pos eb.symm]
      refine hi1 x hmem pm1 S0 _ σ4 S5 H5 (st4.step t5) _ fun ds1 J1 S6 H6 ed1 t6 it1 => ?_
      subst ed1
      have tt6 := tt5.trans t6
      obtain ⟨n6, h6⟩ := dkeep tt6 hn hu
      let got1 : Nat → List β := fun j => (((m1 x).v.take j).filter fun y => (t1 x y).v).map fun y => (f x y).v
      refine ⟨fun j k H' => k = (m1 x).v.length - j ∧ j ≤ (m1 x).v.length ∧ ∃ S' us, Step M S1 H1 S' H' ∧ Sub S6 S' ∧ S' D = none ∧ H' D = some (.lst us) ∧ Dens K S' ((got i ++ got1 j).map rep) us ∧ (got1 j).length ≤ j ∧ St0 K M S0 (upd H0 D badT) S' H' env σ ∧ St0 K M S0 (upd H0 D badT) S' H' (tE x) σ4,
        ⟨(m1 x).v.length, by simp, Nat.zero_le _, S6, us, t2.trans tt6, fun _ _ e => e, n6, h6, by simp only [got1, List.take_zero, List.filter_nil, List.map_nil, List.append_nil]; exact r.mon tt6.ss, by simp [got1], stA.step tt6, (st4.step t5).step t6⟩, ?_⟩
      rintro j k H' ⟨rfl, hjl, S', us, t7, sb7, n7, h7, r7, hlen7, stA7, stB7⟩
      have rc1 : Rch K M true S0 (upd H0 D badT) S6 H6 S' H' := ⟨stB7.gd, sb7, stB7.stp⟩
      by_cases hlt1 : j < (m1 x).v.length
      · refine .inr ?_
        have hy' : (m1 x).v[j]? = some (m1 x).v[j] := List.getElem?_eq_getElem hlt1
        generalize (m1 x).v[j] = y at hy'
        have hmy : y ∈ (m1 x).v := List.mem_of_getElem? hy'
        obtain ⟨go1, yl1⟩ := it1.go S' H' j (rep y) rc1 (by rw [List.getElem?_map, hy']; rfl)
        have hsucc1 : got1 (j + 1) = if (t1 x y).v = true then got1 j ++ [(f x y).v] else got1 j := by
          simp only [got1]
          rw [List.take_add_one, hy', List.filter_append, List.map_append]
          simp only [Option.toList_some, List.filter_cons, List.filter_nil]
          split <;> simp
        refine ⟨go1, fun H3 => ∃ S3 us3, Step M S1 H1 S3 H3 ∧ Sub S6 S3 ∧ S3 D = none ∧ H3 D = some (.lst us3) ∧ Dens K S3 ((got i ++ got1 (j + 1)).map rep) us3 ∧ (got1 (j + 1)).length ≤ j + 1 ∧ St0 K M S0 (upd H0 D badT) S3 H3 env σ ∧ St0 K M S0 (upd H0 D badT) S3 H3 (tE x) σ4,
          fun H3 ⟨S3, us3, w⟩ => ⟨(m1 x).v.length - (j + 1), by omega, rfl, hlt1, S3, us3, w⟩, fun v H8 hy8 => ?_⟩
        obtain ⟨S8, t8, dn8⟩ := yl1 v H8 hy8
        have st8 := (stB7.step t8).wipe vs1
        refine hg1 x hmem y hmy S0 _ _ S8 H8 v st8 dn8 _ fun env9 σ9 S9 H9 e9 st9 t9 l9 k9 => ?_
        subst e9
        refine ⟨wipe_eq (by rw [l9]) fun j hj => k9 j fun z => hj (hix1 j z), ?_⟩
        refine ht1 x hmem y hmy (hy1 y hmy).1 S0 _ σ9 S9 H9 st9 _ fun b1 S10 H10 eb1 t10 => ?_
        have tt10 := (t8.trans t9).trans t10
        cases b1 with
        | false =>
          rw [if_neg (by decide)]
          obtain ⟨n10, h10⟩ := dkeep tt10 n7 h7
          have e1 : got1 (j + 1) = got1 j := by rw [hsucc1, if_neg (by rw [← eb1]; decide)]
          exact ⟨S10, us, t7.trans tt10, fun a o e => tt10.ss a o (sb7 a o e), n10, h10, by rw [e1]; exact r7.mon tt10.ss, by rw [e1]; omega, stA7.step tt10, stB7.step tt10⟩
        | true =>
          rw [if_pos rfl]
          refine hf x hmem y hmy ((hy1 y hmy).2 eb1.symm) S0 _ σ9 S10 H10 (st9.step t10) _ fun d v6 S11 H11 ed dn11 t11 => ?_
          subst ed
          have tt11 := tt10.trans t11
          obtain ⟨n11, h11⟩ := dkeep tt11 n7 h7
          have e1 : got1 (j + 1) = got1 j ++ [(f x y).v] := by rw [hsucc1, if_pos eb1.symm]
          refine ⟨us, h11, ?_, S11, us ++ [v6], step_repl (t7.trans tt11) g1' hD n11 _, fun a o e => tt11.ss a o (sb7 a o e), n11, upd_same, ?_, ?_, (stA7.step tt11).repl n11 hMD hTD _, (stB7.step tt11).repl n11 hMD hTD _⟩
          · have : sizeLine = 16777216 := sizeLine_eq
            have e2 : us.length = (got i ++ got1 j).length := by have := r7.length; simpa using this.symm
            rw [e2, List.length_append]
            have := hp.1
            omega
          · rw [e1, ← List.append_assoc, List.map_append]
            exact (r7.mon tt11.ss).append (.cons dn11 .nil)
          · rw [e1, List.length_append, List.length_singleton]; omega
      · refine .inl ⟨it1.stop S' H' j rc1 (by rw [List.length_map]; omega) (by rw [List.length_map]; omega), ?_⟩
        have hfin : got1 j = row x := by
          simp only [got1, row]
          rw [List.take_of_length_le (by omega)]
        rw [hfin] at r7 hlen7
        refine ⟨S', us, t7, n7, h7, by rw [hsucc]; exact r7, ?_, stA7⟩
        rw [hsucc, List.length_append]; omega
  · refine .inl ⟨it.stop S' H' i rc (by rw [List.length_map]; omega) (by rw [List.length_map]; omega), ?_⟩
    have hfin : got i = (R.lc2 m t m1 t1 f).v := by
      simp only [got]
      rw [List.take_of_length_le (by omega)]
      rfl
    rw [hfin] at r
    refine q _ D us S' H' rfl ?_ hn hu r (t1'.trans t2)
    cases z : H D with
    | none => rfl
    | some o => exact absurd hD (t1'.keep D (by rw [z]; exact fun z => nomatch z))
end
section
variable {X : Cx} {M : Mm} {env : List Sl} {α β γ : Type} [Rep α] [Rep β] [Rep γ]
/-- the second clause's walk, in its block -/
def bI (X : Cx) (scope : Scope) (tg e : Expr) : TI := fun σ H Rr => ∀ (s : Shared) (H' : Hp) (C : Addr) (cl : List (Str × Addr)) (fp : List Addr), starI (X.blk s H' scope (compEnvC scope cl C X.env) fp) tg e σ H Rr
theorem RF.lc2 {elt tg iter tg1 iter1 : Expr} {ifs ifs1 : List Expr} {scope : Scope} {own : List (Str × Nat)} {pos : Pos} {vs1 : List Nat} {m : R (List α)} {t : α → R Bool} {m1 : α → R (List γ)} {t1 : α → γ → R Bool} {f : α → γ → R β} {tE : α → List Sl} {tE1 : α → γ → List Sl} {ix ix1 : List Nat}
    (hc : X.calm = true) (hN : X.N.Nodup) (ok : BlkOk X.N X.env.scope scope own) (hl : ifs.length ≤ 1) (hl1 : ifs1.length ≤ 1) (hix : ∀ i ∈ ix, i ∈ own.map (·.2)) (hix1 : ∀ i ∈ ix1, i ∈ vs1) (hv : ∀ i ∈ vs1, i ∈ own.map (·.2))
    (hi : RI X M false tg iter env m) (hg : ∀ x, Blk X scope fun Y => RG Y M tg ix (rep x) (wipeE env (own.map (·.2))) (tE x)) (ht : ∀ x, RTs X scope M ifs (tE x) (t x))
    (hi1 : ∀ x, Blk X scope fun Y => RI Y M true tg1 iter1 (tE x) (m1 x)) (hg1 : ∀ x y, Blk X scope fun Y => RG Y M tg1 ix1 (rep y) (wipeE (tE x) vs1) (tE1 x y)) (ht1 : ∀ x y, RTs X scope M ifs1 (tE1 x y) (t1 x y))
    (he : ∀ x y, Blk X scope fun Y => RE Y M elt (tE1 x y) (f x y)) (hs : ∀ x, foldedSetIterable iter X.env x = pure x) (hs1 : ∀ env x, foldedSetIterable iter1 env x = pure x) :
    RF X M (.ListComp elt [⟨tg, iter, ifs, 0⟩, ⟨tg1, iter1, ifs1, 0⟩] scope pos) env (R.lc2 m t m1 t1 f) := .mk fun p => by
  obtain ⟨tt, pt, rt⟩ := lc_pts (X := X) (M := M) (scope := scope) hl
  obtain ⟨tt1, pt1, rt1⟩ := lc_pts (X := X) (M := M) (scope := scope) hl1
  exact EF.of (pe_lc2 (g := bG X scope tg) (g1 := bG X scope tg1) (te := bE X scope elt) (wi1 := bI X scope tg1 iter1) (vs1 := vs1) hc hN star_pi ok hv (fun s H C cl fp => ⟨fun pins s' σ H' v u Q I r h => h s H C cl fp pins s' u I r⟩) pt
      (fun s H C cl fp => ⟨fun pins s' σ H' Rr I h => h s H C cl fp pins s' I⟩) (fun s H C cl fp => ⟨fun pins s' σ H' v u Q I r h => h s H C cl fp pins s' u I r⟩) pt1 (fun s H C cl fp => ⟨fun pins s' σ H' Q I h => h s H C cl fp pins s' I⟩) hs hs1)
    (RdF.lc2 (hi p.1) hix hix1 (fun x _ S0 H0 σ S H v st dn Q q s H' C cl fp => hg x s H' C cl fp S0 H0 σ S H v st dn Q q) (fun x _ hp => rt _ _ (ht x) hp)
      (fun x _ hp S0 H0 σ S H st Q q s H' C cl fp => hi1 x s H' C cl fp hp S0 H0 σ S H st Q q) (fun x _ y _ S0 H0 σ S H v st dn Q q s H' C cl fp => hg1 x y s H' C cl fp S0 H0 σ S H v st dn Q q) (fun x _ y _ hp => rt1 _ _ (ht1 x y) hp)
      (fun x _ y _ hp S0 H0 σ S H st Q q s H' C cl fp => he x y s H' C cl fp hp S0 H0 σ S H st Q q) p.2)
end
end FP
namespace FP
open PySem PySem.Spec PyProof.Rows L2
open Rep (rep)
/-! ### the place of an item: tuples, lists -/
def tyTup (K : PySem.W.Frag) (x : V) (H : Hp) : Prop := ∃ a vs, x = .ref a ∧ TupN K H a vs
def tyLst (K : PySem.W.Frag) (x : V) (H : Hp) : Prop := ∃ a vs, x = .ref a ∧ SqL K H a vs
section
variable {X : Cx}
theorem ty_tup : TyOk X "tuple" (tyTup X.K) := by
  intro pins σ H s x v I r ⟨a, vs, ex, h⟩
  subst ex
  cases r
  rcases h with ⟨o, e, hd⟩ | ⟨o, its, n, hk, hc, hd, _⟩
  · obtain ⟨hg, _, its, _, ⟨o', ho', hc, _⟩⟩ := (show ObjOk X.prog X.w H s.heap a (.frz o (.tup vs)) from I.hok a _ e)
    rw [hg] at ho'
    cases ho'
    refine ⟨⟨o, hg, hc⟩, fun b eb => ?_⟩
    cases eb
    exact ⟨o, hg, hd⟩
  · refine ⟨⟨o, I.kIn a o hk, hc⟩, fun b eb => ?_⟩
    cases eb
    exact ⟨o, I.kIn _ o hk, hd⟩
theorem ty_lst : TyOk X "list" (tyLst X.K) := by
  intro pins σ H s x v I r ⟨a, vs, ex, h⟩
  subst ex
  cases r
  obtain ⟨its, _, pl, _⟩ := I.list h
  refine ⟨pl.isList.typeIs, fun b eb => ?_⟩
  cases eb
  obtain ⟨o, n, e, c, hd, _⟩ := pl
  exact ⟨o, e, hd⟩
theorem mt_tidx : MtR X "tuple.index" (fun x xs H Q => ∃ (p : Addr) (ns : List Int) (z : Int), x = .ref p ∧ xs = [.int z] ∧ SqT X.K H p (ns.map V.int) ∧ z ∈ ns ∧ Q (.int (ns.idxOf z : Nat)) H) := by
  intro pins s σ H x xs v us Q I rx rs ⟨p, ns, z, ex, exs, hq, hz, q⟩
  subst ex exs
  cases rx
  obtain ⟨u, rfl, t, rfl⟩ := vals1 rs
  obtain ⟨its, r, pl, _⟩ := I.tuple hq
  have i1 : IntsAre its.toArray.toList ns := intsAre_of r
  exact PySem.SeqAt.tuple_index_ints pl (by simpa using i1) hz ⟨.int (ns.idxOf z : Nat), H, I.tok _, ⟨_, rfl⟩, q⟩
theorem mt_lidx : MtR X "list.index" (fun x xs H Q => ∃ (p : Addr) (ns : List Int) (z : Int), x = .ref p ∧ xs = [.int z] ∧ SqL X.K H p (ns.map V.int) ∧ z ∈ ns ∧ Q (.int (ns.idxOf z : Nat)) H) := by
  intro pins s σ H x xs v us Q I rx rs ⟨p, ns, z, ex, exs, hq, hz, q⟩
  subst ex exs
  cases rx
  obtain ⟨u, rfl, t, rfl⟩ := vals1 rs
  obtain ⟨its, r, pl, hl⟩ := I.list hq
  have i1 : IntsAre its.toArray.toList ns := intsAre_of r
  exact PySem.SeqAt.list_index_ints pl.isList (by simpa using i1) (by rw [List.length_map] at hl; exact hl) hz ⟨.int (ns.idxOf z : Nat), H, I.tok _, ⟨_, rfl⟩, q⟩
variable {M : Mm} {env : List Sl} {o e : Expr} {apos cpos : Pos}
theorem RE.tidx {m : R (Tu Int)} {n : R Int} (ho : RE X M o env m) (he : RB X M e env n)
    (hs : starEach [e] X.env = (false, eval e X.env) :: starEach [] X.env := by rfl)
    (hbase : attributeBase o "index" X.env (eval o X.env) = eval o X.env := by rfl)
    (hfew : ((backTo cpos (starEach [e] X.env)).all (fun x => !x.1) && (backToKw cpos (keywordEach [] X.env)).all (fun x => x.1.isSome)
      && decide ([e].length + ([] : List Keyword).length + (if ([] : List Keyword).isEmpty then 0 else 1) < 30)) = true := by rfl)
    (hline : (apos.endLine == cpos.line) = true := by rfl) (hplain : (backTo cpos (starEach [] X.env)).any (·.1) = false := by rfl) :
    RE X M (.Call (.Attribute o "index" apos) [e] [] cpos) env (R.o2 (fun (xs : Tu Int) i => i ∈ xs.l) (fun xs i => ((xs.l.idxOf i : Nat) : Int)) m n) := .mk fun p =>
  EV.of (pe_mG ty_tup PySem.F.plainAttrs_tuple PySem.F.slot_tuple_index PySem.F.type_tuple_index mt_tidx star_pe star_pa hbase hfew hline hs hplain) fun S0 H0 σ S H st Q q => ho p.1 _ _ _ _ _ st _ fun d v S1 H1 ed r t1 => by
    subst ed
    cases r with
    | tup e' r =>
      rename_i a vs
      refine ⟨⟨a, vs, rfl, sub_tupn (st.step t1).gd.sub e'⟩, ?_⟩
      refine (RA.br he RA.nil hs) ⟨p.2.1, trivial⟩ _ _ _ _ _ (st.step t1) _ fun ds xs S2 H2 ed bs t2 => ?_
      subst ed
      obtain ⟨v2, rfl, b2⟩ := one_of bs
      have g2 := ((st.step t1).step t2).gd
      have ev : v2 = .int n.v := Bor.int b2
      subst ev
      have e3 : vs = m.v.l.map V.int := Dens.ints (is := m.v.l) r
      subst e3
      exact ⟨a, m.v.l, n.v, rfl, rfl, sub_sqt g2.sub (sub_sqt t2.ss e'.sqt), p.2.2, q _ _ _ _ rfl (.int _) (t1.trans t2)⟩
theorem RE.lidx {m : R (List Int)} {n : R Int} (ho : RB X M o env m) (he : RB X M e env n)
    (hs : starEach [e] X.env = (false, eval e X.env) :: starEach [] X.env := by rfl)
    (hbase : attributeBase o "index" X.env (eval o X.env) = eval o X.env := by rfl)
    (hfew : ((backTo cpos (starEach [e] X.env)).all (fun x => !x.1) && (backToKw cpos (keywordEach [] X.env)).all (fun x => x.1.isSome)
      && decide ([e].length + ([] : List Keyword).length + (if ([] : List Keyword).isEmpty then 0 else 1) < 30)) = true := by rfl)
    (hline : (apos.endLine == cpos.line) = true := by rfl) (hplain : (backTo cpos (starEach [] X.env)).any (·.1) = false := by rfl) :
    RE X M (.Call (.Attribute o "index" apos) [e] [] cpos) env (R.o2 (fun (xs : List Int) i => i ∈ xs) (fun xs i => ((xs.idxOf i : Nat) : Int)) m n) := .mk fun p =>
  EV.of (pe_mG ty_lst PySem.F.plainAttrs_list PySem.F.slot_list_index PySem.F.type_list_index mt_lidx star_pe star_pa hbase hfew hline hs hplain) fun S0 H0 σ S H st Q q => ho p.1 _ _ _ _ _ st _ fun d v S1 H1 ed r t1 => by
    subst ed
    have g1 := (st.step t1).gd
    obtain ⟨a, vs, rfl, e1, nm, r'⟩ := r.lst g1
    have e3 : vs = m.v.map V.int := Dens.ints (is := m.v) r'
    subst e3
    refine ⟨⟨a, _, rfl, sql_of e1⟩, ?_⟩
    refine (RA.br he RA.nil hs) ⟨p.2.1, trivial⟩ _ _ _ _ _ (st.step t1) _ fun ds xs S2 H2 ed bs t2 => ?_
    subst ed
    obtain ⟨v2, rfl, b2⟩ := one_of bs
    have ev : v2 = .int n.v := Bor.int b2
    subst ev
    exact ⟨a, m.v, n.v, rfl, rfl, sql_of (t2.ext _ _ e1 nm lst_noT), p.2.2, q _ _ _ _ rfl (.int _) (t1.trans t2)⟩
/-- seen as data of any kind -/
theorem RE.toD {α : Type} [Rep α] {m : R α} (h : RE X M e env m) : RE X M e env (R.map (fun x : α => (rep x : D)) m) := .mk fun p => h.run p
end
/-! ### a name given a comprehension of two clauses -/
section
variable {X : Cx} {M : Mm} {env : List Sl} {α β γ : Type} [Rep α] [Rep β] [Rep γ]
theorem lcset2_rd {elt tg iter tg1 iter1 : Expr} {ifs ifs1 : List Expr} {scope : Scope} {own : List (Str × Nat)} {pos spos py : Pos} {vs1 : List Nat} {m : R (List α)} {t : α → R Bool} {m1 : α → R (List γ)} {t1 : α → γ → R Bool} {f : α → γ → R β} {tE : α → List Sl} {tE1 : α → γ → List Sl} {ix ix1 : List Nat} (i : Nat) {nm : Str}
    (hc : X.calm = true) (hN : X.N.Nodup) (hy : X.N[i]? = some nm) (hyl : X.env.scope.names.lookup nm = some .local)
    (hsw : swapsWith (.ListComp elt [⟨tg, iter, ifs, 0⟩, ⟨tg1, iter1, ifs1, 0⟩] scope pos) (some (.Name nm py)) spos.line X.env = pure true) (ok : BlkOk X.N X.env.scope scope own) (hl : ifs.length ≤ 1) (hl1 : ifs1.length ≤ 1) (hix : ∀ i ∈ ix, i ∈ own.map (·.2)) (hix1 : ∀ i ∈ ix1, i ∈ vs1) (hv : ∀ i ∈ vs1, i ∈ own.map (·.2))
    (hi : RI X M false tg iter env m) (hg : ∀ x, Blk X scope fun Y => RG Y M tg ix (rep x) (wipeE env (own.map (·.2))) (tE x)) (ht : ∀ x, RTs X scope M ifs (tE x) (t x))
    (hi1 : ∀ x, Blk X scope fun Y => RI Y M true tg1 iter1 (tE x) (m1 x)) (hg1 : ∀ x y, Blk X scope fun Y => RG Y M tg1 ix1 (rep y) (wipeE (tE x) vs1) (tE1 x y)) (ht1 : ∀ x y, RTs X scope M ifs1 (tE1 x y) (t1 x y))
    (he : ∀ x y, Blk X scope fun Y => RE Y M elt (tE1 x y) (f x y)) (hs : ∀ x, foldedSetIterable iter X.env x = pure x) (hs1 : ∀ env x, foldedSetIterable iter1 env x = pure x) (p : (R.lc2 m t m1 t1 f).p) :
    ∃ te, PS X (.Assign [.Name nm py] (.ListComp elt [⟨tg, iter, ifs, 0⟩, ⟨tg1, iter1, ifs1, 0⟩] scope pos) spos) (tAsg te (gName i)) ∧ RdF X.K M te env (· = (R.lc2 m t m1 t1 f).v.map rep) := by
  obtain ⟨tt, pt, rt⟩ := lc_pts (X := X) (M := M) (scope := scope) hl
  obtain ⟨tt1, pt1, rt1⟩ := lc_pts (X := X) (M := M) (scope := scope) hl1
  exact ⟨_, ps_setLc2 (g := bG X scope tg) (g1 := bG X scope tg1) (te := bE X scope elt) (wi1 := bI X scope tg1 iter1) (vs1 := vs1) hc hN hy hyl hsw star_pi ok hv (fun s H C cl fp => ⟨fun pins s' σ H' v u Q I r h => h s H C cl fp pins s' u I r⟩) pt
      (fun s H C cl fp => ⟨fun pins s' σ H' Rr I h => h s H C cl fp pins s' I⟩) (fun s H C cl fp => ⟨fun pins s' σ H' v u Q I r h => h s H C cl fp pins s' u I r⟩) pt1 (fun s H C cl fp => ⟨fun pins s' σ H' Q I h => h s H C cl fp pins s' I⟩) hs hs1,
    RdF.lc2 (hi p.1) hix hix1 (fun x _ S0 H0 σ S H v st dn Q q s H' C cl fp => hg x s H' C cl fp S0 H0 σ S H v st dn Q q) (fun x _ hp => rt _ _ (ht x) hp)
      (fun x _ hp S0 H0 σ S H st Q q s H' C cl fp => hi1 x s H' C cl fp hp S0 H0 σ S H st Q q) (fun x _ y _ S0 H0 σ S H v st dn Q q s H' C cl fp => hg1 x y s H' C cl fp S0 H0 σ S H v st dn Q q) (fun x _ y _ hp => rt1 _ _ (ht1 x y) hp)
      (fun x _ y _ hp S0 H0 σ S H st Q q s H' C cl fp => he x y s H' C cl fp hp S0 H0 σ S H st Q q) p.2⟩
theorem SN.lc2F {elt tg iter tg1 iter1 : Expr} {ifs ifs1 : List Expr} {scope : Scope} {own : List (Str × Nat)} {pos spos py : Pos} {vs1 : List Nat} {m : R (List α)} {t : α → R Bool} {m1 : α → R (List γ)} {t1 : α → γ → R Bool} {f : α → γ → R β} {tE : α → List Sl} {tE1 : α → γ → List Sl} {ix ix1 : List Nat} (i : Nat) {nm : Str}
    {E : List β → List Sl} (hE : ∀ v : List β, env.set i (.ow (v.map rep)) = E v) (hc : X.calm = true) (hN : X.N.Nodup) (hy : X.N[i]? = some nm) (hyl : X.env.scope.names.lookup nm = some .local)
    (hsw : swapsWith (.ListComp elt [⟨tg, iter, ifs, 0⟩, ⟨tg1, iter1, ifs1, 0⟩] scope pos) (some (.Name nm py)) spos.line X.env = pure true) (ok : BlkOk X.N X.env.scope scope own) (hl : ifs.length ≤ 1) (hl1 : ifs1.length ≤ 1) (hix : ∀ i ∈ ix, i ∈ own.map (·.2)) (hix1 : ∀ i ∈ ix1, i ∈ vs1) (hv : ∀ i ∈ vs1, i ∈ own.map (·.2))
    (hi : RI X M false tg iter env m) (hg : ∀ x, Blk X scope fun Y => RG Y M tg ix (rep x) (wipeE env (own.map (·.2))) (tE x)) (ht : ∀ x, RTs X scope M ifs (tE x) (t x))
    (hi1 : ∀ x, Blk X scope fun Y => RI Y M true tg1 iter1 (tE x) (m1 x)) (hg1 : ∀ x y, Blk X scope fun Y => RG Y M tg1 ix1 (rep y) (wipeE (tE x) vs1) (tE1 x y)) (ht1 : ∀ x y, RTs X scope M ifs1 (tE1 x y) (t1 x y))
    (he : ∀ x y, Blk X scope fun Y => RE Y M elt (tE1 x y) (f x y)) (hs : ∀ x, foldedSetIterable iter X.env x = pure x) (hs1 : ∀ env x, foldedSetIterable iter1 env x = pure x) :
    SN X M (.Assign [.Name nm py] (.ListComp elt [⟨tg, iter, ifs, 0⟩, ⟨tg1, iter1, ifs1, 0⟩] scope pos) spos) env E (R.lc2 m t m1 t1 f) := .mk fun p => by
  obtain ⟨te, h1, h2⟩ := lcset2_rd i hc hN hy hyl hsw ok hl hl1 hix hix1 hv hi hg ht hi1 hg1 ht1 he hs hs1 p
  exact RdS.ofS h1 (RdS.setF h2 fun d ed => by rw [ed]; exact hE _)
theorem SN.lc2 {elt tg iter tg1 iter1 : Expr} {ifs ifs1 : List Expr} {scope : Scope} {own : List (Str × Nat)} {pos spos py : Pos} {vs1 : List Nat} {m : R (List α)} {t : α → R Bool} {m1 : α → R (List γ)} {t1 : α → γ → R Bool} {f : α → γ → R β} {tE : α → List Sl} {tE1 : α → γ → List Sl} {ix ix1 : List Nat} (i : Nat) {nm : Str}
    {E : List β → List Sl} (hE : ∀ v : List β, env.set i (.im (rep v)) = E v) (hc : X.calm = true) (hN : X.N.Nodup) (hy : X.N[i]? = some nm) (hyl : X.env.scope.names.lookup nm = some .local)
    (hsw : swapsWith (.ListComp elt [⟨tg, iter, ifs, 0⟩, ⟨tg1, iter1, ifs1, 0⟩] scope pos) (some (.Name nm py)) spos.line X.env = pure true) (ok : BlkOk X.N X.env.scope scope own) (hl : ifs.length ≤ 1) (hl1 : ifs1.length ≤ 1) (hix : ∀ i ∈ ix, i ∈ own.map (·.2)) (hix1 : ∀ i ∈ ix1, i ∈ vs1) (hv : ∀ i ∈ vs1, i ∈ own.map (·.2))
    (hi : RI X M false tg iter env m) (hg : ∀ x, Blk X scope fun Y => RG Y M tg ix (rep x) (wipeE env (own.map (·.2))) (tE x)) (ht : ∀ x, RTs X scope M ifs (tE x) (t x))
    (hi1 : ∀ x, Blk X scope fun Y => RI Y M true tg1 iter1 (tE x) (m1 x)) (hg1 : ∀ x y, Blk X scope fun Y => RG Y M tg1 ix1 (rep y) (wipeE (tE x) vs1) (tE1 x y)) (ht1 : ∀ x y, RTs X scope M ifs1 (tE1 x y) (t1 x y))
    (he : ∀ x y, Blk X scope fun Y => RE Y M elt (tE1 x y) (f x y)) (hs : ∀ x, foldedSetIterable iter X.env x = pure x) (hs1 : ∀ env x, foldedSetIterable iter1 env x = pure x) :
    SN X M (.Assign [.Name nm py] (.ListComp elt [⟨tg, iter, ifs, 0⟩, ⟨tg1, iter1, ifs1, 0⟩] scope pos) spos) env E (R.lc2 m t m1 t1 f) := .mk fun p => by
  obtain ⟨te, h1, h2⟩ := lcset2_rd i hc hN hy hyl hsw ok hl hl1 hix hix1 hv hi hg ht hi1 hg1 ht1 he hs hs1 p
  exact RdS.ofS h1 (RdS.set h2.e fun d ⟨ds, e1, e2⟩ => by rw [e1, e2]; exact hE _)
end
/-! ### drawn: joined lists, slices -/
section
variable {X : Cx} {M : Mm} {env : List Sl} {α β γ : Type} [Rep α] [Rep β] [Rep γ] {a b e hi : Expr} {pos p2 : Pos}
theorem Sem2F.imp {K : PySem.W.Frag} {M : Mm} {r : R2} {d e : D} {T T' : List D → Prop} (h : Sem2F K M r d e T) (i : ∀ t, T t → T' t) : Sem2F K M r d e T' := fun S H x y g bx bY Q q => h S H x y g bx bY Q fun ds p vs S' H' tt => q ds p vs S' H' (i ds tt)
theorem NF.bin {op : Operator} {C : α → β → Prop} {f : α → β → List γ} (o : Op2F X M op C f) {m : N α} {n : N β} (ha : NB X M a env m) (hb : NB X M b env n) : NF X M (.BinOp a op b pos) env (N.o2 C f m n) := .mk fun hp => by
  obtain ⟨r, ho, hs⟩ := o.ex
  exact EF.of (pe_op ho star_pe star_pe) (RdF.op (ha.run hp.1) (fun _ _ => hb.run hp.2.1) fun d e' ⟨x, sx, ed⟩ ⟨y, sy, ee⟩ => by rw [ed, ee]; exact (hs _ _ (hp.2.2 x y sx sy)).imp fun t et => ⟨_, ⟨x, y, sx, sy, rfl⟩, et⟩)
/-- xs[:j], j drawn -/
@[simp] def N.cutU {α : Type} (m : R (List α)) (h : N Int) : N (List α) := ⟨m.p ∧ h.p, fun z => ∃ i, h.S i ∧ z = cut m.v none (some i)⟩
theorem NF.sliceU {m : R (List α)} {h : N Int} (ha : RB X M e env m) (hh : NB X M hi env h) : NF X M (.Subscript e (.Slice none (some hi) none p2) pos) env (N.cutU m h) := .mk fun p => by
  refine EF.of (pe_slice sl_list star_pe po_none (po_some star_pe)) fun S0 H0 σ S H st Q q => ?_
  refine ha p.1 _ _ _ _ _ st _ fun d v S1 H1 ed r t1 => ?_
  subst ed
  refine hh.run p.2 _ _ _ _ _ (st.step t1) _ fun d2 v2 S3 H3 ⟨i, si, ed⟩ r2 t3 => ?_
  subst ed
  have g := ((st.step t1).step t3).gd
  obtain ⟨a, vs, rfl, e1, _, r⟩ := (r.step t3).lst g
  refine ⟨_, r2.int, a, vs, rfl, sql_of e1, fun p hp => ?_⟩
  have tt := t1.trans t3
  refine q _ p _ S3 _ ⟨_, ⟨i, si, rfl⟩, rfl⟩ ?_ (g.fresh hp) upd_same (by show Dens X.K S3 ((cut m.v none (some i)).map rep) _; rw [map_cut]; exact dens_cut r _ _) (tt.trans (Step.new g _ hp))
  cases z : H p with
  | none => rfl
  | some o => exact absurd hp (tt.keep p (by rw [z]; exact fun z => nomatch z))
end
end FP
namespace FP
open PySem PySem.Spec PyProof.Rows L2
open Rep (rep)
/-! ### a module's constant: a tuple of ints -/
def TupK (K : PySem.W.Frag) (a : Addr) (is : List Int) : Prop := ∃ (o : Obj) (its : Array Value) (n : Nat), K.lookup a = some o ∧ o.cls = .type "tuple" ∧ o.dict = none ∧ o.data = .seq its n ∧ its.size ≤ sizeLine ∧ Vals (is.map V.int) its.toList
theorem RE.globP {X : Cx} {M : Mm} {env : List Sl} {pos : Pos} {x : Str} {a : Addr} {i j : Int} (hg : Gl X x) (hm : X.mg x = some (.ref a)) (hk : TupK X.K a [i, j]) (hd : (x == ("__debug__" : Str)) = false := by decide) : RE X M (.Name x pos) env (R.pure ((i, j) : Int × Int)) := .mk fun _ =>
  EV.of (pe_glob (v := .ref a) hg hm rfl hd) fun S0 H0 σ S H st Q q => q _ _ S H rfl (.tup (vs := [.int i, .int j]) (.inr hk) (.cons (.int i) (.cons (.int j) .nil))) (Step.refl st.gd.sub)
def intsB : List Value → List Int → Bool
  | [], [] => true
  | .int i _ :: vs, j :: js => decide (i = j) && intsB vs js
  | _, _ => false
def tupB (K : PySem.W.Frag) (x : Str) (is : List Int) : Bool := match PySem.W.nsIn K mainGlobals x with
  | some (some (.ref a)) => match K.lookup a with
    | some o => o.cls == .type "tuple" && o.dict.isNone && (match o.data with | .seq its _ => decide (its.size ≤ sizeLine) && intsB its.toList is | _ => false)
    | none => false
  | _ => false
theorem intsB_ok : ∀ {vs : List Value} {is : List Int}, intsB vs is = true → Vals (is.map V.int) vs
  | [], [], _ => .nil
  | .int i t :: vs, j :: js, h => by
    unfold intsB at h
    obtain ⟨h1, h2⟩ := Bool.and_eq_true_iff.mp h
    cases of_decide_eq_true h1
    exact .cons ⟨t, rfl⟩ (intsB_ok h2)
theorem tupB_ok {K : PySem.W.Frag} {x : Str} {is : List Int} (h : tupB K x is = true) : ∃ a, PySem.W.nsIn K mainGlobals x = some (some (.ref a)) ∧ TupK K a is := by
  unfold tupB at h
  split at h
  · rename_i a ea
    split at h
    · rename_i o eo
      obtain ⟨h1, h3⟩ := Bool.and_eq_true_iff.mp h
      obtain ⟨h1, h2⟩ := Bool.and_eq_true_iff.mp h1
      split at h3
      · rename_i its n ed
        obtain ⟨h3, h4⟩ := Bool.and_eq_true_iff.mp h3
        exact ⟨a, ea, o, its, n, eo, eq_of_beq h1, Option.isNone_iff_eq_none.mp h2, ed, of_decide_eq_true h3, intsB_ok h4⟩
      · cases h3
    · cases h
  · cases h
end FP
namespace FP
open PySem PySem.Spec PyProof.Rows L2
open Rep (rep)
section
variable {X : Cx} {M : Mm} {α β γ : Type} [Rep α] [Rep β] [Rep γ] {env : List Sl} {a b c : Expr} {px py pz pt pos : Pos} {kt k2 : Nat} {pt2 : Pos}
/-- x, y = [..], [..]: made as a tuple, taken apart -/
theorem SN.unFF {m : R (List α)} {n : R (List β)} (i j : Nat) {x y : Str} {E : List α × List β → List Sl} (hE : ∀ v : List α × List β, (env.set i (.ow (v.1.map rep))).set j (.ow (v.2.map rep)) = E v) (hc : X.calm = true) (hN : X.N.Nodup) (hi : X.N[i]? = some x) (hj : X.N[j]? = some y)
    (hx : Loc X.env.scope x) (hy : Loc X.env.scope y) (hfx : X.fn x = true ∨ X.env.scope.names.lookup x = some .local) (hfy : X.fn y = true ∨ X.env.scope.names.lookup y = some .local) (ha : RF X M a env m) (hb : RF X M b env n)
    (hs : swapsWithSole [.Tuple [.Name x px, .Name y py] kt pt] (.Tuple [a, b] k2 pt2) pos.line X.env = pure false := by rfl) (hw : swappedStores [.Tuple [.Name x px, .Name y py] kt pt] (.Tuple [a, b] k2 pt2) X.env = pure none := by rfl)
    (h3 : (assignEach [.Tuple [.Name x px, .Name y py] kt pt] X.env).map (·.2) = [assign (.Tuple [.Name x px, .Name y py] kt pt) X.env] := by rfl)
    (hn : (assignEach [.Name x px, .Name y py] X.env).length = 2 := by rfl) (hst : (assignEach [.Name x px, .Name y py] X.env).findIdx? (·.1) = none := by rfl) (hs1 : (assignEach [.Name x px, .Name y py] X.env).map (·.2) = assign (.Name x px) X.env :: (assignEach [.Name y py] X.env).map (·.2) := by rfl) (hs2 : (assignEach [.Name y py] X.env).map (·.2) = assign (.Name y py) X.env :: (assignEach [] X.env).map (·.2) := by rfl)
    (h1 : starEach [a, b] X.env = (false, eval a X.env) :: starEach [b] X.env := by rfl) (h2 : starEach [b] X.env = (false, eval b X.env) :: starEach [] X.env := by rfl) :
    SN X M (.Assign [.Tuple [.Name x px, .Name y py] kt pt] (.Tuple [a, b] k2 pt2) pos) env E (R.tup2 m n) := .mk fun p =>
  RdS.ofS (ps_asg (pe_tupN (pa_cons star_pe (pa_cons star_pe pa_nil h2) h1)) (pg_tup hc (pgs_cons (pg_name hN hi hx hfx) (pgs_cons (pg_name hN hj hy hfy) pgs_nil hs2) hs1) hn hst) hs hw h3) fun S0 H0 σ S H st Dl q1 _ _ _ =>
    ha p.1 S0 H0 σ S H st _ fun ds q vs S1 H1 ed e1 e2 e3 r1 t1 => by
      have s1 := st.putOw t1 i e1 e2 e3 r1
      refine hb p.2 S0 H0 σ S1 H1 (st.step t1) _ fun d v us S2 H2 ed2 f1 f2 f3 r2 t2 => ?_
      subst ed ed2
      have s2 := s1.putOw t2 j f1 f2 f3 r2
      refine ⟨by show 2 ≤ sizeLine; decide, fun T o hT ho => ?_⟩
      have t3 := Step.newS s2.gd (.frz o (.tup [.ref q, .ref v])) hT
      exact ⟨T, _, rfl, .inl (.inr ⟨o, upd_same⟩), rfl, .ref q, [.ref v], rfl, .ref v, [], rfl, rfl, q1 _ _ _ _ rfl (by rw [← hE]; exact s2.step t3) fun x o z => t3.ss x o (t2.ss x o (t1.ss x o z))⟩
end
end FP
namespace FP
open PySem PySem.Spec PyProof.Rows L2
open Rep (rep)
/-! ### more of Ok: values told exactly -/
theorem Ok.pr {α : Type} {x : α} : Ok (R.pure x) (· = x) := ⟨trivial, rfl⟩
theorem Ok.o1 {α β : Type} {C : α → Prop} {f : α → β} {m : R α} {x : α} (h : Ok m (· = x)) (hc : C x) : Ok (R.o1 C f m) (· = f x) := ⟨⟨h.1, by have := h.2; rw [this]; exact hc⟩, by have := h.2; show f m.v = _; rw [this]⟩
theorem Ok.o2 {α β γ : Type} {C : α → β → Prop} {f : α → β → γ} {m : R α} {n : R β} {x : α} {y : β} (h : Ok m (· = x)) (h' : Ok n (· = y)) (hc : C x y) : Ok (R.o2 C f m n) (· = f x y) := ⟨⟨h.1, h'.1, by have := h.2; have e := h'.2; rw [this, e]; exact hc⟩, by have := h.2; have e := h'.2; show f m.v n.v = _; rw [this, e]⟩
theorem Ok.e1 {α β : Type} {f : α → R β} {m : R α} {x : α} {P : β → Prop} (h : Ok m (· = x)) (k : Ok (f x) P) : Ok (R.c1 f m) P := ⟨⟨h.1, by have := h.2; rw [this]; exact k.1⟩, by have := h.2; show P (f m.v).v; rw [this]; exact k.2⟩
theorem Ok.e2 {α β γ : Type} {f : α → β → R γ} {m : R α} {n : R β} {x : α} {y : β} {P : γ → Prop} (h : Ok m (· = x)) (h' : Ok n (· = y)) (k : Ok (f x y) P) : Ok (R.c2 f m n) P := ⟨⟨h.1, h'.1, by have := h.2; have e := h'.2; rw [this, e]; exact k.1⟩, by have := h.2; have e := h'.2; show P (f m.v n.v).v; rw [this, e]; exact k.2⟩
theorem Ok.e3 {α β γ δ : Type} {f : α → β → γ → R δ} {m : R α} {n : R β} {o : R γ} {x : α} {y : β} {z : γ} {P : δ → Prop} (h : Ok m (· = x)) (h' : Ok n (· = y)) (h2 : Ok o (· = z)) (k : Ok (f x y z) P) : Ok (R.c3 f m n o) P := ⟨⟨h.1, h'.1, h2.1, by have := h.2; have e := h'.2; have e2 := h2.2; rw [this, e, e2]; exact k.1⟩, by have := h.2; have e := h'.2; have e2 := h2.2; show P (f m.v n.v o.v).v; rw [this, e, e2]; exact k.2⟩
theorem Ok.e4 {α β γ δ ε : Type} {f : α → β → γ → δ → R ε} {m : R α} {n : R β} {o : R γ} {r : R δ} {x : α} {y : β} {z : γ} {u : δ} {P : ε → Prop} (h : Ok m (· = x)) (h' : Ok n (· = y)) (h2 : Ok o (· = z)) (h3 : Ok r (· = u)) (k : Ok (f x y z u) P) : Ok (R.c4 f m n o r) P := ⟨⟨h.1, h'.1, h2.1, h3.1, by have := h.2; have e := h'.2; have e2 := h2.2; have e3 := h3.2; rw [this, e, e2, e3]; exact k.1⟩, by have := h.2; have e := h'.2; have e2 := h2.2; have e3 := h3.2; show P (f m.v n.v o.v r.v).v; rw [this, e, e2, e3]; exact k.2⟩
theorem Ok.bindE {α β : Type} {m : R α} {f : α → R β} {Q : β → Prop} {x : α} (h : Ok m (· = x)) (k : Ok (f x) Q) : Ok (R.bind m f) Q := Ok.bind (h.eq k)
theorem Ok.lc {α β : Type} {m : R (List α)} {t : α → R Bool} {f : α → R β} (xs : List α) (q : α → Bool) (F : α → β) (hm : Ok m (· = xs)) (hl : xs.length ≤ 100000) (ht : ∀ x ∈ xs, Ok (t x) (· = q x)) (hf : ∀ x ∈ xs, q x = true → Ok (f x) (· = F x)) : Ok (R.lc m t f) (· = (xs.filter q).map F) := by
  obtain ⟨p, e⟩ := hm
  refine ⟨⟨p, by rw [e]; exact hl, fun x hx => ?_⟩, ?_⟩
  · rw [e] at hx
    refine ⟨(ht x hx).1, fun z => ?_⟩
    have := (ht x hx).2
    rw [this] at z
    exact (hf x hx z).1
  · show (m.v.filter fun x => (t x).v).map (fun x => (f x).v) = _
    rw [e]
    have h1 : xs.filter (fun x => (t x).v) = xs.filter q := List.filter_congr fun x hx => (ht x hx).2
    rw [h1]
    exact List.map_congr_left fun x hx => (hf x (List.mem_filter.mp hx).1 (List.mem_filter.mp hx).2).2
theorem Ok.lc1 {α β : Type} {m : R (List α)} {f : α → R β} (xs : List α) (F : α → β) (hm : Ok m (· = xs)) (hl : xs.length ≤ 100000) (hf : ∀ x ∈ xs, Ok (f x) (· = F x)) : Ok (R.lc m (fun _ => R.pure true) f) (· = xs.map F) := by
  have := Ok.lc (t := fun _ => R.pure true) xs (fun _ => true) F hm hl (fun _ _ => Ok.pr) fun x hx _ => hf x hx
  rw [filter_all] at this
  exact this
theorem Ok.gx {α : Type} {m : R (List α)} {t f : α → R Bool} (xs : List α) (q r : α → Bool) (hm : Ok m (· = xs)) (ht : ∀ x ∈ xs, Ok (t x) (· = q x)) (hf : ∀ x ∈ xs, q x = true → Ok (f x) (· = r x)) : Ok (R.gx false m t f) (· = xs.all fun x => !q x || r x) := by
  obtain ⟨p, e⟩ := hm
  refine ⟨⟨p, by rw [e]; exact gxP_of fun x hx => ⟨(ht x hx).1, fun z => (hf x hx (by rw [← (ht x hx).2]; exact z)).1⟩⟩, ?_⟩
  show gxV false _ _ m.v = _
  rw [e, gxV_all, Bool.eq_iff_iff, List.all_eq_true, List.all_eq_true]
  have : ∀ x ∈ xs, (!(t x).v || (f x).v) = (!q x || r x) := fun x hx => by
    have e1 := (ht x hx).2
    rw [e1]
    cases hq : q x with
    | false => rfl
    | true => rw [(hf x hx hq).2]
  exact ⟨fun h x hx => by rw [← this x hx]; exact h x hx, fun h x hx => by rw [this x hx]; exact h x hx⟩
theorem Ok.c1 {α β : Type} {f : α → R β} {x : α} {P : β → Prop} (h : Ok (f x) P) : Ok (R.c1 f (R.pure x)) P := ⟨⟨trivial, h.1⟩, h.2⟩
theorem Ok.c2 {α β γ : Type} {f : α → β → R γ} {x : α} {y : β} {P : γ → Prop} (h : Ok (f x y) P) : Ok (R.c2 f (R.pure x) (R.pure y)) P := ⟨⟨trivial, trivial, h.1⟩, h.2⟩
theorem Ok.c3 {α β γ δ : Type} {f : α → β → γ → R δ} {x : α} {y : β} {z : γ} {P : δ → Prop} (h : Ok (f x y z) P) : Ok (R.c3 f (R.pure x) (R.pure y) (R.pure z)) P := ⟨⟨trivial, trivial, trivial, h.1⟩, h.2⟩
theorem Ok.c4 {α β γ δ ε : Type} {f : α → β → γ → δ → R ε} {x : α} {y : β} {z : γ} {u : δ} {P : ε → Prop} (h : Ok (f x y z u) P) : Ok (R.c4 f (R.pure x) (R.pure y) (R.pure z) (R.pure u)) P := ⟨⟨trivial, trivial, trivial, trivial, h.1⟩, h.2⟩
theorem lmax_zero {l : List Int} (hn : l ≠ []) : (lmax l = 0 ∧ lmin l = 0) ↔ ∀ x ∈ l, x = 0 := by
  obtain ⟨y, l, rfl⟩ := List.exists_cons_of_ne_nil hn
  have h1 := foldl_max_ge (y :: l) y
  have h2 := foldl_min_le (y :: l) y
  have e1 : lmax (y :: l) = (y :: l).foldl max y := rfl
  have e2 : lmin (y :: l) = (y :: l).foldl min y := rfl
  constructor
  · rintro ⟨a, b⟩ x hx
    have := h1.2.1 x hx
    have := h2.2.1 x hx
    omega
  · intro h
    have hy := h y List.mem_cons_self
    rw [e1, e2]
    constructor
    · rcases h1.2.2 with z | z
      · omega
      · exact h _ z
    · rcases h2.2.2 with z | z
      · omega
      · exact h _ z
theorem W.seq_tt {σT σU β : Type} {c : R Bool} {a1 a2 : (σU → Prop) → (β → Prop) → Prop} {b : σU → (σT → Prop) → (β → Prop) → Prop} {K : σT → Prop} {Kr : β → Prop} (h : Ok c (· = true)) (k : a1 (fun s => b s K Kr) Kr) : W.seq (W.ite (N.of c) a1 a2) b K Kr := W.seq_if (h.imp fun x e => by rw [if_pos e]; exact k)
theorem W.seq_ff {σT σU β : Type} {c : R Bool} {a1 a2 : (σU → Prop) → (β → Prop) → Prop} {b : σU → (σT → Prop) → (β → Prop) → Prop} {K : σT → Prop} {Kr : β → Prop} (h : Ok c (· = false)) (k : a2 (fun s => b s K Kr) Kr) : W.seq (W.ite (N.of c) a1 a2) b K Kr := W.seq_if (h.imp fun x e => by rw [if_neg (by rw [e]; decide)]; exact k)
/-! ### what a value comes to, from the outside in -/
section
variable {α β γ δ σT σU : Type}
theorem Ok.wo1 {C : α → Prop} {f : α → β} {m : R α} {P : β → Prop} (h : Ok m fun x => C x ∧ P (f x)) : Ok (R.o1 C f m) P := ⟨⟨h.1, h.2.1⟩, h.2.2⟩
theorem Ok.wo1T {f : α → β} {m : R α} {P : β → Prop} (h : Ok m fun x => P (f x)) : Ok (R.o1 T1 f m) P := ⟨⟨h.1, trivial⟩, h.2⟩
theorem Ok.wo2 {C : α → β → Prop} {f : α → β → γ} {m : R α} {n : R β} {P : γ → Prop} (h : Ok m fun x => Ok n fun y => C x y ∧ P (f x y)) : Ok (R.o2 C f m n) P := ⟨⟨h.1, h.2.1, h.2.2.1⟩, h.2.2.2⟩
theorem Ok.wo2T {f : α → β → γ} {m : R α} {n : R β} {P : γ → Prop} (h : Ok m fun x => Ok n fun y => P (f x y)) : Ok (R.o2 T2 f m n) P := ⟨⟨h.1, h.2.1, trivial⟩, h.2.2⟩
theorem Ok.wo3 {C : α → β → γ → Prop} {f : α → β → γ → δ} {m : R α} {n : R β} {o : R γ} {P : δ → Prop} (h : Ok m fun x => Ok n fun y => Ok o fun z => C x y z ∧ P (f x y z)) : Ok (R.o3 C f m n o) P := ⟨⟨h.1, h.2.1, h.2.2.1, h.2.2.2.1⟩, h.2.2.2.2⟩
theorem Ok.wnot {m : R Bool} {P : Bool → Prop} (h : Ok m fun x => P (!x)) : Ok (R.not m) P := h
theorem Ok.wmap {f : α → β} {m : R α} {P : β → Prop} (h : Ok m fun x => P (f x)) : Ok (R.map f m) P := h
theorem Ok.wtup2 {m : R α} {n : R β} {P : α × β → Prop} (h : Ok m fun x => Ok n fun y => P (x, y)) : Ok (R.tup2 m n) P := ⟨⟨h.1, h.2.1⟩, h.2.2⟩
theorem Ok.wtup3 {m : R α} {n : R β} {o : R γ} {P : T3 α β γ → Prop} (h : Ok m fun x => Ok n fun y => Ok o fun z => P ⟨x, y, z⟩) : Ok (R.tup3 m n o) P := ⟨⟨h.1, h.2.1, h.2.2.1⟩, h.2.2.2⟩
theorem Ok.wh2 {m : R α} {n : R β} {P : H2 α β → Prop} (h : Ok m fun x => Ok n fun y => P ⟨x, y⟩) : Ok (R.h2 m n) P := ⟨⟨h.1, h.2.1⟩, h.2.2⟩
theorem Ok.wh3 {m : R α} {n : R β} {o : R γ} {P : H3 α β γ → Prop} (h : Ok m fun x => Ok n fun y => Ok o fun z => P ⟨x, y, z⟩) : Ok (R.h3 m n o) P := ⟨⟨h.1, h.2.1, h.2.2.1⟩, h.2.2.2⟩
theorem Ok.wp1 {m : R (α × β)} {P : α → Prop} (h : Ok m fun x => P x.1) : Ok (R.p1 m) P := h
theorem Ok.wp2 {m : R (α × β)} {P : β → Prop} (h : Ok m fun x => P x.2) : Ok (R.p2 m) P := h
theorem Ok.wt1 {m : R (T3 α β γ)} {P : α → Prop} (h : Ok m fun x => P x.a) : Ok (R.t1 m) P := h
theorem Ok.wt2 {m : R (T3 α β γ)} {P : β → Prop} (h : Ok m fun x => P x.b) : Ok (R.t2 m) P := h
theorem Ok.wt3 {m : R (T3 α β γ)} {P : γ → Prop} (h : Ok m fun x => P x.c) : Ok (R.t3 m) P := h
theorem Ok.wset {xs : List α} {m : R α} {n : R Int} {P : List α → Prop} (h : Ok m fun x => Ok n fun i => (0 ≤ i ∧ i < xs.length) ∧ P (xs.set i.toNat x)) : Ok (R.setIx xs m n) P := ⟨⟨h.1, h.2.1, h.2.2.1.1, h.2.2.1.2⟩, h.2.2.2⟩
theorem Ok.wapp {xs : List α} {m : R α} {P : List α → Prop} (h : Ok m fun x => xs.length < 100000 ∧ P (xs ++ [x])) : Ok (R.app xs m) P := ⟨⟨h.1, h.2.1⟩, h.2.2⟩
theorem Ok.wlnil {P : List α → Prop} (h : P []) : Ok R.lnil P := ⟨trivial, h⟩
theorem Ok.wlcons {m : R α} {l : R (List α)} {P : List α → Prop} (h : Ok m fun x => Ok l fun r => P (x :: r)) : Ok (R.lcons m l) P := ⟨⟨h.1, h.2.1⟩, h.2.2⟩
theorem Ok.wsz {m : R (List α)} {P : List α → Prop} (h : Ok m fun x => x.length ≤ 100000 ∧ P x) : Ok (R.sz m) P := ⟨⟨h.1, h.2.1⟩, h.2.2⟩
theorem Ok.wrng1 {m : R Int} {P : List Int → Prop} (h : Ok m fun x => (-1000000 ≤ x ∧ x ≤ 1000000) ∧ P (rng 0 x)) : Ok (R.rng1 m) P := ⟨⟨⟨h.1, h.2.1.1⟩, h.2.1.2⟩, h.2.2⟩
theorem Ok.wrng2 {m n : R Int} {P : List Int → Prop} (h : Ok m fun x => Ok n fun y => ((-1000000 ≤ x ∧ x ≤ 1000000) ∧ -1000000 ≤ y ∧ y ≤ 1000000) ∧ P (rng x y)) : Ok (R.rng2 m n) P := Ok.wo2 h
theorem Ok.wzip {m : R (List α)} {n : R (List β)} {P : List (α × β) → Prop} (h : Ok m fun x => Ok n fun y => P (x.zip y)) : Ok (R.zip m n) P := ⟨⟨h.1, h.2.1, trivial⟩, h.2.2⟩
theorem Ok.wenum {m : R (List α)} {P : List (Int × α) → Prop} (h : Ok m fun x => P (enum x)) : Ok (R.enum m) P := h
theorem Ok.wand {a b : R Bool} {P : Bool → Prop} (h : Ok a fun x => (x = true → Ok b P) ∧ (x = false → P false)) : Ok (R.and a b) P := by
  obtain ⟨p, h1, h2⟩ := h
  cases e : a.v with
  | true => exact ⟨⟨p, fun _ => (h1 e).1⟩, by show P (a.v && b.v); rw [e]; exact (h1 e).2⟩
  | false => exact ⟨⟨p, fun z => (Bool.false_ne_true (e.symm.trans z)).elim⟩, by show P (a.v && b.v); rw [e]; exact h2 e⟩
theorem Ok.wor {a b : R Bool} {P : Bool → Prop} (h : Ok a fun x => (x = false → Ok b P) ∧ (x = true → P true)) : Ok (R.or a b) P := by
  obtain ⟨p, h1, h2⟩ := h
  cases e : a.v with
  | false => exact ⟨⟨p, fun _ => (h1 e).1⟩, by show P (a.v || b.v); rw [e]; exact (h1 e).2⟩
  | true => exact ⟨⟨p, fun z => (Bool.false_ne_true (z.symm.trans e)).elim⟩, by show P (a.v || b.v); rw [e]; exact h2 e⟩
theorem Ok.wite {c : R Bool} {a b : R α} {P : α → Prop} (h : Ok c fun x => (x = true → Ok a P) ∧ (x = false → Ok b P)) : Ok (R.ite c a b) P := by
  obtain ⟨p, h1, h2⟩ := h
  cases e : c.v with
  | true => exact ⟨⟨p, fun _ => (h1 e).1, fun z => (Bool.false_ne_true (z.symm.trans e)).elim⟩, by show P (if c.v = true then _ else _); rw [e]; exact (h1 e).2⟩
  | false => exact ⟨⟨p, fun z => (Bool.false_ne_true (e.symm.trans z)).elim, fun _ => (h2 e).1⟩, by show P (if c.v = true then _ else _); rw [e]; exact (h2 e).2⟩
theorem Ok.wchain {C : α → β → Prop} {f : α → β → Bool} {C' : β → γ → Prop} {f' : β → γ → Bool} {m : R α} {n : R β} {o : R γ} {P : Bool → Prop} (h : Ok m fun x => Ok n fun y => C x y ∧ Ok o fun z => C' y z ∧ P (f x y && f' y z)) : Ok (R.chain C f C' f' m n o) P :=
  ⟨⟨h.1, h.2.1, h.2.2.1, fun _ => ⟨h.2.2.2.1, h.2.2.2.2.1⟩⟩, h.2.2.2.2.2⟩
theorem Ok.wc1 {f : α → R β} {m : R α} {P : β → Prop} (h : Ok m fun x => Ok (f x) P) : Ok (R.c1 f m) P := ⟨⟨h.1, h.2.1⟩, h.2.2⟩
theorem Ok.wc2 {f : α → β → R γ} {m : R α} {n : R β} {P : γ → Prop} (h : Ok m fun x => Ok n fun y => Ok (f x y) P) : Ok (R.c2 f m n) P := ⟨⟨h.1, h.2.1, h.2.2.1⟩, h.2.2.2⟩
theorem Ok.wc3 {ε : Type} {f : α → β → γ → R ε} {m : R α} {n : R β} {o : R γ} {P : ε → Prop} (h : Ok m fun x => Ok n fun y => Ok o fun z => Ok (f x y z) P) : Ok (R.c3 f m n o) P := ⟨⟨h.1, h.2.1, h.2.2.1, h.2.2.2.1⟩, h.2.2.2.2⟩
theorem Ok.wc4 {ε : Type} {f : α → β → γ → δ → R ε} {m : R α} {n : R β} {o : R γ} {r : R δ} {P : ε → Prop} (h : Ok m fun x => Ok n fun y => Ok o fun z => Ok r fun u => Ok (f x y z u) P) : Ok (R.c4 f m n o r) P := ⟨⟨h.1, h.2.1, h.2.2.1, h.2.2.2.1, h.2.2.2.2.1⟩, h.2.2.2.2.2⟩
theorem Ok.wc5 {ε ζ : Type} {f : α → β → γ → δ → ζ → R ε} {m : R α} {n : R β} {o : R γ} {r : R δ} {q : R ζ} {P : ε → Prop} (h : Ok m fun x => Ok n fun y => Ok o fun z => Ok r fun u => Ok q fun w => Ok (f x y z u w) P) : Ok (R.c5 f m n o r q) P := ⟨⟨h.1, h.2.1, h.2.2.1, h.2.2.2.1, h.2.2.2.2.1, h.2.2.2.2.2.1⟩, h.2.2.2.2.2.2⟩
theorem Ok.wexact {α : Type} [Rep α] [DecidableEq α] {x y : α} {P : Bool → Prop} (hs : Sm x) (h : P (decide (x = y))) : Ok (FP.exact x y) P := ⟨hs, h⟩
theorem Ok.wflnx {β L : Type} {f : σU → R (Fl σT β L)} {s : σU} {P : Fl σT β L → Prop} (h : Ok (f s) P) : Ok (R.fl (R.pure (Fl.nx s)) f) P := Ok.fl_nx Ok.pr h
/-- a comprehension, its value said -/
theorem Ok.wlc {m : R (List α)} {t : α → R Bool} {f : α → R β} {P : List β → Prop} (q : α → Bool) (F : α → β) (h : Ok m fun xs => xs.length ≤ 100000 ∧ (∀ x ∈ xs, Ok (t x) fun b => b = q x ∧ (q x = true → Ok (f x) (· = F x))) ∧ P ((xs.filter q).map F)) : Ok (R.lc m t f) P := by
  obtain ⟨p, h1, h2, h3⟩ := h
  exact (Ok.lc m.v q F ⟨p, rfl⟩ h1 (fun x hx => (h2 x hx).imp fun _ e => e.1) fun x hx hq => (h2 x hx).2.2 hq).eq h3
theorem Ok.wlc1 {m : R (List α)} {f : α → R β} {P : List β → Prop} (F : α → β) (h : Ok m fun xs => xs.length ≤ 100000 ∧ (∀ x ∈ xs, Ok (f x) (· = F x)) ∧ P (xs.map F)) : Ok (R.lc m (fun _ => R.pure true) f) P := by
  obtain ⟨p, h1, h2, h3⟩ := h
  exact (Ok.lc1 m.v F ⟨p, rfl⟩ h1 h2).eq h3
/-- .. and what is kept -/
theorem Ok.wlcf {m : R (List α)} {t : α → R Bool} {P : List α → Prop} (q : α → Bool) (h : Ok m fun xs => xs.length ≤ 100000 ∧ (∀ x ∈ xs, Ok (t x) (· = q x)) ∧ P (xs.filter q)) : Ok (R.lc m t fun x => R.pure x) P := by
  refine Ok.wlc q id (h.imp fun xs h => ⟨h.1, fun x hx => (h.2.1 x hx).imp fun b e => ⟨e, fun _ => Ok.pr⟩, ?_⟩)
  rw [List.map_id]; exact h.2.2
theorem Ok.wgx {m : R (List α)} {t f : α → R Bool} {P : Bool → Prop} (q r : α → Bool) (h : Ok m fun xs => (∀ x ∈ xs, Ok (t x) fun b => b = q x ∧ (q x = true → Ok (f x) (· = r x))) ∧ P (xs.all fun x => !q x || r x)) : Ok (R.gx false m t f) P := by
  obtain ⟨p, h2, h3⟩ := h
  exact (Ok.gx m.v q r ⟨p, rfl⟩ (fun x hx => (h2 x hx).imp fun _ e => e.1) fun x hx hq => (h2 x hx).2.2 hq).eq h3
theorem Ok.wgx1 {m : R (List α)} {f : α → R Bool} {P : Bool → Prop} (r : α → Bool) (h : Ok m fun xs => (∀ x ∈ xs, Ok (f x) (· = r x)) ∧ P (xs.all r)) : Ok (R.gx false m (fun _ => R.pure true) f) P := by
  refine Ok.wgx (fun _ => true) r (h.imp fun xs h => ⟨fun x hx => Ok.pure ⟨rfl, fun _ => h.1 x hx⟩, ?_⟩)
  simpa using h.2
theorem Ok.wfold {m : R (List α)} {s : σT} {f : σT → α → R σT} {P : σT → Prop} (J : Nat → σT → Prop) (h : Ok m fun xs => J 0 s ∧ (∀ (i : Nat) x s, xs[i]? = some x → J i s → Ok (f s x) (J (i + 1))) ∧ ∀ s, J xs.length s → P s) : Ok (R.fold m s f) P := by
  obtain ⟨p, h1, h2, h3⟩ := h
  exact Ok.fold J m.v ⟨p, rfl⟩ h1 h2 h3
theorem Ok.wgxa {m : R (List α)} {t f : α → R Bool} {P : Bool → Prop} (q r : α → Bool) (h : Ok m fun xs => (∀ x ∈ xs, Ok (t x) fun b => b = q x ∧ (q x = true → Ok (f x) (· = r x))) ∧ P (xs.any fun x => q x && r x)) : Ok (R.gx true m t f) P := by
  obtain ⟨p, h2, h3⟩ := h
  refine ⟨⟨p, gxP_of fun x hx => ⟨(h2 x hx).1, fun z => ((h2 x hx).2.2 (by rw [← (h2 x hx).2.1]; exact z)).1⟩⟩, ?_⟩
  show P (gxV true t f m.v)
  rw [gxV_any]
  have e : (m.v.any fun x => (t x).v && (f x).v) = m.v.any fun x => q x && r x := by
    rw [Bool.eq_iff_iff, List.any_eq_true, List.any_eq_true]
    have : ∀ x ∈ m.v, ((t x).v && (f x).v) = (q x && r x) := fun x hx => by
      have e1 := (h2 x hx).2.1
      rw [e1]
      cases hq : q x with
      | false => rfl
      | true => rw [((h2 x hx).2.2 hq).2]
    exact ⟨fun ⟨x, hx, h⟩ => ⟨x, hx, by rw [← this x hx]; exact h⟩, fun ⟨x, hx, h⟩ => ⟨x, hx, by rw [this x hx]; exact h⟩⟩
  rw [e]; exact h3
theorem Ok.wgxa1 {m : R (List α)} {f : α → R Bool} {P : Bool → Prop} (r : α → Bool) (h : Ok m fun xs => (∀ x ∈ xs, Ok (f x) (· = r x)) ∧ P (xs.any r)) : Ok (R.gx true m (fun _ => R.pure true) f) P := by
  refine Ok.wgxa (fun _ => true) r (h.imp fun xs h => ⟨fun x hx => Ok.pure ⟨rfl, fun _ => h.1 x hx⟩, ?_⟩)
  simpa using h.2
/-! loops that look for a first one -/
def flO {β L : Type} : Option β → Fl Unit β L
  | some b => .rt b
  | none => .nx ()
theorem loop_find {β L : Type} {f : Unit → α → R (Fl Unit β Unit)} (r : α → Option β) : ∀ xs : List α, (∀ x ∈ xs, Ok (f () x) (· = flO (r x))) → loopP f () xs ∧ (loopV f () xs : Fl Unit β L) = flO (xs.findSome? r)
  | [], _ => ⟨trivial, rfl⟩
  | x :: xs, h => by
    obtain ⟨p, e⟩ := h x List.mem_cons_self
    obtain ⟨i1, i2⟩ := loop_find (L := L) r xs fun y hy => h y (List.mem_cons_of_mem _ hy)
    cases hr : r x with
    | none =>
      rw [hr] at e
      have e : (f () x).v = .nx () := e
      unfold loopP loopV
      rw [e, List.findSome?_cons, hr]
      exact ⟨⟨p, i1⟩, i2⟩
    | some b =>
      rw [hr] at e
      have e : (f () x).v = .rt b := e
      unfold loopP loopV
      rw [e, List.findSome?_cons, hr]
      exact ⟨⟨p, trivial⟩, rfl⟩
theorem Ok.wfind {β L : Type} {m : R (List α)} {f : Unit → α → R (Fl Unit β Unit)} {P : Fl Unit β L → Prop} (r : α → Option β) (h : Ok m fun xs => (∀ x ∈ xs, Ok (f () x) (· = flO (r x))) ∧ P (flO (xs.findSome? r))) : Ok (R.loop m () f) P := by
  obtain ⟨p, h2, h3⟩ := h
  obtain ⟨i1, i2⟩ := loop_find (L := L) r m.v h2
  exact ⟨⟨p, i1⟩, by show P (loopV f () m.v); rw [i2]; exact h3⟩
theorem Ok.wflO {β L : Type} {m : R (Fl Unit β L)} {f : Unit → R (Fl Unit β L)} {P : Fl Unit β L → Prop} (o : Option β) (h : Ok m (· = flO o)) (h0 : o = none → Ok (f ()) P) (h1 : ∀ b, o = some b → P (.rt b)) : Ok (R.fl m f) P := by
  cases o with
  | none => exact Ok.fl_nx h (h0 rfl)
  | some b => exact Ok.fl_rt h (h1 b rfl)
theorem Ok.wflR {β : Type} {m : R (Fl Unit β Empty)} {f : Unit → R β} {P : β → Prop} (o : Option β) (h : Ok m (· = flO o)) (h0 : o = none → Ok (f ()) P) (h1 : ∀ b, o = some b → P b) : Ok (R.flR m f) P := by
  cases o with
  | none => exact Ok.flR_nx h (h0 rfl)
  | some b => exact Ok.flR_rt h (h1 b rfl)
theorem Ok.wandT {a b : R Bool} {P : Bool → Prop} (h : Ok a fun x => Ok b fun y => P (x && y)) : Ok (R.and a b) P := ⟨⟨h.1, fun _ => h.2.1⟩, h.2.2⟩
theorem Ok.worT {a b : R Bool} {P : Bool → Prop} (h : Ok a fun x => Ok b fun y => P (x || y)) : Ok (R.or a b) P := ⟨⟨h.1, fun _ => h.2.1⟩, h.2.2⟩
theorem Ok.witeT {c : R Bool} {a b : R α} {P : α → Prop} (h : Ok c fun x => Ok a fun y => Ok b fun z => P (if x = true then y else z)) : Ok (R.ite c a b) P := ⟨⟨h.1, fun _ => h.2.1, fun _ => h.2.2.1⟩, h.2.2.2⟩
theorem W.seqP {β : Type} {a : (σU → Prop) → (β → Prop) → Prop} {b : σU → (σT → Prop) → (β → Prop) → Prop} {K : σT → Prop} {Kr : β → Prop} {Q : σU → Prop} (h : ∀ K', (∀ s, Q s → K' s) → a K' Kr) (k : ∀ s, Q s → b s K Kr) : W.seq a b K Kr := h _ k
theorem Ok.and' {P Q : Prop} (h1 : P) (h2 : Q) : P ∧ Q := ⟨h1, h2⟩
/-! drawn values -/
def NOk (m : N α) (P : α → Prop) : Prop := m.p ∧ ∀ x, m.S x → P x
theorem NOk.of {m : R α} {P : α → Prop} (h : Ok m P) : NOk (N.of m) P := ⟨h.1, fun x e => by rw [show x = m.v from e]; exact h.2⟩
theorem NOk.imp {m : N α} {P Q : α → Prop} (h : NOk m P) (k : ∀ x, P x → Q x) : NOk m Q := ⟨h.1, fun x e => k x (h.2 x e)⟩
theorem NOk.draw {m : R Int} (h : Ok m fun n => 0 < n ∧ n < 1073741824) : NOk (N.d1 m_draw (N.of m)) fun i => 0 ≤ i ∧ i < m.v := ⟨⟨h.1, by rintro _ rfl; exact h.2⟩, fun i hi => drwM hi⟩
theorem NOk.drawP {m : R Int} {P : Int → Prop} (h : Ok m fun n => (0 < n ∧ n < 1073741824) ∧ ∀ i, 0 ≤ i → i < n → P i) : NOk (N.d1 m_draw (N.of m)) P := (NOk.draw (h.imp fun _ z => z.1)).imp fun i hi => h.2.2 i hi.1 hi.2
theorem NOk.o1 {C : α → Prop} {f : α → β} {m : N α} {P : β → Prop} (h : NOk m fun x => C x ∧ P (f x)) : NOk (N.o1 C f m) P := ⟨⟨h.1, fun x hx => (h.2 x hx).1⟩, by rintro _ ⟨x, hx, rfl⟩; exact (h.2 x hx).2⟩
theorem NOk.map {f : α → β} {m : N α} {P : β → Prop} (h : NOk m fun x => P (f x)) : NOk (N.map f m) P := ⟨h.1, by rintro _ ⟨x, hx, rfl⟩; exact h.2 x hx⟩
/-- two values: what is known of each, then of both -/
theorem NOk.o2 {C : α → β → Prop} {f : α → β → γ} {m : N α} {n : N β} {P : γ → Prop} {A : α → Prop} {B : β → Prop} (h1 : NOk m A) (h2 : NOk n B) (h : ∀ x y, A x → B y → C x y ∧ P (f x y)) : NOk (N.o2 C f m n) P :=
  ⟨⟨h1.1, h2.1, fun x y hx hy => (h x y (h1.2 x hx) (h2.2 y hy)).1⟩, by rintro _ ⟨x, y, hx, hy, rfl⟩; exact (h x y (h1.2 x hx) (h2.2 y hy)).2⟩
theorem NOk.tup2 {m : N α} {n : N β} {P : α × β → Prop} {A : α → Prop} {B : β → Prop} (h1 : NOk m A) (h2 : NOk n B) (h : ∀ x y, A x → B y → P (x, y)) : NOk (N.tup2 m n) P :=
  ⟨⟨h1.1, h2.1⟩, by rintro _ ⟨x, y, hx, hy, rfl⟩; exact h x y (h1.2 x hx) (h2.2 y hy)⟩
theorem NOk.lnil : NOk (N.lnil (α := α)) (· = []) := ⟨trivial, fun _ e => e⟩
theorem NOk.lcons {m : N α} {l : N (List α)} {P : List α → Prop} {A : α → Prop} {B : List α → Prop} (h1 : NOk m A) (h2 : NOk l B) (h : ∀ x y, A x → B y → P (x :: y)) : NOk (N.lcons m l) P :=
  ⟨⟨h1.1, h2.1⟩, by rintro _ ⟨x, y, hx, hy, rfl⟩; exact h x y (h1.2 x hx) (h2.2 y hy)⟩
theorem NOk.sz {m : N (List α)} {P : List α → Prop} (h : NOk m fun x => x.length ≤ 100000 ∧ P x) : NOk (N.sz m) P := ⟨⟨h.1, fun x hx => (h.2 x hx).1⟩, fun x hx => (h.2 x hx).2⟩
theorem NOk.app {xs : List α} {m : N α} {P : List α → Prop} (hl : xs.length < 100000) (h : NOk m fun x => P (xs ++ [x])) : NOk (N.app xs m) P := ⟨⟨h.1, hl⟩, by rintro _ ⟨x, hx, rfl⟩; exact h.2 x hx⟩
theorem NOk.setIx {xs : List α} {m : N α} {n : N Int} {P : List α → Prop} {A : α → Prop} {B : Int → Prop} (h1 : NOk m A) (h2 : NOk n B) (h : ∀ x i, A x → B i → (0 ≤ i ∧ i < xs.length) ∧ P (xs.set i.toNat x)) (hA : ∃ x, A x) : NOk (N.setIx xs m n) P :=
  ⟨⟨h1.1, h2.1, fun i hi => by obtain ⟨x, hx⟩ := hA; exact (h x i hx (h2.2 i hi)).1⟩, by rintro _ ⟨x, i, hx, hi, rfl⟩; exact (h x i (h1.2 x hx) (h2.2 i hi)).2⟩
theorem NOk.c1 {f : α → R β} {m : N α} {P : β → Prop} (h : NOk m fun x => Ok (f x) P) : NOk (N.c1 f m) P := ⟨⟨h.1, fun x hx => (h.2 x hx).1⟩, by rintro _ ⟨x, hx, rfl⟩; exact (h.2 x hx).2⟩
theorem NOk.c2 {f : α → β → R γ} {m : N α} {n : N β} {P : γ → Prop} {A : α → Prop} {B : β → Prop} (h1 : NOk m A) (h2 : NOk n B) (h : ∀ x y, A x → B y → Ok (f x y) P) : NOk (N.c2 f m n) P :=
  ⟨⟨h1.1, h2.1, fun x y hx hy => (h x y (h1.2 x hx) (h2.2 y hy)).1⟩, by rintro _ ⟨x, y, hx, hy, rfl⟩; exact (h x y (h1.2 x hx) (h2.2 y hy)).2⟩
theorem NOk.d1 {f : α → N β} {m : N α} {P : β → Prop} (h : NOk m fun x => NOk (f x) P) : NOk (N.d1 f m) P := ⟨⟨h.1, fun x hx => (h.2 x hx).1⟩, by rintro z ⟨x, hx, hz⟩; exact (h.2 x hx).2 z hz⟩
theorem NOk.d2 {f : α → β → N γ} {m : N α} {n : N β} {P : γ → Prop} {A : α → Prop} {B : β → Prop} (h1 : NOk m A) (h2 : NOk n B) (h : ∀ x y, A x → B y → NOk (f x y) P) : NOk (N.d2 f m n) P :=
  ⟨⟨h1.1, h2.1, fun x y hx hy => (h x y (h1.2 x hx) (h2.2 y hy)).1⟩, by rintro z ⟨x, y, hx, hy, hz⟩; exact (h x y (h1.2 x hx) (h2.2 y hy)).2 z hz⟩
theorem NOk.d3 {f : α → β → γ → N δ} {m : N α} {n : N β} {o : N γ} {P : δ → Prop} {A : α → Prop} {B : β → Prop} {C : γ → Prop} (h1 : NOk m A) (h2 : NOk n B) (h3 : NOk o C) (h : ∀ x y w, A x → B y → C w → NOk (f x y w) P) : NOk (N.d3 f m n o) P :=
  ⟨⟨h1.1, h2.1, h3.1, fun x y w hx hy hw => (h x y w (h1.2 x hx) (h2.2 y hy) (h3.2 w hw)).1⟩, by rintro z ⟨x, y, w, hx, hy, hw, hz⟩; exact (h x y w (h1.2 x hx) (h2.2 y hy) (h3.2 w hw)).2 z hz⟩
/-- a comprehension that draws: of each item its own -/
theorem NOk.lc {m : N (List α)} {t : α → R Bool} {f : α → N β} {P : List β → Prop} (q : α → Bool) (A : α → β → Prop) (h : NOk m fun xs => xs.length ≤ 100000 ∧ (∀ x ∈ xs, Ok (t x) fun b => b = q x ∧ (q x = true → NOk (f x) (A x))) ∧ ∀ ys : List β, ys.length = (xs.filter q).length → (∀ (i : Nat) x y, (xs.filter q)[i]? = some x → ys[i]? = some y → A x y) → P ys) : NOk (N.lc m t f) P := by
  refine ⟨⟨h.1, fun xs hx => ⟨(h.2 xs hx).1, fun x hm => ?_⟩⟩, ?_⟩
  · obtain ⟨p, e, k⟩ := (h.2 xs hx).2.1 x hm
    exact ⟨p, fun z => (k (e.symm.trans z)).1⟩
  · rintro ys ⟨xs, hx, e1, e2⟩
    obtain ⟨_, h2, h3⟩ := h.2 xs hx
    have ef : xs.filter (fun x => (t x).v) = xs.filter q := List.filter_congr fun x hm => (h2 x hm).2.1
    rw [ef] at e1 e2
    refine h3 ys e1 fun i x y hi hy => ?_
    have hm := List.mem_of_getElem? hi
    obtain ⟨hm1, hm2⟩ := List.mem_filter.mp hm
    exact ((h2 x hm1).2.2 hm2).2 y (e2 i x y hi hy)
theorem NOk.lc1 {m : N (List α)} {f : α → N β} {P : List β → Prop} (A : α → β → Prop) (h : NOk m fun xs => xs.length ≤ 100000 ∧ (∀ x ∈ xs, NOk (f x) (A x)) ∧ ∀ ys : List β, ys.length = xs.length → (∀ (i : Nat) x y, xs[i]? = some x → ys[i]? = some y → A x y) → P ys) : NOk (N.lc m (fun _ => R.pure true) f) P := by
  refine NOk.lc (fun _ => true) A (h.imp fun xs h => ⟨h.1, fun x hx => Ok.pure ⟨rfl, fun _ => h.2.1 x hx⟩, fun ys e1 e2 => ?_⟩)
  rw [filter_all] at e1 e2
  exact h.2.2 ys e1 e2
/-- .. where all items are of one kind -/
theorem NOk.lcA {m : N (List α)} {f : α → N β} {P : List β → Prop} (A : β → Prop) (h : NOk m fun xs => xs.length ≤ 100000 ∧ (∀ x ∈ xs, NOk (f x) A) ∧ ∀ ys : List β, ys.length = xs.length → (∀ y ∈ ys, A y) → P ys) : NOk (N.lc m (fun _ => R.pure true) f) P :=
  NOk.lc1 (fun _ => A) (h.imp fun xs h => ⟨h.1, h.2.1, fun ys e1 e2 => h.2.2 ys e1 fun y hy => by
    obtain ⟨i, hi, e⟩ := List.mem_iff_getElem.mp hy
    have h1 : i < xs.length := by omega
    exact e2 i xs[i] y (List.getElem?_eq_getElem h1) (by rw [List.getElem?_eq_getElem hi, e])⟩)
theorem W.sq {β : Type} {m : N σU} {b : σU → (σT → Prop) → (β → Prop) → Prop} {K : σT → Prop} {Kr : β → Prop} (h : NOk m fun x => b x K Kr) : W.seq (W.of m) b K Kr := h
theorem W.rt {β : Type} {m : N β} {K : σT → Prop} {Kr : β → Prop} (h : NOk m Kr) : W.ret m K Kr := h
theorem W.gd {β : Type} {c : R Bool} {r : (Unit → Prop) → (β → Prop) → Prop} {b : Unit → (σT → Prop) → (β → Prop) → Prop} {K : σT → Prop} {Kr : β → Prop} (h : Ok c fun x => x = false ∧ b () K Kr) : W.seq (W.ite (N.of c) r (W.nil ())) b K Kr := W.guard (h.imp fun _ z => z.1) h.2.2
theorem W.sf {β α : Type} {m : R (List α)} {s0 : σU} {f : σU → α → (σU → Prop) → (β → Prop) → Prop} {b : σU → (σT → Prop) → (β → Prop) → Prop} {K : σT → Prop} {Kr : β → Prop} (J : Nat → σU → Prop) (h : Ok m fun xs => J 0 s0 ∧ (∀ (i : Nat) x s, xs[i]? = some x → J i s → f s x (fun s' => J (i + 1) s') Kr) ∧ ∀ s, J xs.length s → b s K Kr) : W.seq (W.for (N.of m) s0 f) b K Kr :=
  W.seq_for J m.v ⟨h.1, rfl⟩ h.2.1 h.2.2.1 h.2.2.2
end
/-! a value that is known not to be None -/
@[simp] def R.unO {α : Type} [Inhabited α] (m : R (Option α)) : R α := ⟨m.p ∧ m.v.isSome = true, m.v.getD default⟩
section
variable {X : Cx} {M : Mm} {α : Type} [Rep α] [NN α] [Inhabited α] {env : List Sl} {e : Expr}
theorem rep_unO (o : Option α) (h : o.isSome = true) : rep o = rep (o.getD default) := by
  cases o with
  | none => cases h
  | some x => rfl
theorem RE.unO {m : R (Option α)} (h : RE X M e env m) : RE X M e env (R.unO m) := .mk fun p => RdE.imp (h p.1) fun d q => by rw [q]; exact rep_unO _ p.2
end
theorem Ok.wunO {α : Type} [Inhabited α] {m : R (Option α)} {P : α → Prop} (h : Ok m fun o => o.isSome = true ∧ P (o.getD default)) : Ok (R.unO m) P := ⟨⟨h.1, h.2.1⟩, h.2.2⟩
section
variable {X : Cx} {M : Mm} {α β γ : Type} [Rep α] [Rep β] [Rep γ] {env : List Sl}
/-- a, b, c = x, y, z -/
theorem SN.par3 {a b c : Expr} {px py pz pt pos : Pos} {kt k2 : Nat} {pt2 : Pos} {m : R α} {n : R β} {o : R γ} (i j l : Nat) {x y z : Str} {E : T3 α β γ → List Sl} (hE : ∀ v : T3 α β γ, ((env.set i (.im (rep v.a))).set j (.im (rep v.b))).set l (.im (rep v.c)) = E v) (hc : X.calm = true) (hN : X.N.Nodup) (hi : X.N[i]? = some x) (hj : X.N[j]? = some y) (hl : X.N[l]? = some z) (hij : i ≠ j) (hil : i ≠ l) (hjl : j ≠ l)
    (hx : X.env.scope.names.lookup x = some .local) (hy : X.env.scope.names.lookup y = some .local) (hz : X.env.scope.names.lookup z = some .local) (ha : RA X M [a, b, c] env [true, true, true] (R.cons m (R.cons n (R.cons o R.nil))))
    (hw : swappedStores [.Tuple [.Name x px, .Name y py, .Name z pz] kt pt] (.Tuple [a, b, c] k2 pt2) X.env = pure (some [x, y, z])) (hs : swapsWithSole [.Tuple [.Name x px, .Name y py, .Name z pz] kt pt] (.Tuple [a, b, c] k2 pt2) pos.line X.env = pure false := by rfl) :
    SN X M (.Assign [.Tuple [.Name x px, .Name y py, .Name z pz] kt pt] (.Tuple [a, b, c] k2 pt2) pos) env E (R.tup3 m n o) := .mk fun p =>
  RdS.ofS (ps_par3 hc hN hi hj hl hij hil hjl hx hy hz star_pa hw hs) fun S0 H0 σ S H st Dl q1 _ _ _ => ha ⟨p.1, p.2.1, p.2.2, trivial⟩ S0 H0 σ S H st _ fun ds vs S1 H1 ed bs t => by
    subst ed
    cases bs with
    | im r1 bs =>
      cases bs with
      | im r2 bs =>
        cases bs with
        | im r3 bs =>
          cases bs
          exact ⟨_, _, _, rfl, q1 _ _ S1 H1 rfl (by rw [← hE]; exact (((st.step t).putIm i r1).putIm j r2).putIm l r3) t.ss⟩
end
end FP
namespace FP
open PySem PySem.Spec PyProof.Rows L2
open Rep (rep)
/-! ### a list of one's own with lists of one's own -/
/-- what such a slot holds -/
abbrev Oo {α : Type} [Rep α] (x : List (List α)) : Sl := .oo (x.map fun l => l.map rep)
def RdOO (K : PySem.W.Frag) (M : Mm) (te : TE) (env : List Sl) (P : List (List D) → Prop) : Prop :=
  ∀ S0 H0 σ S H, St0 K M S0 H0 S H env σ → ∀ Q : VK, (∀ dss p as S' H', P dss → H p = none → S' p = none → H' p = some (.lst (as.map V.ref)) → (p :: as).Nodup → (∀ a ∈ as, H a = none ∧ S' a = none) → Owns K S' H' dss as → Step M S H S' H' → Q (.ref p) H') → te σ H Q
section
variable {K : PySem.W.Frag} {M : Mm} {S H S' H' : Hp}
theorem owns_snoc {ds : List D} {vs : List V} {p : Addr} (hp : H p = some (.lst vs)) (r : Dens K S ds vs) : ∀ {dss : List (List D)} {as : List Addr}, Owns K S H dss as → Owns K S H (dss ++ [ds]) (as ++ [p])
  | [], [], _ => ⟨⟨vs, hp, r⟩, trivial⟩
  | _ :: _, _ :: _, ⟨q, h⟩ => ⟨q, owns_snoc hp r h⟩
  | [], _ :: _, h => h.elim
  | _ :: _, [], h => h.elim
theorem owns_get : ∀ {dss : List (List D)} {as : List Addr}, Owns K S H dss as → ∀ {j : Nat} {ds : List D}, dss[j]? = some ds → ∃ a vs, as[j]? = some a ∧ H a = some (.lst vs) ∧ Dens K S ds vs
  | [], [], _, j, ds, e => by simp at e
  | d :: dss, a :: as, ⟨⟨vs, e1, r⟩, h⟩, 0, ds, e => by
    simp at e; subst e
    exact ⟨a, vs, rfl, e1, r⟩
  | d :: dss, a :: as, ⟨_, h⟩, j + 1, ds, e => by
    obtain ⟨b, vs, q1, q2, q3⟩ := owns_get h (j := j) (ds := ds) (by simpa using e)
    exact ⟨b, vs, by simpa using q1, q2, q3⟩
  | [], _ :: _, h, _, _, _ => h.elim
  | _ :: _, [], h, _, _, _ => h.elim
theorem owns_len : ∀ {dss : List (List D)} {as : List Addr}, Owns K S H dss as → dss.length = as.length
  | [], [], _ => rfl
  | _ :: _, _ :: _, ⟨_, h⟩ => by simp [owns_len h]
  | [], _ :: _, h => h.elim
  | _ :: _, [], h => h.elim
/-- one of the lists is changed -/
theorem owns_set {vs : List V} {ds : List D} (r : Dens K S ds vs) : ∀ {dss : List (List D)} {as : List Addr} {j : Nat} {p : Addr}, as.Nodup → Owns K S H dss as → as[j]? = some p → Owns K S (upd H p (.lst vs)) (dss.set j ds) as
  | [], [], j, p, _, _, e => by simp at e
  | d :: dss, a :: as, 0, p, nd, ⟨_, h⟩, e => by
    simp at e; subst e
    obtain ⟨n1, _⟩ := List.nodup_cons.mp nd
    exact ⟨⟨vs, upd_same, r⟩, h.upd fun b hb z => n1 (z ▸ hb)⟩
  | d :: dss, a :: as, j + 1, p, nd, ⟨⟨us, e1, r1⟩, h⟩, e => by
    obtain ⟨n1, n2⟩ := List.nodup_cons.mp nd
    have e : as[j]? = some p := by simpa using e
    have hm := List.mem_of_getElem? e
    have hne : a ≠ p := fun z => by subst z; exact n1 hm
    exact ⟨⟨us, by rw [upd_ne hne]; exact e1, r1⟩, owns_set r n2 h e⟩
  | [], _ :: _, _, _, _, h, _ => h.elim
  | _ :: _, [], _, _, _, h, _ => h.elim
end
section
variable {K : PySem.W.Frag} {M : Mm} {env : List Sl} {α β : Type} [Rep α] [Rep β]
theorem RdOO.lc {wi : TI} {g : TG} {tt : TT} {te : TE} {vs : List Nat} {PS : List α → Prop} {t : α → R Bool} {f : α → R (List β)} {tE : α → List Sl} (hi : RdI K M false wi env (fun ds => ∃ xs, PS xs ∧ ds = xs.map rep)) {ix : List Nat} (hix : ∀ i ∈ ix, i ∈ vs)
    (hg : ∀ x, RdG K M g ix (rep x) (wipeE env vs) (· = tE x)) (ht : ∀ x, (t x).p → RdT K M tt (tE x) (· = (t x).v)) (hf : ∀ x, (f x).p → RdF K M te (tE x) (· = (f x).v.map rep)) (hp : ∀ xs, PS xs → xs.length ≤ 100000 ∧ ∀ x ∈ xs, (t x).p ∧ ((t x).v = true → (f x).p)) :
    RdOO K M (tLc wi g tt te vs) env (fun dss => ∃ xs, PS xs ∧ dss = ((xs.filter fun x => (t x).v).map fun x => (f x).v).map fun l => l.map rep) := fun S0 H0 σ S H st Q q => by
  refine hi _ _ _ _ _ st _ fun ds J S1 H1 ⟨xs, hxs, ed⟩ t1 it => ?_
  subst ed
  have hp := hp xs hxs
  intro D hD
  have st1 := st.step t1
  have g1 := st1.gd
  have tN := Step.new g1 (.lst []) hD
  let got : Nat → List (List β) := fun i => ((xs.take i).filter fun x => (t x).v).map fun x => (f x).v
  refine ⟨fun i k H' => k = xs.length - i ∧ i ≤ xs.length ∧ ∃ S' as, Step M S1 H1 S' H' ∧ S' D = none ∧ H' D = some (.lst (as.map V.ref)) ∧ (D :: as).Nodup ∧ (∀ a ∈ as, H1 a = none ∧ S' a = none ∧ ¬ M a) ∧ Owns K S' H' ((got i).map fun l => l.map rep) as, ⟨xs.length, by simp, Nat.zero_le _, S1, [], tN, g1.fresh hD, upd_same, by simp, (fun _ z => nomatch z), by simp [got]; trivial⟩, ?_⟩
  rintro i k H' ⟨rfl, hil, S', as, t2, hn, hu, nd, fr, r⟩
  have st2 : St0 K M S0 H0 S' H' env σ := st1.step t2
  have rc : Rch K M false S0 H0 S1 H1 S' H' := ⟨st2.gd, t2.ss, t2⟩
  by_cases hlt : i < xs.length
  · refine .inr ?_
    have hx : xs[i]? = some xs[i] := List.getElem?_eq_getElem hlt
    generalize xs[i] = x at hx
    have hmem : x ∈ xs := List.mem_of_getElem? hx
    obtain ⟨go, yl⟩ := it.go S' H' i (rep x) rc (by rw [List.getElem?_map, hx]; rfl)
    have hsucc : got (i + 1) = if (t x).v = true then got i ++ [(f x).v] else got i := by
      simp only [got]
      rw [List.take_add_one, hx, List.filter_append, List.map_append]
      simp only [Option.toList_some, List.filter_cons, List.filter_nil]
      split <;> simp
    refine ⟨go, fun H3 => ∃ S3 as3, Step M S1 H1 S3 H3 ∧ S3 D = none ∧ H3 D = some (.lst (as3.map V.ref)) ∧ (D :: as3).Nodup ∧ (∀ a ∈ as3, H1 a = none ∧ S3 a = none ∧ ¬ M a) ∧ Owns K S3 H3 ((got (i + 1)).map fun l => l.map rep) as3, fun H3 ⟨S3, as3, w1, w2, w3, w4, w5, w6⟩ => ⟨xs.length - (i + 1), by omega, rfl, hlt, S3, as3, w1, w2, w3, w4, w5, w6⟩, fun v H3 hy => ?_⟩
    obtain ⟨S3, t3, dn⟩ := yl v H3 hy
    have st3 := (st2.step t3).wipe vs
    refine hg x S0 H0 _ S3 H3 v st3 dn _ fun env4 σ4 S4 H4 e4 st4 t4 l4 k4 => ?_
    subst e4
    refine ⟨wipe_eq (by rw [l4]) fun j hj => k4 j fun z => hj (hix j z), ?_⟩
    refine ht x (hp.2 x hmem).1 S0 H0 σ4 S4 H4 st4 _ fun b S5 H5 eb t5 => ?_
    have dkeep : ∀ {Sx Hx : Hp}, Step M S' H' Sx Hx → Sx D = none ∧ Hx D = some (.lst (as.map V.ref)) := fun {Sx Hx} tx =>
      ⟨tx.cap D hn (by rw [hu]; exact fun z => nomatch z), tx.ext D _ hu (fun m' => by
        have := st1.gd.vol D m'
        exact this.1 hD) lst_noT⟩
    have akeep : ∀ {Sx Hx : Hp}, Step M S' H' Sx Hx → (∀ a ∈ as, H1 a = none ∧ Sx a = none ∧ ¬ M a) ∧ Owns K Sx Hx ((got i).map fun l => l.map rep) as := fun {Sx Hx} tx =>
      ⟨fun a ha => ⟨(fr a ha).1, tx.cap a (fr a ha).2.1 (r.ne a ha), (fr a ha).2.2⟩, r.step tx fun a ha => (fr a ha).2.2⟩
    cases b with
    | true =>
      rw [if_pos rfl]
      refine hf x ((hp.2 x hmem).2 eb.symm) S0 H0 σ4 S5 H5 (st4.step t5) _ fun d p6 vs6 S6 H6 ed n6' s6' e6' dn6 t6 => ?_
      subst ed
      have tt5 := (t3.trans t4).trans t5
      have tt6 := tt5.trans t6
      obtain ⟨n6, h6⟩ := dkeep tt6
      obtain ⟨fr6, r6⟩ := akeep tt6
      have hgl : (got i).length ≤ xs.length := by
        simp only [got]
        rw [List.length_map]
        refine Nat.le_trans (List.length_filter_le _ _) ?_
        rw [List.length_take]
        omega
      have hlen : as.length = (got i).length := by have := owns_len r; simpa using this.symm
      have pD : p6 ≠ D := fun z => by
        subst z
        have := tt5.keep p6 (by rw [hu]; exact fun q => nomatch q)
        exact this n6'
      have pA : p6 ∉ as := fun z => (tt5.keep p6 (r.ne p6 z)) n6'
      have p1 : H1 p6 = none := keep_none (t2.trans tt5) n6'
      have pM : ¬ M p6 := st1.gd.notM p1
      obtain ⟨nd1, nd2⟩ := List.nodup_cons.mp nd
      refine ⟨as.map V.ref, h6, ?_, S6, as ++ [p6], ?_, n6, ?_, ?_, ?_, ?_⟩
      · have : sizeLine = 16777216 := sizeLine_eq
        have := hp.1
        rw [List.length_map]
        omega
      · have t7 := t2.trans tt6
        exact ⟨t7.ss, fun a o e => by rw [upd_ne (ne_of_none e n6)]; exact t7.sh a o e, fun a o e m' n' => by rw [upd_ne (ne_of_none e hD)]; exact t7.ext a o e m' n', fun a ps e tr => by
            rw [upd_ne (ne_of_none e hD)]; exact t7.tb a ps e tr, t7.cap, fun a m' vk => by
            have z : a ≠ D := fun z => by subst z; exact (st1.gd.vol _ m').1 hD
            rw [upd_ne z]; exact t7.vk a m' vk, fun a n' => by
            by_cases z : a = D
            · subst z; exact absurd hD n'
            · rw [upd_ne z]; exact t7.keep a n'⟩
      · rw [List.map_append]
        exact upd_same
      · refine List.nodup_cons.mpr ⟨fun z => ?_, ?_⟩
        · rcases List.mem_append.mp z with w | w
          · exact nd1 w
          · exact pD (List.mem_singleton.mp w).symm
        · exact List.nodup_append.mpr ⟨nd2, by simp, fun a ha b hb => by
            rw [List.mem_singleton.mp hb]
            intro z; subst z; exact pA ha⟩
      · intro a ha
        rcases List.mem_append.mp ha with w | w
        · exact fr6 a w
        · rw [List.mem_singleton.mp w]
          exact ⟨p1, s6', pM⟩
      · rw [hsucc, if_pos eb.symm, List.map_append]
        refine Owns.upd ?_ (owns_snoc e6' dn6 r6)
        intro a ha
        rcases List.mem_append.mp ha with w | w
        · intro z; subst z; exact nd1 w
        · rw [List.mem_singleton.mp w]; exact pD
    | false =>
      rw [if_neg (by decide)]
      have tt5 := (t3.trans t4).trans t5
      obtain ⟨n5, h5⟩ := dkeep tt5
      obtain ⟨fr5, r5⟩ := akeep tt5
      refine ⟨S5, as, t2.trans tt5, n5, h5, nd, fr5, ?_⟩
      rw [hsucc, if_neg (by rw [← eb]; decide)]
      exact r5
  · refine .inl ⟨it.stop S' H' i rc (by rw [List.length_map]; omega) (by rw [List.length_map]; omega), ?_⟩
    have hfin : got i = ((xs.filter fun x => (t x).v).map fun x => (f x).v) := by
      simp only [got]
      rw [List.take_of_length_le (by omega)]
    rw [hfin] at r
    refine q _ D as S' H' ⟨xs, hxs, rfl⟩ ?_ hn hu nd (fun a ha => ⟨?_, (fr a ha).2.1⟩) r (t1.trans t2)
    · exact keep_none t1 hD
    · exact keep_none t1 (fr a ha).1
end

/-! ### expressions, statements -/
section
variable (X : Cx) (M : Mm) {α : Type} [Rep α]
structure RO2 (e : Expr) (env : List Sl) (m : N (List (List α))) : Prop where
  run : m.p → RdOO X.K M (star X e) env (fun dss => ∃ x, m.S x ∧ dss = x.map fun l => l.map rep)
end
/-- a comprehension of new lists, its items perhaps drawn -/
@[simp] def N.lcR {α β : Type} (m : N (List α)) (t : α → R Bool) (f : α → R β) : N (List β) :=
  ⟨m.p ∧ ∀ xs, m.S xs → xs.length ≤ 100000 ∧ ∀ x ∈ xs, (t x).p ∧ ((t x).v = true → (f x).p), fun ys => ∃ xs, m.S xs ∧ ys = (xs.filter fun x => (t x).v).map fun x => (f x).v⟩
@[simp] def R.setIx2 {α : Type} (xss : List (List α)) (m : R α) (n1 n2 : R Int) : R (List (List α)) :=
  ⟨m.p ∧ n1.p ∧ n2.p ∧ (0 ≤ n1.v ∧ n1.v < xss.length) ∧ 0 ≤ n2.v ∧ n2.v < (nth xss n1.v).length, xss.set n1.v.toNat ((nth xss n1.v).set n2.v.toNat m.v)⟩
@[simp] def N.setIx2 {α : Type} (xss : List (List α)) (m : N α) (n1 n2 : N Int) : N (List (List α)) :=
  ⟨m.p ∧ n1.p ∧ n2.p ∧ ∀ i, n1.S i → (0 ≤ i ∧ i < xss.length) ∧ ∀ j, n2.S j → 0 ≤ j ∧ j < (nth xss i).length, fun z => ∃ x i j, m.S x ∧ n1.S i ∧ n2.S j ∧ z = xss.set i.toNat ((nth xss i).set j.toNat x)⟩
@[simp] def R.ixO {α : Type} [Inhabited α] (xss : List (List α)) (n1 n2 : R Int) : R α :=
  ⟨n1.p ∧ n2.p ∧ ixOk xss.length n1.v ∧ ixOk (nth xss n1.v).length n2.v, nth (nth xss n1.v) n2.v⟩
@[simp] def R.rowO {α : Type} (xss : List (List α)) (n1 : R Int) : R (List α) := ⟨n1.p ∧ ixOk xss.length n1.v, nth xss n1.v⟩
@[simp] def R.setRow {α : Type} (xss : List (List α)) (m : R (List α)) (n : R Int) : R (List (List α)) := ⟨m.p ∧ n.p ∧ 0 ≤ n.v ∧ n.v < xss.length, xss.set n.v.toNat m.v⟩
section
variable {X : Cx} {M : Mm} {env : List Sl} {α β σT : Type} [Rep α] [Rep β]
theorem RO2.lc {elt tg iter : Expr} {ifs : List Expr} {scope : Scope} {own : List (Str × Nat)} {pos : Pos} {m : N (List α)} {t : α → R Bool} {f : α → R (List β)} {tE : α → List Sl} {ix : List Nat} (hc : X.calm = true) (hN : X.N.Nodup) (ok : BlkOk X.N X.env.scope scope own) (hl : ifs.length ≤ 1) (hix : ∀ i ∈ ix, i ∈ own.map (·.2))
    (hi : NI X M false tg iter env m) (hg : ∀ x, Blk X scope fun Y => RG Y M tg ix (rep x) (wipeE env (own.map (·.2))) (tE x)) (ht : ∀ x, RTs X scope M ifs (tE x) (t x)) (he : ∀ x, Blk X scope fun Y => RF Y M elt (tE x) (f x)) (hs : ∀ x, foldedSetIterable iter X.env x = pure x) :
    RO2 X M (.ListComp elt [⟨tg, iter, ifs, 0⟩] scope pos) env (N.lcR m t f) := .mk fun p => by
  obtain ⟨tt, pt, rt⟩ := lc_pts (X := X) (M := M) (scope := scope) hl
  have h1 := pe_lc (pos := pos) (g := bG X scope tg) (te := bE X scope elt) hc hN star_pi ok (fun s H C cl fp => ⟨fun pins s' σ H' v u Q I r h => h s H C cl fp pins s' u I r⟩) pt (fun s H C cl fp => ⟨fun pins s' σ H' Q I h => h s H C cl fp pins s' I⟩) hs
  have h2 := RdOO.lc (f := f) (hi.run p.1) hix (fun x S0 H0 σ S H v st dn Q q s H' C cl fp => (hg x s H' C cl fp).run S0 H0 σ S H v st dn Q q) (fun x hp => rt _ _ (ht x) hp) (fun x hp S0 H0 σ S H st Q q s H' C cl fp => (he x s H' C cl fp) hp S0 H0 σ S H st Q q) p.2
  intro S0 H0 σ S H st Q q pins s I
  exact h1.run pins s σ H Q I (h2 S0 H0 σ S H st Q fun dss p as S' H' ⟨xs, hx, e⟩ => q dss p as S' H' ⟨_, ⟨xs, hx, rfl⟩, e⟩)
theorem RdS.setOO {K : PySem.W.Frag} {te : TE} {i : Nat} {P : List (List D) → Prop} {Z : Post} (h : RdOO K M te env P) (hD : ∀ d, P d → Z.nx (env.set i (.oo d))) : RdS K M (tAsg te (gName i)) env Z := fun S0 H0 σ S H st Dl q1 _ _ _ =>
  h S0 H0 σ S H st _ fun dss p as S1 H1 pd h1 h2 h3 nd fr ow t => q1 _ _ S1 H1 (hD dss pd) (st.putN t i (p :: as) (.oo dss) (.ref p) (fun a ha => by
    rcases List.mem_cons.mp ha with z | z
    · subst z; exact ⟨h1, h2, by rw [h3]; exact fun z => nomatch z⟩
    · exact ⟨(fr a z).1, (fr a z).2, ow.ne a z⟩) ⟨p, as, rfl, nd, rfl, h3, ow⟩) t.ss
theorem NS.setO {e : Expr} {pos pos' : Pos} {m : N (List (List α))} (i : Nat) {nm : Str} (hN : X.N.Nodup) (hi : X.N[i]? = some nm) (hx : Loc X.env.scope nm) (hf : X.fn nm = true ∨ X.env.scope.names.lookup nm = some .local) {E : List (List α) → List Sl} (h : RO2 X M e env m) (hE : ∀ v : List (List α), env.set i (Oo v) = E v) (hs : swapsWith e (some (.Name nm pos')) pos.line X.env = pure false := by rfl) :
    NS X M (.Assign [.Name nm pos'] e pos) env E m := .mk fun p => RdS.ofS (ps_set hN hi hx star_pe hs hf) (RdS.setOO (h.run p) fun d ⟨x, hx, ed⟩ => ⟨x, hx, by rw [ed]; exact hE _⟩)
theorem NS.lcO {elt tg iter : Expr} {ifs : List Expr} {scope : Scope} {own : List (Str × Nat)} {pos spos py : Pos} {m : N (List α)} {t : α → R Bool} {f : α → R (List β)} {tE : α → List Sl} {ix : List Nat} (i : Nat) {nm : Str} {E : List (List β) → List Sl} (hE : ∀ v : List (List β), env.set i (Oo v) = E v) (hc : X.calm = true) (hN : X.N.Nodup) (hy : X.N[i]? = some nm) (hyl : X.env.scope.names.lookup nm = some .local)
    (hsw : swapsWith (.ListComp elt [⟨tg, iter, ifs, 0⟩] scope pos) (some (.Name nm py)) spos.line X.env = pure true) (ok : BlkOk X.N X.env.scope scope own) (hl : ifs.length ≤ 1) (hix : ∀ i ∈ ix, i ∈ own.map (·.2))
    (hi : NI X M false tg iter env m) (hg : ∀ x, Blk X scope fun Y => RG Y M tg ix (rep x) (wipeE env (own.map (·.2))) (tE x)) (ht : ∀ x, RTs X scope M ifs (tE x) (t x)) (he : ∀ x, Blk X scope fun Y => RF Y M elt (tE x) (f x)) (hs : ∀ x, foldedSetIterable iter X.env x = pure x) :
    NS X M (.Assign [.Name nm py] (.ListComp elt [⟨tg, iter, ifs, 0⟩] scope pos) spos) env E (N.lcR m t f) := .mk fun p => by
  obtain ⟨tt, pt, rt⟩ := lc_pts (X := X) (M := M) (scope := scope) hl
  have h1 := ps_setLc (pos := pos) (g := bG X scope tg) (te := bE X scope elt) hc hN hy hyl hsw star_pi ok (fun s H C cl fp => ⟨fun pins s' σ H' v u Q I r h => h s H C cl fp pins s' u I r⟩) pt (fun s H C cl fp => ⟨fun pins s' σ H' Q I h => h s H C cl fp pins s' I⟩) hs
  have h2 := RdOO.lc (f := f) (hi.run p.1) hix (fun x S0 H0 σ S H v st dn Q q s H' C cl fp => (hg x s H' C cl fp).run S0 H0 σ S H v st dn Q q) (fun x hp => rt _ _ (ht x) hp) (fun x hp S0 H0 σ S H st Q q s H' C cl fp => (he x s H' C cl fp) hp S0 H0 σ S H st Q q) p.2
  exact RdS.ofS h1 (RdS.setOO h2 fun d ⟨xs, hx, ed⟩ => ⟨_, ⟨xs, hx, rfl⟩, by rw [ed]; exact hE _⟩)
/-- what is not drawn -/
theorem SN.ofO {st : Stmt} {E : List β → List Sl} {m : R (List α)} {t : α → R Bool} {f : α → R β} (h : NS X M st env E (N.lcR (N.of m) t f)) : SN X M st env E (R.lc m t f) := .mk fun p =>
  (h.run ⟨p.1, by rintro _ rfl; exact p.2⟩).imp (fun e ⟨s, ⟨xs, hx, es⟩, he⟩ => by
    have hx : xs = m.v := hx
    subst hx
    rw [he, es]
    show E _ = E _
    rfl) (fun _ z => z) (fun _ z => z) (fun _ z => z)
theorem nth_row {xss : List (List α)} {i : Int} (h : ixOk xss.length i) : ∃ j, ixN xss.length i = some j ∧ xss[j]? = some (nth xss i) := nth_some h
/-- the slot's addresses -/
theorem St0.rd {K : PySem.W.Frag} {S0 H0 S H : Hp} {σ : L2.St} (h : St0 K M S0 H0 S H env σ) {i : Nat} {dss : List (List D)} (hi : env[i]? = some (.oo dss)) : ∃ a as, σ[i]? = some (some (.ref a)) ∧ H a = some (.lst (as.map V.ref)) ∧ (a :: as).Nodup ∧ Owns K S H dss as ∧ (∀ b ∈ a :: as, ¬ M b) ∧ ∀ (k : Nat) (b : Addr) (vs : List V) (ds : List D), as[k]? = some b → Dens K S ds vs → St0 K M S0 H0 S (upd H b (.lst vs)) (env.set i (.oo (dss.set k ds))) σ := by
  obtain ⟨N, hN, ⟨a, as, eN, nd, e1, e2, ow⟩, up⟩ := h.chg hi
  refine ⟨a, as, e1, e2, nd, ow, fun b hb => (hN b (by rw [eN]; exact hb)).1, fun k b vs ds hk r => ?_⟩
  have hm := List.mem_of_getElem? hk
  obtain ⟨us, hu⟩ := ow.lst b hm
  obtain ⟨n1, n2⟩ := List.nodup_cons.mp nd
  refine up b us vs _ (by rw [eN]; exact List.mem_cons_of_mem _ hm) hu ⟨a, as, eN, nd, e1, ?_, owns_set r n2 ow hk⟩
  rw [upd_ne fun z => n1 (by rw [z]; exact hm)]; exact e2
/-- x[i], to be read -/
theorem RB.rowO {ei : Expr} {pos pn : Pos} {n1 : R Int} {xss : List (List α)} (i : Nat) {nm : Str} (hi : env[i]? = some (Oo xss)) (hN : X.N[i]? = some nm) (hv : Vis X.env.scope nm) (hk : OkN nm) (h1 : RB X M ei env n1) (hp : PlainIx ei) : RB X M (.Subscript (.Name nm pn) ei pos) env (R.rowO xss n1) := .mk fun p =>
  EB.of (pe_ix ix_list (pe_var hN hv hk.d hk.c) star_pe hp) fun S0 H0 σ S H st Q q => by
    obtain ⟨a, as, e1, _⟩ := st.rd hi
    refine ⟨.ref a, e1, ?_⟩
    refine h1 p.1 S0 H0 σ S H st _ fun d u S2 H2 ed r2 t2 => ?_
    subst ed
    obtain ⟨a', as', e1', e2', nd, ow, nm', _⟩ := (st.step t2).rd hi
    rw [e1] at e1'
    cases e1'
    obtain ⟨j, hj, hx⟩ := nth_row p.2
    obtain ⟨b, vs, q1, q2, q3⟩ := owns_get ow (j := j) (ds := (nth xss n1.v).map rep) (by rw [List.getElem?_map, hx]; rfl)
    have hl := owns_len ow
    rw [List.length_map] at hl
    refine ⟨a, as'.map V.ref, n1.v, .ref b, rfl, r2.int, sql_of e2', ?_, ?_⟩
    · unfold atI
      rw [List.length_map, ← hl, hj]
      show (as'.map V.ref)[j]? = some (.ref b)
      rw [List.getElem?_map, q1]; rfl
    · exact q _ _ S2 H2 rfl (.inr ⟨b, _, vs, rfl, rfl, q2, nm' b (List.mem_cons_of_mem _ (List.mem_of_getElem? q1)), q3⟩) t2
theorem RE.ixO [Inhabited α] {ei ej : Expr} {pos pos' pn : Pos} {n1 n2 : R Int} {xss : List (List α)} (i : Nat) {nm : Str} (hi : env[i]? = some (Oo xss)) (hN : X.N[i]? = some nm) (hv : Vis X.env.scope nm) (hk : OkN nm) (h1 : RB X M ei env n1) (h2 : RB X M ej env n2) (hp : PlainIx ei) (hp2 : PlainIx ej) : RE X M (.Subscript (.Subscript (.Name nm pn) ei pos') ej pos) env (R.ixO xss n1 n2) :=
  RE.cast (RE.ix x_list (RB.rowO i hi hN hv hk h1 hp) h2 hp2) (fun p => ⟨⟨p.1, p.2.2.1⟩, p.2.1, p.2.2.2⟩) fun _ => rfl
theorem NS.setIx2 {e ei ej : Expr} {pos pos' pi pn : Pos} {m : N α} {n1 n2 : N Int} {xss : List (List α)} (i : Nat) {nm : Str} {E : List (List α) → List Sl} (hi : env[i]? = some (Oo xss)) (hE : ∀ v : List (List α), env.set i (Oo v) = E v) (hN : X.N[i]? = some nm) (hv : Vis X.env.scope nm) (hk : OkN nm) (h : NE X M e env m) (h1 : NB X M ei env n1) (h2 : NB X M ej env n2) (hp : PlainIx ei)
    (ha : ∀ v, assign (.Subscript (.Subscript (.Name nm pn) ei pi) ej pos') X.env v = (do
      let ov ← holding [v] (eval (.Subscript (.Name nm pn) ei pi) X.env)
      let iv ← holding [v, ov] (eval ej X.env)
      standAt pos'
      holding [v, ov, iv] (setItem ov iv v)
      release [v, ov, iv] []) := by intro _; rfl) (hs : swapsWithSole [.Subscript (.Subscript (.Name nm pn) ei pi) ej pos'] e pos.line X.env = pure false := by rfl) (hw : swappedStores [.Subscript (.Subscript (.Name nm pn) ei pi) ej pos'] e X.env = pure none := by rfl)
    (hq : (assignEach [.Subscript (.Subscript (.Name nm pn) ei pi) ej pos'] X.env).map (·.2) = [assign (.Subscript (.Subscript (.Name nm pn) ei pi) ej pos') X.env] := by rfl) :
    NS X M (.Assign [.Subscript (.Subscript (.Name nm pn) ei pi) ej pos'] e pos) env E (N.setIx2 xss m n1 n2) := .mk fun p =>
  RdS.ofS (ps_asg star_pe (pg_sub (pe_ix ix_list (pe_var hN hv hk.d hk.c) star_pe hp) star_pe set_list ha) hs hw hq) fun S0 H0 σ S H st Dl q1 _ _ _ => by
    refine h.run p.1 S0 H0 σ S H st _ fun d v S1 H1 ⟨x, sx, ed⟩ r t1 => ?_
    subst ed
    obtain ⟨a, as0, e1, _⟩ := (st.step t1).rd hi
    refine ⟨.ref a, e1, ?_⟩
    refine h1.run p.2.1 S0 H0 σ S1 H1 (st.step t1) _ fun d u S2 H2 ⟨k1, sk1, ed⟩ r2 t2 => ?_
    subst ed
    have st2 := (st.step t1).step t2
    obtain ⟨a', as', e1', e2', nd, ow, nm', _⟩ := st2.rd hi
    rw [e1] at e1'
    cases e1'
    -- the inner list
    have hl := owns_len ow
    rw [List.length_map] at hl
    · have P := p.2.2.2 k1 sk1
      have hlt : k1.toNat < xss.length := by omega
      have hxx : xss[k1.toNat]? = some (nth xss k1) := by
        rw [List.getElem?_eq_getElem hlt]
        unfold nth
        rw [if_pos P.1.1]
        simp [List.getD, List.getElem?_eq_getElem hlt]
      obtain ⟨b, vs, w1, w2, w3⟩ := owns_get ow (j := k1.toNat) (ds := (nth xss k1).map rep) (by rw [List.getElem?_map, hxx]; rfl)
      refine ⟨a, as'.map V.ref, k1, .ref b, rfl, r2.int, sql_of e2', ?_, ?_⟩
      · unfold atI
        rw [List.length_map, ← hl, ixN_of ⟨P.1.1, P.1.2⟩]
        show (as'.map V.ref)[k1.toNat]? = some (.ref b)
        rw [List.getElem?_map, w1]; rfl
      refine h2.run p.2.2.1 S0 H0 σ S2 H2 st2 _ fun d w S3 H3 ⟨k3, sk3, ed⟩ r3 t3 => ?_
      subst ed
      have P3 := P.2 k3 sk3
      obtain ⟨a3, as3, f1, f2, f3, f4, f5, f6⟩ := (st2.step t3).rd hi
      rw [e1] at f1
      cases f1
      have eas : as3 = as' := by
        have g1 := t3.ext a _ e2' (nm' a List.mem_cons_self) lst_noT
        rw [g1] at f2
        have f2 : as'.map V.ref = as3.map V.ref := by injection f2 with z; injection z
        exact (List.map_inj_right (fun x y z => by cases z; rfl)).mp f2.symm
      subst eas
      obtain ⟨b3, vs3, g1, g2, g3⟩ := owns_get f4 (j := k1.toNat) (ds := (nth xss k1).map rep) (by rw [List.getElem?_map, hxx]; rfl)
      rw [w1] at g1
      cases g1
      refine ⟨b, vs3, k3, k3.toNat, rfl, r3.int, g2, ixN_of ⟨P3.1, ?_⟩, ?_⟩
      · have := g3.length
        rw [List.length_map] at this
        rw [← this]
        exact P3.2
      · refine q1 _ σ S3 _ ⟨_, ⟨x, k1, k3, sx, sk1, sk3, rfl⟩, rfl⟩ ?_ fun x o z => t3.ss x o (t2.ss x o (t1.ss x o z))
        have := f6 k1.toNat b (vs3.set k3.toNat v) (((nth xss k1).set k3.toNat x).map rep) w1 (by rw [List.map_set]; exact g3.set ((r.mon t2.ss).mon t3.ss) _)
        rw [← hE]
        show St0 _ _ _ _ _ _ (env.set i (.oo ((xss.set k1.toNat ((nth xss k1).set k3.toNat x)).map fun l => l.map rep))) _
        rw [List.map_set]
        exact this
/-- what is not drawn -/
theorem SN.ofI {st : Stmt} {E : List (List α) → List Sl} {xss : List (List α)} {m : R α} {n1 n2 : R Int} (h : NS X M st env E (N.setIx2 xss (N.of m) (N.of n1) (N.of n2))) : SN X M st env E (R.setIx2 xss m n1 n2) := .mk fun p =>
  (h.run ⟨p.1, p.2.1, p.2.2.1, by
    rintro _ rfl
    refine ⟨p.2.2.2.1, ?_⟩
    rintro _ rfl
    exact p.2.2.2.2⟩).imp (fun e ⟨s, ⟨x, i, j, hx, hi, hj, es⟩, he⟩ => by
    have hx : x = m.v := hx
    have hi : i = n1.v := hi
    have hj : j = n2.v := hj
    subst hx hi hj
    rw [he, es]
    show E _ = E _
    rfl) (fun _ z => z) (fun _ z => z) (fun _ z => z)
theorem nodup_set {l : List Addr} {p : Addr} (h : l.Nodup) (hp : p ∉ l) : ∀ k, (l.set k p).Nodup := by
  induction l with
  | nil => intro k; simp
  | cons a l ih =>
    intro k
    obtain ⟨n1, n2⟩ := List.nodup_cons.mp h
    have hpl : p ∉ l := fun z => hp (List.mem_cons_of_mem _ z)
    cases k with
    | zero => exact List.nodup_cons.mpr ⟨hpl, n2⟩
    | succ k =>
      rw [List.set_cons_succ]
      refine List.nodup_cons.mpr ⟨fun z => ?_, ih n2 hpl k⟩
      rcases List.mem_or_eq_of_mem_set z with w | w
      · exact n1 w
      · subst w; exact hp List.mem_cons_self
theorem owns_put {K : PySem.W.Frag} {S H : Hp} {p : Addr} {vs : List V} {ds : List D} (hp : H p = some (.lst vs)) (r : Dens K S ds vs) : ∀ {dss : List (List D)} {as : List Addr} (k : Nat), Owns K S H dss as → Owns K S H (dss.set k ds) (as.set k p)
  | [], [], k, _ => trivial
  | _ :: _, _ :: _, 0, ⟨_, h⟩ => ⟨⟨vs, hp, r⟩, h⟩
  | _ :: _, _ :: _, k + 1, ⟨q, h⟩ => ⟨q, owns_put hp r k h⟩
  | [], _ :: _, _, h => h.elim
  | _ :: _, [], _, h => h.elim
/-- a new list takes a row's place -/
theorem St0.putRow {K : PySem.W.Frag} {S0 H0 S H S' H' : Hp} {σ : L2.St} (h : St0 K M S0 H0 S H env σ) (t : Step M S H S' H') {i : Nat} {dss : List (List D)} (hi : env[i]? = some (.oo dss)) {p : Addr} {vs : List V} {ds : List D} (hp : H p = none) (hs : S' p = none) (e : H' p = some (.lst vs)) (r : Dens K S' ds vs) :
    ∃ (a : Addr) (as : List Addr), σ[i]? = some (some (.ref a)) ∧ H' a = some (.lst (as.map V.ref)) ∧ as.length = dss.length ∧ ∀ k, St0 K M S0 H0 S' (upd H' a (.lst ((as.set k p).map V.ref))) (env.set i (.oo (dss.set k ds))) σ := by
  have h0 : H0 p = none := by
    cases q : H0 p with
    | none => rfl
    | some o => exact absurd hp (h.stp.keep p (by rw [q]; exact fun z => nomatch z))
  have nM : ¬ M p := h.gd.notM hp
  have nopr : ∀ O : Nat → List Addr, (∀ i a, a ∈ O i → ¬ M a ∧ H0 a = none ∧ S a = none ∧ H a ≠ none) → ∀ j, p ∉ O j := fun O out j z => (out j p z).2.2.2 hp
  obtain ⟨len, stp, gd, O, inj, out, sl⟩ := h
  have nop := nopr O out
  have h' : St0 K M S0 H0 S' H' env σ := St0.step ⟨len, stp, gd, O, inj, out, sl⟩ t
  obtain ⟨_, stp', gd', _⟩ := h'
  have out' : ∀ j b, b ∈ O j → ¬ M b ∧ H0 b = none ∧ S' b = none ∧ H' b ≠ none := fun j b hb => ⟨(out j b hb).1, (out j b hb).2.1, t.cap b (out j b hb).2.2.1 (out j b hb).2.2.2, t.keep b (out j b hb).2.2.2⟩
  have sl' : ∀ j s, env[j]? = some s → SlOk K M S' H0 H' (O j) s (σ[j]?) := fun j s q => (sl j s q).step t fun a m => (out j a m).1
  obtain ⟨a, as, eO, nd, e1, e2, ow⟩ := sl' i _ hi
  obtain ⟨n1, n2⟩ := List.nodup_cons.mp nd
  have oa := out' i a (by rw [eO]; exact List.mem_cons_self)
  have pa : p ≠ a := fun z => nop i (by rw [eO, z]; exact List.mem_cons_self)
  have pas : p ∉ as := fun z => nop i (by rw [eO]; exact List.mem_cons_of_mem _ z)
  have nS : ∀ b o, S' b = some o → b ≠ a := fun b o q => ne_of_none q oa.2.2.1
  refine ⟨a, as, e1, e2, (owns_len ow).symm, fun k => ?_⟩
  have memN : ∀ b, b ∈ a :: as.set k p → b ∈ O i ∨ b = p := fun b hb => by
    rw [eO]
    rcases List.mem_cons.mp hb with z | z
    · exact .inl (by rw [z]; exact List.mem_cons_self)
    · rcases List.mem_or_eq_of_mem_set z with w | w
      · exact .inl (List.mem_cons_of_mem _ w)
      · exact .inr w
  refine ⟨by simp [len], ⟨stp'.ss, fun b o q => ?_, fun b o q m n => ?_, fun b ps q tr => ?_, stp'.cap, fun b m v => ?_, fun b n => ?_⟩, ⟨fun b o q => ?_, fun b m => ?_, fun q m => ?_⟩, fun j => if j = i then a :: as.set k p else O j, fun x y b hx hy => ?_, fun j b hb => ?_, fun j u hj => ?_⟩
  · rw [upd_ne (nS b o q)]; exact stp'.sh b o q
  · rw [upd_ne (ne_of_none q oa.2.1)]; exact stp'.ext b o q m n
  · obtain ⟨qs, q1, q2⟩ := stp'.tb b ps q tr
    exact ⟨qs, by rw [upd_ne (ne_of_none q oa.2.1)]; exact q1, q2⟩
  · have : b ≠ a := fun z => by subst z; exact oa.1 m
    rw [upd_ne this]; exact stp'.vk b m v
  · by_cases z : b = a
    · subst z; rw [upd_same]; exact fun q => nomatch q
    · rw [upd_ne z]; exact stp'.keep b n
  · rw [upd_ne (nS b o q)]; exact gd'.sub b o q
  · have : b ≠ a := fun z => by subst z; exact oa.1 m
    rw [upd_ne this]; exact gd'.vol b m
  · obtain ⟨⟨ps, w, ok⟩, n⟩ := gd'.tab q m
    exact ⟨⟨ps, by rw [upd_ne (ne_of w e2 (fun z => nomatch z))]; exact w, ok⟩, n⟩
  · by_cases z1 : x = i <;> by_cases z2 : y = i
    · rw [z1, z2]
    · simp only [z1, z2, if_true, if_false] at hx hy
      rcases memN b hx with w | w
      · rw [z1]; exact inj i y b w hy
      · subst w; exact absurd hy (nop y)
    · simp only [z1, z2, if_true, if_false] at hx hy
      rcases memN b hy with w | w
      · rw [z2]; exact inj x i b hx w
      · subst w; exact absurd hx (nop x)
    · simp only [z1, z2, if_false] at hx hy
      exact inj x y b hx hy
  · have key : ¬ M b ∧ H0 b = none ∧ S' b = none ∧ H' b ≠ none := by
      by_cases z : j = i
      · simp only [z, if_true] at hb
        rcases memN b hb with w | w
        · exact out' i b w
        · subst w; exact ⟨nM, h0, hs, by rw [e]; exact fun q => nomatch q⟩
      · simp only [z, if_false] at hb
        exact out' j b hb
    refine ⟨key.1, key.2.1, key.2.2.1, ?_⟩
    by_cases z : b = a
    · subst z; rw [upd_same]; exact fun q => nomatch q
    · rw [upd_ne z]; exact key.2.2.2
  · rcases get_set hj with ⟨w, w'⟩ | ⟨w, w'⟩
    · subst w; subst w'
      simp only [if_true]
      refine ⟨a, as.set k p, rfl, List.nodup_cons.mpr ⟨fun z => ?_, nodup_set n2 pas k⟩, e1, upd_same, ?_⟩
      · rcases List.mem_or_eq_of_mem_set z with y | y
        · exact n1 y
        · exact pa y.symm
      · refine Owns.upd (fun b hb z => ?_) (owns_put e r k ow)
        subst z
        rcases List.mem_or_eq_of_mem_set hb with y | y
        · exact n1 y
        · exact pa y.symm
    · simp only [w, if_false]
      have na : ∀ b ∈ O j, b ≠ a := fun b hb z => by
        subst z
        exact w (inj j i b hb (by rw [eO]; exact List.mem_cons_self))
      have q := sl' j u w'
      cases u with
      | un => trivial
      | im d => exact q
      | ow es =>
        obtain ⟨b, us, f1, f2, f3, f4⟩ := q
        exact ⟨b, us, f1, f2, by rw [upd_ne (na b (by rw [f1]; exact List.mem_cons_self))]; exact f3, f4⟩
      | br es => exact q
      | oo dss =>
        obtain ⟨b, bs, f1, f2, f3, f4, f5⟩ := q
        exact ⟨b, bs, f1, f2, f3, by rw [upd_ne (na b (by rw [f1]; exact List.mem_cons_self))]; exact f4, f5.upd fun c hc => na c (by rw [f1]; exact List.mem_cons_of_mem _ hc)⟩
      | st =>
        obtain ⟨b, f1, f2, f3⟩ := q
        have : b ≠ a := fun z => by subst z; exact oa.1 f2
        exact ⟨b, f1, f2, by rw [upd_ne this]; exact f3⟩
      | sc is => exact q
/-- x[i] = a new list -/
theorem SN.setRow {e ei : Expr} {pos pos' pn : Pos} {m : R (List α)} {n : R Int} {xss : List (List α)} (i : Nat) {nm : Str} {E : List (List α) → List Sl} (hi : env[i]? = some (Oo xss)) (hE : ∀ v : List (List α), env.set i (Oo v) = E v) (hN : X.N[i]? = some nm) (hv : Vis X.env.scope nm) (hk : OkN nm) (h : RF X M e env m) (h' : RB X M ei env n)
    (ha : ∀ v, assign (.Subscript (.Name nm pn) ei pos') X.env v = (do
      let ov ← holding [v] (eval (.Name nm pn) X.env)
      let iv ← holding [v, ov] (eval ei X.env)
      standAt pos'
      holding [v, ov, iv] (setItem ov iv v)
      release [v, ov, iv] []) := by intro _; rfl) (hs : swapsWithSole [.Subscript (.Name nm pn) ei pos'] e pos.line X.env = pure false := by rfl) (hw : swappedStores [.Subscript (.Name nm pn) ei pos'] e X.env = pure none := by rfl)
    (h1 : (assignEach [.Subscript (.Name nm pn) ei pos'] X.env).map (·.2) = [assign (.Subscript (.Name nm pn) ei pos') X.env] := by rfl) :
    SN X M (.Assign [.Subscript (.Name nm pn) ei pos'] e pos) env E (R.setRow xss m n) := .mk fun p =>
  RdS.ofS (ps_asg star_pe (pg_sub (pe_var hN hv hk.d hk.c) star_pe set_list ha) hs hw h1) fun S0 H0 σ S H st Dl q1 _ _ _ => by
    refine h p.1 S0 H0 σ S H st _ fun ds q vs S1 H1 ed n0 n1 n2 r t1 => ?_
    subst ed
    have nq : ¬ M q := st.gd.notM n0
    obtain ⟨a, as0, e1, _⟩ := (st.step t1).rd hi
    refine ⟨.ref a, e1, ?_⟩
    refine h' p.2.1 S0 H0 σ S1 H1 (st.step t1) _ fun d u S2 H2 ed r2 t2 => ?_
    subst ed
    have n3 : H1 q ≠ none := by rw [n2]; exact fun z => nomatch z
    obtain ⟨a', as', e1', e2', hl, up⟩ := st.putRow (t1.trans t2) hi n0 (t2.cap q n1 n3) (t2.ext q _ n2 nq lst_noT) (r.mon t2.ss)
    rw [e1] at e1'
    cases e1'
    rw [List.length_map] at hl
    refine ⟨a, as'.map V.ref, n.v, n.v.toNat, rfl, r2.int, e2', ixN_of ⟨p.2.2.1, by rw [List.length_map, hl]; exact p.2.2.2⟩, ?_⟩
    refine q1 _ σ S2 _ rfl ?_ fun x o z => t2.ss x o (t1.ss x o z)
    have := up n.v.toNat
    rw [← hE]
    show St0 _ _ _ _ _ _ (env.set i (.oo ((xss.set n.v.toNat m.v).map fun l => l.map rep))) _
    rw [List.map_set]
    rw [List.map_set] at this
    exact this
end
section
variable {X : Cx} {M : Mm} {env : List Sl} {lp : Bool} {α : Type} [Rep α] {tg iter : Expr}
/-- walks over what is drawn -/
theorem NI.tup {m : N (Tu α)} (h : NE X M iter env m) : NI X M lp tg iter env (N.map Tu.l m) := .mk fun p => RdI.of (pi_tup star_pe) fun S0 H0 σ S H st Rr q =>
  h.run p _ _ _ _ _ st _ fun d v S1 H1 ⟨x, hx, ed⟩ r t => by
    subst ed
    cases r with
    | tup e' r =>
      rename_i a vs
      refine ⟨a, rfl, ⟨vs, sub_sqt (st.step t).gd.sub e'.sqt⟩, q _ _ S1 H1 ⟨x.l, ⟨x, hx, rfl⟩, rfl⟩ t ⟨fun S' H' i d rc hd => ?_, fun S' H' i rc hd hd2 => ?_⟩⟩
      · obtain ⟨v, hv, rv⟩ := r.get hd
        have sq := sub_sqt rc.1.sub (sub_sqt rc.2.1 e'.sqt)
        refine ⟨⟨vs, v, sq, hv⟩, fun x H2 y => ?_⟩
        obtain ⟨rfl, y⟩ := y
        have e2 := y vs sq
        rw [hv] at e2
        cases e2
        exact ⟨S', Step.refl rc.1.sub, rv.mon rc.2.1⟩
      · exact ⟨vs, sub_sqt rc.1.sub (sub_sqt rc.2.1 e'.sqt), by rw [← r.length]; exact hd⟩
theorem NI.list {m : N (List α)} (h : NE X M iter env m) : NI X M lp tg iter env m := .mk fun p => RdI.of (pi_list star_pe) fun S0 H0 σ S H st Rr q =>
  h.run p _ _ _ _ _ st _ fun d v S1 H1 ⟨x, hx, ed⟩ r t => by
    subst ed
    cases r with
    | lst e' r =>
      rename_i a vs
      have hh : ∀ S' H', Rch X.K M lp S0 H0 S1 H1 S' H' → H' a = some (.lst vs) := fun S' H' rc => rc.1.sub _ _ (rc.2.1 _ _ e')
      have g1 := (st.step t).gd.sub _ _ e'
      refine ⟨a, rfl, ⟨vs, sql_of g1⟩, q _ _ S1 H1 ⟨x, hx, rfl⟩ t ⟨fun S' H' i d rc hd => ?_, fun S' H' i rc hd hd2 => ?_⟩⟩
      · obtain ⟨v, hv, rv⟩ := r.get hd
        have sq : SqL X.K H' a vs := sql_of (hh S' H' rc)
        refine ⟨⟨vs, v, sq, hv⟩, fun x H2 y => ?_⟩
        obtain ⟨rfl, y⟩ := y
        have e2 := y vs sq
        rw [hv] at e2
        cases e2
        exact ⟨S', Step.refl rc.1.sub, rv.mon rc.2.1⟩
      · exact ⟨vs, sql_of (hh S' H' rc), by rw [← r.length]; exact hd⟩
end
theorem oo_rep {α : Type} [Rep α] (v : List (List α)) : (v.map fun l => l.map rep).map PyData.list = v.map rep := by rw [List.map_map]; rfl
/-! what these come to -/
section
variable {α β : Type}
theorem Ok.wset2 {xss : List (List α)} {m : R α} {n1 n2 : R Int} {P : List (List α) → Prop} (h : Ok m fun x => Ok n1 fun i => Ok n2 fun j => ((0 ≤ i ∧ i < xss.length) ∧ 0 ≤ j ∧ j < (nth xss i).length) ∧ P (xss.set i.toNat ((nth xss i).set j.toNat x))) : Ok (R.setIx2 xss m n1 n2) P := ⟨⟨h.1, h.2.1, h.2.2.1, h.2.2.2.1.1, h.2.2.2.1.2⟩, h.2.2.2.2⟩
theorem Ok.wixO [Inhabited α] {xss : List (List α)} {n1 n2 : R Int} {P : α → Prop} (h : Ok n1 fun i => Ok n2 fun j => (ixOk xss.length i ∧ ixOk (nth xss i).length j) ∧ P (nth (nth xss i) j)) : Ok (R.ixO xss n1 n2) P := ⟨⟨h.1, h.2.1, h.2.2.1.1, h.2.2.1.2⟩, h.2.2.2⟩
theorem Ok.wrowO {xss : List (List α)} {n1 : R Int} {P : List α → Prop} (h : Ok n1 fun i => ixOk xss.length i ∧ P (nth xss i)) : Ok (R.rowO xss n1) P := ⟨⟨h.1, h.2.1⟩, h.2.2⟩
theorem Ok.wsetRow {xss : List (List α)} {m : R (List α)} {n : R Int} {P : List (List α) → Prop} (h : Ok m fun x => Ok n fun i => (0 ≤ i ∧ i < xss.length) ∧ P (xss.set i.toNat x)) : Ok (R.setRow xss m n) P := ⟨⟨h.1, h.2.1, h.2.2.1.1, h.2.2.1.2⟩, h.2.2.2⟩
theorem NOk.set2 {xss : List (List α)} {m : N α} {n1 n2 : N Int} {P : List (List α) → Prop} {A : α → Prop} {B C : Int → Prop} (h0 : NOk m A) (h1 : NOk n1 B) (h2 : NOk n2 C) (hi : ∀ i, B i → (0 ≤ i ∧ i < xss.length) ∧ ∀ j, C j → 0 ≤ j ∧ j < (nth xss i).length) (h : ∀ x i j, A x → B i → C j → P (xss.set i.toNat ((nth xss i).set j.toNat x))) : NOk (N.setIx2 xss m n1 n2) P :=
  ⟨⟨h0.1, h1.1, h2.1, fun i q => ⟨(hi i (h1.2 i q)).1, fun j w => (hi i (h1.2 i q)).2 j (h2.2 j w)⟩⟩, by rintro _ ⟨x, i, j, q, w, e, rfl⟩; exact h x i j (h0.2 x q) (h1.2 i w) (h2.2 j e)⟩
theorem NOk.lcR {m : N (List α)} {t : α → R Bool} {f : α → R β} {P : List β → Prop} (q : α → Bool) (F : α → β) (h : NOk m fun xs => xs.length ≤ 100000 ∧ (∀ x ∈ xs, Ok (t x) fun b => b = q x ∧ (q x = true → Ok (f x) (· = F x))) ∧ P ((xs.filter q).map F)) : NOk (N.lcR m t f) P := by
  have key : ∀ xs, m.S xs → Ok (R.lc (R.pure xs) t f) P := fun xs hx => Ok.wlc q F (Ok.pure (h.2 xs hx))
  refine ⟨⟨h.1, fun xs hx => (key xs hx).1.2⟩, ?_⟩
  rintro _ ⟨xs, hx, rfl⟩
  exact (key xs hx).2
theorem NOk.lcR1 {m : N (List α)} {f : α → R β} {P : List β → Prop} (F : α → β) (h : NOk m fun xs => xs.length ≤ 100000 ∧ (∀ x ∈ xs, Ok (f x) (· = F x)) ∧ P (xs.map F)) : NOk (N.lcR m (fun _ => R.pure true) f) P :=
  NOk.lcR (fun _ => true) F (h.imp fun xs h => ⟨h.1, fun x hx => Ok.pure ⟨rfl, fun _ => h.2.1 x hx⟩, by rw [filter_all]; exact h.2.2⟩)
end
end FP
namespace FP
open PySem PySem.Spec PyProof.Rows L2
open Rep (rep)
/-! ### a tuple, some times -/
theorem tuple_mul1W (l : Addr) (items : Array Value) (n : Nat) (dd : Option Addr) (sl : Array (Option Value)) (x : Int) (u : Tok) (c0 : (decide (x < -(2 ^ 63)) || decide (x ≥ 2 ^ 63)) = false) (c1 : (items.isEmpty || x == 1) = true) :
    Meets (Builtin.«tuple.__mul__» ⟨[.ref l, .int x u], []⟩) (fun _ R s => s.heap.get? l = some { cls := .type "tuple", dict := dd, data := .seq items n, slots := sl } ∧
      R (.ok (.ret (Value.ref l))) s) :=
  .of_wp fun prog w A R s h => by
    obtain ⟨hp, g, d, tk, os⟩ := s
    obtain ⟨hl, h⟩ := h
    have f1 := AutoSeq1.idx_int
    wp_walk using wpAny_loadPart' hl
    repeat (first
      | (refine wpAny_ite_false (decide_eq_false (by rw [c0]; exact Bool.false_ne_true)) ?_; wp_walk using wpAny_loadPart' hl)
      | (refine wpAny_ite_true (decide_eq_true c1) ?_; wp_walk using wpAny_loadPart' hl))
    exact ⟨_, rfl, h⟩

def rRepN (K : PySem.W.Frag) : R2 := fun x y H Q => ∃ l k xs, x = .ref l ∧ y = .int k ∧ SqT K H l xs ∧ xs ≠ [] ∧ 1 ≤ k ∧ k ≤ 1000 ∧ xs.length ≤ 1000 ∧ (k = 1 → Q (.ref l) H) ∧ (2 ≤ k → ∀ p o, H p = none → o.dict = none → Q (.ref p) (upd H p (.frz o (.tup (List.replicate k.toNat xs).flatten))))
theorem op_repTN {X : Cx} : OpR X (binaryOp .Mult) (rRepN X.K) := by
  intro pins s σ H x y v u Q I rx ry h
  obtain ⟨l, k, xs, rfl, rfl, hT, hne, h1, h2, hz, q1, q2⟩ := h
  cases rx
  obtain ⟨t, rfl⟩ := ry
  obtain ⟨its, r, ⟨⟨cls, dd, data, sl⟩, ho, hc, n, hd⟩, hs⟩ := I.tuple hT
  simp only at hc hd
  subst hc hd
  have hle : its.length = xs.length := r.length.symm
  have hn : its ≠ [] := fun e => hne (by
    rw [e] at hle
    exact List.eq_nil_of_length_eq_zero hle.symm)
  have hi : its.toArray.isEmpty = false := by
    cases its with
    | nil => exact absurd rfl hn
    | cons a b => rfl
  have hsz0 : its.toArray.size = xs.length := by rw [List.size_toArray, hle]
  have hm : ((its.toArray.size : Nat) : Int) * k ≤ 1000000 := by
    rw [hsz0]
    have a1 : ((xs.length : Nat) : Int) * k ≤ 1000 * k := Int.mul_le_mul_of_nonneg_right (by omega) (by omega)
    omega
  have flen : (List.replicate k.toNat its).flatten.length ≤ sizeLine := by
    rw [PyProof.Rows.lm_len_rep_flat, hle, sizeLine_eq]
    have a1 : k.toNat * xs.length ≤ 1000 * 1000 := Nat.mul_le_mul (by omega) hz
    omega
  have c0 : (decide (k < -(2 ^ 63)) || decide (k ≥ 2 ^ 63)) = false := by
    rw [decide_eq_false (by omega), decide_eq_false (by omega)] <;> rfl
  by_cases k1 : k = 1
  · have c1 : (its.toArray.isEmpty || k == 1) = true := by rw [k1, hi]; rfl
    refine wpAny_binaryOp_repeat_ref (T := "tuple") (U := "int") (by decide) ⟨_, ho, rfl⟩ (fun s' => typeIs_int s' k t) noFill_tuple_mul F.fills_int_mul F.slot_int_rmul repeat_tuple F.slot_int_index.lookup
      (call_meets F.slot_int_rmul (typeIs_int s k t) F.entry_int_rmul (F.args_int_rmul_2 _ _) (int_rmul_tuple k t l its.toArray n dd sl)
        ⟨ho, rfl, ⟨_, ho, rfl⟩, call_meets F.slot_tuple_mul ⟨_, ho, rfl⟩ F.entry_tuple_mul (F.args_tuple_mul_2 _ _) (tuple_mul1W l its.toArray n dd sl k t c0 c1) ⟨ho, ?_⟩⟩)
    exact ⟨.ref l, H, I, rfl, q1 k1⟩
  · have c1 : (its.toArray.isEmpty || k == 1) = false := by
      rw [hi, Bool.false_or]
      exact beq_eq_false_iff_ne.mpr (by omega)
    have c2 : (decide (k ≤ 0) || its.toArray.isEmpty) = false := by
      rw [hi, Bool.or_false]
      exact decide_eq_false (by omega)
    have c4 : Builtin.Tuple.tupleTooMany (((its.toArray.size : Nat) : Int) * k) = false := by
      unfold Builtin.Tuple.tupleTooMany
      rw [sizeLine_eq]
      exact decide_eq_false (by omega)
    refine wpAny_binaryOp_repeat_ref (T := "tuple") (U := "int") (by decide) ⟨_, ho, rfl⟩ (fun s' => typeIs_int s' k t) noFill_tuple_mul F.fills_int_mul F.slot_int_rmul repeat_tuple F.slot_int_index.lookup
      (call_meets F.slot_int_rmul (typeIs_int s k t) F.entry_int_rmul (F.args_int_rmul_2 _ _) (int_rmul_tuple k t l its.toArray n dd sl)
        ⟨ho, rfl, ⟨_, ho, rfl⟩, call_meets F.slot_tuple_mul ⟨_, ho, rfl⟩ F.entry_tuple_mul (F.args_tuple_mul_2 _ _) (tuple_mulW l its.toArray n dd sl k t c0 c1 c2 (by omega) c4 (by rw [size_rep, List.size_toArray]; exact flen)) ⟨ho, ?_⟩⟩)
    rw [size_rep]
    have hg : (s.heap.push ({ cls := .type "tuple", data := .seq (List.replicate k.toNat its).flatten.toArray } : Obj)).get? s.heap.objs.size = some { cls := .type "tuple", data := .seq (List.replicate k.toNat its).flatten.toArray } := Heap.get?_push_size _ rfl
    exact ⟨.ref s.heap.objs.size, _, I.laid (t' := s.toks) (o := .frz _ (.tup (List.replicate k.toNat xs).flatten)) (fun b ob q => Heap.get?_push_of_some _ q) (Nat.le_refl _) ⟨hg, by rw [PyProof.Rows.lm_len_rep_flat, sizeLine_eq]; have a1 : k.toNat * xs.length ≤ 1000 * 1000 := Nat.mul_le_mul (by omega) hz; omega, _, r.rep k.toNat, ⟨_, hg, rfl, _, rfl⟩⟩, rfl, q2 (by omega) _ _ (I.hok.fresh (Nat.le_refl _)) rfl⟩
section
variable {X : Cx} {M : Mm} {env : List Sl} {α β : Type} [Rep α] [Rep β] {pos : Pos} {lp : Bool} {tg a e : Expr}
theorem o_repT : Op2 X M .Mult (fun (xs : Tu α) (n : Int) => (xs.l ≠ [] ∧ xs.l.length ≤ 1000) ∧ 1 ≤ n ∧ n ≤ 1000) (fun xs n => Tu.mk (List.replicate n.toNat xs.l).flatten) := ⟨_, op_repTN, fun xs n h S H x y g bx bY Q q => by
  obtain ⟨p, vs, rfl, e1, r⟩ := bx.tup g
  have hl := r.length
  rw [List.length_map] at hl
  refine ⟨p, n, vs, rfl, bY.int, sub_sqt g.sub e1, fun z => h.1.1 ?_, h.2.1, h.2.2, by omega, fun k1 => ?_, fun k2 l o hn ho => ?_⟩
  · rw [z] at hl
    exact List.eq_nil_of_length_eq_zero hl
  · subst k1
    refine q _ _ S H rfl ?_ (Step.refl g.sub)
    have : (List.replicate (1 : Int).toNat xs.l).flatten = xs.l := by simp
    rw [this]
    rcases bx with b | ⟨_, _, _, e, _⟩
    · exact b
    · cases e
  · have t := Step.newS g (.frz o (.tup (List.replicate n.toNat vs).flatten)) hn
    refine q _ _ _ _ rfl ?_ t
    refine .tup (.new ho) ?_
    have := (r.rep n.toNat).mon t.ss
    rw [← List.map_replicate, ← List.map_flatten] at this
    exact this⟩
/-- a tuple of tuples, as it is -/
theorem b_tupT : Cb1 X M (.type "tuple") T1 (fun xs : Tu α => xs) := ⟨_, call_tupleT, fun xs _ S H vs g b Q q => by
  obtain ⟨v, rfl, c⟩ := one_of b
  obtain ⟨p, us, rfl, e1, r⟩ := c.tup g
  refine ⟨p, us, rfl, sub_sqt g.sub e1, q _ _ S H rfl ?_ (Step.refl g.sub)⟩
  rcases c with c | ⟨_, _, _, e, _⟩
  · exact c
  · cases e⟩
/-- a list, walked from its end -/
theorem RI.rev {m : R (List α)} {p0 : Pos} (hg : Gl X "reversed") (hm : X.mg "reversed" = none) (h : RP X M lp e env m) (hs : starEach [e] X.env = (false, eval e X.env) :: starEach [] X.env := by rfl) : RI X M lp tg (.Call (.Name "reversed" p0) [e] [] pos) env (R.map List.reverse m) := .mk fun p => RdI.of (RT.pi_revA hg hm star_pe hs) fun S0 H0 σ S H st Rr q =>
  h p _ _ _ _ _ st _ fun ds a S1 H1 ed t hp => by
    subst ed
    obtain ⟨vs0, e0, r0⟩ := hp S1 H1 ⟨(st.step t).gd, fun _ _ e => e, by
      cases lp with
      | true => exact st.stp.trans t
      | false => exact Step.refl (st.step t).gd.sub⟩
    have hl0 := r0.length
    rw [List.length_map] at hl0
    refine ⟨a, vs0, rfl, .inl ⟨sql_of e0, q _ _ S1 H1 rfl t ⟨fun S' H' i d rc hd => ?_, fun S' H' i rc hd hd2 => ?_⟩⟩⟩
    · obtain ⟨vs, e1, r⟩ := hp S' H' rc
      have hl := r.length
      rw [List.length_map] at hl
      have hi : i < m.v.length := by
        have := (List.getElem?_eq_some_iff.mp hd).1
        simpa using this
      have hd2 : (m.v.map rep)[vs0.length - 1 - i]? = some d := by
        have : (R.map List.reverse m).v.map rep = (m.v.map rep).reverse := by
          show m.v.reverse.map rep = _
          rw [List.map_reverse]
        rw [this, List.getElem?_reverse (by rw [List.length_map]; exact hi), List.length_map] at hd
        rw [← hl0]
        exact hd
      obtain ⟨v, hv, rv⟩ := r.get hd2
      refine ⟨⟨by omega, vs, v, sql_of e1, hv⟩, fun x H2 y => ?_⟩
      obtain ⟨rfl, y⟩ := y
      have e2 := y vs (sql_of e1)
      rw [hv] at e2
      cases e2
      exact ⟨S', Step.refl rc.1.sub, rv⟩
    · have : ((R.map List.reverse m).v.map rep).length = m.v.length := by
        show (m.v.reverse.map rep).length = _
        simp
      rw [this] at hd
      show vs0.length ≤ i
      omega
end
@[simp] def R.pop {α : Type} [Inhabited α] (xs : List α) : R (List α × α) := ⟨xs ≠ [], (xs.dropLast, xs.getLastD default)⟩
section
variable {X : Cx} {M : Mm} {env : List Sl} {α β : Type} [Rep α] [Rep β]
/-- a, b = xs.pop() -/
theorem SN.popT [Inhabited α] {tg : Expr} {pos apos cpos pn : Pos} {xs : List α} (i : Nat) {nm : Str} {ix : List Nat} {E : List α × α → List Sl} (hi : env[i]? = some (.ow (xs.map rep))) (hN : X.N[i]? = some nm) (hv : Vis X.env.scope nm) (hk : OkN nm)
    (hg : ∀ v : List α × α, RG X M tg ix (rep v.2) (env.set i (.ow (v.1.map rep))) (E v))
    (hbase : attributeBase (.Name nm pn) "pop" X.env (eval (.Name nm pn) X.env) = eval (.Name nm pn) X.env := by rfl) (hline : (apos.endLine == cpos.line) = true := by rfl)
    (hs : swapsWithSole [tg] (.Call (.Attribute (.Name nm pn) "pop" apos) [] [] cpos) pos.line X.env = pure false := by rfl) (hw : swappedStores [tg] (.Call (.Attribute (.Name nm pn) "pop" apos) [] [] cpos) X.env = pure none := by rfl)
    (h1 : (assignEach [tg] X.env).map (·.2) = [assign tg X.env] := by rfl) :
    SN X M (.Assign [tg] (.Call (.Attribute (.Name nm pn) "pop" apos) [] [] cpos) pos) env E (R.pop xs) := .mk fun p =>
  RdS.ofS (ps_asg (pe_bm0 PySem.F.plainAttrs_list PySem.F.slot_list_pop PySem.F.type_list_pop mt_pop (pe_var hN hv hk.d hk.c) hbase hline) star_pg hs hw h1) fun S0 H0 σ S H st Dl q1 _ _ _ => by
    obtain ⟨a, vs, e1, e2, r, nM, nS, up⟩ := st.mut hi
    have hl := r.length
    rw [List.length_map] at hl
    have p : xs ≠ [] := p
    have hne : xs.length ≠ 0 := fun z => p (List.eq_nil_of_length_eq_zero z)
    have hlast : xs[xs.length - 1]? = some (xs.getLastD default) := by
      rw [List.getLastD_eq_getLast?, List.getLast?_eq_getElem?]
      rw [List.getElem?_eq_getElem (by omega)]
      rfl
    obtain ⟨v, hv, rv⟩ := r.get (i := vs.length - 1) (d := rep (xs.getLastD default)) (by rw [List.getElem?_map, ← hl, hlast]; rfl)
    refine ⟨.ref a, e1, .inl ⟨rfl, vs, sql_of e2⟩, ?_⟩
    refine ⟨a, vs, v, rfl, rfl, e2, hv, ?_⟩
    have st2 := up vs.dropLast (xs.dropLast.map rep) (by rw [List.map_dropLast]; exact r.dropLast)
    refine (hg (xs.dropLast, xs.getLastD default)).run S0 H0 σ S _ v st2 rv _ fun e σ' S2 H2 ee st3 t2 _ _ => ?_
    exact q1 e σ' S2 H2 ee st3 t2.ss
end
section
variable {X : Cx} {M : Mm} {α : Type} [Rep α]
theorem t_tup : Tr1 X M T1 (fun xs : Tu α => !xs.l.isEmpty) := ⟨fun xs _ S H v g b => by
  obtain ⟨a, us, rfl, e1, r⟩ := b.tup g
  refine .inr (.inl ⟨us, sub_sqt g.sub e1, ?_⟩)
  have hl := r.length
  rw [List.length_map] at hl
  cases h : xs.l <;> cases us <;> simp [h] at hl <;> rfl⟩
end
theorem Ok.wpop {α : Type} [Inhabited α] {xs : List α} {P : List α × α → Prop} (h0 : xs ≠ []) (h : P (xs.dropLast, xs.getLastD default)) : Ok (R.pop xs) P := ⟨h0, h⟩
end FP
namespace FP
open PySem PySem.Spec PyProof.Rows L2
open Rep (rep)
def topS (i : Nat) : Stmt := PySem.Challenge.pw_fairparts_k78_whole_rounded_tables.main.body.getD i (.Pass ⟨0, 0, 0, 0⟩)
theorem k__law_draw : OkN "_law_draw" := ⟨by decide +kernel, by decide +kernel, by decide +kernel⟩
theorem k__law_exact : OkN "_law_exact" := ⟨by decide +kernel, by decide +kernel, by decide +kernel⟩
theorem k__law_refill : OkN "_law_refill" := ⟨by decide +kernel, by decide +kernel, by decide +kernel⟩
theorem k__law_rounds : OkN "_law_rounds" := ⟨by decide +kernel, by decide +kernel, by decide +kernel⟩
theorem k_a : OkN "a" := ⟨by decide +kernel, by decide +kernel, by decide +kernel⟩
theorem k_above : OkN "above" := ⟨by decide +kernel, by decide +kernel, by decide +kernel⟩
theorem k_after : OkN "after" := ⟨by decide +kernel, by decide +kernel, by decide +kernel⟩
theorem k_alike : OkN "alike" := ⟨by decide +kernel, by decide +kernel, by decide +kernel⟩
theorem k_at : OkN "at" := ⟨by decide +kernel, by decide +kernel, by decide +kernel⟩
theorem k_b : OkN "b" := ⟨by decide +kernel, by decide +kernel, by decide +kernel⟩
theorem k_base : OkN "base" := ⟨by decide +kernel, by decide +kernel, by decide +kernel⟩
theorem k_bent : OkN "bent" := ⟨by decide +kernel, by decide +kernel, by decide +kernel⟩
theorem k_cell : OkN "cell" := ⟨by decide +kernel, by decide +kernel, by decide +kernel⟩
theorem k_choices_of : OkN "choices_of" := ⟨by decide +kernel, by decide +kernel, by decide +kernel⟩
theorem k_chosen : OkN "chosen" := ⟨by decide +kernel, by decide +kernel, by decide +kernel⟩
theorem k_columns : OkN "columns" := ⟨by decide +kernel, by decide +kernel, by decide +kernel⟩
theorem k_digit : OkN "digit" := ⟨by decide +kernel, by decide +kernel, by decide +kernel⟩
theorem k_every : OkN "every" := ⟨by decide +kernel, by decide +kernel, by decide +kernel⟩
theorem k_first : OkN "first" := ⟨by decide +kernel, by decide +kernel, by decide +kernel⟩
theorem k_good : OkN "good" := ⟨by decide +kernel, by decide +kernel, by decide +kernel⟩
theorem k_high : OkN "high" := ⟨by decide +kernel, by decide +kernel, by decide +kernel⟩
theorem k_i : OkN "i" := ⟨by decide +kernel, by decide +kernel, by decide +kernel⟩
theorem k_is_rounded : OkN "is_rounded" := ⟨by decide +kernel, by decide +kernel, by decide +kernel⟩
theorem k_j : OkN "j" := ⟨by decide +kernel, by decide +kernel, by decide +kernel⟩
theorem k_k : OkN "k" := ⟨by decide +kernel, by decide +kernel, by decide +kernel⟩
theorem k_least : OkN "least" := ⟨by decide +kernel, by decide +kernel, by decide +kernel⟩
theorem k_least_choice : OkN "least_choice" := ⟨by decide +kernel, by decide +kernel, by decide +kernel⟩
theorem k_left : OkN "left" := ⟨by decide +kernel, by decide +kernel, by decide +kernel⟩
theorem k_line : OkN "line" := ⟨by decide +kernel, by decide +kernel, by decide +kernel⟩
theorem k_low : OkN "low" := ⟨by decide +kernel, by decide +kernel, by decide +kernel⟩
theorem k_many : OkN "many" := ⟨by decide +kernel, by decide +kernel, by decide +kernel⟩
theorem k_more : OkN "more" := ⟨by decide +kernel, by decide +kernel, by decide +kernel⟩
theorem k_most : OkN "most" := ⟨by decide +kernel, by decide +kernel, by decide +kernel⟩
theorem k_one : OkN "one" := ⟨by decide +kernel, by decide +kernel, by decide +kernel⟩
theorem k_open_to : OkN "open_to" := ⟨by decide +kernel, by decide +kernel, by decide +kernel⟩
theorem k_other : OkN "other" := ⟨by decide +kernel, by decide +kernel, by decide +kernel⟩
theorem k_pairs : OkN "pairs" := ⟨by decide +kernel, by decide +kernel, by decide +kernel⟩
theorem k_pick : OkN "pick" := ⟨by decide +kernel, by decide +kernel, by decide +kernel⟩
theorem k_place : OkN "place" := ⟨by decide +kernel, by decide +kernel, by decide +kernel⟩
theorem k_right : OkN "right" := ⟨by decide +kernel, by decide +kernel, by decide +kernel⟩
theorem k_rounded_table : OkN "rounded_table" := ⟨by decide +kernel, by decide +kernel, by decide +kernel⟩
theorem k_row : OkN "row" := ⟨by decide +kernel, by decide +kernel, by decide +kernel⟩
theorem k_rows : OkN "rows" := ⟨by decide +kernel, by decide +kernel, by decide +kernel⟩
theorem k_script : OkN "script" := ⟨by decide +kernel, by decide +kernel, by decide +kernel⟩
theorem k_second : OkN "second" := ⟨by decide +kernel, by decide +kernel, by decide +kernel⟩
theorem k_size : OkN "size" := ⟨by decide +kernel, by decide +kernel, by decide +kernel⟩
theorem k_state : OkN "state" := ⟨by decide +kernel, by decide +kernel, by decide +kernel⟩
theorem k_sums : OkN "sums" := ⟨by decide +kernel, by decide +kernel, by decide +kernel⟩
theorem k_table : OkN "table" := ⟨by decide +kernel, by decide +kernel, by decide +kernel⟩
theorem k_tables : OkN "tables" := ⟨by decide +kernel, by decide +kernel, by decide +kernel⟩
theorem k_told : OkN "told" := ⟨by decide +kernel, by decide +kernel, by decide +kernel⟩
theorem k_up : OkN "up" := ⟨by decide +kernel, by decide +kernel, by decide +kernel⟩
theorem k_wait : OkN "wait" := ⟨by decide +kernel, by decide +kernel, by decide +kernel⟩
theorem k_width : OkN "width" := ⟨by decide +kernel, by decide +kernel, by decide +kernel⟩
/-! ## _law_exact -/
abbrev s__law_exact : Stmt := topS 8
abbrev n__law_exact : List Str := ["first", "second", "alike", "k"]
theorem sc__law_exact : FnScope n__law_exact ["first", "second"] (defScope s__law_exact) := ⟨rfl, rfl, rfl, by decide +kernel, rfl, by decide +kernel, by decide +kernel⟩
theorem nd__law_exact : (n__law_exact).Nodup := sc__law_exact.nd
theorem lf__law_exact_first : L2.Loc (defScope s__law_exact) "first" := locB rfl
theorem vf__law_exact_first : L2.Vis (defScope s__law_exact) "first" := visB rfl
theorem lf__law_exact_second : L2.Loc (defScope s__law_exact) "second" := locB rfl
theorem vf__law_exact_second : L2.Vis (defScope s__law_exact) "second" := visB rfl
theorem lf__law_exact_alike : L2.Loc (defScope s__law_exact) "alike" := locB rfl
theorem vf__law_exact_alike : L2.Vis (defScope s__law_exact) "alike" := visB rfl
def m__law_exact (rec : D → D → R Bool) (v_first v_second : D) : R Bool :=
  (R.ite (R.o1 T1 (fun i : Bool => i) (R.o1 T1 isSq (R.pure v_first))) (R.ite (R.or (R.o2 T2 (fun i j : Bool => !decide (i = j)) (R.o1 T1 (fun d => FP.isi1 d "list") (R.pure v_first)) (R.o1 T1 (fun d => FP.isi1 d "list") (R.pure v_second))) (R.o2 T2 (fun i j : Bool => !decide (i = j)) (R.o1 T1 (fun d => FP.isi1 d "tuple") (R.pure v_first)) (R.o1 T1 (fun d => FP.isi1 d "tuple") (R.pure v_second)))) (R.pure false)
  (R.and (R.o2 T2 (fun i j : Int => decide (i = j)) (R.o1 (fun d : D => isSq d = true) (fun d : D => ((itemsD d).length : Int)) (R.pure v_first)) (R.o1 (fun d : D => isSq d = true) (fun d : D => ((itemsD d).length : Int)) (R.pure v_second))) (R.o1 T1 (fun xs : List Bool => xs.all id) (R.lc (α := Int) (R.rng1 (R.o1 (fun d : D => isSq d = true) (fun d : D => ((itemsD d).length : Int)) (R.pure v_first))) (fun _ => R.pure true) (fun y1 => (R.c2 rec (R.o2 (fun (d : D) (i : Int) => isSq d = true ∧ 0 ≤ i ∧ i < (itemsD d).length) (fun d i => nth (itemsD d) i) (R.pure v_first) (R.pure y1)) (R.o2 (fun (d : D) (i : Int) => isSq d = true ∧ 0 ≤ i ∧ i < (itemsD d).length) (fun d i => nth (itemsD d) i) (R.pure v_second) (R.pure y1))))))))
  (R.ite (R.or (R.o2 T2 (fun (x : D) (_ : Option Unit) => isNn x) (R.pure v_first) (R.pure (none : Option Unit))) (R.o2 T2 (fun (x : D) (_ : Option Unit) => isNn x) (R.pure v_second) (R.pure (none : Option Unit)))) (R.and (R.o2 T2 (fun (x : D) (_ : Option Unit) => isNn x) (R.pure v_first) (R.pure (none : Option Unit))) (R.o2 T2 (fun (x : D) (_ : Option Unit) => isNn x) (R.pure v_second) (R.pure (none : Option Unit))))
  (R.bind (R.and (R.o2 T2 (fun i j : Bool => decide (i = j)) (R.o1 T1 (fun d => FP.isi1 d "str") (R.pure v_first)) (R.o1 T1 (fun d => FP.isi1 d "str") (R.pure v_second))) (R.o2 T2 (fun i j : Bool => decide (i = j)) (R.o1 T1 (fun d => FP.isi1 d "bool") (R.pure v_first)) (R.o1 T1 (fun d => FP.isi1 d "bool") (R.pure v_second)))) fun w2 =>
  (R.and (R.pure w2) (R.and (R.o2 T2 (fun i j : Bool => decide (i = j)) (R.o1 T1 (fun d => FP.isi1 d "int") (R.pure v_first)) (R.o1 T1 (fun d => FP.isi1 d "int") (R.pure v_second))) (R.o2 (fun x y : D => SeqAt.shaped x = true ∧ SeqAt.shaped y = true) (fun x y : D => PyData.eqv x y) (R.pure v_first) (R.pure v_second)))))))
theorem xok__law_exact (k : Nat) (x y : D) (h : (exF (k + 1) x y).p) : (m__law_exact (exF k) x y).p ∧ (m__law_exact (exF k) x y).v = (exF (k + 1) x y).v := by
  obtain ⟨hd, hx, hy, hs⟩ := h
  have key : ∀ xs ys : List PyData, xs.length = ys.length → PyData.depthAll xs + 1 < k + 1 → PyData.canLayAll0 xs = true → PyData.canLayAll0 ys = true → PyData.depthAll xs + 1 ≤ 64 → PyData.depthAll ys + 1 ≤ 64 → xs.length ≤ 100000 → smAll xs = true → ∀ i : Nat, i < xs.length → (nth xs (i : Int)).depth < k ∧ SeqAt.shaped (nth xs (i : Int)) = true ∧ SeqAt.shaped (nth ys (i : Int)) = true ∧ smD (nth xs (i : Int)) = true := by
    intro xs ys hl h1 h2 h3 h4 h5 h6 h7 i hi
    rw [nthD _ _ hi, nthD _ _ (by omega)]
    have m1 : xs[i] ∈ xs := List.getElem_mem _
    have m2 : ys[i]'(by omega) ∈ ys := List.getElem_mem _
    have d1 := (depAll_iff xs _).mp (Nat.le_refl _) _ m1
    have d2 := (depAll_iff ys _).mp (Nat.le_refl _) _ m2
    refine ⟨by omega, ?_, ?_, (smAll_iff _).mp h7 _ m1⟩
    · unfold SeqAt.shaped
      rw [(canAll_iff _).mp h2 _ m1]; simp; omega
    · unfold SeqAt.shaped
      rw [(canAll_iff _).mp h3 _ m2]; simp; omega
  unfold SeqAt.shaped at hx hy
  cases x <;> cases y
  all_goals first
    | (simp [PyData.canLay0] at hx; done)
    | (simp [PyData.canLay0] at hy; done)
    | (simp [m__law_exact, exF, exB, isSq, isi1, isNn, PyData.eqv, SeqAt.shaped, PyData.canLay0, PyData.depth]; done)
    | skip
  case bool.bool a b => cases a <;> cases b <;> simp [m__law_exact, exF, exB, isSq, isi1, isNn, PyData.eqv, SeqAt.shaped, PyData.canLay0, PyData.depth]
  case int.int a b =>
    refine ⟨by simp [m__law_exact, isSq, isi1, isNn, SeqAt.shaped, PyData.canLay0, PyData.depth], ?_⟩
    rw [Bool.eq_iff_iff]
    simp [m__law_exact, exF, exB, isSq, isi1, isNn, PyData.eqv]
  case str.str a b =>
    have hx2 := Bool.and_eq_true_iff.mp hx
    have hy2 := Bool.and_eq_true_iff.mp hy
    refine ⟨by simp only [m__law_exact]; simp [isSq, isi1, isNn, SeqAt.shaped]; exact ⟨⟨hx2.1, of_decide_eq_true hx2.2⟩, hy2.1, of_decide_eq_true hy2.2⟩, ?_⟩
    rw [Bool.eq_iff_iff]
    simp [m__law_exact, exF, exB, isSq, isi1, isNn, PyData.eqv]
  case' list.list xs ys => let mk := PyData.list
  case' tuple.tuple xs ys => let mk := PyData.tuple
  all_goals
    have hx' : PyData.canLayAll0 xs = true ∧ PyData.depthAll xs + 1 ≤ 64 := by simpa [PyData.canLay0, PyData.depth] using hx
    have hy' : PyData.canLayAll0 ys = true ∧ PyData.depthAll ys + 1 ≤ 64 := by simpa [PyData.canLay0, PyData.depth] using hy
    have hs' : xs.length ≤ 100000 ∧ smAll xs = true := by simpa [smD] using hs
    have hd' : PyData.depthAll xs + 1 < k + 1 := by simpa [PyData.depth] using hd
    by_cases hl : xs.length = ys.length
    · have kk := key xs ys hl hd' hx'.1 hy'.1 hx'.2 hy'.2 hs'.1 hs'.2
      have ha := all_exB xs ys hl
      constructor
      · simp [m__law_exact, isSq, isi1, isNn, itemsD, hl]
        rw [← hl]
        refine ⟨by omega, by simp [rng]; omega, ?_⟩
        intro i hi
        obtain ⟨j, hj, rfl⟩ := List.mem_map.mp hi
        have hj : j < xs.length := by simpa using hj
        have := kk j hj
        simp only [Int.zero_add]
        exact ⟨⟨by omega, by omega⟩, this⟩
      · have hf : (rng 0 (xs.length : Int)).filter (fun _ => true) = rng 0 (xs.length : Int) := by simp
        simp [m__law_exact, exF, isSq, isi1, isNn, itemsD, ← hl] at ha ⊢
        rw [ha]
        simp [exB]
    · have hl' : ¬ ((xs.length : Int) = ys.length) := by omega
      have hne : xs ≠ ys := fun z => hl (by rw [z])
      constructor
      · simp [m__law_exact, isSq, isi1, isNn, itemsD, hl']
      · simp [m__law_exact, exF, exB, isSq, isi1, isNn, itemsD, hl', hne]
theorem w1__law_exact {P : Program} {w : World} {K : PySem.W.Frag} {mg : Str → Option Value} {base : Heap} {T : Addr → Prop} (z_all : mg "all" = none) (z_bool : mg "bool" = none) (z_int : mg "int" = none) (z_isinstance : mg "isinstance" = none) (z_len : mg "len" = none) (z_list : mg "list" = none) (z_range : mg "range" = none) (z_str : mg "str" = none) (z_tuple : mg "tuple" = none)
    {f : Addr} {fd : FuncData} (F : FunD K "_law_exact" "_law_exact" (defArgs s__law_exact) (defBody s__law_exact) (defScope s__law_exact) [] [] f fd) (hm : mg "_law_exact" = some (.ref f)) (hb : Binds K fd ["first", "second"] []) (k : Nat) (c_rec : Fn P w K mg base k "_law_exact" (SpD K T [true, true] (G2 (exF k)))) : Fn P w K mg base (k + 1) "_law_exact" (SpD K T [true, true] (G2 (exF (k + 1)))) :=
  Fn.of F sc__law_exact hm hb rfl fun ds P0 ⟨v_first, v_second, hds, hp, hP⟩ => ⟨[I v_first, I v_second], by rw [hds]; exact (.im (.im .nil)), fun cd A outer s H E hcd hr => by
  have pown : PassesOwn (model P w) (cxF P w K mg base n__law_exact "_law_exact" (defScope s__law_exact) f cd A outer s H E).A (cxF P w K mg base n__law_exact "_law_exact" (defScope s__law_exact) f cd A outer s H E).env (fun _ _ => False) := PassesOwn.never
  have h : BR (cxF P w K mg base n__law_exact "_law_exact" (defScope s__law_exact) f cd A outer s H E) (noM T) (defBody s__law_exact) [I v_first, I v_second, U, U] (m__law_exact (exF k) v_first v_second) :=
   (BR.cut (RT.tru t_bool (RE.bor (RE.isi2 rfl z_isinstance rfl z_list rfl z_tuple (RE.var 0 rfl rfl vf__law_exact_first k_first))) (fun _ => rfl)) (BR.cut (RW.t (RW.or (RT.cmp c_neB (RE.bor (RE.isi1 (n := "list") (by decide) rfl z_isinstance rfl z_list bb_list kb_list (RE.var 0 rfl rfl vf__law_exact_first k_first))) (RE.bor (RE.isi1 (n := "list") (by decide) rfl z_isinstance rfl z_list bb_list kb_list (RE.var 1 rfl rfl vf__law_exact_second k_second))) (nm_ne _)) (RT.or1 (RT.cmp c_neB (RE.bor (RE.isi1 (n := "tuple") (by decide) rfl z_isinstance rfl z_tuple bb_tuple kb_tuple (RE.var 0 rfl rfl vf__law_exact_first k_first))) (RE.bor (RE.isi1 (n := "tuple") (by decide) rfl z_isinstance rfl z_tuple bb_tuple kb_tuple (RE.var 1 rfl rfl vf__law_exact_second k_second))) (nm_ne _))))) (BR.ret RE.bl)
  (BR.ret (RE.and (RE.bor (RE.cmp c_eqI (RE.bor (RE.b1 b_lenD rfl z_len boot_len (RE.bor (RE.var 0 rfl rfl vf__law_exact_first k_first)) rfl kb_len)) (RE.bor (RE.b1 b_lenD rfl z_len boot_len (RE.bor (RE.var 1 rfl rfl vf__law_exact_second k_second)) rfl kb_len)) (nm_eq _))) (RE.one (RE.b1 (b_all rfl) rfl z_all bb_all (RE.bor (RF.re (RF.lc (own := [("k", 3)]) (ix := [3]) (tE := (fun y1 : Int => [I v_first, I v_second, U, I y1])) rfl nd__law_exact (blkOk_by rfl) (by decide) (by decide) (RI.range1 rfl z_range (RE.bor (RE.b1 b_lenD rfl z_len boot_len (RE.bor (RE.var 0 rfl rfl vf__law_exact_first k_first)) rfl kb_len))) (fun y1 _ _ _ _ _ => (RG.name 3 nd__law_exact rfl (locB rfl) (by first | exact .inr rfl | exact .inl rfl) rfl)) (fun _ => .inl ⟨rfl, rfl⟩) (fun y1 _ _ _ _ _ => (RE.call2 c_rec hr (Nat.le_refl _) rfl (RA.im (RE.ix x_D (RE.bor (RE.var 0 rfl rfl (visB rfl) k_first)) (RE.bor (RE.var 3 rfl rfl (visB rfl) k_k)) (fun _ _ => rfl)) (RA.im (RE.ix x_D (RE.bor (RE.var 1 rfl rfl (visB rfl) k_second)) (RE.bor (RE.var 3 rfl rfl (visB rfl) k_k)) (fun _ _ => rfl)) RA.nil)) k__law_exact)) (fun _ => rfl)))) rfl kb_all)))))
  (BR.cut (RW.t (RW.or (RT.cmp c_isND (RE.bor (RE.var 0 rfl rfl vf__law_exact_first k_first)) (RE.bor RE.non) (nm_is _)) (RT.or1 (RT.cmp c_isND (RE.bor (RE.var 1 rfl rfl vf__law_exact_second k_second)) (RE.bor RE.non) (nm_is _))))) (BR.ret (RE.and (RE.bor (RE.cmp c_isND (RE.bor (RE.var 0 rfl rfl vf__law_exact_first k_first)) (RE.bor RE.non) (nm_is _))) (RE.one (RE.cmp c_isND (RE.bor (RE.var 1 rfl rfl vf__law_exact_second k_second)) (RE.bor RE.non) (nm_is _)))))
  (BR.cons (SN.set (E := fun w2 : Bool => [I v_first, I v_second, I w2, U]) 2 nd__law_exact rfl lf__law_exact_alike (.inl rfl) (RE.and (RE.bor (RE.cmp c_eqB (RE.bor (RE.isi1 (n := "str") (by decide) rfl z_isinstance rfl z_str bb_str kb_str (RE.var 0 rfl rfl vf__law_exact_first k_first))) (RE.bor (RE.isi1 (n := "str") (by decide) rfl z_isinstance rfl z_str bb_str kb_str (RE.var 1 rfl rfl vf__law_exact_second k_second))) (nm_eq _))) (RE.one (RE.cmp c_eqB (RE.bor (RE.isi1 (n := "bool") (by decide) rfl z_isinstance rfl z_bool bb_bool kb_bool (RE.var 0 rfl rfl vf__law_exact_first k_first))) (RE.bor (RE.isi1 (n := "bool") (by decide) rfl z_isinstance rfl z_bool bb_bool kb_bool (RE.var 1 rfl rfl vf__law_exact_second k_second))) (nm_eq _)))) (fun _ => rfl)) fun w2 =>
  (BR.ret (RE.and (RE.bor (RE.var 2 rfl rfl vf__law_exact_alike k_alike)) (RE.and (RE.bor (RE.cmp c_eqB (RE.bor (RE.isi1 (n := "int") (by decide) rfl z_isinstance rfl z_int bb_int kb_int (RE.var 0 rfl rfl vf__law_exact_first k_first))) (RE.bor (RE.isi1 (n := "int") (by decide) rfl z_isinstance rfl z_int bb_int kb_int (RE.var 1 rfl rfl vf__law_exact_second k_second))) (nm_eq _))) (RE.one (RE.cmp (c_eqD hr) (RE.bor (RE.var 0 rfl rfl vf__law_exact_first k_first)) (RE.bor (RE.var 1 rfl rfl vf__law_exact_second k_second)) (nm_eq _)))))))))
  obtain ⟨q1, q2⟩ := xok__law_exact k v_first v_second hp
  exact RdS.imp (h q1) (fun _ z => z) (fun d e => by rw [e, q2]; exact hP) (fun _ z => z) (fun _ z => z)⟩
theorem w__law_exact {P : Program} {w : World} {K : PySem.W.Frag} {mg : Str → Option Value} {base : Heap} {T : Addr → Prop} (z_all : mg "all" = none) (z_bool : mg "bool" = none) (z_int : mg "int" = none) (z_isinstance : mg "isinstance" = none) (z_len : mg "len" = none) (z_list : mg "list" = none) (z_range : mg "range" = none) (z_str : mg "str" = none) (z_tuple : mg "tuple" = none)
    {f : Addr} {fd : FuncData} (F : FunD K "_law_exact" "_law_exact" (defArgs s__law_exact) (defBody s__law_exact) (defScope s__law_exact) [] [] f fd) (hm : mg "_law_exact" = some (.ref f)) (hb : Binds K fd ["first", "second"] []) : ∀ k : Nat, Fn P w K mg base k "_law_exact" (SpD K T [true, true] (G2 (exF k)))
  | 0 => Fn.bot hm F.kp hb
  | k + 1 => w1__law_exact z_all z_bool z_int z_isinstance z_len z_list z_range z_str z_tuple F hm hb k (w__law_exact z_all z_bool z_int z_isinstance z_len z_list z_range z_str z_tuple F hm hb k)
/-! ## _law_refill -/
abbrev s__law_refill : Stmt := topS 6
abbrev n__law_refill : List Str := ["script", "k", "cell"]
theorem sc__law_refill : FnScope n__law_refill ["script", "k"] (defScope s__law_refill) := ⟨rfl, rfl, rfl, by decide +kernel, rfl, by decide +kernel, by decide +kernel⟩
theorem nd__law_refill : (n__law_refill).Nodup := sc__law_refill.nd
theorem lf__law_refill_script : L2.Loc (defScope s__law_refill) "script" := locB rfl
theorem vf__law_refill_script : L2.Vis (defScope s__law_refill) "script" := visB rfl
theorem lf__law_refill_k : L2.Loc (defScope s__law_refill) "k" := locB rfl
theorem vf__law_refill_k : L2.Vis (defScope s__law_refill) "k" := visB rfl
theorem lf__law_refill_cell : L2.Loc (defScope s__law_refill) "cell" := locB rfl
theorem vf__law_refill_cell : L2.Vis (defScope s__law_refill) "cell" := visB rfl
def wp__law_refill (is0 : List Int) (v_k : Int) : (Unit → Prop) → (Int → Prop) → Prop :=
  (W.seq (W.of (N.of (R.pure (0 : Int)))) fun w1 =>
  (W.seq (W.ite (N.of (R.pure (!is0.isEmpty))) (W.seq (W.of (⟨((N.of (R.o2 (fun _ j => 0 < j) (fun i j : Int => i % j) (R.pure v_k) (R.pure (is0.length : Int))))).p ∧ ∀ k, ((N.of (R.o2 (fun _ j => 0 < j) (fun i j : Int => i % j) (R.pure v_k) (R.pure (is0.length : Int))))).S k → 0 ≤ k ∧ k < is0.length, fun _ => True⟩ : N Int)) fun w4 =>
  (W.nil (w4 : Int))) (W.nil (w1 : Int))) fun w3 =>
  (W.seq (W.of (N.of (R.ite (R.o2 T2 (fun i j : Int => decide (i < j)) (R.pure w3) (R.pure (0 : Int))) (R.bind (R.o2 T2 (fun i j : Int => i - j) (R.pure (1 : Int)) (R.o2 CMul (fun i j : Int => i * j) (R.pure (2 : Int)) (R.pure w3))) fun w7 =>
  (R.pure (w7 : Int))) (R.pure (w3 : Int))))) fun w6 =>
  (W.seq (W.ite (N.of (R.and (R.o2 T2 (fun i j : Int => decide (j ≤ i)) (R.pure w6) (R.o2 CPow (fun i j : Int => i ^ j.toNat) (R.pure (10 : Int)) (R.pure (18 : Int)))) (R.o2 T2 (fun i j : Int => decide (i < j)) (R.pure v_k) (R.pure (is0.length : Int))))) (W.ret (N.of (R.pure w6))) (W.nil (() : Unit))) fun w8 =>
  (W.ret (N.of (R.o2 (fun _ j => 0 < j) (fun i j : Int => i % j) (R.o1 T1 (fun i : Int => i) (R.o2 T2 (fun i j : Int => i + j) (R.o2 CMul (fun i j : Int => i * j) (R.o1 T1 (fun i : Int => i) (R.o2 T2 (fun i j : Int => i + j) (R.o2 T2 (fun i j : Int => i + j) (R.o2 CMul (fun i j : Int => i * j) (R.pure w6) (R.pure (48271 : Int))) (R.o2 CMul (fun i j : Int => i * j) (R.pure v_k) (R.pure (69621 : Int)))) (R.pure (12345 : Int)))) (R.pure (40692 : Int))) (R.pure (7 : Int)))) (R.pure (2147483399 : Int)))))))))
theorem wok__law_refill (is0 : List Int) (v_k : Int) : wp__law_refill is0 v_k (fun _ => False) (fun _ => True) := by
  cases is0 with
  | nil => simp [wp__law_refill, CMul, CPow]
  | cons x l =>
    have hp : (0 : Int) < (l.length : Int) + 1 := by omega
    have := Int.emod_nonneg v_k (Int.ne_of_gt hp)
    have := Int.emod_lt_of_pos v_k hp
    simp [wp__law_refill, CMul, CPow]
    exact ⟨by assumption, by assumption⟩
theorem w__law_refill {P : Program} {w : World} {K : PySem.W.Frag} {mg : Str → Option Value} {base : Heap} {T : Addr → Prop} (z_int : mg "int" = none) (z_len : mg "len" = none)
    {f : Addr} {fd : FuncData} (F : FunD K "_law_refill" "_law_refill" (defArgs s__law_refill) (defBody s__law_refill) (defScope s__law_refill) [] [] f fd) (hm : mg "_law_refill" = some (.ref f)) (hb : Binds K fd ["script", "k"] []) : Fn P w K mg base 1 "_law_refill" (SpR K T) :=
  Fn.ofR F sc__law_refill hm hb rfl fun cd A outer s H E M is0 v_k hr => by
  have pown : PassesOwn (model P w) (cxF P w K mg base n__law_refill "_law_refill" (defScope s__law_refill) f cd A outer s H E).A (cxF P w K mg base n__law_refill "_law_refill" (defScope s__law_refill) f cd A outer s H E).env (fun _ _ => False) := PassesOwn.never
  have h : WB (cxF P w K mg base n__law_refill "_law_refill" (defScope s__law_refill) f cd A outer s H E) M (β := Int) (defBody s__law_refill) [Sl.sc is0, I v_k, U] (fun _ : Unit => []) (wp__law_refill is0 v_k) :=
   (WB.cons (WS.of (NS.of (SN.set (E := fun w1 : Int => [Sl.sc is0, I v_k, I w1]) 2 nd__law_refill rfl lf__law_refill_cell (.inl rfl) RE.int (fun _ => rfl)))) fun w1 =>
  (WB.cons (WS.ite (E := fun w3 : Int => [Sl.sc is0, I v_k, I w3]) (NT.of (RT.truSc 0 rfl rfl vf__law_refill_script k_script (fun _ => rfl))) (WB.cons (WS.of (NS.set (E := fun w4 : Int => [Sl.sc is0, I v_k, I w4]) 2 nd__law_refill rfl lf__law_refill_cell (.inl rfl) (NE.ixSc 0 rfl rfl vf__law_refill_script k_script (NE.nb (NE.of (RE.bin o_mod (RE.bor (RE.var 1 rfl rfl vf__law_refill_k k_k)) (RE.bor (RE.lenSc 0 rfl rfl vf__law_refill_script k_script rfl z_len))))) (fun _ _ => rfl)) (fun _ => rfl))) fun w4 =>
  (WB.nil w4 (.r (.r (.r .n))))) (WB.nil w1 (.r (.r (.r .n))))) fun w3 =>
  (WB.cons (WS.of (NS.of (SN.ite (E := fun w6 : Int => [Sl.sc is0, I v_k, I w6]) (RT.cmp c_lt (RE.bor (RE.var 2 rfl rfl vf__law_refill_cell k_cell)) (RE.bor RE.int) (nm_lt _)) (BN.cons (SN.set (E := fun w7 : Int => [Sl.sc is0, I v_k, I w7]) 2 nd__law_refill rfl lf__law_refill_cell (.inl rfl) (RE.bin o_sub (RE.bor RE.int) (RE.bor (RE.bin o_mul (RE.bor RE.int) (RE.bor (RE.var 2 rfl rfl vf__law_refill_cell k_cell))))) (fun _ => rfl)) fun w7 =>
  (BN.nil w7 (.r (.r (.r .n))))) (BN.nil w3 (.r (.r (.r .n))))))) fun w6 =>
  (WB.cons (WS.ite (E := fun w8 : Unit => [Sl.sc is0, I v_k, I w6]) (NT.of (RW.t (RW.and (RT.cmp c_ge (RE.bor (RE.var 2 rfl rfl vf__law_refill_cell k_cell)) (RE.bor (RE.bin o_pow (RE.bor RE.int) (RE.bor RE.int))) (nm_ge _)) (RT.and1 (RT.cmp c_lt (RE.bor (RE.var 1 rfl rfl vf__law_refill_k k_k)) (RE.bor (RE.lenSc 0 rfl rfl vf__law_refill_script k_script rfl z_len)) (nm_lt _)))))) (WB.ret (NE.of (RE.var 2 rfl rfl vf__law_refill_cell k_cell))) (WB.nil () (.r (.r (.r .n))))) fun w8 =>
  (WB.ret (NE.of (RE.bin o_mod (RE.bor (RE.ty1 b_intI rfl z_int bb_int (RE.bor (RE.bin o_add (RE.bor (RE.bin o_mul (RE.bor (RE.ty1 b_intI rfl z_int bb_int (RE.bor (RE.bin o_add (RE.bor (RE.bin o_add (RE.bor (RE.bin o_mul (RE.bor (RE.var 2 rfl rfl vf__law_refill_cell k_cell)) (RE.bor RE.int))) (RE.bor (RE.bin o_mul (RE.bor (RE.var 1 rfl rfl vf__law_refill_k k_k)) (RE.bor RE.int))))) (RE.bor RE.int))) rfl kb_int)) (RE.bor RE.int))) (RE.bor RE.int))) rfl kb_int)) (RE.bor RE.int))))))))
  exact (h.run (fun _ => False) (fun _ => True) (wok__law_refill is0 v_k)).imp (fun e ⟨_, z, _⟩ => z) (fun d ⟨i, _, e⟩ => ⟨i, e⟩) (fun _ z => z) (fun _ z => z)
/-! ## _law_draw -/
abbrev s__law_draw : Stmt := topS 7
abbrev n__law_draw : List Str := ["state", "script", "size", "digit"]
theorem sc__law_draw : FnScope n__law_draw ["state", "script", "size"] (defScope s__law_draw) := ⟨rfl, rfl, rfl, by decide +kernel, rfl, by decide +kernel, by decide +kernel⟩
theorem nd__law_draw : (n__law_draw).Nodup := sc__law_draw.nd
theorem lf__law_draw_state : L2.Loc (defScope s__law_draw) "state" := locB rfl
theorem vf__law_draw_state : L2.Vis (defScope s__law_draw) "state" := visB rfl
theorem lf__law_draw_script : L2.Loc (defScope s__law_draw) "script" := locB rfl
theorem vf__law_draw_script : L2.Vis (defScope s__law_draw) "script" := visB rfl
theorem lf__law_draw_size : L2.Loc (defScope s__law_draw) "size" := locB rfl
theorem vf__law_draw_size : L2.Vis (defScope s__law_draw) "size" := visB rfl
theorem lf__law_draw_digit : L2.Loc (defScope s__law_draw) "digit" := locB rfl
theorem vf__law_draw_digit : L2.Vis (defScope s__law_draw) "digit" := visB rfl
def wp__law_draw (v_size : Int) : (Unit → Prop) → (Int → Prop) → Prop :=
  (W.seq (W.ite (N.o2 T2 (fun i j : Int => decide (i = j)) N.any (N.of (R.pure (0 : Int)))) (W.seq (W.of (⟨((⟨(N.any).p, fun _ => True⟩ : N Int)).p, fun _ => True⟩ : N Unit)) fun w4 =>
  (W.seq (W.of (⟨((N.o2 T2 (fun i j : Int => i + j) N.any (N.of (R.pure (1 : Int))))).p, fun _ => True⟩ : N Unit)) fun w5 =>
  (W.nil (() : Unit)))) (W.nil (() : Unit))) fun w3 =>
  (W.seq (W.of (N.o2 (fun _ j => 0 < j) (fun i j : Int => i % j) (N.o1 T1 (fun i : Int => i) N.any) (N.of (R.pure v_size)))) fun w6 =>
  (W.seq (W.of (⟨((N.o2 CDiv (fun i j : Int => i / j) N.any (N.of (R.pure v_size)))).p, fun _ => True⟩ : N Unit)) fun w7 =>
  (W.ret (N.of (R.pure w6))))))
theorem wok__law_draw (v_size : Int) (h : (m_draw v_size).p) : wp__law_draw v_size (fun _ => False) (fun i => 0 ≤ i ∧ i < v_size) := by
  have h0 : 0 < v_size := h.1
  have h1 : v_size < 1073741824 := h.2
  have e1 := fun i : Int => Int.emod_nonneg i (Int.ne_of_gt h0)
  have e2 := fun i : Int => Int.emod_lt_of_pos i h0
  simp [wp__law_draw, CDiv, h0, h1, e1, e2]
theorem w__law_draw {P : Program} {w : World} {K : PySem.W.Frag} {mg : Str → Option Value} {base : Heap} {T : Addr → Prop} (z_int : mg "int" = none) (c__law_refill : Fn P w K mg base 1 "_law_refill" (SpR K T))
    {f : Addr} {fd : FuncData} (F : FunD K "_law_draw" "_law_draw" (defArgs s__law_draw) (defBody s__law_draw) (defScope s__law_draw) [] [] f fd) (hm : mg "_law_draw" = some (.ref f)) (hb : Binds K fd ["state", "script", "size"] []) : Fn P w K mg base 2 "_law_draw" (SpM K T [true] (D1 m_draw)) :=
  Fn.ofM F sc__law_draw hm hb rfl fun ds P0 ⟨v_size, hds, hp, hP⟩ => ⟨[I v_size], by rw [hds]; exact .im .nil, fun cd A outer s H E M is0 hcd hr eT => by
  subst eT
  have pown : PassesOwn (model P w) (cxF P w K mg base n__law_draw "_law_draw" (defScope s__law_draw) f cd A outer s H E).A (cxF P w K mg base n__law_draw "_law_draw" (defScope s__law_draw) f cd A outer s H E).env (fun _ _ => False) := PassesOwn.never
  have h : WB (cxF P w K mg base n__law_draw "_law_draw" (defScope s__law_draw) f cd A outer s H E) M (β := Int) (defBody s__law_draw) [Sl.st, Sl.sc is0, I v_size, U] (fun _ : Unit => []) (wp__law_draw v_size) :=
   (WB.cons (WS.ite (E := fun w3 : Unit => [Sl.st, Sl.sc is0, I v_size, U]) (NT.cmp c_eqI (NE.nb (NE.stIx 0 rfl (by decide) rfl vf__law_draw_state k_state (fun _ _ => rfl))) (NE.nb (NE.of RE.int)) (nm_eq _)) (WB.cons (WS.of (NS.stSet (E := fun _ : Unit => [Sl.st, Sl.sc is0, I v_size, U]) 0 rfl (by decide) rfl vf__law_draw_state k_state (NE.refill 1 c__law_refill hr (Nat.le_of_ble_eq_true rfl) rfl rfl rfl vf__law_draw_script k_script (NE.stIx 0 rfl (by decide) rfl vf__law_draw_state k_state (fun _ _ => rfl)) k__law_refill) rfl)) fun w4 =>
  (WB.cons (WS.of (NS.stSet (E := fun _ : Unit => [Sl.st, Sl.sc is0, I v_size, U]) 0 rfl (by decide) rfl vf__law_draw_state k_state (NE.bin o_add (NE.nb (NE.stIx 0 rfl (by decide) rfl vf__law_draw_state k_state (fun _ _ => rfl))) (NE.nb (NE.of RE.int))) rfl)) fun w5 =>
  (WB.nil () (.r (.r (.r (.r .n))))))) (WB.nil () (.r (.r (.r (.r .n)))))) fun w3 =>
  (WB.cons (WS.of (NS.set (E := fun w6 : Int => [Sl.st, Sl.sc is0, I v_size, I w6]) 3 nd__law_draw rfl lf__law_draw_digit (.inl rfl) (NE.bin o_mod (NE.nb (NE.ty1 b_intI rfl z_int bb_int (NE.nb (NE.stIx 0 rfl (by decide) rfl vf__law_draw_state k_state (fun _ _ => rfl))) rfl kb_int)) (NE.nb (NE.of (RE.var 2 rfl rfl vf__law_draw_size k_size)))) (fun _ => rfl))) fun w6 =>
  (WB.cons (WS.of (NS.stSet (E := fun _ : Unit => [Sl.st, Sl.sc is0, I v_size, I w6]) 0 rfl (by decide) rfl vf__law_draw_state k_state (NE.bin o_fdiv (NE.nb (NE.stIx 0 rfl (by decide) rfl vf__law_draw_state k_state (fun _ _ => rfl))) (NE.nb (NE.of (RE.var 2 rfl rfl vf__law_draw_size k_size)))) rfl)) fun w7 =>
  (WB.ret (NE.of (RE.var 3 rfl rfl vf__law_draw_digit k_digit))))))
  exact (h.run (fun _ => False) (fun i => 0 ≤ i ∧ i < v_size) (wok__law_draw v_size hp)).imp (fun e ⟨_, z, _⟩ => z) (fun d ⟨i, hi, e⟩ => by rw [e]; exact hP i hi) (fun _ z => z) (fun _ z => z)⟩
/-! ## choices_of -/
abbrev s_choices_of : Stmt := topS 3
abbrev n_choices_of : List Str := ["open_to", "least", "most", "rows", "one", "row", "pick"]
theorem sc_choices_of : FnScope n_choices_of ["open_to", "least", "most"] (defScope s_choices_of) := ⟨rfl, rfl, rfl, by decide +kernel, rfl, by decide +kernel, by decide +kernel⟩
theorem nd_choices_of : (n_choices_of).Nodup := sc_choices_of.nd
theorem lf_choices_of_open_to : L2.Loc (defScope s_choices_of) "open_to" := locB rfl
theorem vf_choices_of_open_to : L2.Vis (defScope s_choices_of) "open_to" := visB rfl
theorem lf_choices_of_least : L2.Loc (defScope s_choices_of) "least" := locB rfl
theorem vf_choices_of_least : L2.Vis (defScope s_choices_of) "least" := visB rfl
theorem lf_choices_of_most : L2.Loc (defScope s_choices_of) "most" := locB rfl
theorem vf_choices_of_most : L2.Vis (defScope s_choices_of) "most" := visB rfl
theorem lf_choices_of_rows : L2.Loc (defScope s_choices_of) "rows" := locB rfl
theorem vf_choices_of_rows : L2.Vis (defScope s_choices_of) "rows" := visB rfl
theorem lf_choices_of_one : L2.Loc (defScope s_choices_of) "one" := locB rfl
theorem vf_choices_of_one : L2.Vis (defScope s_choices_of) "one" := visB rfl
def m_choices_of (v_open_to : (List Bool)) (v_least : Int) (v_most : Int) : R (List (Tu Int)) :=
  (R.bind (R.sz (R.lcons (R.map Tu.mk (R.sz (R.lnil (α := Int)))) (R.lnil (α := (Tu Int))))) fun w1 =>
  (R.bind (R.fold (α := Bool) (R.pure v_open_to) (w1 : (List (Tu Int))) (fun s2 x3 =>
  (R.bind (R.lc2 (α := (Tu Int)) (γ := Int) (R.pure s2) (fun y7 => R.pure true) (fun y7 => (R.map Tu.l (R.ite (R.o1 T1 (fun i : Bool => i) (R.pure x3)) (R.map Tu.mk (R.sz (R.lcons (R.pure (0 : Int)) (R.lcons (R.pure (1 : Int)) (R.lnil (α := Int)))))) (R.map Tu.mk (R.sz (R.lcons (R.pure (0 : Int)) (R.lnil (α := Int)))))))) (fun y7 y8 => R.pure true) (fun y7 y8 => (R.o2 (fun (xs ys : (Tu Int)) => xs.l.length + ys.l.length ≤ 1000000) (fun xs ys => Tu.mk (xs.l ++ ys.l)) (R.pure y7) (R.map Tu.mk (R.sz (R.lcons (R.pure y8) (R.lnil (α := Int)))))))) fun w4 =>
  (R.pure (w4 : (List (Tu Int))))))) fun w9 =>
  (R.lc (α := (Tu Int)) (R.pure w9) (fun y10 => (R.chain T2 (fun i j : Int => decide (i ≤ j)) T2 (fun i j : Int => decide (i ≤ j)) (R.pure v_least) (R.o1 T1 (fun xs : Tu Int => xs.l.sum) (R.pure y10)) (R.pure v_most))) (fun y10 => (R.pure y10)))))
theorem w_choices_of {P : Program} {w : World} {K : PySem.W.Frag} {mg : Str → Option Value} {base : Heap} {T : Addr → Prop} (z_sum : mg "sum" = none)
    {f : Addr} {fd : FuncData} (F : FunD K "choices_of" "choices_of" (defArgs s_choices_of) (defBody s_choices_of) (defScope s_choices_of) [] [] f fd) (hm : mg "choices_of" = some (.ref f)) (hb : Binds K fd ["open_to", "least", "most"] []) : Fn P w K mg base 1 "choices_of" (SpD K T [false, true, true] (G3 m_choices_of)) :=
  Fn.of F sc_choices_of hm hb rfl fun ds P0 ⟨v_open_to, v_least, v_most, hds, hp, hP⟩ => ⟨[Br v_open_to, I v_least, I v_most], by rw [hds]; exact (.br (.im (.im .nil))), fun cd A outer s H E hcd hr => by
  have pown : PassesOwn (model P w) (cxF P w K mg base n_choices_of "choices_of" (defScope s_choices_of) f cd A outer s H E).A (cxF P w K mg base n_choices_of "choices_of" (defScope s_choices_of) f cd A outer s H E).env (fun _ _ => False) := PassesOwn.never
  have h : BR (cxF P w K mg base n_choices_of "choices_of" (defScope s_choices_of) f cd A outer s H E) (noM T) (defBody s_choices_of) [Br v_open_to, I v_least, I v_most, U, U, U, U] (m_choices_of v_open_to v_least v_most) :=
   (BR.cons (SN.set (E := fun w1 : (List (Tu Int)) => [Br v_open_to, I v_least, I v_most, I w1, U, U, U]) 3 nd_choices_of rfl lf_choices_of_rows (.inl rfl) (RF.re (RF.lst (RL.cons (RE.tu RL.nil) RL.nil))) (fun _ => rfl)) fun w1 =>
  (BR.cons (SN.for (E := (fun s2 : (List (Tu Int)) => [Br v_open_to, I v_least, I v_most, I s2, U, U, U])) (tE := (fun (s2 : (List (Tu Int))) (x3 : Bool) => [Br v_open_to, I v_least, I v_most, I s2, I x3, U, U])) (ix := [4]) w1 pown rfl (.r (.r (.r (.r (.r (.r (.r .n))))))) (RI.list (RP.br 0 rfl rfl vf_choices_of_open_to k_open_to)) (fun _ _ => (RG.name 4 nd_choices_of rfl lf_choices_of_one (.inl rfl) rfl)) (fun s2 x3 =>
  (BN.cons (SN.lc2 (E := fun w4 : (List (Tu Int)) => [Br v_open_to, I v_least, I v_most, I w4, I x3, U, U]) (own := [("row", 5), ("pick", 6)]) (ix := [5]) (ix1 := [6]) (vs1 := [6]) (tE := (fun y7 : (Tu Int) => [Br v_open_to, I v_least, I v_most, I s2, I x3, I y7, U])) (tE1 := (fun (y7 : (Tu Int)) (y8 : Int) => [Br v_open_to, I v_least, I v_most, I s2, I x3, I y7, I y8])) 3 (fun _ => rfl) rfl nd_choices_of rfl rfl (sw_true rfl rfl rfl (by decide +kernel)) (blkOk_by rfl) (by decide) (by decide) (by decide) (by decide) (by decide) (RI.list (RP.ofE (RE.var 3 rfl rfl vf_choices_of_rows k_rows))) (fun y7 _ _ _ _ _ => (RG.name 5 nd_choices_of rfl (locB rfl) (by first | exact .inr rfl | exact .inl rfl) rfl)) (fun y7 => .inl ⟨rfl, rfl⟩) (fun y7 _ _ _ _ _ => (RI.tup (RE.ite (RT.tru t_bool (RE.bor (RE.var 4 rfl rfl (visB rfl) k_one)) (fun _ => rfl)) (RE.tu (RL.cons RE.int (RL.cons RE.int RL.nil))) (RE.tu (RL.cons RE.int RL.nil))))) (fun y7 y8 _ _ _ _ _ => (RG.name 6 nd_choices_of rfl (locB rfl) (by first | exact .inr rfl | exact .inl rfl) rfl)) (fun y7 y8 => .inl ⟨rfl, rfl⟩) (fun y7 y8 _ _ _ _ _ => (RE.bin o_catT (RE.bor (RE.var 5 rfl rfl (visB rfl) k_row)) (RE.bor (RE.tu (RL.cons (RE.var 6 rfl rfl (visB rfl) k_pick) RL.nil))))) (fun _ => rfl) (fun _ _ => rfl)) fun w4 =>
  (BN.nil w4 (.r (.r (.r (.r (.u (.r (.r .n)))))))))) (fun _ => rfl)) fun w9 =>
  (BR.ret (RF.re (RF.lc (own := [("row", 5)]) (ix := [5]) (tE := (fun y10 : (Tu Int) => [Br v_open_to, I v_least, I v_most, I w9, U, I y10, U])) rfl nd_choices_of (blkOk_by rfl) (by decide) (by decide) (RI.list (RP.ofE (RE.var 3 rfl rfl vf_choices_of_rows k_rows))) (fun y10 _ _ _ _ _ => (RG.name 5 nd_choices_of rfl (locB rfl) (by first | exact .inr rfl | exact .inl rfl) rfl)) (fun y10 => .inr ⟨_, rfl, fun _ _ _ _ _ => (RT.chain c_le c_le (RE.bor (RE.var 1 rfl rfl (visB rfl) k_least)) (RE.bor (RE.b1 (b_sumT rfl) rfl z_sum bb_sum (RE.bor (RE.var 5 rfl rfl (visB rfl) k_row)) rfl kb_sum)) (RE.bor (RE.var 2 rfl rfl (visB rfl) k_most)) (by with_unfolding_all rfl))⟩) (fun y10 _ _ _ _ _ => (RE.var 5 rfl rfl (visB rfl) k_row)) (fun _ => rfl))))))
  exact RdS.imp (h hp) (fun _ z => z) (fun d e => by rw [e]; exact hP) (fun _ z => z) (fun _ z => z)⟩
/-! ## least_choice -/
abbrev s_least_choice : Stmt := topS 2
abbrev n_least_choice : List Str := ["up", "most", "least", "high", "low", "wait", "many", "width", "rows", "sums", "at", "row", "after", "left", "above", "place", "a", "b", "line"]
theorem sc_least_choice : FnScope n_least_choice ["up", "most", "least", "high", "low"] (defScope s_least_choice) := ⟨rfl, rfl, rfl, by decide +kernel, rfl, by decide +kernel, by decide +kernel⟩
theorem nd_least_choice : (n_least_choice).Nodup := sc_least_choice.nd
theorem lf_least_choice_up : L2.Loc (defScope s_least_choice) "up" := locB rfl
theorem vf_least_choice_up : L2.Vis (defScope s_least_choice) "up" := visB rfl
theorem lf_least_choice_most : L2.Loc (defScope s_least_choice) "most" := locB rfl
theorem vf_least_choice_most : L2.Vis (defScope s_least_choice) "most" := visB rfl
theorem lf_least_choice_least : L2.Loc (defScope s_least_choice) "least" := locB rfl
theorem vf_least_choice_least : L2.Vis (defScope s_least_choice) "least" := visB rfl
theorem lf_least_choice_high : L2.Loc (defScope s_least_choice) "high" := locB rfl
theorem vf_least_choice_high : L2.Vis (defScope s_least_choice) "high" := visB rfl
theorem lf_least_choice_low : L2.Loc (defScope s_least_choice) "low" := locB rfl
theorem vf_least_choice_low : L2.Vis (defScope s_least_choice) "low" := visB rfl
theorem lf_least_choice_wait : L2.Loc (defScope s_least_choice) "wait" := locB rfl
theorem vf_least_choice_wait : L2.Vis (defScope s_least_choice) "wait" := visB rfl
theorem lf_least_choice_many : L2.Loc (defScope s_least_choice) "many" := locB rfl
theorem vf_least_choice_many : L2.Vis (defScope s_least_choice) "many" := visB rfl
theorem lf_least_choice_width : L2.Loc (defScope s_least_choice) "width" := locB rfl
theorem vf_least_choice_width : L2.Vis (defScope s_least_choice) "width" := visB rfl
theorem lf_least_choice_rows : L2.Loc (defScope s_least_choice) "rows" := locB rfl
theorem vf_least_choice_rows : L2.Vis (defScope s_least_choice) "rows" := visB rfl
theorem lf_least_choice_sums : L2.Loc (defScope s_least_choice) "sums" := locB rfl
theorem vf_least_choice_sums : L2.Vis (defScope s_least_choice) "sums" := visB rfl
theorem lf_least_choice_at : L2.Loc (defScope s_least_choice) "at" := locB rfl
theorem vf_least_choice_at : L2.Vis (defScope s_least_choice) "at" := visB rfl
theorem lf_least_choice_row : L2.Loc (defScope s_least_choice) "row" := locB rfl
theorem vf_least_choice_row : L2.Vis (defScope s_least_choice) "row" := visB rfl
theorem lf_least_choice_after : L2.Loc (defScope s_least_choice) "after" := locB rfl
theorem vf_least_choice_after : L2.Vis (defScope s_least_choice) "after" := visB rfl
theorem lf_least_choice_left : L2.Loc (defScope s_least_choice) "left" := locB rfl
theorem vf_least_choice_left : L2.Vis (defScope s_least_choice) "left" := visB rfl
theorem lf_least_choice_above : L2.Loc (defScope s_least_choice) "above" := locB rfl
theorem vf_least_choice_above : L2.Vis (defScope s_least_choice) "above" := visB rfl
def m_least_choice (v_up : (List (List Bool))) (v_most : (List Int)) (v_least : (List Int)) (v_high : (List Int)) (v_low : (List Int)) : R (Option (Tu (Tu Int))) :=
  (R.bind (R.tup2 (R.o1 T1 (fun xs : (List (List Bool)) => (xs.length : Int)) (R.pure v_up)) (R.o1 T1 (fun xs : (List Bool) => (xs.length : Int)) (R.o2 (fun (xs : (List (List Bool))) i => ixOk xs.length i) nth (R.pure v_up) (R.pure (0 : Int))))) fun w1 =>
  (R.bind (R.sz (R.lcons (R.tup2 (R.map Tu.mk (R.sz (R.lnil (α := (Tu Int))))) (R.o2 (fun (xs : (Tu Int)) (n : Int) => (xs.l ≠ [] ∧ xs.l.length ≤ 1000) ∧ 1 ≤ n ∧ n ≤ 1000) (fun xs n => Tu.mk (List.replicate n.toNat xs.l).flatten) (R.map Tu.mk (R.sz (R.lcons (R.pure (0 : Int)) (R.lnil (α := Int))))) (R.pure w1.2))) (R.lnil (α := ((Tu (Tu Int)) × (Tu Int)))))) fun w2 =>
  (R.flR (R.wlg (β := (Option (Tu (Tu Int)))) (L := Empty) 100000 (w2 : (List ((Tu (Tu Int)) × (Tu Int)))) (fun s3 => (R.o1 T1 (fun xs : (List ((Tu (Tu Int)) × (Tu Int))) => !xs.isEmpty) (R.pure s3))) (fun s3 =>
  (R.bind (R.pop s3) fun w4 =>
  (R.ite (R.o2 T2 (fun i j : Int => decide (i = j)) (R.o1 T1 (fun xs : (Tu (Tu Int)) => (xs.l.length : Int)) (R.pure w4.2.1)) (R.pure w1.1)) (R.ite (R.o1 T1 (fun i : Bool => i) (R.gx (α := Int) false (R.rng1 (R.pure w1.2)) (fun _ => R.pure true) (fun y5 => (R.o2 T2 (fun i j : Int => decide (i ≤ j)) (R.o2 (fun (xs : (List Int)) i => ixOk xs.length i) nth (R.pure v_low) (R.pure y5)) (R.o2 (fun (xs : (Tu Int)) i => ixOk xs.l.length i) (fun xs i => nth xs.l i) (R.pure w4.2.2) (R.pure y5)))))) (R.map (Fl.rt : _ → Fl (List ((Tu (Tu Int)) × (Tu Int))) (Option (Tu (Tu Int))) (List ((Tu (Tu Int)) × (Tu Int)))) (R.map some (R.pure w4.2.1)))
  (R.pure (Fl.nx w4.1 : Fl (List ((Tu (Tu Int)) × (Tu Int))) (Option (Tu (Tu Int))) (List ((Tu (Tu Int)) × (Tu Int))))))
  (R.bind (R.o1 T1 (fun xs : (Tu (Tu Int)) => (xs.l.length : Int)) (R.pure w4.2.1)) fun w6 =>
  (R.bind (R.fold (α := (Tu Int)) (R.map List.reverse (R.c3 m_choices_of (R.o2 (fun (xs : (List (List Bool))) i => ixOk xs.length i) nth (R.pure v_up) (R.pure w6)) (R.o2 (fun (xs : (List Int)) i => ixOk xs.length i) nth (R.pure v_least) (R.pure w6)) (R.o2 (fun (xs : (List Int)) i => ixOk xs.length i) nth (R.pure v_most) (R.pure w6)))) (w4.1 : (List ((Tu (Tu Int)) × (Tu Int)))) (fun s7 x8 =>
  (R.bind (R.o1 T1 (fun xs : (List Int) => Tu.mk xs) (R.lc (α := (Int × Int)) (R.zip (R.map Tu.l (R.pure w4.2.2)) (R.map Tu.l (R.pure x8))) (fun _ => R.pure true) (fun y11 => (R.o2 T2 (fun i j : Int => i + j) (R.pure y11.1) (R.pure y11.2))))) fun w9 =>
  (R.bind (R.lc (α := Int) (R.rng1 (R.pure w1.2)) (fun _ => R.pure true) (fun y15 => (R.o1 T1 (fun xs : (List Int) => (xs.length : Int)) (R.lc (α := (List Bool)) (R.o3 T3t cut (R.pure v_up) (R.map some (R.o2 T2 (fun i j : Int => i + j) (R.pure w6) (R.pure (1 : Int)))) (R.pure (none : Option Int))) (fun y16 => (R.o1 T1 (fun i : Bool => i) (R.o2 (fun (xs : (List Bool)) i => ixOk xs.length i) nth (R.pure y16) (R.pure y15)))) (fun y16 => (R.pure (1 : Int))))))) fun w12 =>
  (R.bind (R.gx (α := Int) true (R.rng1 (R.pure w1.2)) (fun _ => R.pure true) (fun y19 => (R.o2 T2 (fun i j : Int => decide (j < i)) (R.o2 (fun (xs : (Tu Int)) i => ixOk xs.l.length i) (fun xs i => nth xs.l i) (R.pure w9) (R.pure y19)) (R.o2 (fun (xs : (List Int)) i => ixOk xs.length i) nth (R.pure v_high) (R.pure y19))))) fun w17 =>
  (R.bind (R.ite (R.and (R.not (R.o1 T1 (fun i : Bool => i) (R.pure w17))) (R.o1 T1 (fun i : Bool => i) (R.gx (α := Int) false (R.rng1 (R.pure w1.2)) (fun _ => R.pure true) (fun y20 => (R.o2 T2 (fun i j : Int => decide (j ≤ i)) (R.o2 T2 (fun i j : Int => i + j) (R.o2 (fun (xs : (Tu Int)) i => ixOk xs.l.length i) (fun xs i => nth xs.l i) (R.pure w9) (R.pure y20)) (R.o2 (fun (xs : (List Int)) i => ixOk xs.length i) nth (R.pure w12) (R.pure y20))) (R.o2 (fun (xs : (List Int)) i => ixOk xs.length i) nth (R.pure v_low) (R.pure y20))))))) (R.bind (R.app s7 (R.tup2 (R.o2 (fun (xs ys : (Tu (Tu Int))) => xs.l.length + ys.l.length ≤ 1000000) (fun xs ys => Tu.mk (xs.l ++ ys.l)) (R.pure w4.2.1) (R.map Tu.mk (R.sz (R.lcons (R.pure x8) (R.lnil (α := (Tu Int))))))) (R.pure w9))) fun w23 =>
  (R.pure (w23 : (List ((Tu (Tu Int)) × (Tu Int)))))) (R.pure (s7 : (List ((Tu (Tu Int)) × (Tu Int)))))) fun w22 =>
  (R.pure (w22 : (List ((Tu (Tu Int)) × (Tu Int))))))))))) fun w24 =>
  (R.pure (Fl.nx w24 : Fl (List ((Tu (Tu Int)) × (Tu Int))) (Option (Tu (Tu Int))) (List ((Tu (Tu Int)) × (Tu Int))))))))))) fun w25 =>
  (R.pure (none : Option (Tu (Tu Int)))))))
theorem w_least_choice {P : Program} {w : World} {K : PySem.W.Frag} {mg : Str → Option Value} {base : Heap} {T : Addr → Prop} (z_all : mg "all" = none) (z_any : mg "any" = none) (z_len : mg "len" = none) (z_range : mg "range" = none) (z_reversed : mg "reversed" = none) (z_tuple : mg "tuple" = none) (z_zip : mg "zip" = none) (c_choices_of : Fn P w K mg base 1 "choices_of" (SpD K T [false, true, true] (G3 m_choices_of)))
    {f : Addr} {fd : FuncData} (F : FunD K "least_choice" "least_choice" (defArgs s_least_choice) (defBody s_least_choice) (defScope s_least_choice) [] [] f fd) (hm : mg "least_choice" = some (.ref f)) (hb : Binds K fd ["up", "most", "least", "high", "low"] []) {cT PT : Addr} (tb : GxR.TabB base mg cT PT) (hT : T PT) (hcode : fd.code = .ref cT) : Fn P w K mg base 2 "least_choice" (SpD K T [false, false, false, false, false] (G5 m_least_choice)) :=
  Fn.of F sc_least_choice hm hb rfl fun ds P0 ⟨v_up, v_most, v_least, v_high, v_low, hds, hp, hP⟩ => ⟨[Br v_up, Br v_most, Br v_least, Br v_high, Br v_low], by rw [hds]; exact (.br (.br (.br (.br (.br .nil))))), fun cd A outer s H E hcd hr => by
  have pown : PassesOwn (model P w) (cxF P w K mg base n_least_choice "least_choice" (defScope s_least_choice) f cd A outer s H E).A (cxF P w K mg base n_least_choice "least_choice" (defScope s_least_choice) f cd A outer s H E).env (fun _ _ => False) := PassesOwn.never
  have h : BR (cxF P w K mg base n_least_choice "least_choice" (defScope s_least_choice) f cd A outer s H E) (noM T) (defBody s_least_choice) [Br v_up, Br v_most, Br v_least, Br v_high, Br v_low, U, U, U, U, U, U, U, U, U, U, U, U, U, U] (m_least_choice v_up v_most v_least v_high v_low) :=
   (BR.cons (SN.par (E := fun w1 : (Int × Int) => [Br v_up, Br v_most, Br v_least, Br v_high, Br v_low, U, I w1.1, I w1.2, U, U, U, U, U, U, U, U, U, U, U]) 6 7 (fun _ => rfl) rfl nd_least_choice rfl rfl (by decide) rfl rfl (RA.im (RE.b1 b_lenL rfl z_len boot_len (RB.varB 0 rfl rfl vf_least_choice_up k_up) rfl kb_len) (RA.im (RE.b1 b_lenL rfl z_len boot_len (RE.bor (RE.ix x_list (RB.varB 0 rfl rfl vf_least_choice_up k_up) (RE.bor RE.int) (fun _ _ => rfl))) rfl kb_len) RA.nil)) rfl) fun w1 =>
  (BR.cons (SN.setF (E := fun w2 : (List ((Tu (Tu Int)) × (Tu Int))) => [Br v_up, Br v_most, Br v_least, Br v_high, Br v_low, Ow w2, I w1.1, I w1.2, U, U, U, U, U, U, U, U, U, U, U]) 5 nd_least_choice rfl lf_least_choice_wait (.inl rfl) (RF.lst (RL.cons (RE.tup2 (RA.im (RE.tu RL.nil) (RA.im (RE.bin o_repT (RE.bor (RE.tu (RL.cons RE.int RL.nil))) (RE.bor (RE.var 7 rfl rfl vf_least_choice_width k_width))) RA.nil))) RL.nil)) (fun _ => rfl)) fun w2 =>
  (BR.consG (EE := fun z : Empty => nomatch z) (SG.while (E := (fun s3 : (List ((Tu (Tu Int)) × (Tu Int))) => [Br v_up, Br v_most, Br v_least, Br v_high, Br v_low, Ow s3, I w1.1, I w1.2, U, U, U, U, U, U, U, U, U, U, U])) (EL := (fun z : Empty => nomatch z)) 100000 w2 pown (.r (.r (.r (.r (.r (.r (.r (.r (.r (.r (.r (.r (.r (.r (.r (.r (.r (.r (.r .n))))))))))))))))))) (fun s3 => (RT.tru t_list (RB.varO 5 rfl rfl vf_least_choice_wait k_wait) (fun _ => rfl))) (fun s3 =>
  (BG.cons (SN.popT (E := fun w4 : ((List ((Tu (Tu Int)) × (Tu Int))) × ((Tu (Tu Int)) × (Tu Int))) => [Br v_up, Br v_most, Br v_least, Br v_high, Br v_low, Ow w4.1, I w1.1, I w1.2, I w4.2.1, I w4.2.2, U, U, U, U, U, U, U, U, U]) 5 rfl rfl vf_least_choice_wait k_wait (fun w4 => (RG.tup2 rfl (RG.name 8 nd_least_choice rfl lf_least_choice_rows (.inl rfl) rfl) (RG.name 9 nd_least_choice rfl lf_least_choice_sums (.inl rfl) rfl)))) fun w4 =>
  (BG.ite (RT.cmp c_eqI (RE.bor (RE.b1 b_lenT rfl z_len boot_len (RE.bor (RE.var 8 rfl rfl vf_least_choice_rows k_rows)) rfl kb_len)) (RE.bor (RE.var 6 rfl rfl vf_least_choice_many k_many)) (nm_eq _)) (BG.ite (RT.tru t_bool (RE.bor (RE.allG (own := [("at", 10)]) (ix := [10]) (tE := (fun y5 : Int => [Br v_up, Br v_most, Br v_least, Br v_high, Br v_low, Ow w4.1, I w1.1, I w1.2, I w4.2.1, I w4.2.2, I y5, U, U, U, U, U, U, U, U])) hr rfl z_all nd_least_choice tb hT (hcd.symm.trans hcode) rfl (cell_by rfl) rfl (blkOk_by rfl) (by decide) (by decide) (RI.range1 rfl z_range (RE.bor (RE.var 7 rfl rfl vf_least_choice_width k_width))) (fun y5 _ _ _ _ _ _ hrg => (RG.name 10 nd_least_choice rfl (locB rfl) (by first | exact .inr rfl | exact .inl rfl) rfl)) (fun _ => .inl ⟨rfl, rfl⟩) (fun y5 _ _ _ _ _ _ hrg => (RE.cmp c_le (RE.bor (RE.ix x_list (RB.varB 4 rfl rfl (visB rfl) k_low) (RE.bor (RE.var 10 rfl rfl (visB rfl) k_at)) (fun _ _ => rfl))) (RE.bor (RE.ix x_tu (RE.bor (RE.var 9 rfl rfl (visB rfl) k_sums)) (RE.bor (RE.var 10 rfl rfl (visB rfl) k_at)) (fun _ _ => rfl))) (nm_le _))) (fun _ => rfl))) (fun _ => rfl)) (BG.ret (RE.sm (RE.var 8 rfl rfl vf_least_choice_rows k_rows)))
  (BG.nil w4.1 (.r (.r (.r (.r (.r (.r (.r (.r (.u (.u (.r (.r (.r (.r (.r (.r (.r (.r (.r .n)))))))))))))))))))))
  (BG.cons (SN.set (E := fun w6 : Int => [Br v_up, Br v_most, Br v_least, Br v_high, Br v_low, Ow w4.1, I w1.1, I w1.2, I w4.2.1, I w4.2.2, I w6, U, U, U, U, U, U, U, U]) 10 nd_least_choice rfl lf_least_choice_at (.inl rfl) (RE.b1 b_lenT rfl z_len boot_len (RE.bor (RE.var 8 rfl rfl vf_least_choice_rows k_rows)) rfl kb_len) (fun _ => rfl)) fun w6 =>
  (BG.cons (SN.for (E := (fun s7 : (List ((Tu (Tu Int)) × (Tu Int))) => [Br v_up, Br v_most, Br v_least, Br v_high, Br v_low, Ow s7, I w1.1, I w1.2, I w4.2.1, I w4.2.2, I w6, U, U, U, U, U, U, U, U])) (tE := (fun (s7 : (List ((Tu (Tu Int)) × (Tu Int)))) (x8 : (Tu Int)) => [Br v_up, Br v_most, Br v_least, Br v_high, Br v_low, Ow s7, I w1.1, I w1.2, I w4.2.1, I w4.2.2, I w6, I x8, U, U, U, U, U, U, U])) (ix := [11]) w4.1 pown rfl (.r (.r (.r (.r (.r (.r (.r (.r (.r (.r (.r (.r (.r (.r (.r (.r (.r (.r (.r .n))))))))))))))))))) (RI.rev rfl z_reversed (RP.ofE (RE.call3 c_choices_of hr (Nat.le_of_ble_eq_true rfl) rfl (RA.br (RE.bor (RE.ix x_list (RB.varB 0 rfl rfl vf_least_choice_up k_up) (RE.bor (RE.var 10 rfl rfl vf_least_choice_at k_at)) (fun _ _ => rfl))) (RA.im (RE.ix x_list (RB.varB 2 rfl rfl vf_least_choice_least k_least) (RE.bor (RE.var 10 rfl rfl vf_least_choice_at k_at)) (fun _ _ => rfl)) (RA.im (RE.ix x_list (RB.varB 1 rfl rfl vf_least_choice_most k_most) (RE.bor (RE.var 10 rfl rfl vf_least_choice_at k_at)) (fun _ _ => rfl)) RA.nil))) k_choices_of))) (fun _ _ => (RG.name 11 nd_least_choice rfl lf_least_choice_row (.inl rfl) rfl)) (fun s7 x8 =>
  (BN.cons (SN.set (E := fun w9 : (Tu Int) => [Br v_up, Br v_most, Br v_least, Br v_high, Br v_low, Ow s7, I w1.1, I w1.2, I w4.2.1, I w4.2.2, I w6, I x8, I w9, U, U, U, U, U, U]) 12 nd_least_choice rfl lf_least_choice_after (.inl rfl) (RE.ty1 b_tupL rfl z_tuple bb_tuple (RE.bor (RF.re (RF.lc (own := [("a", 16), ("b", 17)]) (ix := [16, 17]) (tE := (fun y11 : (Int × Int) => [Br v_up, Br v_most, Br v_least, Br v_high, Br v_low, Ow s7, I w1.1, I w1.2, I w4.2.1, I w4.2.2, I w6, I x8, U, U, U, U, I y11.1, I y11.2, U])) rfl nd_least_choice (blkOk_by rfl) (by decide) (by decide) (RI.zipQ rfl z_zip (RQ.ofT (RE.var 9 rfl rfl vf_least_choice_sums k_sums)) (RQ.ofT (RE.var 11 rfl rfl vf_least_choice_row k_row))) (fun y11 _ _ _ _ _ => (RG.tup2 rfl (RG.name 16 nd_least_choice rfl (locB rfl) (by first | exact .inr rfl | exact .inl rfl) rfl) (RG.name 17 nd_least_choice rfl (locB rfl) (by first | exact .inr rfl | exact .inl rfl) rfl))) (fun _ => .inl ⟨rfl, rfl⟩) (fun y11 _ _ _ _ _ => (RE.bin o_add (RE.bor (RE.var 16 rfl rfl (visB rfl) k_a)) (RE.bor (RE.var 17 rfl rfl (visB rfl) k_b)))) (fun _ => rfl)))) rfl kb_tuple) (fun _ => rfl)) fun w9 =>
  (BN.cons (SN.set (E := fun w12 : (List Int) => [Br v_up, Br v_most, Br v_least, Br v_high, Br v_low, Ow s7, I w1.1, I w1.2, I w4.2.1, I w4.2.2, I w6, I x8, I w9, I w12, U, U, U, U, U]) 13 nd_least_choice rfl lf_least_choice_left (.inl rfl) (RF.re (RF.lc (own := [("place", 15)]) (ix := [15]) (tE := (fun y15 : Int => [Br v_up, Br v_most, Br v_least, Br v_high, Br v_low, Ow s7, I w1.1, I w1.2, I w4.2.1, I w4.2.2, I w6, I x8, I w9, U, U, I y15, U, U, U])) rfl nd_least_choice (blkOk_by rfl) (by decide) (by decide) (RI.range1 rfl z_range (RE.bor (RE.var 7 rfl rfl vf_least_choice_width k_width))) (fun y15 _ _ _ _ _ => (RG.name 15 nd_least_choice rfl (locB rfl) (by first | exact .inr rfl | exact .inl rfl) rfl)) (fun _ => .inl ⟨rfl, rfl⟩) (fun y15 _ _ _ _ _ => (RE.b1 b_lenL rfl z_len boot_len (RE.bor (RF.re (RF.lc (own := [("line", 18)]) (ix := [18]) (tE := (fun y16 : (List Bool) => [Br v_up, Br v_most, Br v_least, Br v_high, Br v_low, Ow s7, I w1.1, I w1.2, I w4.2.1, I w4.2.2, I w6, I x8, I w9, U, U, I y15, U, U, I y16])) rfl nd_least_choice (blkOk_by rfl) (by decide) (by decide) (RI.list (RP.ofE (RF.re (RF.slice (RB.varB 0 rfl rfl (visB rfl) k_up) (RO.some (RE.bor (RE.bin o_add (RE.bor (RE.var 10 rfl rfl (visB rfl) k_at)) (RE.bor RE.int)))) RO.none)))) (fun y16 _ _ _ _ _ => (RG.name 18 nd_least_choice rfl (locB rfl) (by first | exact .inr rfl | exact .inl rfl) rfl)) (fun y16 => .inr ⟨_, rfl, fun _ _ _ _ _ => (RT.tru t_bool (RE.bor (RE.ix x_list (RE.bor (RE.var 18 rfl rfl (visB rfl) k_line)) (RE.bor (RE.var 15 rfl rfl (visB rfl) k_place)) (fun _ _ => rfl))) (fun _ => rfl))⟩) (fun y16 _ _ _ _ _ => RE.int) (fun _ => rfl)))) rfl kb_len)) (fun _ => rfl))) (fun _ => rfl)) fun w12 =>
  (BN.cons (SN.set (E := fun w17 : Bool => [Br v_up, Br v_most, Br v_least, Br v_high, Br v_low, Ow s7, I w1.1, I w1.2, I w4.2.1, I w4.2.2, I w6, I x8, I w9, I w12, I w17, U, U, U, U]) 14 nd_least_choice rfl lf_least_choice_above (.inl rfl) (RE.anyG (own := [("place", 15)]) (ix := [15]) (tE := (fun y19 : Int => [Br v_up, Br v_most, Br v_least, Br v_high, Br v_low, Ow s7, I w1.1, I w1.2, I w4.2.1, I w4.2.2, I w6, I x8, I w9, I w12, U, I y19, U, U, U])) hr rfl z_any nd_least_choice tb hT (hcd.symm.trans hcode) rfl (cell_by rfl) rfl (blkOk_by rfl) (by decide) (by decide) (RI.range1 rfl z_range (RE.bor (RE.var 7 rfl rfl vf_least_choice_width k_width))) (fun y19 _ _ _ _ _ _ hrg => (RG.name 15 nd_least_choice rfl (locB rfl) (by first | exact .inr rfl | exact .inl rfl) rfl)) (fun _ => .inl ⟨rfl, rfl⟩) (fun y19 _ _ _ _ _ _ hrg => (RE.cmp c_gt (RE.bor (RE.ix x_tu (RE.bor (RE.var 12 rfl rfl (visB rfl) k_after)) (RE.bor (RE.var 15 rfl rfl (visB rfl) k_place)) (fun _ _ => rfl))) (RE.bor (RE.ix x_list (RB.varB 3 rfl rfl (visB rfl) k_high) (RE.bor (RE.var 15 rfl rfl (visB rfl) k_place)) (fun _ _ => rfl))) (nm_gt _))) (fun _ => rfl)) (fun _ => rfl)) fun w17 =>
  (BN.cons (SN.ite (E := fun w22 : (List ((Tu (Tu Int)) × (Tu Int))) => [Br v_up, Br v_most, Br v_least, Br v_high, Br v_low, Ow w22, I w1.1, I w1.2, I w4.2.1, I w4.2.2, I w6, I x8, I w9, I w12, I w17, U, U, U, U]) (RW.t (RW.and (RT.not (RT.tru t_bool (RE.bor (RE.var 14 rfl rfl vf_least_choice_above k_above)) (fun _ => rfl))) (RT.and1 (RT.tru t_bool (RE.bor (RE.allG (own := [("place", 15)]) (ix := [15]) (tE := (fun y20 : Int => [Br v_up, Br v_most, Br v_least, Br v_high, Br v_low, Ow s7, I w1.1, I w1.2, I w4.2.1, I w4.2.2, I w6, I x8, I w9, I w12, I w17, I y20, U, U, U])) hr rfl z_all nd_least_choice tb hT (hcd.symm.trans hcode) rfl (cell_by rfl) rfl (blkOk_by rfl) (by decide) (by decide) (RI.range1 rfl z_range (RE.bor (RE.var 7 rfl rfl vf_least_choice_width k_width))) (fun y20 _ _ _ _ _ _ hrg => (RG.name 15 nd_least_choice rfl (locB rfl) (by first | exact .inr rfl | exact .inl rfl) rfl)) (fun _ => .inl ⟨rfl, rfl⟩) (fun y20 _ _ _ _ _ _ hrg => (RE.cmp c_ge (RE.bor (RE.bin o_add (RE.bor (RE.ix x_tu (RE.bor (RE.var 12 rfl rfl (visB rfl) k_after)) (RE.bor (RE.var 15 rfl rfl (visB rfl) k_place)) (fun _ _ => rfl))) (RE.bor (RE.ix x_list (RE.bor (RE.var 13 rfl rfl (visB rfl) k_left)) (RE.bor (RE.var 15 rfl rfl (visB rfl) k_place)) (fun _ _ => rfl))))) (RE.bor (RE.ix x_list (RB.varB 4 rfl rfl (visB rfl) k_low) (RE.bor (RE.var 15 rfl rfl (visB rfl) k_place)) (fun _ _ => rfl))) (nm_ge _))) (fun _ => rfl))) (fun _ => rfl))))) (BN.cons (SN.append (E := (fun w23 : (List ((Tu (Tu Int)) × (Tu Int))) => [Br v_up, Br v_most, Br v_least, Br v_high, Br v_low, Ow w23, I w1.1, I w1.2, I w4.2.1, I w4.2.2, I w6, I x8, I w9, I w12, I w17, U, U, U, U])) 5 rfl (fun _ => rfl) rfl vf_least_choice_wait k_wait (RE.tup2 (RA.im (RE.bin o_catT (RE.bor (RE.var 8 rfl rfl vf_least_choice_rows k_rows)) (RE.bor (RE.tu (RL.cons (RE.var 11 rfl rfl vf_least_choice_row k_row) RL.nil)))) (RA.im (RE.var 12 rfl rfl vf_least_choice_after k_after) RA.nil)))) fun w23 =>
  (BN.nil w23 (.r (.r (.r (.r (.r (.r (.r (.r (.r (.r (.r (.r (.r (.r (.r (.r (.r (.r (.r .n))))))))))))))))))))) (BN.nil s7 (.r (.r (.r (.r (.r (.r (.r (.r (.r (.r (.r (.r (.r (.r (.r (.r (.r (.r (.r .n))))))))))))))))))))) fun w22 =>
  (BN.nil w22 (.r (.r (.r (.r (.r (.r (.r (.r (.r (.r (.r (.u (.u (.u (.u (.r (.r (.r (.r .n))))))))))))))))))))))))) (fun _ => rfl)) fun w24 =>
  (BG.nil w24 (.r (.r (.r (.r (.r (.r (.r (.r (.u (.u (.u (.r (.r (.r (.r (.r (.r (.r (.r .n)))))))))))))))))))))))))) fun w25 =>
  (BR.ret RE.non))))
  exact RdS.imp (h hp) (fun _ z => z) (fun d e => by rw [e]; exact hP) (fun _ z => z) (fun _ z => z)⟩
/-! ## rounded_table -/
abbrev s_rounded_table : Stmt := topS 1
abbrev n_rounded_table : List Str := ["rows", "base", "told", "up", "left", "columns", "right", "chosen", "many", "width", "row", "at", "one", "a", "line", "high", "_", "low", "b"]
theorem sc_rounded_table : FnScope n_rounded_table ["rows", "base"] (defScope s_rounded_table) := ⟨rfl, rfl, rfl, by decide +kernel, rfl, by decide +kernel, by decide +kernel⟩
theorem nd_rounded_table : (n_rounded_table).Nodup := sc_rounded_table.nd
theorem lf_rounded_table_rows : L2.Loc (defScope s_rounded_table) "rows" := locB rfl
theorem vf_rounded_table_rows : L2.Vis (defScope s_rounded_table) "rows" := visB rfl
theorem lf_rounded_table_base : L2.Loc (defScope s_rounded_table) "base" := locB rfl
theorem vf_rounded_table_base : L2.Vis (defScope s_rounded_table) "base" := visB rfl
theorem lf_rounded_table_told : L2.Loc (defScope s_rounded_table) "told" := locB rfl
theorem vf_rounded_table_told : L2.Vis (defScope s_rounded_table) "told" := visB rfl
theorem lf_rounded_table_up : L2.Loc (defScope s_rounded_table) "up" := locB rfl
theorem vf_rounded_table_up : L2.Vis (defScope s_rounded_table) "up" := visB rfl
theorem lf_rounded_table_left : L2.Loc (defScope s_rounded_table) "left" := locB rfl
theorem vf_rounded_table_left : L2.Vis (defScope s_rounded_table) "left" := visB rfl
theorem lf_rounded_table_columns : L2.Loc (defScope s_rounded_table) "columns" := locB rfl
theorem vf_rounded_table_columns : L2.Vis (defScope s_rounded_table) "columns" := visB rfl
theorem lf_rounded_table_right : L2.Loc (defScope s_rounded_table) "right" := locB rfl
theorem vf_rounded_table_right : L2.Vis (defScope s_rounded_table) "right" := visB rfl
theorem lf_rounded_table_chosen : L2.Loc (defScope s_rounded_table) "chosen" := locB rfl
theorem vf_rounded_table_chosen : L2.Vis (defScope s_rounded_table) "chosen" := visB rfl
theorem lf_rounded_table_many : L2.Loc (defScope s_rounded_table) "many" := locB rfl
theorem vf_rounded_table_many : L2.Vis (defScope s_rounded_table) "many" := visB rfl
theorem lf_rounded_table_width : L2.Loc (defScope s_rounded_table) "width" := locB rfl
theorem vf_rounded_table_width : L2.Vis (defScope s_rounded_table) "width" := visB rfl
def m_rounded_table (v_rows : (List (List Int))) (v_base : Int) : R (Tu (Tu Int)) :=
  (R.bind (R.tup2 (R.o1 T1 (fun xs : (List (List Int)) => (xs.length : Int)) (R.pure v_rows)) (R.o1 T1 (fun xs : (List Int) => (xs.length : Int)) (R.o2 (fun (xs : (List (List Int))) i => ixOk xs.length i) nth (R.pure v_rows) (R.pure (0 : Int))))) fun w1 =>
  (R.bind (R.lc (α := (List Int)) (R.pure v_rows) (fun _ => R.pure true) (fun y5 => (R.lc (α := Int) (R.pure y5) (fun _ => R.pure true) (fun y6 => (R.o2 CDiv (fun i j : Int => i / j) (R.pure y6) (R.pure v_base)))))) fun w2 =>
  (R.bind (R.lc (α := (List Int)) (R.pure v_rows) (fun _ => R.pure true) (fun y10 => (R.lc (α := Int) (R.pure y10) (fun _ => R.pure true) (fun y11 => (R.o2 T2 (fun i j : Int => decide (j < i)) (R.o2 (fun _ j => 0 < j) (fun i j : Int => i % j) (R.pure y11) (R.pure v_base)) (R.pure (0 : Int))))))) fun w7 =>
  (R.bind (R.lc (α := (List Int)) (R.pure v_rows) (fun _ => R.pure true) (fun y14 => (R.tup2 (R.o1 T1 (fun i : Int => -i) (R.o2 CDiv (fun i j : Int => i / j) (R.o1 T1 (fun i : Int => -i) (R.o1 T1 (fun xs : List Int => xs.sum) (R.pure y14))) (R.pure v_base))) (R.o2 CDiv (fun i j : Int => i / j) (R.o1 T1 (fun xs : List Int => xs.sum) (R.pure y14)) (R.pure v_base))))) fun w12 =>
  (R.bind (R.lc (α := Int) (R.rng1 (R.pure w1.2)) (fun _ => R.pure true) (fun y18 => (R.lc (α := (List Int)) (R.pure v_rows) (fun _ => R.pure true) (fun y19 => (R.o2 (fun (xs : (List Int)) i => ixOk xs.length i) nth (R.pure y19) (R.pure y18)))))) fun w15 =>
  (R.bind (R.lc (α := (List Int)) (R.pure w15) (fun _ => R.pure true) (fun y22 => (R.tup2 (R.o1 T1 (fun i : Int => -i) (R.o2 CDiv (fun i j : Int => i / j) (R.o1 T1 (fun i : Int => -i) (R.o1 T1 (fun xs : List Int => xs.sum) (R.pure y22))) (R.pure v_base))) (R.o2 CDiv (fun i j : Int => i / j) (R.o1 T1 (fun xs : List Int => xs.sum) (R.pure y22)) (R.pure v_base))))) fun w20 =>
  (R.bind (R.c5 m_least_choice (R.pure w7) (R.lc (α := ((Int × Int) × (List Int))) (R.zip (R.pure w12) (R.pure w2)) (fun _ => R.pure true) (fun y30 => (R.o2 T2 (fun i j : Int => i - j) (R.pure y30.1.1) (R.o1 T1 (fun xs : List Int => xs.sum) (R.pure y30.2))))) (R.lc (α := ((Int × Int) × (List Int))) (R.zip (R.pure w12) (R.pure w2)) (fun _ => R.pure true) (fun y31 => (R.o2 T2 (fun i j : Int => i - j) (R.pure y31.1.2) (R.o1 T1 (fun xs : List Int => xs.sum) (R.pure y31.2))))) (R.lc (α := (Int × (Int × Int))) (R.enum (R.pure w20)) (fun _ => R.pure true) (fun y32 => (R.o2 T2 (fun i j : Int => i - j) (R.pure y32.2.1) (R.o1 T1 (fun xs : List Int => xs.sum) (R.lc (α := (List Int)) (R.pure w2) (fun _ => R.pure true) (fun y33 => (R.o2 (fun (xs : (List Int)) i => ixOk xs.length i) nth (R.pure y33) (R.pure y32.1)))))))) (R.lc (α := (Int × (Int × Int))) (R.enum (R.pure w20)) (fun _ => R.pure true) (fun y34 => (R.o2 T2 (fun i j : Int => i - j) (R.pure y34.2.2) (R.o1 T1 (fun xs : List Int => xs.sum) (R.lc (α := (List Int)) (R.pure w2) (fun _ => R.pure true) (fun y35 => (R.o2 (fun (xs : (List Int)) i => ixOk xs.length i) nth (R.pure y35) (R.pure y34.1))))))))) fun w23 =>
  (R.o1 T1 (fun xs : (List (Tu Int)) => Tu.mk xs) (R.lc (α := Int) (R.rng1 (R.pure w1.1)) (fun _ => R.pure true) (fun y36 => (R.o1 T1 (fun xs : (List Int) => Tu.mk xs) (R.lc (α := Int) (R.rng1 (R.pure w1.2)) (fun _ => R.pure true) (fun y37 => (R.o2 T2 (fun i j : Int => i + j) (R.o2 (fun (xs : (List Int)) i => ixOk xs.length i) nth (R.o2 (fun (xs : (List (List Int))) i => ixOk xs.length i) nth (R.pure w2) (R.pure y36)) (R.pure y37)) (R.o2 (fun (xs : (Tu Int)) i => ixOk xs.l.length i) (fun xs i => nth xs.l i) (R.o2 (fun (xs : (Tu (Tu Int))) i => ixOk xs.l.length i) (fun xs i => nth xs.l i) (R.unO (R.pure w23)) (R.pure y36)) (R.pure y37))))))))))))))))
theorem w_rounded_table {P : Program} {w : World} {K : PySem.W.Frag} {mg : Str → Option Value} {base : Heap} {T : Addr → Prop} (z_enumerate : mg "enumerate" = none) (z_len : mg "len" = none) (z_range : mg "range" = none) (z_sum : mg "sum" = none) (z_tuple : mg "tuple" = none) (z_zip : mg "zip" = none) (c_least_choice : Fn P w K mg base 2 "least_choice" (SpD K T [false, false, false, false, false] (G5 m_least_choice)))
    {f : Addr} {fd : FuncData} (F : FunD K "rounded_table" "rounded_table" (defArgs s_rounded_table) (defBody s_rounded_table) (defScope s_rounded_table) [] [] f fd) (hm : mg "rounded_table" = some (.ref f)) (hb : Binds K fd ["rows", "base"] []) : Fn P w K mg base 3 "rounded_table" (SpD K T [false, true] (G2 m_rounded_table)) :=
  Fn.of F sc_rounded_table hm hb rfl fun ds P0 ⟨v_rows, v_base, hds, hp, hP⟩ => ⟨[Br v_rows, I v_base], by rw [hds]; exact (.br (.im .nil)), fun cd A outer s H E hcd hr => by
  have pown : PassesOwn (model P w) (cxF P w K mg base n_rounded_table "rounded_table" (defScope s_rounded_table) f cd A outer s H E).A (cxF P w K mg base n_rounded_table "rounded_table" (defScope s_rounded_table) f cd A outer s H E).env (fun _ _ => False) := PassesOwn.never
  have h : BR (cxF P w K mg base n_rounded_table "rounded_table" (defScope s_rounded_table) f cd A outer s H E) (noM T) (defBody s_rounded_table) [Br v_rows, I v_base, U, U, U, U, U, U, U, U, U, U, U, U, U, U, U, U, U] (m_rounded_table v_rows v_base) :=
   (BR.cons (SN.tgt (E := fun w1 : (Int × Int) => [Br v_rows, I v_base, U, U, U, U, U, U, I w1.1, I w1.2, U, U, U, U, U, U, U, U, U]) (RE.tup2 (RA.im (RE.b1 b_lenL rfl z_len boot_len (RB.varB 0 rfl rfl vf_rounded_table_rows k_rows) rfl kb_len) (RA.im (RE.b1 b_lenL rfl z_len boot_len (RE.bor (RE.ix x_list (RB.varB 0 rfl rfl vf_rounded_table_rows k_rows) (RE.bor RE.int) (fun _ _ => rfl))) rfl kb_len) RA.nil))) (fun _ => (RG.tup2 rfl (RG.name 8 nd_rounded_table rfl lf_rounded_table_many (.inl rfl) rfl) (RG.name 9 nd_rounded_table rfl lf_rounded_table_width (.inl rfl) rfl)))) fun w1 =>
  (BR.cons (SN.set (E := fun w2 : (List (List Int)) => [Br v_rows, I v_base, I w2, U, U, U, U, U, I w1.1, I w1.2, U, U, U, U, U, U, U, U, U]) 2 nd_rounded_table rfl lf_rounded_table_told (.inl rfl) (RF.re (RF.lc (own := [("row", 10)]) (ix := [10]) (tE := (fun y5 : (List Int) => [Br v_rows, I v_base, U, U, U, U, U, U, I w1.1, I w1.2, I y5, U, U, U, U, U, U, U, U])) rfl nd_rounded_table (blkOk_by rfl) (by decide) (by decide) (RI.list (RP.ofB (RB.varB 0 rfl rfl vf_rounded_table_rows k_rows))) (fun y5 _ _ _ _ _ => (RG.name 10 nd_rounded_table rfl (locB rfl) (by first | exact .inr rfl | exact .inl rfl) rfl)) (fun _ => .inl ⟨rfl, rfl⟩) (fun y5 _ _ _ _ _ => (RF.re (RF.lc (own := [("one", 12)]) (ix := [12]) (tE := (fun y6 : Int => [Br v_rows, I v_base, U, U, U, U, U, U, I w1.1, I w1.2, I y5, U, I y6, U, U, U, U, U, U])) rfl nd_rounded_table (blkOk_by rfl) (by decide) (by decide) (RI.list (RP.ofE (RE.var 10 rfl rfl (visB rfl) k_row))) (fun y6 _ _ _ _ _ => (RG.name 12 nd_rounded_table rfl (locB rfl) (by first | exact .inr rfl | exact .inl rfl) rfl)) (fun _ => .inl ⟨rfl, rfl⟩) (fun y6 _ _ _ _ _ => (RE.bin o_fdiv (RE.bor (RE.var 12 rfl rfl (visB rfl) k_one)) (RE.bor (RE.var 1 rfl rfl (visB rfl) k_base)))) (fun _ => rfl)))) (fun _ => rfl))) (fun _ => rfl)) fun w2 =>
  (BR.cons (SN.lc (E := fun w7 : (List (List Bool)) => [Br v_rows, I v_base, I w2, I w7, U, U, U, U, I w1.1, I w1.2, U, U, U, U, U, U, U, U, U]) (own := [("row", 10)]) (ix := [10]) (tE := (fun y10 : (List Int) => [Br v_rows, I v_base, I w2, U, U, U, U, U, I w1.1, I w1.2, I y10, U, U, U, U, U, U, U, U])) 3 (fun _ => rfl) rfl nd_rounded_table rfl rfl (sw_true rfl rfl rfl (by decide +kernel)) (blkOk_by rfl) (by decide) (by decide) (RI.list (RP.ofB (RB.varB 0 rfl rfl vf_rounded_table_rows k_rows))) (fun y10 _ _ _ _ _ => (RG.name 10 nd_rounded_table rfl (locB rfl) (by first | exact .inr rfl | exact .inl rfl) rfl)) (fun _ => .inl ⟨rfl, rfl⟩) (fun y10 _ _ _ _ _ => (RF.re (RF.lc (own := [("one", 12)]) (ix := [12]) (tE := (fun y11 : Int => [Br v_rows, I v_base, I w2, U, U, U, U, U, I w1.1, I w1.2, I y10, U, I y11, U, U, U, U, U, U])) rfl nd_rounded_table (blkOk_by rfl) (by decide) (by decide) (RI.list (RP.ofE (RE.var 10 rfl rfl (visB rfl) k_row))) (fun y11 _ _ _ _ _ => (RG.name 12 nd_rounded_table rfl (locB rfl) (by first | exact .inr rfl | exact .inl rfl) rfl)) (fun _ => .inl ⟨rfl, rfl⟩) (fun y11 _ _ _ _ _ => (RE.cmp c_gt (RE.bor (RE.bin o_mod (RE.bor (RE.var 12 rfl rfl (visB rfl) k_one)) (RE.bor (RE.var 1 rfl rfl (visB rfl) k_base)))) (RE.bor RE.int) (nm_gt _))) (fun _ => rfl)))) (fun _ => rfl)) fun w7 =>
  (BR.cons (SN.lc (E := fun w12 : (List (Int × Int)) => [Br v_rows, I v_base, I w2, I w7, I w12, U, U, U, I w1.1, I w1.2, U, U, U, U, U, U, U, U, U]) (own := [("row", 10)]) (ix := [10]) (tE := (fun y14 : (List Int) => [Br v_rows, I v_base, I w2, I w7, U, U, U, U, I w1.1, I w1.2, I y14, U, U, U, U, U, U, U, U])) 4 (fun _ => rfl) rfl nd_rounded_table rfl rfl (sw_true rfl rfl rfl (by decide +kernel)) (blkOk_by rfl) (by decide) (by decide) (RI.list (RP.ofB (RB.varB 0 rfl rfl vf_rounded_table_rows k_rows))) (fun y14 _ _ _ _ _ => (RG.name 10 nd_rounded_table rfl (locB rfl) (by first | exact .inr rfl | exact .inl rfl) rfl)) (fun _ => .inl ⟨rfl, rfl⟩) (fun y14 _ _ _ _ _ => (RE.tup2 (RA.im (RE.un u_neg (RE.bor (RE.bin o_fdiv (RE.bor (RE.un u_neg (RE.bor (RE.b1 (b_sumL rfl) rfl z_sum bb_sum (RE.bor (RE.var 10 rfl rfl (visB rfl) k_row)) rfl kb_sum)))) (RE.bor (RE.var 1 rfl rfl (visB rfl) k_base))))) (RA.im (RE.bin o_fdiv (RE.bor (RE.b1 (b_sumL rfl) rfl z_sum bb_sum (RE.bor (RE.var 10 rfl rfl (visB rfl) k_row)) rfl kb_sum)) (RE.bor (RE.var 1 rfl rfl (visB rfl) k_base))) RA.nil)))) (fun _ => rfl)) fun w12 =>
  (BR.cons (SN.lc (E := fun w15 : (List (List Int)) => [Br v_rows, I v_base, I w2, I w7, I w12, I w15, U, U, I w1.1, I w1.2, U, U, U, U, U, U, U, U, U]) (own := [("at", 11)]) (ix := [11]) (tE := (fun y18 : Int => [Br v_rows, I v_base, I w2, I w7, I w12, U, U, U, I w1.1, I w1.2, U, I y18, U, U, U, U, U, U, U])) 5 (fun _ => rfl) rfl nd_rounded_table rfl rfl (sw_true rfl rfl rfl (by decide +kernel)) (blkOk_by rfl) (by decide) (by decide) (RI.range1 rfl z_range (RE.bor (RE.var 9 rfl rfl vf_rounded_table_width k_width))) (fun y18 _ _ _ _ _ => (RG.name 11 nd_rounded_table rfl (locB rfl) (by first | exact .inr rfl | exact .inl rfl) rfl)) (fun _ => .inl ⟨rfl, rfl⟩) (fun y18 _ _ _ _ _ => (RF.re (RF.lc (own := [("row", 10)]) (ix := [10]) (tE := (fun y19 : (List Int) => [Br v_rows, I v_base, I w2, I w7, I w12, U, U, U, I w1.1, I w1.2, I y19, I y18, U, U, U, U, U, U, U])) rfl nd_rounded_table (blkOk_by rfl) (by decide) (by decide) (RI.list (RP.ofB (RB.varB 0 rfl rfl (visB rfl) k_rows))) (fun y19 _ _ _ _ _ => (RG.name 10 nd_rounded_table rfl (locB rfl) (by first | exact .inr rfl | exact .inl rfl) rfl)) (fun _ => .inl ⟨rfl, rfl⟩) (fun y19 _ _ _ _ _ => (RE.ix x_list (RE.bor (RE.var 10 rfl rfl (visB rfl) k_row)) (RE.bor (RE.var 11 rfl rfl (visB rfl) k_at)) (fun _ _ => rfl))) (fun _ => rfl)))) (fun _ => rfl)) fun w15 =>
  (BR.cons (SN.lc (E := fun w20 : (List (Int × Int)) => [Br v_rows, I v_base, I w2, I w7, I w12, I w15, I w20, U, I w1.1, I w1.2, U, U, U, U, U, U, U, U, U]) (own := [("row", 10)]) (ix := [10]) (tE := (fun y22 : (List Int) => [Br v_rows, I v_base, I w2, I w7, I w12, I w15, U, U, I w1.1, I w1.2, I y22, U, U, U, U, U, U, U, U])) 6 (fun _ => rfl) rfl nd_rounded_table rfl rfl (sw_true rfl rfl rfl (by decide +kernel)) (blkOk_by rfl) (by decide) (by decide) (RI.list (RP.ofE (RE.var 5 rfl rfl vf_rounded_table_columns k_columns))) (fun y22 _ _ _ _ _ => (RG.name 10 nd_rounded_table rfl (locB rfl) (by first | exact .inr rfl | exact .inl rfl) rfl)) (fun _ => .inl ⟨rfl, rfl⟩) (fun y22 _ _ _ _ _ => (RE.tup2 (RA.im (RE.un u_neg (RE.bor (RE.bin o_fdiv (RE.bor (RE.un u_neg (RE.bor (RE.b1 (b_sumL rfl) rfl z_sum bb_sum (RE.bor (RE.var 10 rfl rfl (visB rfl) k_row)) rfl kb_sum)))) (RE.bor (RE.var 1 rfl rfl (visB rfl) k_base))))) (RA.im (RE.bin o_fdiv (RE.bor (RE.b1 (b_sumL rfl) rfl z_sum bb_sum (RE.bor (RE.var 10 rfl rfl (visB rfl) k_row)) rfl kb_sum)) (RE.bor (RE.var 1 rfl rfl (visB rfl) k_base))) RA.nil)))) (fun _ => rfl)) fun w20 =>
  (BR.cons (SN.set (E := fun w23 : (Option (Tu (Tu Int))) => [Br v_rows, I v_base, I w2, I w7, I w12, I w15, I w20, I w23, I w1.1, I w1.2, U, U, U, U, U, U, U, U, U]) 7 nd_rounded_table rfl lf_rounded_table_chosen (.inl rfl) (RE.call5 c_least_choice hr (Nat.le_of_ble_eq_true rfl) rfl (RA.br (RE.bor (RE.var 3 rfl rfl vf_rounded_table_up k_up)) (RA.br (RE.bor (RF.re (RF.lc (own := [("line", 14), ("high", 15), ("_", 16)]) (ix := [15, 16, 14]) (tE := (fun y30 : ((Int × Int) × (List Int)) => [Br v_rows, I v_base, I w2, I w7, I w12, I w15, I w20, U, I w1.1, I w1.2, U, U, U, U, I y30.2, I y30.1.1, I y30.1.2, U, U])) rfl nd_rounded_table (blkOk_by rfl) (by decide) (by decide) (RI.zipQ rfl z_zip (RQ.ofP (RP.ofE (RE.var 4 rfl rfl vf_rounded_table_left k_left))) (RQ.ofP (RP.ofE (RE.var 2 rfl rfl vf_rounded_table_told k_told)))) (fun y30 _ _ _ _ _ => (RG.tup2 rfl (RG.tup2 rfl (RG.name 15 nd_rounded_table rfl (locB rfl) (by first | exact .inr rfl | exact .inl rfl) rfl) (RG.name 16 nd_rounded_table rfl (locB rfl) (by first | exact .inr rfl | exact .inl rfl) rfl)) (RG.name 14 nd_rounded_table rfl (locB rfl) (by first | exact .inr rfl | exact .inl rfl) rfl))) (fun _ => .inl ⟨rfl, rfl⟩) (fun y30 _ _ _ _ _ => (RE.bin o_sub (RE.bor (RE.var 15 rfl rfl (visB rfl) k_high)) (RE.bor (RE.b1 (b_sumL rfl) rfl z_sum bb_sum (RE.bor (RE.var 14 rfl rfl (visB rfl) k_line)) rfl kb_sum)))) (fun _ => rfl)))) (RA.br (RE.bor (RF.re (RF.lc (own := [("line", 14), ("_", 16), ("low", 17)]) (ix := [16, 17, 14]) (tE := (fun y31 : ((Int × Int) × (List Int)) => [Br v_rows, I v_base, I w2, I w7, I w12, I w15, I w20, U, I w1.1, I w1.2, U, U, U, U, I y31.2, U, I y31.1.1, I y31.1.2, U])) rfl nd_rounded_table (blkOk_by rfl) (by decide) (by decide) (RI.zipQ rfl z_zip (RQ.ofP (RP.ofE (RE.var 4 rfl rfl vf_rounded_table_left k_left))) (RQ.ofP (RP.ofE (RE.var 2 rfl rfl vf_rounded_table_told k_told)))) (fun y31 _ _ _ _ _ => (RG.tup2 rfl (RG.tup2 rfl (RG.name 16 nd_rounded_table rfl (locB rfl) (by first | exact .inr rfl | exact .inl rfl) rfl) (RG.name 17 nd_rounded_table rfl (locB rfl) (by first | exact .inr rfl | exact .inl rfl) rfl)) (RG.name 14 nd_rounded_table rfl (locB rfl) (by first | exact .inr rfl | exact .inl rfl) rfl))) (fun _ => .inl ⟨rfl, rfl⟩) (fun y31 _ _ _ _ _ => (RE.bin o_sub (RE.bor (RE.var 17 rfl rfl (visB rfl) k_low)) (RE.bor (RE.b1 (b_sumL rfl) rfl z_sum bb_sum (RE.bor (RE.var 14 rfl rfl (visB rfl) k_line)) rfl kb_sum)))) (fun _ => rfl)))) (RA.br (RE.bor (RF.re (RF.lc (own := [("at", 11), ("high", 15), ("_", 16)]) (ix := [11, 15, 16]) (tE := (fun y32 : (Int × (Int × Int)) => [Br v_rows, I v_base, I w2, I w7, I w12, I w15, I w20, U, I w1.1, I w1.2, U, I y32.1, U, U, U, I y32.2.1, I y32.2.2, U, U])) rfl nd_rounded_table (blkOk_by rfl) (by decide) (by decide) (RI.enumQ rfl z_enumerate (RQ.ofP (RP.ofE (RE.var 6 rfl rfl vf_rounded_table_right k_right)))) (fun y32 _ _ _ _ _ => (RG.tup2 rfl (RG.name 11 nd_rounded_table rfl (locB rfl) (by first | exact .inr rfl | exact .inl rfl) rfl) (RG.tup2 rfl (RG.name 15 nd_rounded_table rfl (locB rfl) (by first | exact .inr rfl | exact .inl rfl) rfl) (RG.name 16 nd_rounded_table rfl (locB rfl) (by first | exact .inr rfl | exact .inl rfl) rfl)))) (fun _ => .inl ⟨rfl, rfl⟩) (fun y32 _ _ _ _ _ => (RE.bin o_sub (RE.bor (RE.var 15 rfl rfl (visB rfl) k_high)) (RE.bor (RE.b1 (b_sumL rfl) rfl z_sum bb_sum (RE.bor (RF.re (RF.lc (own := [("line", 14)]) (ix := [14]) (tE := (fun y33 : (List Int) => [Br v_rows, I v_base, I w2, I w7, I w12, I w15, I w20, U, I w1.1, I w1.2, U, I y32.1, U, U, I y33, I y32.2.1, I y32.2.2, U, U])) rfl nd_rounded_table (blkOk_by rfl) (by decide) (by decide) (RI.list (RP.ofE (RE.var 2 rfl rfl (visB rfl) k_told))) (fun y33 _ _ _ _ _ => (RG.name 14 nd_rounded_table rfl (locB rfl) (by first | exact .inr rfl | exact .inl rfl) rfl)) (fun _ => .inl ⟨rfl, rfl⟩) (fun y33 _ _ _ _ _ => (RE.ix x_list (RE.bor (RE.var 14 rfl rfl (visB rfl) k_line)) (RE.bor (RE.var 11 rfl rfl (visB rfl) k_at)) (fun _ _ => rfl))) (fun _ => rfl)))) rfl kb_sum)))) (fun _ => rfl)))) (RA.br (RE.bor (RF.re (RF.lc (own := [("at", 11), ("_", 16), ("low", 17)]) (ix := [11, 16, 17]) (tE := (fun y34 : (Int × (Int × Int)) => [Br v_rows, I v_base, I w2, I w7, I w12, I w15, I w20, U, I w1.1, I w1.2, U, I y34.1, U, U, U, U, I y34.2.1, I y34.2.2, U])) rfl nd_rounded_table (blkOk_by rfl) (by decide) (by decide) (RI.enumQ rfl z_enumerate (RQ.ofP (RP.ofE (RE.var 6 rfl rfl vf_rounded_table_right k_right)))) (fun y34 _ _ _ _ _ => (RG.tup2 rfl (RG.name 11 nd_rounded_table rfl (locB rfl) (by first | exact .inr rfl | exact .inl rfl) rfl) (RG.tup2 rfl (RG.name 16 nd_rounded_table rfl (locB rfl) (by first | exact .inr rfl | exact .inl rfl) rfl) (RG.name 17 nd_rounded_table rfl (locB rfl) (by first | exact .inr rfl | exact .inl rfl) rfl)))) (fun _ => .inl ⟨rfl, rfl⟩) (fun y34 _ _ _ _ _ => (RE.bin o_sub (RE.bor (RE.var 17 rfl rfl (visB rfl) k_low)) (RE.bor (RE.b1 (b_sumL rfl) rfl z_sum bb_sum (RE.bor (RF.re (RF.lc (own := [("line", 14)]) (ix := [14]) (tE := (fun y35 : (List Int) => [Br v_rows, I v_base, I w2, I w7, I w12, I w15, I w20, U, I w1.1, I w1.2, U, I y34.1, U, U, I y35, U, I y34.2.1, I y34.2.2, U])) rfl nd_rounded_table (blkOk_by rfl) (by decide) (by decide) (RI.list (RP.ofE (RE.var 2 rfl rfl (visB rfl) k_told))) (fun y35 _ _ _ _ _ => (RG.name 14 nd_rounded_table rfl (locB rfl) (by first | exact .inr rfl | exact .inl rfl) rfl)) (fun _ => .inl ⟨rfl, rfl⟩) (fun y35 _ _ _ _ _ => (RE.ix x_list (RE.bor (RE.var 14 rfl rfl (visB rfl) k_line)) (RE.bor (RE.var 11 rfl rfl (visB rfl) k_at)) (fun _ _ => rfl))) (fun _ => rfl)))) rfl kb_sum)))) (fun _ => rfl)))) RA.nil))))) k_least_choice) (fun _ => rfl)) fun w23 =>
  (BR.ret (RE.ty1 b_tupL rfl z_tuple bb_tuple (RE.bor (RF.re (RF.lc (own := [("a", 13)]) (ix := [13]) (tE := (fun y36 : Int => [Br v_rows, I v_base, I w2, I w7, I w12, I w15, I w20, I w23, I w1.1, I w1.2, U, U, U, I y36, U, U, U, U, U])) rfl nd_rounded_table (blkOk_by rfl) (by decide) (by decide) (RI.range1 rfl z_range (RE.bor (RE.var 8 rfl rfl vf_rounded_table_many k_many))) (fun y36 _ _ _ _ _ => (RG.name 13 nd_rounded_table rfl (locB rfl) (by first | exact .inr rfl | exact .inl rfl) rfl)) (fun _ => .inl ⟨rfl, rfl⟩) (fun y36 _ _ _ _ _ => (RE.ty1 b_tupL rfl z_tuple bb_tuple (RE.bor (RF.re (RF.lc (own := [("b", 18)]) (ix := [18]) (tE := (fun y37 : Int => [Br v_rows, I v_base, I w2, I w7, I w12, I w15, I w20, I w23, I w1.1, I w1.2, U, U, U, I y36, U, U, U, U, I y37])) rfl nd_rounded_table (blkOk_by rfl) (by decide) (by decide) (RI.range1 rfl z_range (RE.bor (RE.var 9 rfl rfl (visB rfl) k_width))) (fun y37 _ _ _ _ _ => (RG.name 18 nd_rounded_table rfl (locB rfl) (by first | exact .inr rfl | exact .inl rfl) rfl)) (fun _ => .inl ⟨rfl, rfl⟩) (fun y37 _ _ _ _ _ => (RE.bin o_add (RE.bor (RE.ix x_list (RE.bor (RE.ix x_list (RE.bor (RE.var 2 rfl rfl (visB rfl) k_told)) (RE.bor (RE.var 13 rfl rfl (visB rfl) k_a)) (fun _ _ => rfl))) (RE.bor (RE.var 18 rfl rfl (visB rfl) k_b)) (fun _ _ => rfl))) (RE.bor (RE.ix x_tu (RE.bor (RE.ix x_tu (RE.bor (RE.unO (RE.var 7 rfl rfl (visB rfl) k_chosen))) (RE.bor (RE.var 13 rfl rfl (visB rfl) k_a)) (fun _ _ => rfl))) (RE.bor (RE.var 18 rfl rfl (visB rfl) k_b)) (fun _ _ => rfl))))) (fun _ => rfl)))) rfl kb_tuple)) (fun _ => rfl)))) rfl kb_tuple)))))))))
  exact RdS.imp (h hp) (fun _ z => z) (fun d e => by rw [e]; exact hP) (fun _ z => z) (fun _ z => z)⟩
/-! ## is_rounded -/
abbrev s_is_rounded : Stmt := topS 4
abbrev n_is_rounded : List Str := ["rows", "base", "told", "pairs", "at", "one", "other", "a", "b", "row"]
theorem sc_is_rounded : FnScope n_is_rounded ["rows", "base", "told"] (defScope s_is_rounded) := ⟨rfl, rfl, rfl, by decide +kernel, rfl, by decide +kernel, by decide +kernel⟩
theorem nd_is_rounded : (n_is_rounded).Nodup := sc_is_rounded.nd
theorem lf_is_rounded_rows : L2.Loc (defScope s_is_rounded) "rows" := locB rfl
theorem vf_is_rounded_rows : L2.Vis (defScope s_is_rounded) "rows" := visB rfl
theorem lf_is_rounded_base : L2.Loc (defScope s_is_rounded) "base" := locB rfl
theorem vf_is_rounded_base : L2.Vis (defScope s_is_rounded) "base" := visB rfl
theorem lf_is_rounded_told : L2.Loc (defScope s_is_rounded) "told" := locB rfl
theorem vf_is_rounded_told : L2.Vis (defScope s_is_rounded) "told" := visB rfl
theorem lf_is_rounded_pairs : L2.Loc (defScope s_is_rounded) "pairs" := locB rfl
theorem vf_is_rounded_pairs : L2.Vis (defScope s_is_rounded) "pairs" := visB rfl
theorem lf_is_rounded_at : L2.Loc (defScope s_is_rounded) "at" := locB rfl
theorem vf_is_rounded_at : L2.Vis (defScope s_is_rounded) "at" := visB rfl
def m_is_rounded (v_rows : (List (List Int))) (v_base : Int) (v_told : (Tu (Tu Int))) : R Bool :=
  (R.ite (R.or (R.o2 T2 (fun i j : Int => !decide (i = j)) (R.o1 T1 (fun xs : (Tu (Tu Int)) => (xs.l.length : Int)) (R.pure v_told)) (R.o1 T1 (fun xs : (List (List Int)) => (xs.length : Int)) (R.pure v_rows))) (R.o1 T1 (fun i : Bool => i) (R.gx (α := ((List Int) × (Tu Int))) true (R.zip (R.pure v_rows) (R.map Tu.l (R.pure v_told))) (fun _ => R.pure true) (fun y1 => (R.o2 T2 (fun i j : Int => !decide (i = j)) (R.o1 T1 (fun xs : (List Int) => (xs.length : Int)) (R.pure y1.1)) (R.o1 T1 (fun xs : (Tu Int) => (xs.l.length : Int)) (R.pure y1.2))))))) (R.pure false)
  (R.bind (R.lc2 (α := ((List Int) × (Tu Int))) (γ := (Int × Int)) (R.zip (R.pure v_rows) (R.map Tu.l (R.pure v_told))) (fun y5 => R.pure true) (fun y5 => (R.zip (R.pure y5.1) (R.map Tu.l (R.pure y5.2)))) (fun y5 y6 => R.pure true) (fun y5 y6 => (R.tup2 (R.pure y6.1) (R.pure y6.2)))) fun w2 =>
  (R.bind (R.o2 (fun (xs ys : (List (Int × Int))) => xs.length + ys.length ≤ 1000000) (fun xs ys => xs ++ ys) (R.pure w2) (R.lc (α := ((List Int) × (Tu Int))) (R.zip (R.pure v_rows) (R.map Tu.l (R.pure v_told))) (fun _ => R.pure true) (fun y8 => (R.tup2 (R.o1 T1 (fun xs : List Int => xs.sum) (R.pure y8.1)) (R.o1 T1 (fun xs : Tu Int => xs.l.sum) (R.pure y8.2)))))) fun w7 =>
  (R.bind (R.fold (α := Int) (R.rng1 (R.o1 T1 (fun xs : (List Int) => (xs.length : Int)) (R.o2 (fun (xs : (List (List Int))) i => ixOk xs.length i) nth (R.pure v_rows) (R.pure (0 : Int))))) (w7 : (List (Int × Int))) (fun s9 x10 =>
  (R.bind (R.app s9 (R.tup2 (R.o1 T1 (fun xs : List Int => xs.sum) (R.lc (α := (List Int)) (R.pure v_rows) (fun _ => R.pure true) (fun y11 => (R.o2 (fun (xs : (List Int)) i => ixOk xs.length i) nth (R.pure y11) (R.pure x10))))) (R.o1 T1 (fun xs : List Int => xs.sum) (R.lc (α := (Tu Int)) (R.map Tu.l (R.pure v_told)) (fun _ => R.pure true) (fun y12 => (R.o2 (fun (xs : (Tu Int)) i => ixOk xs.l.length i) (fun xs i => nth xs.l i) (R.pure y12) (R.pure x10))))))) fun w13 =>
  (R.pure (w13 : (List (Int × Int))))))) fun w14 =>
  (R.gx (α := (Int × Int)) false (R.pure w14) (fun _ => R.pure true) (fun y15 => (R.chain T2 (fun i j : Int => decide (i ≤ j)) T2 (fun i j : Int => decide (i ≤ j)) (R.o2 CDiv (fun i j : Int => i / j) (R.pure y15.1) (R.pure v_base)) (R.pure y15.2) (R.o1 T1 (fun i : Int => -i) (R.o2 CDiv (fun i j : Int => i / j) (R.o1 T1 (fun i : Int => -i) (R.pure y15.1)) (R.pure v_base))))))))))
theorem w_is_rounded {P : Program} {w : World} {K : PySem.W.Frag} {mg : Str → Option Value} {base : Heap} {T : Addr → Prop} (z_all : mg "all" = none) (z_any : mg "any" = none) (z_len : mg "len" = none) (z_range : mg "range" = none) (z_sum : mg "sum" = none) (z_zip : mg "zip" = none)
    {f : Addr} {fd : FuncData} (F : FunD K "is_rounded" "is_rounded" (defArgs s_is_rounded) (defBody s_is_rounded) (defScope s_is_rounded) [] [] f fd) (hm : mg "is_rounded" = some (.ref f)) (hb : Binds K fd ["rows", "base", "told"] []) {cT PT : Addr} (tb : GxR.TabB base mg cT PT) (hT : T PT) (hcode : fd.code = .ref cT) : Fn P w K mg base 2 "is_rounded" (SpD K T [false, true, true] (G3 m_is_rounded)) :=
  Fn.of F sc_is_rounded hm hb rfl fun ds P0 ⟨v_rows, v_base, v_told, hds, hp, hP⟩ => ⟨[Br v_rows, I v_base, I v_told], by rw [hds]; exact (.br (.im (.im .nil))), fun cd A outer s H E hcd hr => by
  have pown : PassesOwn (model P w) (cxF P w K mg base n_is_rounded "is_rounded" (defScope s_is_rounded) f cd A outer s H E).A (cxF P w K mg base n_is_rounded "is_rounded" (defScope s_is_rounded) f cd A outer s H E).env (fun _ _ => False) := PassesOwn.never
  have h : BR (cxF P w K mg base n_is_rounded "is_rounded" (defScope s_is_rounded) f cd A outer s H E) (noM T) (defBody s_is_rounded) [Br v_rows, I v_base, I v_told, U, U, U, U, U, U, U] (m_is_rounded v_rows v_base v_told) :=
   (BR.cut (RW.t (RW.or (RT.cmp c_neI (RE.bor (RE.b1 b_lenT rfl z_len boot_len (RE.bor (RE.var 2 rfl rfl vf_is_rounded_told k_told)) rfl kb_len)) (RE.bor (RE.b1 b_lenL rfl z_len boot_len (RB.varB 0 rfl rfl vf_is_rounded_rows k_rows) rfl kb_len)) (nm_ne _)) (RT.or1 (RT.tru t_bool (RE.bor (RE.anyG (own := [("a", 7), ("b", 8)]) (ix := [7, 8]) (tE := (fun y1 : ((List Int) × (Tu Int)) => [Br v_rows, I v_base, I v_told, U, U, U, U, I y1.1, I y1.2, U])) hr rfl z_any nd_is_rounded tb hT (hcd.symm.trans hcode) rfl (cell_by rfl) rfl (blkOk_by rfl) (by decide) (by decide) (RI.zipQ rfl z_zip (RQ.ofP (RP.ofB (RB.varB 0 rfl rfl vf_is_rounded_rows k_rows))) (RQ.ofT (RE.var 2 rfl rfl vf_is_rounded_told k_told))) (fun y1 _ _ _ _ _ _ hrg => (RG.tup2 rfl (RG.name 7 nd_is_rounded rfl (locB rfl) (by first | exact .inr rfl | exact .inl rfl) rfl) (RG.name 8 nd_is_rounded rfl (locB rfl) (by first | exact .inr rfl | exact .inl rfl) rfl))) (fun _ => .inl ⟨rfl, rfl⟩) (fun y1 _ _ _ _ _ _ hrg => (RE.cmp c_neI (RE.bor (RE.b1 b_lenL rfl z_len boot_len (RE.bor (RE.var 7 rfl rfl (visB rfl) k_a)) rfl kb_len)) (RE.bor (RE.b1 b_lenT rfl z_len boot_len (RE.bor (RE.var 8 rfl rfl (visB rfl) k_b)) rfl kb_len)) (nm_ne _))) (fun _ => rfl))) (fun _ => rfl))))) (BR.ret RE.bl)
  (BR.cons (SN.lc2F (E := fun w2 : (List (Int × Int)) => [Br v_rows, I v_base, I v_told, Ow w2, U, U, U, U, U, U]) (own := [("one", 5), ("other", 6), ("a", 7), ("b", 8)]) (ix := [5, 6]) (ix1 := [7, 8]) (vs1 := [7, 8]) (tE := (fun y5 : ((List Int) × (Tu Int)) => [Br v_rows, I v_base, I v_told, U, U, I y5.1, I y5.2, U, U, U])) (tE1 := (fun (y5 : ((List Int) × (Tu Int))) (y6 : (Int × Int)) => [Br v_rows, I v_base, I v_told, U, U, I y5.1, I y5.2, I y6.1, I y6.2, U])) 3 (fun _ => rfl) rfl nd_is_rounded rfl rfl (sw_true rfl rfl rfl (by decide +kernel)) (blkOk_by rfl) (by decide) (by decide) (by decide) (by decide) (by decide) (RI.zipQ rfl z_zip (RQ.ofP (RP.ofB (RB.varB 0 rfl rfl vf_is_rounded_rows k_rows))) (RQ.ofT (RE.var 2 rfl rfl vf_is_rounded_told k_told))) (fun y5 _ _ _ _ _ => (RG.tup2 rfl (RG.name 5 nd_is_rounded rfl (locB rfl) (by first | exact .inr rfl | exact .inl rfl) rfl) (RG.name 6 nd_is_rounded rfl (locB rfl) (by first | exact .inr rfl | exact .inl rfl) rfl))) (fun y5 => .inl ⟨rfl, rfl⟩) (fun y5 _ _ _ _ _ => (RI.zipQ rfl z_zip (RQ.ofP (RP.ofE (RE.var 5 rfl rfl (visB rfl) k_one))) (RQ.ofT (RE.var 6 rfl rfl (visB rfl) k_other)))) (fun y5 y6 _ _ _ _ _ => (RG.tup2 rfl (RG.name 7 nd_is_rounded rfl (locB rfl) (by first | exact .inr rfl | exact .inl rfl) rfl) (RG.name 8 nd_is_rounded rfl (locB rfl) (by first | exact .inr rfl | exact .inl rfl) rfl))) (fun y5 y6 => .inl ⟨rfl, rfl⟩) (fun y5 y6 _ _ _ _ _ => (RE.tup2 (RA.im (RE.var 7 rfl rfl (visB rfl) k_a) (RA.im (RE.var 8 rfl rfl (visB rfl) k_b) RA.nil)))) (fun _ => rfl) (fun _ _ => rfl)) fun w2 =>
  (BR.cons (SN.setF (E := fun w7 : (List (Int × Int)) => [Br v_rows, I v_base, I v_told, Ow w7, U, U, U, U, U, U]) 3 nd_is_rounded rfl lf_is_rounded_pairs (.inl rfl) (RF.bin o_cat (RB.varO 3 rfl rfl vf_is_rounded_pairs k_pairs) (RE.bor (RF.re (RF.lc (own := [("one", 5), ("other", 6)]) (ix := [5, 6]) (tE := (fun y8 : ((List Int) × (Tu Int)) => [Br v_rows, I v_base, I v_told, Ow w2, U, I y8.1, I y8.2, U, U, U])) rfl nd_is_rounded (blkOk_by rfl) (by decide) (by decide) (RI.zipQ rfl z_zip (RQ.ofP (RP.ofB (RB.varB 0 rfl rfl vf_is_rounded_rows k_rows))) (RQ.ofT (RE.var 2 rfl rfl vf_is_rounded_told k_told))) (fun y8 _ _ _ _ _ => (RG.tup2 rfl (RG.name 5 nd_is_rounded rfl (locB rfl) (by first | exact .inr rfl | exact .inl rfl) rfl) (RG.name 6 nd_is_rounded rfl (locB rfl) (by first | exact .inr rfl | exact .inl rfl) rfl))) (fun _ => .inl ⟨rfl, rfl⟩) (fun y8 _ _ _ _ _ => (RE.tup2 (RA.im (RE.b1 (b_sumL rfl) rfl z_sum bb_sum (RE.bor (RE.var 5 rfl rfl (visB rfl) k_one)) rfl kb_sum) (RA.im (RE.b1 (b_sumT rfl) rfl z_sum bb_sum (RE.bor (RE.var 6 rfl rfl (visB rfl) k_other)) rfl kb_sum) RA.nil)))) (fun _ => rfl))))) (fun _ => rfl)) fun w7 =>
  (BR.cons (SN.for (E := (fun s9 : (List (Int × Int)) => [Br v_rows, I v_base, I v_told, Ow s9, U, U, U, U, U, U])) (tE := (fun (s9 : (List (Int × Int))) (x10 : Int) => [Br v_rows, I v_base, I v_told, Ow s9, I x10, U, U, U, U, U])) (ix := [4]) w7 pown rfl (.r (.r (.r (.r (.r (.r (.r (.r (.r (.r .n)))))))))) (RI.range1 rfl z_range (RE.bor (RE.b1 b_lenL rfl z_len boot_len (RE.bor (RE.ix x_list (RB.varB 0 rfl rfl vf_is_rounded_rows k_rows) (RE.bor RE.int) (fun _ _ => rfl))) rfl kb_len))) (fun _ _ => (RG.name 4 nd_is_rounded rfl lf_is_rounded_at (.inl rfl) rfl)) (fun s9 x10 =>
  (BN.cons (SN.append (E := (fun w13 : (List (Int × Int)) => [Br v_rows, I v_base, I v_told, Ow w13, I x10, U, U, U, U, U])) 3 rfl (fun _ => rfl) rfl vf_is_rounded_pairs k_pairs (RE.tup2 (RA.im (RE.b1 (b_sumL rfl) rfl z_sum bb_sum (RE.bor (RF.re (RF.lc (own := [("row", 9)]) (ix := [9]) (tE := (fun y11 : (List Int) => [Br v_rows, I v_base, I v_told, Ow s9, I x10, U, U, U, U, I y11])) rfl nd_is_rounded (blkOk_by rfl) (by decide) (by decide) (RI.list (RP.ofB (RB.varB 0 rfl rfl vf_is_rounded_rows k_rows))) (fun y11 _ _ _ _ _ => (RG.name 9 nd_is_rounded rfl (locB rfl) (by first | exact .inr rfl | exact .inl rfl) rfl)) (fun _ => .inl ⟨rfl, rfl⟩) (fun y11 _ _ _ _ _ => (RE.ix x_list (RE.bor (RE.var 9 rfl rfl (visB rfl) k_row)) (RE.bor (RE.var 4 rfl rfl (visB rfl) k_at)) (fun _ _ => rfl))) (fun _ => rfl)))) rfl kb_sum) (RA.im (RE.b1 (b_sumL rfl) rfl z_sum bb_sum (RE.bor (RF.re (RF.lc (own := [("row", 9)]) (ix := [9]) (tE := (fun y12 : (Tu Int) => [Br v_rows, I v_base, I v_told, Ow s9, I x10, U, U, U, U, I y12])) rfl nd_is_rounded (blkOk_by rfl) (by decide) (by decide) (RI.tup (RE.var 2 rfl rfl vf_is_rounded_told k_told)) (fun y12 _ _ _ _ _ => (RG.name 9 nd_is_rounded rfl (locB rfl) (by first | exact .inr rfl | exact .inl rfl) rfl)) (fun _ => .inl ⟨rfl, rfl⟩) (fun y12 _ _ _ _ _ => (RE.ix x_tu (RE.bor (RE.var 9 rfl rfl (visB rfl) k_row)) (RE.bor (RE.var 4 rfl rfl (visB rfl) k_at)) (fun _ _ => rfl))) (fun _ => rfl)))) rfl kb_sum) RA.nil)))) fun w13 =>
  (BN.nil w13 (.r (.r (.r (.r (.u (.r (.r (.r (.r (.r .n))))))))))))) (fun _ => rfl)) fun w14 =>
  (BR.ret (RE.allG (own := [("a", 7), ("b", 8)]) (ix := [7, 8]) (tE := (fun y15 : (Int × Int) => [Br v_rows, I v_base, I v_told, Ow w14, U, U, U, I y15.1, I y15.2, U])) hr rfl z_all nd_is_rounded tb hT (hcd.symm.trans hcode) rfl (cell_by rfl) rfl (blkOk_by rfl) (by decide) (by decide) (RI.list (RP.ofB (RB.varO 3 rfl rfl vf_is_rounded_pairs k_pairs))) (fun y15 _ _ _ _ _ _ hrg => (RG.tup2 rfl (RG.name 7 nd_is_rounded rfl (locB rfl) (by first | exact .inr rfl | exact .inl rfl) rfl) (RG.name 8 nd_is_rounded rfl (locB rfl) (by first | exact .inr rfl | exact .inl rfl) rfl))) (fun _ => .inl ⟨rfl, rfl⟩) (fun y15 _ _ _ _ _ _ hrg => (RE.chain c_le c_le (RE.bor (RE.bin o_fdiv (RE.bor (RE.var 7 rfl rfl (visB rfl) k_a)) (RE.bor (RE.var 1 rfl rfl (visB rfl) k_base)))) (RE.bor (RE.var 8 rfl rfl (visB rfl) k_b)) (RE.bor (RE.un u_neg (RE.bor (RE.bin o_fdiv (RE.bor (RE.un u_neg (RE.bor (RE.var 7 rfl rfl (visB rfl) k_a)))) (RE.bor (RE.var 1 rfl rfl (visB rfl) k_base)))))) (by with_unfolding_all rfl))) (fun _ => rfl)))))))
  exact RdS.imp (h hp) (fun _ z => z) (fun d e => by rw [e]; exact hP) (fun _ z => z) (fun _ z => z)⟩
/-! ## _law_rounds -/
abbrev s__law_rounds : Stmt := topS 9
abbrev n__law_rounds : List Str := ["rows", "base", "told", "pairs", "i", "j", "a", "b", "row"]
theorem sc__law_rounds : FnScope n__law_rounds ["rows", "base", "told"] (defScope s__law_rounds) := ⟨rfl, rfl, rfl, by decide +kernel, rfl, by decide +kernel, by decide +kernel⟩
theorem nd__law_rounds : (n__law_rounds).Nodup := sc__law_rounds.nd
theorem lf__law_rounds_rows : L2.Loc (defScope s__law_rounds) "rows" := locB rfl
theorem vf__law_rounds_rows : L2.Vis (defScope s__law_rounds) "rows" := visB rfl
theorem lf__law_rounds_base : L2.Loc (defScope s__law_rounds) "base" := locB rfl
theorem vf__law_rounds_base : L2.Vis (defScope s__law_rounds) "base" := visB rfl
theorem lf__law_rounds_told : L2.Loc (defScope s__law_rounds) "told" := locB rfl
theorem vf__law_rounds_told : L2.Vis (defScope s__law_rounds) "told" := visB rfl
theorem lf__law_rounds_pairs : L2.Loc (defScope s__law_rounds) "pairs" := locB rfl
theorem vf__law_rounds_pairs : L2.Vis (defScope s__law_rounds) "pairs" := visB rfl
theorem lf__law_rounds_i : L2.Loc (defScope s__law_rounds) "i" := locB rfl
theorem vf__law_rounds_i : L2.Vis (defScope s__law_rounds) "i" := visB rfl
theorem lf__law_rounds_j : L2.Loc (defScope s__law_rounds) "j" := locB rfl
theorem vf__law_rounds_j : L2.Vis (defScope s__law_rounds) "j" := visB rfl
def m__law_rounds (v_rows : (List (List Int))) (v_base : Int) (v_told : (Tu (Tu Int))) : R Bool :=
  (R.ite (R.or (R.o2 T2 (fun i j : Int => !decide (i = j)) (R.o1 T1 (fun xs : (Tu (Tu Int)) => (xs.l.length : Int)) (R.pure v_told)) (R.o1 T1 (fun xs : (List (List Int)) => (xs.length : Int)) (R.pure v_rows))) (R.not (R.o1 T1 (fun i : Bool => i) (R.o1 T1 (fun xs : List Bool => xs.all id) (R.lc (α := Int) (R.rng1 (R.o1 T1 (fun xs : (List (List Int)) => (xs.length : Int)) (R.pure v_rows))) (fun _ => R.pure true) (fun y1 => (R.o2 T2 (fun i j : Int => decide (i = j)) (R.o1 T1 (fun xs : (Tu Int) => (xs.l.length : Int)) (R.o2 (fun (xs : (Tu (Tu Int))) i => ixOk xs.l.length i) (fun xs i => nth xs.l i) (R.pure v_told) (R.pure y1))) (R.o1 T1 (fun xs : (List Int) => (xs.length : Int)) (R.o2 (fun (xs : (List (List Int))) i => ixOk xs.length i) nth (R.pure v_rows) (R.pure y1)))))))))) (R.pure false)
  (R.bind (R.lc (α := Int) (R.rng1 (R.o1 T1 (fun xs : (List (List Int)) => (xs.length : Int)) (R.pure v_rows))) (fun _ => R.pure true) (fun y4 => (R.tup2 (R.o1 T1 (fun xs : List Int => xs.sum) (R.o2 (fun (xs : (List (List Int))) i => ixOk xs.length i) nth (R.pure v_rows) (R.pure y4))) (R.o1 T1 (fun xs : Tu Int => xs.l.sum) (R.o2 (fun (xs : (Tu (Tu Int))) i => ixOk xs.l.length i) (fun xs i => nth xs.l i) (R.pure v_told) (R.pure y4)))))) fun w2 =>
  (R.bind (R.fold (α := Int) (R.rng1 (R.o1 T1 (fun xs : (List (List Int)) => (xs.length : Int)) (R.pure v_rows))) (w2 : (List (Int × Int))) (fun s5 x6 =>
  (R.bind (R.o2 (fun (xs ys : (List (Int × Int))) => xs.length + ys.length ≤ 1000000) (fun xs ys => xs ++ ys) (R.pure s5) (R.lc (α := Int) (R.rng1 (R.o1 T1 (fun xs : (List Int) => (xs.length : Int)) (R.o2 (fun (xs : (List (List Int))) i => ixOk xs.length i) nth (R.pure v_rows) (R.pure x6)))) (fun _ => R.pure true) (fun y8 => (R.tup2 (R.o2 (fun (xs : (List Int)) i => ixOk xs.length i) nth (R.o2 (fun (xs : (List (List Int))) i => ixOk xs.length i) nth (R.pure v_rows) (R.pure x6)) (R.pure y8)) (R.o2 (fun (xs : (Tu Int)) i => ixOk xs.l.length i) (fun xs i => nth xs.l i) (R.o2 (fun (xs : (Tu (Tu Int))) i => ixOk xs.l.length i) (fun xs i => nth xs.l i) (R.pure v_told) (R.pure x6)) (R.pure y8)))))) fun w7 =>
  (R.pure (w7 : (List (Int × Int))))))) fun w9 =>
  (R.bind (R.fold (α := Int) (R.rng1 (R.o1 T1 (fun xs : (List Int) => (xs.length : Int)) (R.o2 (fun (xs : (List (List Int))) i => ixOk xs.length i) nth (R.pure v_rows) (R.pure (0 : Int))))) (w9 : (List (Int × Int))) (fun s10 x11 =>
  (R.bind (R.app s10 (R.tup2 (R.o1 T1 (fun xs : List Int => xs.sum) (R.lc (α := (List Int)) (R.pure v_rows) (fun _ => R.pure true) (fun y12 => (R.o2 (fun (xs : (List Int)) i => ixOk xs.length i) nth (R.pure y12) (R.pure x11))))) (R.o1 T1 (fun xs : List Int => xs.sum) (R.lc (α := (Tu Int)) (R.map Tu.l (R.pure v_told)) (fun _ => R.pure true) (fun y13 => (R.o2 (fun (xs : (Tu Int)) i => ixOk xs.l.length i) (fun xs i => nth xs.l i) (R.pure y13) (R.pure x11))))))) fun w14 =>
  (R.pure (w14 : (List (Int × Int))))))) fun w15 =>
  (R.o1 T1 (fun xs : List Bool => xs.all id) (R.lc (α := (Int × Int)) (R.pure w15) (fun _ => R.pure true) (fun y16 => (R.and (R.o2 T2 (fun i j : Int => decide (i < j)) (R.o2 CMul (fun i j : Int => i * j) (R.o2 T2 (fun i j : Int => i - j) (R.pure y16.2) (R.pure (1 : Int))) (R.pure v_base)) (R.pure y16.1)) (R.o2 T2 (fun i j : Int => decide (i < j)) (R.pure y16.1) (R.o2 CMul (fun i j : Int => i * j) (R.o2 T2 (fun i j : Int => i + j) (R.pure y16.2) (R.pure (1 : Int))) (R.pure v_base)))))))))))
theorem w__law_rounds {P : Program} {w : World} {K : PySem.W.Frag} {mg : Str → Option Value} {base : Heap} {T : Addr → Prop} (z_all : mg "all" = none) (z_len : mg "len" = none) (z_range : mg "range" = none) (z_sum : mg "sum" = none)
    {f : Addr} {fd : FuncData} (F : FunD K "_law_rounds" "_law_rounds" (defArgs s__law_rounds) (defBody s__law_rounds) (defScope s__law_rounds) [] [] f fd) (hm : mg "_law_rounds" = some (.ref f)) (hb : Binds K fd ["rows", "base", "told"] []) : Fn P w K mg base 1 "_law_rounds" (SpD K T [false, true, true] (G3 m__law_rounds)) :=
  Fn.of F sc__law_rounds hm hb rfl fun ds P0 ⟨v_rows, v_base, v_told, hds, hp, hP⟩ => ⟨[Br v_rows, I v_base, I v_told], by rw [hds]; exact (.br (.im (.im .nil))), fun cd A outer s H E hcd hr => by
  have pown : PassesOwn (model P w) (cxF P w K mg base n__law_rounds "_law_rounds" (defScope s__law_rounds) f cd A outer s H E).A (cxF P w K mg base n__law_rounds "_law_rounds" (defScope s__law_rounds) f cd A outer s H E).env (fun _ _ => False) := PassesOwn.never
  have h : BR (cxF P w K mg base n__law_rounds "_law_rounds" (defScope s__law_rounds) f cd A outer s H E) (noM T) (defBody s__law_rounds) [Br v_rows, I v_base, I v_told, U, U, U, U, U, U] (m__law_rounds v_rows v_base v_told) :=
   (BR.cut (RW.t (RW.or (RT.cmp c_neI (RE.bor (RE.b1 b_lenT rfl z_len boot_len (RE.bor (RE.var 2 rfl rfl vf__law_rounds_told k_told)) rfl kb_len)) (RE.bor (RE.b1 b_lenL rfl z_len boot_len (RB.varB 0 rfl rfl vf__law_rounds_rows k_rows) rfl kb_len)) (nm_ne _)) (RT.or1 (RT.not (RT.tru t_bool (RE.bor (RE.b1 (b_all rfl) rfl z_all bb_all (RE.bor (RF.re (RF.lc (own := [("i", 4)]) (ix := [4]) (tE := (fun y1 : Int => [Br v_rows, I v_base, I v_told, U, I y1, U, U, U, U])) rfl nd__law_rounds (blkOk_by rfl) (by decide) (by decide) (RI.range1 rfl z_range (RE.bor (RE.b1 b_lenL rfl z_len boot_len (RB.varB 0 rfl rfl vf__law_rounds_rows k_rows) rfl kb_len))) (fun y1 _ _ _ _ _ => (RG.name 4 nd__law_rounds rfl (locB rfl) (by first | exact .inr rfl | exact .inl rfl) rfl)) (fun _ => .inl ⟨rfl, rfl⟩) (fun y1 _ _ _ _ _ => (RE.cmp c_eqI (RE.bor (RE.b1 b_lenT rfl z_len boot_len (RE.bor (RE.ix x_tu (RE.bor (RE.var 2 rfl rfl (visB rfl) k_told)) (RE.bor (RE.var 4 rfl rfl (visB rfl) k_i)) (fun _ _ => rfl))) rfl kb_len)) (RE.bor (RE.b1 b_lenL rfl z_len boot_len (RE.bor (RE.ix x_list (RB.varB 0 rfl rfl (visB rfl) k_rows) (RE.bor (RE.var 4 rfl rfl (visB rfl) k_i)) (fun _ _ => rfl))) rfl kb_len)) (nm_eq _))) (fun _ => rfl)))) rfl kb_all)) (fun _ => rfl)))))) (BR.ret RE.bl)
  (BR.cons (SN.lcF (E := fun w2 : (List (Int × Int)) => [Br v_rows, I v_base, I v_told, Ow w2, U, U, U, U, U]) (own := [("i", 4)]) (ix := [4]) (tE := (fun y4 : Int => [Br v_rows, I v_base, I v_told, U, I y4, U, U, U, U])) 3 (fun _ => rfl) rfl nd__law_rounds rfl rfl (sw_true rfl rfl rfl (by decide +kernel)) (blkOk_by rfl) (by decide) (by decide) (RI.range1 rfl z_range (RE.bor (RE.b1 b_lenL rfl z_len boot_len (RB.varB 0 rfl rfl vf__law_rounds_rows k_rows) rfl kb_len))) (fun y4 _ _ _ _ _ => (RG.name 4 nd__law_rounds rfl (locB rfl) (by first | exact .inr rfl | exact .inl rfl) rfl)) (fun _ => .inl ⟨rfl, rfl⟩) (fun y4 _ _ _ _ _ => (RE.tup2 (RA.im (RE.b1 (b_sumL rfl) rfl z_sum bb_sum (RE.bor (RE.ix x_list (RB.varB 0 rfl rfl (visB rfl) k_rows) (RE.bor (RE.var 4 rfl rfl (visB rfl) k_i)) (fun _ _ => rfl))) rfl kb_sum) (RA.im (RE.b1 (b_sumT rfl) rfl z_sum bb_sum (RE.bor (RE.ix x_tu (RE.bor (RE.var 2 rfl rfl (visB rfl) k_told)) (RE.bor (RE.var 4 rfl rfl (visB rfl) k_i)) (fun _ _ => rfl))) rfl kb_sum) RA.nil)))) (fun _ => rfl)) fun w2 =>
  (BR.cons (SN.for (E := (fun s5 : (List (Int × Int)) => [Br v_rows, I v_base, I v_told, Ow s5, U, U, U, U, U])) (tE := (fun (s5 : (List (Int × Int))) (x6 : Int) => [Br v_rows, I v_base, I v_told, Ow s5, I x6, U, U, U, U])) (ix := [4]) w2 pown rfl (.r (.r (.r (.r (.r (.r (.r (.r (.r .n))))))))) (RI.range1 rfl z_range (RE.bor (RE.b1 b_lenL rfl z_len boot_len (RB.varB 0 rfl rfl vf__law_rounds_rows k_rows) rfl kb_len))) (fun _ _ => (RG.name 4 nd__law_rounds rfl lf__law_rounds_i (.inl rfl) rfl)) (fun s5 x6 =>
  (BN.cons (SN.setF (E := fun w7 : (List (Int × Int)) => [Br v_rows, I v_base, I v_told, Ow w7, I x6, U, U, U, U]) 3 nd__law_rounds rfl lf__law_rounds_pairs (.inl rfl) (RF.bin o_cat (RB.varO 3 rfl rfl vf__law_rounds_pairs k_pairs) (RE.bor (RF.re (RF.lc (own := [("j", 5)]) (ix := [5]) (tE := (fun y8 : Int => [Br v_rows, I v_base, I v_told, Ow s5, I x6, I y8, U, U, U])) rfl nd__law_rounds (blkOk_by rfl) (by decide) (by decide) (RI.range1 rfl z_range (RE.bor (RE.b1 b_lenL rfl z_len boot_len (RE.bor (RE.ix x_list (RB.varB 0 rfl rfl vf__law_rounds_rows k_rows) (RE.bor (RE.var 4 rfl rfl vf__law_rounds_i k_i)) (fun _ _ => rfl))) rfl kb_len))) (fun y8 _ _ _ _ _ => (RG.name 5 nd__law_rounds rfl (locB rfl) (by first | exact .inr rfl | exact .inl rfl) rfl)) (fun _ => .inl ⟨rfl, rfl⟩) (fun y8 _ _ _ _ _ => (RE.tup2 (RA.im (RE.ix x_list (RE.bor (RE.ix x_list (RB.varB 0 rfl rfl (visB rfl) k_rows) (RE.bor (RE.var 4 rfl rfl (visB rfl) k_i)) (fun _ _ => rfl))) (RE.bor (RE.var 5 rfl rfl (visB rfl) k_j)) (fun _ _ => rfl)) (RA.im (RE.ix x_tu (RE.bor (RE.ix x_tu (RE.bor (RE.var 2 rfl rfl (visB rfl) k_told)) (RE.bor (RE.var 4 rfl rfl (visB rfl) k_i)) (fun _ _ => rfl))) (RE.bor (RE.var 5 rfl rfl (visB rfl) k_j)) (fun _ _ => rfl)) RA.nil)))) (fun _ => rfl))))) (fun _ => rfl)) fun w7 =>
  (BN.nil w7 (.r (.r (.r (.r (.u (.r (.r (.r (.r .n)))))))))))) (fun _ => rfl)) fun w9 =>
  (BR.cons (SN.for (E := (fun s10 : (List (Int × Int)) => [Br v_rows, I v_base, I v_told, Ow s10, U, U, U, U, U])) (tE := (fun (s10 : (List (Int × Int))) (x11 : Int) => [Br v_rows, I v_base, I v_told, Ow s10, U, I x11, U, U, U])) (ix := [5]) w9 pown rfl (.r (.r (.r (.r (.r (.r (.r (.r (.r .n))))))))) (RI.range1 rfl z_range (RE.bor (RE.b1 b_lenL rfl z_len boot_len (RE.bor (RE.ix x_list (RB.varB 0 rfl rfl vf__law_rounds_rows k_rows) (RE.bor RE.int) (fun _ _ => rfl))) rfl kb_len))) (fun _ _ => (RG.name 5 nd__law_rounds rfl lf__law_rounds_j (.inl rfl) rfl)) (fun s10 x11 =>
  (BN.cons (SN.append (E := (fun w14 : (List (Int × Int)) => [Br v_rows, I v_base, I v_told, Ow w14, U, I x11, U, U, U])) 3 rfl (fun _ => rfl) rfl vf__law_rounds_pairs k_pairs (RE.tup2 (RA.im (RE.b1 (b_sumL rfl) rfl z_sum bb_sum (RE.bor (RF.re (RF.lc (own := [("row", 8)]) (ix := [8]) (tE := (fun y12 : (List Int) => [Br v_rows, I v_base, I v_told, Ow s10, U, I x11, U, U, I y12])) rfl nd__law_rounds (blkOk_by rfl) (by decide) (by decide) (RI.list (RP.ofB (RB.varB 0 rfl rfl vf__law_rounds_rows k_rows))) (fun y12 _ _ _ _ _ => (RG.name 8 nd__law_rounds rfl (locB rfl) (by first | exact .inr rfl | exact .inl rfl) rfl)) (fun _ => .inl ⟨rfl, rfl⟩) (fun y12 _ _ _ _ _ => (RE.ix x_list (RE.bor (RE.var 8 rfl rfl (visB rfl) k_row)) (RE.bor (RE.var 5 rfl rfl (visB rfl) k_j)) (fun _ _ => rfl))) (fun _ => rfl)))) rfl kb_sum) (RA.im (RE.b1 (b_sumL rfl) rfl z_sum bb_sum (RE.bor (RF.re (RF.lc (own := [("row", 8)]) (ix := [8]) (tE := (fun y13 : (Tu Int) => [Br v_rows, I v_base, I v_told, Ow s10, U, I x11, U, U, I y13])) rfl nd__law_rounds (blkOk_by rfl) (by decide) (by decide) (RI.tup (RE.var 2 rfl rfl vf__law_rounds_told k_told)) (fun y13 _ _ _ _ _ => (RG.name 8 nd__law_rounds rfl (locB rfl) (by first | exact .inr rfl | exact .inl rfl) rfl)) (fun _ => .inl ⟨rfl, rfl⟩) (fun y13 _ _ _ _ _ => (RE.ix x_tu (RE.bor (RE.var 8 rfl rfl (visB rfl) k_row)) (RE.bor (RE.var 5 rfl rfl (visB rfl) k_j)) (fun _ _ => rfl))) (fun _ => rfl)))) rfl kb_sum) RA.nil)))) fun w14 =>
  (BN.nil w14 (.r (.r (.r (.r (.r (.u (.r (.r (.r .n)))))))))))) (fun _ => rfl)) fun w15 =>
  (BR.ret (RE.b1 (b_all rfl) rfl z_all bb_all (RE.bor (RF.re (RF.lc (own := [("a", 6), ("b", 7)]) (ix := [6, 7]) (tE := (fun y16 : (Int × Int) => [Br v_rows, I v_base, I v_told, Ow w15, U, U, I y16.1, I y16.2, U])) rfl nd__law_rounds (blkOk_by rfl) (by decide) (by decide) (RI.list (RP.ofB (RB.varO 3 rfl rfl vf__law_rounds_pairs k_pairs))) (fun y16 _ _ _ _ _ => (RG.tup2 rfl (RG.name 6 nd__law_rounds rfl (locB rfl) (by first | exact .inr rfl | exact .inl rfl) rfl) (RG.name 7 nd__law_rounds rfl (locB rfl) (by first | exact .inr rfl | exact .inl rfl) rfl))) (fun _ => .inl ⟨rfl, rfl⟩) (fun y16 _ _ _ _ _ => (RE.and (RE.bor (RE.cmp c_lt (RE.bor (RE.bin o_mul (RE.bor (RE.bin o_sub (RE.bor (RE.var 7 rfl rfl (visB rfl) k_b)) (RE.bor RE.int))) (RE.bor (RE.var 1 rfl rfl (visB rfl) k_base)))) (RE.bor (RE.var 6 rfl rfl (visB rfl) k_a)) (nm_lt _))) (RE.one (RE.cmp c_lt (RE.bor (RE.var 6 rfl rfl (visB rfl) k_a)) (RE.bor (RE.bin o_mul (RE.bor (RE.bin o_add (RE.bor (RE.var 7 rfl rfl (visB rfl) k_b)) (RE.bor RE.int))) (RE.bor (RE.var 1 rfl rfl (visB rfl) k_base)))) (nm_lt _))))) (fun _ => rfl)))) rfl kb_all))))))
  exact RdS.imp (h hp) (fun _ z => z) (fun d e => by rw [e]; exact hP) (fun _ z => z) (fun _ z => z)⟩
/-! ## law -/
abbrev s_law : Stmt := topS 10
abbrev n_law : List Str := ["script", "state", "k", "base", "rows", "every", "i", "tables", "good", "bent", "told", "many", "width", "j", "more", "row", "low", "high", "table"]
theorem sc_law : FnScope n_law ["script"] (defScope s_law) := ⟨rfl, rfl, rfl, by decide +kernel, rfl, by decide +kernel, by decide +kernel⟩
theorem nd_law : (n_law).Nodup := sc_law.nd
theorem lf_law_script : L2.Loc (defScope s_law) "script" := locB rfl
theorem vf_law_script : L2.Vis (defScope s_law) "script" := visB rfl
theorem lf_law_state : L2.Loc (defScope s_law) "state" := locB rfl
theorem vf_law_state : L2.Vis (defScope s_law) "state" := visB rfl
theorem lf_law_k : L2.Loc (defScope s_law) "k" := locB rfl
theorem vf_law_k : L2.Vis (defScope s_law) "k" := visB rfl
theorem lf_law_base : L2.Loc (defScope s_law) "base" := locB rfl
theorem vf_law_base : L2.Vis (defScope s_law) "base" := visB rfl
theorem lf_law_rows : L2.Loc (defScope s_law) "rows" := locB rfl
theorem vf_law_rows : L2.Vis (defScope s_law) "rows" := visB rfl
theorem lf_law_every : L2.Loc (defScope s_law) "every" := locB rfl
theorem vf_law_every : L2.Vis (defScope s_law) "every" := visB rfl
theorem lf_law_i : L2.Loc (defScope s_law) "i" := locB rfl
theorem vf_law_i : L2.Vis (defScope s_law) "i" := visB rfl
theorem lf_law_tables : L2.Loc (defScope s_law) "tables" := locB rfl
theorem vf_law_tables : L2.Vis (defScope s_law) "tables" := visB rfl
theorem lf_law_good : L2.Loc (defScope s_law) "good" := locB rfl
theorem vf_law_good : L2.Vis (defScope s_law) "good" := visB rfl
theorem lf_law_bent : L2.Loc (defScope s_law) "bent" := locB rfl
theorem vf_law_bent : L2.Vis (defScope s_law) "bent" := visB rfl
theorem lf_law_told : L2.Loc (defScope s_law) "told" := locB rfl
theorem vf_law_told : L2.Vis (defScope s_law) "told" := visB rfl
theorem lf_law_many : L2.Loc (defScope s_law) "many" := locB rfl
theorem vf_law_many : L2.Vis (defScope s_law) "many" := visB rfl
theorem lf_law_width : L2.Loc (defScope s_law) "width" := locB rfl
theorem vf_law_width : L2.Vis (defScope s_law) "width" := visB rfl
theorem lf_law_j : L2.Loc (defScope s_law) "j" := locB rfl
theorem vf_law_j : L2.Vis (defScope s_law) "j" := visB rfl
theorem lf_law_more : L2.Loc (defScope s_law) "more" := locB rfl
theorem vf_law_more : L2.Vis (defScope s_law) "more" := visB rfl
theorem lf_law_low : L2.Loc (defScope s_law) "low" := locB rfl
theorem vf_law_low : L2.Vis (defScope s_law) "low" := visB rfl
theorem lf_law_high : L2.Loc (defScope s_law) "high" := locB rfl
theorem vf_law_high : L2.Vis (defScope s_law) "high" := visB rfl
def wp_law : (Unit → Prop) → (Bool → Prop) → Prop :=
  (W.seq (W.for (α := Int) (N.of (R.rng1 (R.pure (3 : Int)))) (() : Unit) (fun s1 x2 =>
  (W.seq (W.of (N.tup2 (N.o2 T2 (fun i j : Int => i + j) (N.of (R.pure (1 : Int))) (N.d1 m_draw (N.of (R.pure (3 : Int))))) (N.o2 T2 (fun i j : Int => i + j) (N.of (R.pure (1 : Int))) (N.d1 m_draw (N.of (R.pure (3 : Int))))))) fun w3 =>
  (W.seq (W.of (N.o2 T2 (fun i j : Int => i + j) (N.of (R.pure (1 : Int))) (N.d1 m_draw (N.of (R.pure (10 : Int)))))) fun w4 =>
  (W.seq (W.of (N.lc (α := Int) (N.of (R.rng1 (R.pure w3.1))) (fun _ => R.pure true) (fun y8 => (N.lc (α := Int) (N.of (R.rng1 (R.pure w3.2))) (fun _ => R.pure true) (fun y9 => (N.d1 m_draw (N.of (R.o2 CMul (fun i j : Int => i * j) (R.pure (3 : Int)) (R.pure w4))))))))) fun w5 =>
  (W.seq (W.of (N.of (R.sz (R.lcons (R.map Tu.mk (R.sz (R.lnil (α := Int)))) (R.lnil (α := (Tu Int))))))) fun w10 =>
  (W.seq (W.of (N.of (R.fold (α := Int) (R.rng1 (R.pure w3.1)) (w10 : (List (Tu Int))) (fun s11 x12 =>
  (R.bind (R.fold (α := Int) (R.rng1 (R.pure w3.2)) (s11 : (List (Tu Int))) (fun s13 x14 =>
  (R.bind (R.tup2 (R.o2 CDiv (fun i j : Int => i / j) (R.o2 (fun (xs : (List Int)) i => ixOk xs.length i) nth (R.o2 (fun (xs : (List (List Int))) i => ixOk xs.length i) nth (R.pure w5) (R.pure x12)) (R.pure x14)) (R.pure w4)) (R.o2 CDiv (fun i j : Int => i / j) (R.o2 T2 (fun i j : Int => i - j) (R.o2 T2 (fun i j : Int => i + j) (R.o2 (fun (xs : (List Int)) i => ixOk xs.length i) nth (R.o2 (fun (xs : (List (List Int))) i => ixOk xs.length i) nth (R.pure w5) (R.pure x12)) (R.pure x14)) (R.pure w4)) (R.pure (1 : Int))) (R.pure w4))) fun w15 =>
  (R.bind (R.lc (α := (Tu Int)) (R.pure s13) (fun _ => R.pure true) (fun y18 => (R.o2 (fun (xs ys : (Tu Int)) => xs.l.length + ys.l.length ≤ 1000000) (fun xs ys => Tu.mk (xs.l ++ ys.l)) (R.pure y18) (R.map Tu.mk (R.sz (R.lcons (R.pure w15.1) (R.lnil (α := Int)))))))) fun w16 =>
  (R.bind (R.o2 (fun (xs ys : (List (Tu Int))) => xs.length + ys.length ≤ 1000000) (fun xs ys => xs ++ ys) (R.pure w16) (R.lc (α := (Tu Int)) (R.pure s13) (fun y21 => (R.o2 T2 (fun i j : Int => decide (j < i)) (R.pure w15.2) (R.pure w15.1))) (fun y21 => (R.o2 (fun (xs ys : (Tu Int)) => xs.l.length + ys.l.length ≤ 1000000) (fun xs ys => Tu.mk (xs.l ++ ys.l)) (R.pure y21) (R.map Tu.mk (R.sz (R.lcons (R.pure w15.2) (R.lnil (α := Int))))))))) fun w19 =>
  (R.pure (w19 : (List (Tu Int))))))))) fun w22 =>
  (R.pure (w22 : (List (Tu Int))))))))) fun w23 =>
  (W.seq (W.of (N.of (R.lc (α := (Tu Int)) (R.pure w23) (fun _ => R.pure true) (fun y27 => (R.o1 T1 (fun xs : (List (Tu Int)) => Tu.mk xs) (R.lc (α := Int) (R.rng1 (R.pure w3.1)) (fun _ => R.pure true) (fun y28 => (R.o3 T3t (fun xs lo hi => Tu.mk (cut xs.l lo hi)) (R.pure y27) (R.map some (R.o2 CMul (fun i j : Int => i * j) (R.pure y28) (R.pure w3.2))) (R.map some (R.o2 CMul (fun i j : Int => i * j) (R.o2 T2 (fun i j : Int => i + j) (R.pure y28) (R.pure (1 : Int))) (R.pure w3.2))))))))))) fun w24 =>
  (W.seq (W.of (N.of (R.o1 (fun xs : (List (Tu (Tu Int))) => PySem.W.Sortable (xs.map rep)) srtD (R.lc (α := (Tu (Tu Int))) (R.pure w24) (fun y31 => (R.o1 T1 (fun i : Bool => i) (R.c3 m__law_rounds (R.pure w5) (R.pure w4) (R.pure y31)))) (fun y31 => (R.pure y31)))))) fun w29 =>
  (W.seq (W.ite (N.of (R.or (R.o2 T2 (fun x y : (List (Tu (Tu Int))) => decide (x = y)) (R.pure w29) (R.sz (R.lnil (α := (Tu (Tu Int)))))) (R.not (R.o1 T1 (fun i : Bool => i) (R.c2 FP.exact (R.o2 (fun (xs : (List (Tu (Tu Int)))) i => ixOk xs.length i) nth (R.pure w29) (R.pure (0 : Int))) (R.c2 m_rounded_table (R.lc (α := (List Int)) (R.pure w5) (fun _ => R.pure true) (fun y32 => (R.o1 T1 (fun xs : (List Int) => xs) (R.pure y32)))) (R.pure w4))))))) (W.ret (N.of (R.pure false))) (W.nil (() : Unit))) fun w33 =>
  (W.seq (W.of (N.lcR (α := (Tu Int)) (N.map Tu.l (N.o2 (fun (xs : (List (Tu (Tu Int)))) i => ixOk xs.length i) nth (N.of (R.pure w24)) (N.d1 m_draw (N.of (R.o1 T1 (fun xs : (List (Tu (Tu Int))) => (xs.length : Int)) (R.pure w24)))))) (fun _ => R.pure true) (fun y36 => (R.o1 T1 (fun xs : (Tu Int) => xs.l) (R.pure y36))))) fun w34 =>
  (W.seq (W.of (N.tup2 (N.d1 m_draw (N.of (R.pure w3.1))) (N.d1 m_draw (N.of (R.pure w3.2))))) fun w37 =>
  (W.seq (W.of (N.setIx2 w34 (N.o2 T2 (fun i j : Int => i - j) (N.o2 T2 (fun i j : Int => i + j) (N.of (R.ixO w34 (R.pure w37.1) (R.pure w37.2))) (N.d1 m_draw (N.of (R.pure (3 : Int))))) (N.of (R.pure (1 : Int)))) (N.of (R.pure w37.1)) (N.of (R.pure w37.2)))) fun w38 =>
  (W.seq (W.ite (N.o2 T2 (fun i j : Int => decide (i = j)) (N.d1 m_draw (N.of (R.pure (6 : Int)))) (N.of (R.pure (0 : Int)))) (W.seq (W.of (N.of (R.setRow w38 (R.o2 (fun (xs ys : (List Int)) => xs.length + ys.length ≤ 1000000) (fun xs ys => xs ++ ys) (R.rowO w38 (R.pure w37.1)) (R.sz (R.lcons (R.pure (0 : Int)) (R.lnil (α := Int))))) (R.pure w37.1)))) fun w41 =>
  (W.nil (w41 : (List (List Int))))) (W.nil (w38 : (List (List Int))))) fun w40 =>
  (W.seq (W.of (N.of (R.o1 T1 (fun xs : (List (Tu Int)) => Tu.mk xs) (R.lc (α := (List Int)) (R.pure w40) (fun _ => R.pure true) (fun y45 => (R.o1 T1 (fun xs : (List Int) => Tu.mk xs) (R.pure y45))))))) fun w43 =>
  (W.seq (W.ite (N.of (R.not (R.o1 T1 (fun i : Bool => i) (R.c2 FP.exact (R.c3 m__law_rounds (R.pure w5) (R.pure w4) (R.pure w43)) (R.c3 m_is_rounded (R.pure w5) (R.pure w4) (R.pure w43)))))) (W.ret (N.of (R.pure false))) (W.nil (() : Unit))) fun w46 =>
  (W.nil (() : Unit)))))))))))))))))) fun w47 =>
  (W.ret (N.of (R.and (R.c3 m_is_rounded (R.sz (R.lcons (R.sz (R.lcons (R.pure (1 : Int)) (R.lcons (R.pure (1 : Int)) (R.lnil (α := Int))))) (R.lcons (R.sz (R.lcons (R.pure (1 : Int)) (R.lcons (R.pure (1 : Int)) (R.lnil (α := Int))))) (R.lnil (α := (List Int)))))) (R.pure (2 : Int)) (R.map Tu.mk (R.sz (R.lcons (R.map Tu.mk (R.sz (R.lcons (R.pure (0 : Int)) (R.lcons (R.pure (1 : Int)) (R.lnil (α := Int)))))) (R.lcons (R.map Tu.mk (R.sz (R.lcons (R.pure (1 : Int)) (R.lcons (R.pure (0 : Int)) (R.lnil (α := Int)))))) (R.lnil (α := (Tu Int)))))))) (R.not (R.c3 m_is_rounded (R.sz (R.lcons (R.sz (R.lcons (R.pure (1 : Int)) (R.lcons (R.pure (1 : Int)) (R.lnil (α := Int))))) (R.lcons (R.sz (R.lcons (R.pure (1 : Int)) (R.lcons (R.pure (1 : Int)) (R.lnil (α := Int))))) (R.lnil (α := (List Int)))))) (R.pure (2 : Int)) (R.map Tu.mk (R.sz (R.lcons (R.map Tu.mk (R.sz (R.lcons (R.pure (1 : Int)) (R.lcons (R.pure (1 : Int)) (R.lnil (α := Int)))))) (R.lcons (R.map Tu.mk (R.sz (R.lcons (R.pure (0 : Int)) (R.lcons (R.pure (0 : Int)) (R.lnil (α := Int)))))) (R.lnil (α := (Tu Int)))))))))))))
theorem w_law {P : Program} {w : World} {K : PySem.W.Frag} {mg : Str → Option Value} {base : Heap} {T : Addr → Prop} (z_len : mg "len" = none) (z_list : mg "list" = none) (z_range : mg "range" = none) (z_sorted : mg "sorted" = none) (z_tuple : mg "tuple" = none) (c__law_draw : Fn P w K mg base 2 "_law_draw" (SpM K T [true] (D1 m_draw))) (c__law_rounds : Fn P w K mg base 1 "_law_rounds" (SpD K T [false, true, true] (G3 m__law_rounds))) (c_rounded_table : Fn P w K mg base 3 "rounded_table" (SpD K T [false, true] (G2 m_rounded_table))) (c__law_exact : Fn P w K mg base 12 "_law_exact" (SpD K T [true, true] (G2 (exF 12)))) (c_is_rounded : Fn P w K mg base 2 "is_rounded" (SpD K T [false, true, true] (G3 m_is_rounded)))
    {f : Addr} {fd : FuncData} (F : FunD K "law" "law" (defArgs s_law) (defBody s_law) (defScope s_law) [] [] f fd) (hW : wp_law (fun _ => False) (fun b => b = true)) : FnOk P w K mg base CX0 13 f fd ["script"] (SpL K T) :=
  Fn.law F sc_law rfl rfl lf_law_state (by decide) (fun _ _ => rfl) (fun _ => rfl) (fun _ => rfl) fun cd A outer s H E M is0 hcd hr eT => by
  subst eT
  have pown : PassesOwn (model P w) (cxF P w K mg base n_law "law" (defScope s_law) f cd A outer s H E).A (cxF P w K mg base n_law "law" (defScope s_law) f cd A outer s H E).env (fun _ _ => False) := PassesOwn.never
  have h : WB (cxF P w K mg base n_law "law" (defScope s_law) f cd A outer s H E) M (β := Bool) ((defBody s_law).tail) [Sl.sc is0, Sl.st, U, U, U, U, U, U, U, U, U, U, U, U, U, U, U, U, U] (fun _ : Unit => []) wp_law :=
   (WB.cons (WS.for (E := (fun s1 : Unit => [Sl.sc is0, Sl.st, U, U, U, U, U, U, U, U, U, U, U, U, U, U, U, U, U])) (tE := (fun (s1 : Unit) (x2 : Int) => [Sl.sc is0, Sl.st, I x2, U, U, U, U, U, U, U, U, U, U, U, U, U, U, U, U])) (ix := [2]) () pown rfl (.r (.r (.r (.r (.r (.r (.r (.r (.r (.r (.r (.r (.r (.r (.r (.r (.r (.r (.r .n))))))))))))))))))) (NI.of (RI.range1 rfl z_range (RE.bor RE.int))) (fun _ _ => (RG.name 2 nd_law rfl lf_law_k (.inl rfl) rfl)) (fun s1 x2 =>
  (WB.cons (WS.of (NS.tgt (E := fun w3 : (Int × Int) => [Sl.sc is0, Sl.st, I x2, U, U, U, U, U, U, U, U, I w3.1, I w3.2, U, U, U, U, U, U]) (NE.tup2 (NA.im (NE.bin o_add (NE.nb (NE.of RE.int)) (NE.nb (NE.drw1 (is := is0) 1 0 c__law_draw hr (Nat.le_of_ble_eq_true rfl) rfl rfl rfl vf_law_state k_state rfl rfl vf_law_script k_script (NA.im (NE.of RE.int) NA.nil) k__law_draw))) (NA.im (NE.bin o_add (NE.nb (NE.of RE.int)) (NE.nb (NE.drw1 (is := is0) 1 0 c__law_draw hr (Nat.le_of_ble_eq_true rfl) rfl rfl rfl vf_law_state k_state rfl rfl vf_law_script k_script (NA.im (NE.of RE.int) NA.nil) k__law_draw))) NA.nil))) (fun _ => (RG.tup2 rfl (RG.name 11 nd_law rfl lf_law_many (.inl rfl) rfl) (RG.name 12 nd_law rfl lf_law_width (.inl rfl) rfl))))) fun w3 =>
  (WB.cons (WS.of (NS.set (E := fun w4 : Int => [Sl.sc is0, Sl.st, I x2, I w4, U, U, U, U, U, U, U, I w3.1, I w3.2, U, U, U, U, U, U]) 3 nd_law rfl lf_law_base (.inl rfl) (NE.bin o_add (NE.nb (NE.of RE.int)) (NE.nb (NE.drw1 (is := is0) 1 0 c__law_draw hr (Nat.le_of_ble_eq_true rfl) rfl rfl rfl vf_law_state k_state rfl rfl vf_law_script k_script (NA.im (NE.of RE.int) NA.nil) k__law_draw))) (fun _ => rfl))) fun w4 =>
  (WB.cons (WS.of (NS.set (E := fun w5 : (List (List Int)) => [Sl.sc is0, Sl.st, I x2, I w4, I w5, U, U, U, U, U, U, I w3.1, I w3.2, U, U, U, U, U, U]) 4 nd_law rfl lf_law_rows (.inl rfl) (NF.ne (NF.lc (own := [("i", 6)]) (ix := [6]) (tE := (fun y8 : Int => [Sl.sc is0, Sl.st, I x2, I w4, U, U, I y8, U, U, U, U, I w3.1, I w3.2, U, U, U, U, U, U])) rfl nd_law (blkOk_by rfl) (by decide) (by decide) (NI.of (RI.range1 rfl z_range (RE.bor (RE.var 11 rfl rfl vf_law_many k_many)))) (fun y8 _ _ _ _ _ => (RG.name 6 nd_law rfl (locB rfl) (by first | exact .inr rfl | exact .inl rfl) rfl)) (fun _ => .inl ⟨rfl, rfl⟩) (fun y8 _ _ _ _ _ => (NF.ne (NF.lc (own := [("j", 13)]) (ix := [13]) (tE := (fun y9 : Int => [Sl.sc is0, Sl.st, I x2, I w4, U, U, I y8, U, U, U, U, I w3.1, I w3.2, I y9, U, U, U, U, U])) rfl nd_law (blkOk_by rfl) (by decide) (by decide) (NI.of (RI.range1 rfl z_range (RE.bor (RE.var 12 rfl rfl (visB rfl) k_width)))) (fun y9 _ _ _ _ _ => (RG.name 13 nd_law rfl (locB rfl) (by first | exact .inr rfl | exact .inl rfl) rfl)) (fun _ => .inl ⟨rfl, rfl⟩) (fun y9 _ _ _ _ _ => (NE.drw1 (is := is0) 1 0 c__law_draw hr (Nat.le_of_ble_eq_true rfl) rfl rfl rfl (visB rfl) k_state rfl rfl (visB rfl) k_script (NA.im (NE.of (RE.bin o_mul (RE.bor RE.int) (RE.bor (RE.var 3 rfl rfl (visB rfl) k_base)))) NA.nil) k__law_draw)) (fun _ => rfl)))) (fun _ => rfl))) (fun _ => rfl))) fun w5 =>
  (WB.cons (WS.of (NS.of (SN.set (E := fun w10 : (List (Tu Int)) => [Sl.sc is0, Sl.st, I x2, I w4, I w5, I w10, U, U, U, U, U, I w3.1, I w3.2, U, U, U, U, U, U]) 5 nd_law rfl lf_law_every (.inl rfl) (RF.re (RF.lst (RL.cons (RE.tu RL.nil) RL.nil))) (fun _ => rfl)))) fun w10 =>
  (WB.cons (WS.of (NS.of (SN.for (E := (fun s11 : (List (Tu Int)) => [Sl.sc is0, Sl.st, I x2, I w4, I w5, I s11, U, U, U, U, U, I w3.1, I w3.2, U, U, U, U, U, U])) (tE := (fun (s11 : (List (Tu Int))) (x12 : Int) => [Sl.sc is0, Sl.st, I x2, I w4, I w5, I s11, I x12, U, U, U, U, I w3.1, I w3.2, U, U, U, U, U, U])) (ix := [6]) w10 pown rfl (.r (.r (.r (.r (.r (.r (.r (.r (.r (.r (.r (.r (.r (.r (.r (.r (.r (.r (.r .n))))))))))))))))))) (RI.range1 rfl z_range (RE.bor (RE.var 11 rfl rfl vf_law_many k_many))) (fun _ _ => (RG.name 6 nd_law rfl lf_law_i (.inl rfl) rfl)) (fun s11 x12 =>
  (BN.cons (SN.for (E := (fun s13 : (List (Tu Int)) => [Sl.sc is0, Sl.st, I x2, I w4, I w5, I s13, I x12, U, U, U, U, I w3.1, I w3.2, U, U, U, U, U, U])) (tE := (fun (s13 : (List (Tu Int))) (x14 : Int) => [Sl.sc is0, Sl.st, I x2, I w4, I w5, I s13, I x12, U, U, U, U, I w3.1, I w3.2, I x14, U, U, U, U, U])) (ix := [13]) s11 pown rfl (.r (.r (.r (.r (.r (.r (.r (.r (.r (.r (.r (.r (.r (.r (.r (.r (.r (.r (.r .n))))))))))))))))))) (RI.range1 rfl z_range (RE.bor (RE.var 12 rfl rfl vf_law_width k_width))) (fun _ _ => (RG.name 13 nd_law rfl lf_law_j (.inl rfl) rfl)) (fun s13 x14 =>
  (BN.cons (SN.tgt (E := fun w15 : (Int × Int) => [Sl.sc is0, Sl.st, I x2, I w4, I w5, I s13, I x12, U, U, U, U, I w3.1, I w3.2, I x14, U, U, I w15.1, I w15.2, U]) (RE.tup2 (RA.im (RE.bin o_fdiv (RE.bor (RE.ix x_list (RE.bor (RE.ix x_list (RE.bor (RE.var 4 rfl rfl vf_law_rows k_rows)) (RE.bor (RE.var 6 rfl rfl vf_law_i k_i)) (fun _ _ => rfl))) (RE.bor (RE.var 13 rfl rfl vf_law_j k_j)) (fun _ _ => rfl))) (RE.bor (RE.var 3 rfl rfl vf_law_base k_base))) (RA.im (RE.bin o_fdiv (RE.bor (RE.bin o_sub (RE.bor (RE.bin o_add (RE.bor (RE.ix x_list (RE.bor (RE.ix x_list (RE.bor (RE.var 4 rfl rfl vf_law_rows k_rows)) (RE.bor (RE.var 6 rfl rfl vf_law_i k_i)) (fun _ _ => rfl))) (RE.bor (RE.var 13 rfl rfl vf_law_j k_j)) (fun _ _ => rfl))) (RE.bor (RE.var 3 rfl rfl vf_law_base k_base)))) (RE.bor RE.int))) (RE.bor (RE.var 3 rfl rfl vf_law_base k_base))) RA.nil))) (fun _ => (RG.tup2 rfl (RG.name 16 nd_law rfl lf_law_low (.inl rfl) rfl) (RG.name 17 nd_law rfl lf_law_high (.inl rfl) rfl)))) fun w15 =>
  (BN.cons (SN.lc (E := fun w16 : (List (Tu Int)) => [Sl.sc is0, Sl.st, I x2, I w4, I w5, I s13, I x12, U, U, U, U, I w3.1, I w3.2, I x14, I w16, U, I w15.1, I w15.2, U]) (own := [("row", 15)]) (ix := [15]) (tE := (fun y18 : (Tu Int) => [Sl.sc is0, Sl.st, I x2, I w4, I w5, I s13, I x12, U, U, U, U, I w3.1, I w3.2, I x14, U, I y18, I w15.1, I w15.2, U])) 14 (fun _ => rfl) rfl nd_law rfl rfl (sw_true rfl rfl rfl (by decide +kernel)) (blkOk_by rfl) (by decide) (by decide) (RI.list (RP.ofE (RE.var 5 rfl rfl vf_law_every k_every))) (fun y18 _ _ _ _ _ => (RG.name 15 nd_law rfl (locB rfl) (by first | exact .inr rfl | exact .inl rfl) rfl)) (fun _ => .inl ⟨rfl, rfl⟩) (fun y18 _ _ _ _ _ => (RE.bin o_catT (RE.bor (RE.var 15 rfl rfl (visB rfl) k_row)) (RE.bor (RE.tu (RL.cons (RE.var 16 rfl rfl (visB rfl) k_low) RL.nil))))) (fun _ => rfl)) fun w16 =>
  (BN.cons (SN.set (E := fun w19 : (List (Tu Int)) => [Sl.sc is0, Sl.st, I x2, I w4, I w5, I w19, I x12, U, U, U, U, I w3.1, I w3.2, I x14, I w16, U, I w15.1, I w15.2, U]) 5 nd_law rfl lf_law_every (.inl rfl) (RF.re (RF.bin o_cat (RE.bor (RE.var 14 rfl rfl vf_law_more k_more)) (RE.bor (RF.re (RF.lc (own := [("row", 15)]) (ix := [15]) (tE := (fun y21 : (Tu Int) => [Sl.sc is0, Sl.st, I x2, I w4, I w5, I s13, I x12, U, U, U, U, I w3.1, I w3.2, I x14, I w16, I y21, I w15.1, I w15.2, U])) rfl nd_law (blkOk_by rfl) (by decide) (by decide) (RI.list (RP.ofE (RE.var 5 rfl rfl vf_law_every k_every))) (fun y21 _ _ _ _ _ => (RG.name 15 nd_law rfl (locB rfl) (by first | exact .inr rfl | exact .inl rfl) rfl)) (fun y21 => .inr ⟨_, rfl, fun _ _ _ _ _ => (RT.cmp c_gt (RE.bor (RE.var 17 rfl rfl (visB rfl) k_high)) (RE.bor (RE.var 16 rfl rfl (visB rfl) k_low)) (nm_gt _))⟩) (fun y21 _ _ _ _ _ => (RE.bin o_catT (RE.bor (RE.var 15 rfl rfl (visB rfl) k_row)) (RE.bor (RE.tu (RL.cons (RE.var 17 rfl rfl (visB rfl) k_high) RL.nil))))) (fun _ => rfl)))))) (fun _ => rfl)) fun w19 =>
  (BN.nil w19 (.r (.r (.r (.r (.r (.r (.r (.r (.r (.r (.r (.r (.r (.u (.u (.r (.u (.u (.r .n)))))))))))))))))))))))) (fun _ => rfl)) fun w22 =>
  (BN.nil w22 (.r (.r (.r (.r (.r (.r (.u (.r (.r (.r (.r (.r (.r (.r (.r (.r (.r (.r (.r .n)))))))))))))))))))))) (fun _ => rfl)))) fun w23 =>
  (WB.cons (WS.of (NS.of (SN.lc (E := fun w24 : (List (Tu (Tu Int))) => [Sl.sc is0, Sl.st, I x2, I w4, I w5, I w23, U, I w24, U, U, U, I w3.1, I w3.2, U, U, U, U, U, U]) (own := [("row", 15)]) (ix := [15]) (tE := (fun y27 : (Tu Int) => [Sl.sc is0, Sl.st, I x2, I w4, I w5, I w23, U, U, U, U, U, I w3.1, I w3.2, U, U, I y27, U, U, U])) 7 (fun _ => rfl) rfl nd_law rfl rfl (sw_true rfl rfl rfl (by decide +kernel)) (blkOk_by rfl) (by decide) (by decide) (RI.list (RP.ofE (RE.var 5 rfl rfl vf_law_every k_every))) (fun y27 _ _ _ _ _ => (RG.name 15 nd_law rfl (locB rfl) (by first | exact .inr rfl | exact .inl rfl) rfl)) (fun _ => .inl ⟨rfl, rfl⟩) (fun y27 _ _ _ _ _ => (RE.ty1 b_tupL rfl z_tuple bb_tuple (RE.bor (RF.re (RF.lc (own := [("i", 6)]) (ix := [6]) (tE := (fun y28 : Int => [Sl.sc is0, Sl.st, I x2, I w4, I w5, I w23, I y28, U, U, U, U, I w3.1, I w3.2, U, U, I y27, U, U, U])) rfl nd_law (blkOk_by rfl) (by decide) (by decide) (RI.range1 rfl z_range (RE.bor (RE.var 11 rfl rfl (visB rfl) k_many))) (fun y28 _ _ _ _ _ => (RG.name 6 nd_law rfl (locB rfl) (by first | exact .inr rfl | exact .inl rfl) rfl)) (fun _ => .inl ⟨rfl, rfl⟩) (fun y28 _ _ _ _ _ => (RE.sliceT (RE.bor (RE.var 15 rfl rfl (visB rfl) k_row)) (RO.some (RE.bor (RE.bin o_mul (RE.bor (RE.var 6 rfl rfl (visB rfl) k_i)) (RE.bor (RE.var 12 rfl rfl (visB rfl) k_width))))) (RO.some (RE.bor (RE.bin o_mul (RE.bor (RE.bin o_add (RE.bor (RE.var 6 rfl rfl (visB rfl) k_i)) (RE.bor RE.int))) (RE.bor (RE.var 12 rfl rfl (visB rfl) k_width))))))) (fun _ => rfl)))) rfl kb_tuple)) (fun _ => rfl)))) fun w24 =>
  (WB.cons (WS.of (NS.of (SN.set (E := fun w29 : (List (Tu (Tu Int))) => [Sl.sc is0, Sl.st, I x2, I w4, I w5, I w23, U, I w24, I w29, U, U, I w3.1, I w3.2, U, U, U, U, U, U]) 8 nd_law rfl lf_law_good (.inl rfl) (RF.re (RF.b1 (b_sortD hr (by decide)) rfl z_sorted bb_sorted (RE.bor (RF.re (RF.lc (own := [("table", 18)]) (ix := [18]) (tE := (fun y31 : (Tu (Tu Int)) => [Sl.sc is0, Sl.st, I x2, I w4, I w5, I w23, U, I w24, U, U, U, I w3.1, I w3.2, U, U, U, U, U, I y31])) rfl nd_law (blkOk_by rfl) (by decide) (by decide) (RI.list (RP.ofE (RE.var 7 rfl rfl vf_law_tables k_tables))) (fun y31 _ _ _ _ _ => (RG.name 18 nd_law rfl (locB rfl) (by first | exact .inr rfl | exact .inl rfl) rfl)) (fun y31 => .inr ⟨_, rfl, fun _ _ _ _ _ => (RT.tru t_bool (RE.bor (RE.call3 c__law_rounds hr (Nat.le_of_ble_eq_true rfl) rfl (RA.br (RE.bor (RE.var 4 rfl rfl (visB rfl) k_rows)) (RA.im (RE.var 3 rfl rfl (visB rfl) k_base) (RA.im (RE.var 18 rfl rfl (visB rfl) k_table) RA.nil))) k__law_rounds)) (fun _ => rfl))⟩) (fun y31 _ _ _ _ _ => (RE.var 18 rfl rfl (visB rfl) k_table)) (fun _ => rfl)))) rfl kb_sorted)) (fun _ => rfl)))) fun w29 =>
  (WB.cons (WS.ite (E := fun w33 : Unit => [Sl.sc is0, Sl.st, I x2, I w4, I w5, I w23, U, I w24, I w29, U, U, I w3.1, I w3.2, U, U, U, U, U, U]) (NT.of (RW.t (RW.or (RT.cmp (c_eq hr (by decide)) (RE.bor (RE.var 8 rfl rfl vf_law_good k_good)) (RE.bor (RF.re (RF.lst RL.nil))) (nm_eq _)) (RT.or1 (RT.not (RT.tru t_bool (RE.bor (RE.call2 (c__law_exact.exact (by decide) (by decide)) hr (Nat.le_of_ble_eq_true rfl) rfl (RA.im (RE.ix x_list (RE.bor (RE.var 8 rfl rfl vf_law_good k_good)) (RE.bor RE.int) (fun _ _ => rfl)) (RA.im (RE.call2 c_rounded_table hr (Nat.le_of_ble_eq_true rfl) rfl (RA.br (RE.bor (RF.re (RF.lc (own := [("row", 15)]) (ix := [15]) (tE := (fun y32 : (List Int) => [Sl.sc is0, Sl.st, I x2, I w4, I w5, I w23, U, I w24, I w29, U, U, I w3.1, I w3.2, U, U, I y32, U, U, U])) rfl nd_law (blkOk_by rfl) (by decide) (by decide) (RI.list (RP.ofE (RE.var 4 rfl rfl vf_law_rows k_rows))) (fun y32 _ _ _ _ _ => (RG.name 15 nd_law rfl (locB rfl) (by first | exact .inr rfl | exact .inl rfl) rfl)) (fun _ => .inl ⟨rfl, rfl⟩) (fun y32 _ _ _ _ _ => (RF.re (RF.ty1 b_listL rfl z_list bb_list (RE.bor (RE.var 15 rfl rfl (visB rfl) k_row)) rfl kb_list))) (fun _ => rfl)))) (RA.im (RE.var 3 rfl rfl vf_law_base k_base) RA.nil)) k_rounded_table) RA.nil)) k__law_exact)) (fun _ => rfl))))))) (WB.ret (NE.of RE.bl)) (WB.nil () (.r (.r (.r (.r (.r (.r (.r (.r (.r (.r (.r (.r (.r (.r (.r (.r (.r (.r (.r .n))))))))))))))))))))) fun w33 =>
  (WB.cons (WS.of (NS.lcO (E := fun w34 : (List (List Int)) => [Sl.sc is0, Sl.st, I x2, I w4, I w5, I w23, U, I w24, I w29, Oo w34, U, I w3.1, I w3.2, U, U, U, U, U, U]) (own := [("row", 15)]) (ix := [15]) (tE := (fun y36 : (Tu Int) => [Sl.sc is0, Sl.st, I x2, I w4, I w5, I w23, U, I w24, I w29, U, U, I w3.1, I w3.2, U, U, I y36, U, U, U])) 9 (fun _ => rfl) rfl nd_law rfl rfl (sw_true rfl rfl rfl (by decide +kernel)) (blkOk_by rfl) (by decide) (by decide) (NI.tup (NE.ix x_list (NE.nb (NE.of (RE.var 7 rfl rfl vf_law_tables k_tables))) (NE.nb (NE.drw1 (is := is0) 1 0 c__law_draw hr (Nat.le_of_ble_eq_true rfl) rfl rfl rfl vf_law_state k_state rfl rfl vf_law_script k_script (NA.im (NE.of (RE.b1 b_lenL rfl z_len boot_len (RE.bor (RE.var 7 rfl rfl vf_law_tables k_tables)) rfl kb_len)) NA.nil) k__law_draw)) (fun _ _ => rfl))) (fun y36 _ _ _ _ _ => (RG.name 15 nd_law rfl (locB rfl) (by first | exact .inr rfl | exact .inl rfl) rfl)) (fun _ => .inl ⟨rfl, rfl⟩) (fun y36 _ _ _ _ _ => (RF.ty1 b_listT rfl z_list bb_list (RE.bor (RE.var 15 rfl rfl (visB rfl) k_row)) rfl kb_list)) (fun _ => rfl))) fun w34 =>
  (WB.cons (WS.of (NS.par (E := fun w37 : (Int × Int) => [Sl.sc is0, Sl.st, I x2, I w4, I w5, I w23, I w37.1, I w24, I w29, Oo w34, U, I w3.1, I w3.2, I w37.2, U, U, U, U, U]) 6 13 (fun _ => rfl) rfl nd_law rfl rfl (by decide) rfl rfl (NA.im (NE.drw1 (is := is0) 1 0 c__law_draw hr (Nat.le_of_ble_eq_true rfl) rfl rfl rfl vf_law_state k_state rfl rfl vf_law_script k_script (NA.im (NE.of (RE.var 11 rfl rfl vf_law_many k_many)) NA.nil) k__law_draw) (NA.im (NE.drw1 (is := is0) 1 0 c__law_draw hr (Nat.le_of_ble_eq_true rfl) rfl rfl rfl vf_law_state k_state rfl rfl vf_law_script k_script (NA.im (NE.of (RE.var 12 rfl rfl vf_law_width k_width)) NA.nil) k__law_draw) NA.nil)) rfl)) fun w37 =>
  (WB.cons (WS.of (NS.setIx2 (E := fun w38 : (List (List Int)) => [Sl.sc is0, Sl.st, I x2, I w4, I w5, I w23, I w37.1, I w24, I w29, Oo w38, U, I w3.1, I w3.2, I w37.2, U, U, U, U, U]) 9 rfl (fun _ => rfl) rfl vf_law_bent k_bent (NE.bin o_sub (NE.nb (NE.bin o_add (NE.nb (NE.of (RE.ixO 9 rfl rfl vf_law_bent k_bent (RE.bor (RE.var 6 rfl rfl vf_law_i k_i)) (RE.bor (RE.var 13 rfl rfl vf_law_j k_j)) (fun _ _ => rfl) (fun _ _ => rfl)))) (NE.nb (NE.drw1 (is := is0) 1 0 c__law_draw hr (Nat.le_of_ble_eq_true rfl) rfl rfl rfl vf_law_state k_state rfl rfl vf_law_script k_script (NA.im (NE.of RE.int) NA.nil) k__law_draw)))) (NE.nb (NE.of RE.int))) (NE.nb (NE.of (RE.var 6 rfl rfl vf_law_i k_i))) (NE.nb (NE.of (RE.var 13 rfl rfl vf_law_j k_j))) (fun _ _ => rfl))) fun w38 =>
  (WB.cons (WS.ite (E := fun w40 : (List (List Int)) => [Sl.sc is0, Sl.st, I x2, I w4, I w5, I w23, I w37.1, I w24, I w29, Oo w40, U, I w3.1, I w3.2, I w37.2, U, U, U, U, U]) (NT.cmp c_eqI (NE.nb (NE.drw1 (is := is0) 1 0 c__law_draw hr (Nat.le_of_ble_eq_true rfl) rfl rfl rfl vf_law_state k_state rfl rfl vf_law_script k_script (NA.im (NE.of RE.int) NA.nil) k__law_draw)) (NE.nb (NE.of RE.int)) (nm_eq _)) (WB.cons (WS.of (NS.of (SN.setRow (E := fun w41 : (List (List Int)) => [Sl.sc is0, Sl.st, I x2, I w4, I w5, I w23, I w37.1, I w24, I w29, Oo w41, U, I w3.1, I w3.2, I w37.2, U, U, U, U, U]) 9 rfl (fun _ => rfl) rfl vf_law_bent k_bent (RF.bin o_cat (RB.rowO 9 rfl rfl vf_law_bent k_bent (RE.bor (RE.var 6 rfl rfl vf_law_i k_i)) (fun _ _ => rfl)) (RE.bor (RF.re (RF.lst (RL.cons RE.int RL.nil))))) (RE.bor (RE.var 6 rfl rfl vf_law_i k_i))))) fun w41 =>
  (WB.nil w41 (.r (.r (.r (.r (.r (.r (.r (.r (.r (.r (.r (.r (.r (.r (.r (.r (.r (.r (.r .n))))))))))))))))))))) (WB.nil w38 (.r (.r (.r (.r (.r (.r (.r (.r (.r (.r (.r (.r (.r (.r (.r (.r (.r (.r (.r .n))))))))))))))))))))) fun w40 =>
  (WB.weak (.r (.r (.r (.r (.r (.r (.r (.r (.r (.g (oo_rep _) (.r (.r (.r (.r (.r (.r (.r (.r (.r .n))))))))))))))))))) (WB.cons (WS.of (NS.of (SN.set (E := fun w43 : (Tu (Tu Int)) => [Sl.sc is0, Sl.st, I x2, I w4, I w5, I w23, I w37.1, I w24, I w29, I w40, I w43, I w3.1, I w3.2, I w37.2, U, U, U, U, U]) 10 nd_law rfl lf_law_told (.inl rfl) (RE.ty1 b_tupL rfl z_tuple bb_tuple (RE.bor (RF.re (RF.lc (own := [("row", 15)]) (ix := [15]) (tE := (fun y45 : (List Int) => [Sl.sc is0, Sl.st, I x2, I w4, I w5, I w23, I w37.1, I w24, I w29, I w40, U, I w3.1, I w3.2, I w37.2, U, I y45, U, U, U])) rfl nd_law (blkOk_by rfl) (by decide) (by decide) (RI.list (RP.ofE (RE.var 9 rfl rfl vf_law_bent k_bent))) (fun y45 _ _ _ _ _ => (RG.name 15 nd_law rfl (locB rfl) (by first | exact .inr rfl | exact .inl rfl) rfl)) (fun _ => .inl ⟨rfl, rfl⟩) (fun y45 _ _ _ _ _ => (RE.ty1 b_tupL rfl z_tuple bb_tuple (RE.bor (RE.var 15 rfl rfl (visB rfl) k_row)) rfl kb_tuple)) (fun _ => rfl)))) rfl kb_tuple) (fun _ => rfl)))) fun w43 =>
  (WB.cons (WS.ite (E := fun w46 : Unit => [Sl.sc is0, Sl.st, I x2, I w4, I w5, I w23, I w37.1, I w24, I w29, I w40, I w43, I w3.1, I w3.2, I w37.2, U, U, U, U, U]) (NT.of (RT.not (RT.tru t_bool (RE.bor (RE.call2 (c__law_exact.exact (by decide) (by decide)) hr (Nat.le_of_ble_eq_true rfl) rfl (RA.im (RE.call3 c__law_rounds hr (Nat.le_of_ble_eq_true rfl) rfl (RA.br (RE.bor (RE.var 4 rfl rfl vf_law_rows k_rows)) (RA.im (RE.var 3 rfl rfl vf_law_base k_base) (RA.im (RE.var 10 rfl rfl vf_law_told k_told) RA.nil))) k__law_rounds) (RA.im (RE.call3 c_is_rounded hr (Nat.le_of_ble_eq_true rfl) rfl (RA.br (RE.bor (RE.var 4 rfl rfl vf_law_rows k_rows)) (RA.im (RE.var 3 rfl rfl vf_law_base k_base) (RA.im (RE.var 10 rfl rfl vf_law_told k_told) RA.nil))) k_is_rounded) RA.nil)) k__law_exact)) (fun _ => rfl)))) (WB.ret (NE.of RE.bl)) (WB.nil () (.r (.r (.r (.r (.r (.r (.r (.r (.r (.r (.r (.r (.r (.r (.r (.r (.r (.r (.r .n))))))))))))))))))))) fun w46 =>
  (WB.nil () (.r (.r (.u (.u (.u (.u (.u (.u (.u (.u (.u (.u (.u (.u (.r (.r (.r (.r (.r .n)))))))))))))))))))))))))))))))))))) (fun _ => rfl)) fun w47 =>
  (WB.ret (NE.of (RE.and (RE.bor (RE.call3 c_is_rounded hr (Nat.le_of_ble_eq_true rfl) rfl (RA.br (RE.bor (RF.re (RF.lst (RL.cons (RF.re (RF.lst (RL.cons RE.int (RL.cons RE.int RL.nil)))) (RL.cons (RF.re (RF.lst (RL.cons RE.int (RL.cons RE.int RL.nil)))) RL.nil))))) (RA.im RE.int (RA.im (RE.tu (RL.cons (RE.tu (RL.cons RE.int (RL.cons RE.int RL.nil))) (RL.cons (RE.tu (RL.cons RE.int (RL.cons RE.int RL.nil))) RL.nil))) RA.nil))) k_is_rounded)) (RE.one (RE.not (RE.bor (RE.call3 c_is_rounded hr (Nat.le_of_ble_eq_true rfl) rfl (RA.br (RE.bor (RF.re (RF.lst (RL.cons (RF.re (RF.lst (RL.cons RE.int (RL.cons RE.int RL.nil)))) (RL.cons (RF.re (RF.lst (RL.cons RE.int (RL.cons RE.int RL.nil)))) RL.nil))))) (RA.im RE.int (RA.im (RE.tu (RL.cons (RE.tu (RL.cons RE.int (RL.cons RE.int RL.nil))) (RL.cons (RE.tu (RL.cons RE.int (RL.cons RE.int RL.nil))) RL.nil))) RA.nil))) k_is_rounded))))))))
  exact (h.run _ _ hW).imp (fun e ⟨_, z, _⟩ => z) (fun d ⟨i, hi, e⟩ => by rw [e, hi]; rfl) (fun _ z => z) (fun _ z => z)
/-! ### a table rounded, or not -/
theorem Ok.wlc2 {α β γ : Type} {m : R (List α)} {m1 : α → R (List γ)} {f : α → γ → R β} {P : List β → Prop} (g : α → List γ) (F : α → γ → β) (h : Ok m fun xs => xs.length ≤ 10000 ∧ (∀ x ∈ xs, Ok (m1 x) (fun ys => ys = g x ∧ ys.length ≤ 1000) ∧ ∀ y ∈ g x, Ok (f x y) (· = F x y)) ∧ P (xs.flatMap fun x => (g x).map (F x))) : Ok (R.lc2 m (fun _ => R.pure true) m1 (fun _ _ => R.pure true) f) P := by
  obtain ⟨p, h1, h2, h3⟩ := h
  refine ⟨⟨p, h1, fun x hx => ⟨trivial, fun _ => ⟨(h2 x hx).1.1, (h2 x hx).1.2.2, fun y hy => ⟨trivial, fun _ => ?_⟩⟩⟩⟩, ?_⟩
  · have e := (h2 x hx).1.2.1
    rw [e] at hy
    exact ((h2 x hx).2 y hy).1
  · show P ((m.v.filter fun _ => true).flatMap fun x => ((m1 x).v.filter fun _ => true).map fun y => (f x y).v)
    rw [filter_all]
    have e : ∀ l : List α, (∀ x ∈ l, x ∈ m.v) → (l.flatMap fun x => ((m1 x).v.filter fun _ => true).map fun y => (f x y).v) = l.flatMap fun x => (g x).map (F x) := by
      intro l
      induction l with
      | nil => intro _; rfl
      | cons x l ih =>
        intro hl
        rw [List.flatMap_cons, List.flatMap_cons, ih fun z hz => hl z (List.mem_cons_of_mem _ hz), filter_all, (h2 x (hl x List.mem_cons_self)).1.2.1]
        congr 1
        exact List.map_congr_left fun y hy => ((h2 x (hl x List.mem_cons_self)).2 y hy).2
    rw [e _ fun x hx => hx]
    exact h3
def bdb (b : Int) (p : Int × Int) : Bool := decide (p.1 / b ≤ p.2) && decide (p.2 ≤ -(-p.1 / b))
def cellsP (A : List (List Int)) (T : Tu (Tu Int)) : List (Int × Int) := (A.zip T.l).flatMap fun y => (y.1.zip y.2.l).map fun q => (q.1, q.2)
def linesP (A : List (List Int)) (T : Tu (Tu Int)) : List (Int × Int) := (A.zip T.l).map fun y => (y.1.sum, y.2.l.sum)
def colP (A : List (List Int)) (T : Tu (Tu Int)) (x : Int) : Int × Int := ((A.map fun r => nth r x).sum, (T.l.map fun t => nth t.l x).sum)
def shpB (A : List (List Int)) (T : Tu (Tu Int)) : Bool := decide (T.l.length = A.length) && ((A.zip T.l).all fun y => decide (y.1.length = y.2.l.length))
def VB (A : List (List Int)) (w : Nat) (b : Int) (T : Tu (Tu Int)) : Bool := shpB A T && ((cellsP A T ++ linesP A T ++ (rng 0 (w : Int)).map (colP A T)).all (bdb b))
structure GR (A : List (List Int)) (w : Nat) : Prop where
  m1 : 1 ≤ A.length
  m3 : A.length ≤ 3
  w1 : 1 ≤ w
  w3 : w ≤ 3
  len : ∀ r ∈ A, r.length = w
theorem GR.l0 {A : List (List Int)} {w : Nat} (g : GR A w) : (nth A 0).length = w := g.len _ (nth_mem A 0 (by have := g.m1; omega))
theorem zip_len3 {α β : Type} (l : List α) (k : List β) : (l.zip k).length ≤ l.length := by rw [List.length_zip]; omega
theorem shp_all {A : List (List Int)} {w : Nat} (g : GR A w) {T : Tu (Tu Int)} (h : shpB A T = true) : T.l.length = A.length ∧ ∀ t ∈ T.l, t.l.length = w := by
  unfold shpB at h
  rw [Bool.and_eq_true, decide_eq_true_eq, List.all_eq_true] at h
  refine ⟨h.1, fun t ht => ?_⟩
  obtain ⟨i, hi, rfl⟩ := mem_nth ht
  have hm := (zip_mem (l := A) (k := T.l) h.1 (x := (nth A (i : Int), nth T.l (i : Int)))).mpr ⟨i, by omega, rfl⟩
  have := h.2 _ hm
  rw [decide_eq_true_eq] at this
  rw [← this]
  exact g.len _ (nth_mem A i (by omega))
theorem cdv78 {x b : Int} (b0 : 0 < b) (b1 : b ≤ 10) : CDiv x b := ⟨b0, by omega⟩
theorem colsum_ok {A : List (List Int)} {w : Nat} (g : GR A w) {T : Tu (Tu Int)} (h : shpB A T = true) {x : Int} (hx : x ∈ rng 0 (w : Int)) : Ok (R.tup2 (R.o1 T1 (fun xs : List Int => xs.sum) (R.lc (α := (List Int)) (R.pure A) (fun _ => R.pure true) (fun y11 => (R.o2 (fun (xs : (List Int)) i => ixOk xs.length i) nth (R.pure y11) (R.pure x))))) (R.o1 T1 (fun xs : List Int => xs.sum) (R.lc (α := (Tu Int)) (R.map Tu.l (R.pure T)) (fun _ => R.pure true) (fun y12 => (R.o2 (fun (xs : (Tu Int)) i => ixOk xs.l.length i) (fun xs i => nth xs.l i) (R.pure y12) (R.pure x)))))) (· = colP A T x) := by
  have hx' := mem_rng.mp hx
  have s := shp_all g h
  have m3 := g.m3
  refine Ok.wtup2 (Ok.wo1T (Ok.wlc1 (fun r => nth r x) (Ok.pure ⟨by omega, fun r hr => ?_, Ok.wo1T (Ok.wlc1 (fun t : Tu Int => nth t.l x) (Ok.wmap (Ok.pure ⟨by omega, fun r hr => ?_, rfl⟩)))⟩)))
  · have := g.len r hr
    (repeat (first | (with_reducible first | refine Ok.pure ?_ | refine Ok.bind ?_ | refine Ok.wo2T ?_ | refine Ok.wo1T ?_ | refine Ok.wo1 ?_ | refine Ok.wo2 ?_ | refine Ok.wo3 ?_ | refine Ok.wnot ?_ | refine Ok.wmap ?_ | refine Ok.wtup2 ?_ | refine Ok.wtup3 ?_ | refine Ok.wh2 ?_ | refine Ok.wh3 ?_ | refine Ok.wp1 ?_ | refine Ok.wp2 ?_ | refine Ok.wt1 ?_ | refine Ok.wt2 ?_ | refine Ok.wt3 ?_ | refine Ok.wset ?_ | refine Ok.wset2 ?_ | refine Ok.wixO ?_ | refine Ok.wrowO ?_ | refine Ok.wsetRow ?_ | refine Ok.wapp ?_ | refine Ok.wlnil ?_ | refine Ok.wlcons ?_ | refine Ok.wmap ?_ | refine Ok.wsz ?_ | refine Ok.wrng1 ?_ | refine Ok.wrng2 ?_ | refine Ok.wzip ?_ | refine Ok.wenum ?_ | refine Ok.wchain ?_ | refine Ok.wc1 ?_ | refine Ok.wc2 ?_ | refine Ok.wc3 ?_ | refine Ok.wc4 ?_ | refine Ok.wc5 ?_ | refine Ok.wunO ?_ | refine Ok.wite ?_ | refine Ok.wand ?_ | refine Ok.wor ?_) | refine Ok.and' (by first | exact True.intro | exact Option.isSome_some | exact ⟨by decide, by decide⟩ | decide | omega | (simp only [ixOk, List.length_map, List.length_append, List.length_cons, List.length_nil, List.length_set, rng_len] at *; omega) | exact cmL (by first | decide | omega) (by first | decide | omega) | exact cmR (by first | decide | omega) (by first | decide | omega)) ?_))
    rfl
  · have := s.2 r hr
    (repeat (first | (with_reducible first | refine Ok.pure ?_ | refine Ok.bind ?_ | refine Ok.wo2T ?_ | refine Ok.wo1T ?_ | refine Ok.wo1 ?_ | refine Ok.wo2 ?_ | refine Ok.wo3 ?_ | refine Ok.wnot ?_ | refine Ok.wmap ?_ | refine Ok.wtup2 ?_ | refine Ok.wtup3 ?_ | refine Ok.wh2 ?_ | refine Ok.wh3 ?_ | refine Ok.wp1 ?_ | refine Ok.wp2 ?_ | refine Ok.wt1 ?_ | refine Ok.wt2 ?_ | refine Ok.wt3 ?_ | refine Ok.wset ?_ | refine Ok.wset2 ?_ | refine Ok.wixO ?_ | refine Ok.wrowO ?_ | refine Ok.wsetRow ?_ | refine Ok.wapp ?_ | refine Ok.wlnil ?_ | refine Ok.wlcons ?_ | refine Ok.wmap ?_ | refine Ok.wsz ?_ | refine Ok.wrng1 ?_ | refine Ok.wrng2 ?_ | refine Ok.wzip ?_ | refine Ok.wenum ?_ | refine Ok.wchain ?_ | refine Ok.wc1 ?_ | refine Ok.wc2 ?_ | refine Ok.wc3 ?_ | refine Ok.wc4 ?_ | refine Ok.wc5 ?_ | refine Ok.wunO ?_ | refine Ok.wite ?_ | refine Ok.wand ?_ | refine Ok.wor ?_) | refine Ok.and' (by first | exact True.intro | exact Option.isSome_some | exact ⟨by decide, by decide⟩ | decide | omega | (simp only [ixOk, List.length_map, List.length_append, List.length_cons, List.length_nil, List.length_set, rng_len] at *; omega) | exact cmL (by first | decide | omega) (by first | decide | omega) | exact cmR (by first | decide | omega) (by first | decide | omega)) ?_))
    rfl
theorem colfold {A : List (List Int)} {w : Nat} (g : GR A w) {T : Tu (Tu Int)} (h : shpB A T = true) (s0 : List (Int × Int)) (h0 : s0.length ≤ 1000) : Ok (R.fold (α := Int) (R.rng1 (R.o1 T1 (fun xs : (List Int) => (xs.length : Int)) (R.o2 (fun (xs : (List (List Int))) i => ixOk xs.length i) nth (R.pure A) (R.pure (0 : Int))))) s0 (fun s9 x10 =>
  (R.bind (R.app s9 (R.tup2 (R.o1 T1 (fun xs : List Int => xs.sum) (R.lc (α := (List Int)) (R.pure A) (fun _ => R.pure true) (fun y11 => (R.o2 (fun (xs : (List Int)) i => ixOk xs.length i) nth (R.pure y11) (R.pure x10))))) (R.o1 T1 (fun xs : List Int => xs.sum) (R.lc (α := (Tu Int)) (R.map Tu.l (R.pure T)) (fun _ => R.pure true) (fun y12 => (R.o2 (fun (xs : (Tu Int)) i => ixOk xs.l.length i) (fun xs i => nth xs.l i) (R.pure y12) (R.pure x10))))))) fun w13 =>
  (R.pure (w13 : (List (Int × Int))))))) (· = s0 ++ (rng 0 (w : Int)).map (colP A T)) := by
  have m1 := g.m1
  have w3 := g.w3
  refine Ok.wfold (fun i s => s = s0 ++ ((rng 0 (w : Int)).take i).map (colP A T)) ?_
  (repeat (first | (with_reducible first | refine Ok.pure ?_ | refine Ok.bind ?_ | refine Ok.wo2T ?_ | refine Ok.wo1T ?_ | refine Ok.wo1 ?_ | refine Ok.wo2 ?_ | refine Ok.wo3 ?_ | refine Ok.wnot ?_ | refine Ok.wmap ?_ | refine Ok.wtup2 ?_ | refine Ok.wtup3 ?_ | refine Ok.wh2 ?_ | refine Ok.wh3 ?_ | refine Ok.wp1 ?_ | refine Ok.wp2 ?_ | refine Ok.wt1 ?_ | refine Ok.wt2 ?_ | refine Ok.wt3 ?_ | refine Ok.wset ?_ | refine Ok.wset2 ?_ | refine Ok.wixO ?_ | refine Ok.wrowO ?_ | refine Ok.wsetRow ?_ | refine Ok.wapp ?_ | refine Ok.wlnil ?_ | refine Ok.wlcons ?_ | refine Ok.wmap ?_ | refine Ok.wsz ?_ | refine Ok.wrng1 ?_ | refine Ok.wrng2 ?_ | refine Ok.wzip ?_ | refine Ok.wenum ?_ | refine Ok.wchain ?_ | refine Ok.wc1 ?_ | refine Ok.wc2 ?_ | refine Ok.wc3 ?_ | refine Ok.wc4 ?_ | refine Ok.wc5 ?_ | refine Ok.wunO ?_ | refine Ok.wite ?_ | refine Ok.wand ?_ | refine Ok.wor ?_) | refine Ok.and' (by first | exact True.intro | exact Option.isSome_some | exact ⟨by decide, by decide⟩ | decide | omega | (simp only [ixOk, List.length_map, List.length_append, List.length_cons, List.length_nil, List.length_set, rng_len] at *; omega) | exact cmL (by first | decide | omega) (by first | decide | omega) | exact cmR (by first | decide | omega) (by first | decide | omega)) ?_))
  rw [g.l0]
  refine ⟨⟨by omega, by omega⟩, ?_⟩
  refine ⟨by rw [List.take_zero]; simp, ?_, ?_⟩
  · rintro i x s hi rfl
    have hx := List.mem_of_getElem? hi
    have hl : ((rng 0 (w : Int)).take i).length ≤ 3 := by rw [List.length_take, rng_len]; omega
    have hs : (s0 ++ ((rng 0 (w : Int)).take i).map (colP A T)).length < 100000 := by rw [List.length_append, List.length_map]; omega
    refine Ok.bind (Ok.wapp ((colsum_ok g h hx).eq ⟨hs, Ok.pure ?_⟩))
    rw [List.append_assoc]
    have e := List.take_add_one (l := rng 0 (w : Int)) (i := i)
    rw [hi] at e
    rw [e, List.map_append]
    rfl
  · rintro s rfl
    rw [List.take_length]
theorem is_rounded_ok {A : List (List Int)} {w : Nat} (g : GR A w) {b : Int} (b0 : 0 < b) (b1 : b ≤ 10) (T : Tu (Tu Int)) : Ok (m_is_rounded A b T) (· = VB A w b T) := by
  unfold m_is_rounded
  have m3 := g.m3
  have w3 := g.w3
  refine Ok.wite (Ok.wor ?_)
  (repeat (first | (with_reducible first | refine Ok.pure ?_ | refine Ok.bind ?_ | refine Ok.wo2T ?_ | refine Ok.wo1T ?_ | refine Ok.wo1 ?_ | refine Ok.wo2 ?_ | refine Ok.wo3 ?_ | refine Ok.wnot ?_ | refine Ok.wmap ?_ | refine Ok.wtup2 ?_ | refine Ok.wtup3 ?_ | refine Ok.wh2 ?_ | refine Ok.wh3 ?_ | refine Ok.wp1 ?_ | refine Ok.wp2 ?_ | refine Ok.wt1 ?_ | refine Ok.wt2 ?_ | refine Ok.wt3 ?_ | refine Ok.wset ?_ | refine Ok.wset2 ?_ | refine Ok.wixO ?_ | refine Ok.wrowO ?_ | refine Ok.wsetRow ?_ | refine Ok.wapp ?_ | refine Ok.wlnil ?_ | refine Ok.wlcons ?_ | refine Ok.wmap ?_ | refine Ok.wsz ?_ | refine Ok.wrng1 ?_ | refine Ok.wrng2 ?_ | refine Ok.wzip ?_ | refine Ok.wenum ?_ | refine Ok.wchain ?_ | refine Ok.wc1 ?_ | refine Ok.wc2 ?_ | refine Ok.wc3 ?_ | refine Ok.wc4 ?_ | refine Ok.wc5 ?_ | refine Ok.wunO ?_ | refine Ok.wite ?_ | refine Ok.wand ?_ | refine Ok.wor ?_) | refine Ok.and' (by first | exact True.intro | exact Option.isSome_some | exact ⟨by decide, by decide⟩ | decide | omega | (simp only [ixOk, List.length_map, List.length_append, List.length_cons, List.length_nil, List.length_set, rng_len] at *; omega) | exact cmL (by first | decide | omega) (by first | decide | omega) | exact cmR (by first | decide | omega) (by first | decide | omega)) ?_))
  refine ⟨fun e => Ok.wo1T (Ok.wgxa1 (fun y => !decide (y.1.length = y.2.l.length)) ?_), fun e => ⟨fun _ => ?_, fun z => by cases z⟩⟩
  · (repeat (first | (with_reducible first | refine Ok.pure ?_ | refine Ok.bind ?_ | refine Ok.wo2T ?_ | refine Ok.wo1T ?_ | refine Ok.wo1 ?_ | refine Ok.wo2 ?_ | refine Ok.wo3 ?_ | refine Ok.wnot ?_ | refine Ok.wmap ?_ | refine Ok.wtup2 ?_ | refine Ok.wtup3 ?_ | refine Ok.wh2 ?_ | refine Ok.wh3 ?_ | refine Ok.wp1 ?_ | refine Ok.wp2 ?_ | refine Ok.wt1 ?_ | refine Ok.wt2 ?_ | refine Ok.wt3 ?_ | refine Ok.wset ?_ | refine Ok.wset2 ?_ | refine Ok.wixO ?_ | refine Ok.wrowO ?_ | refine Ok.wsetRow ?_ | refine Ok.wapp ?_ | refine Ok.wlnil ?_ | refine Ok.wlcons ?_ | refine Ok.wmap ?_ | refine Ok.wsz ?_ | refine Ok.wrng1 ?_ | refine Ok.wrng2 ?_ | refine Ok.wzip ?_ | refine Ok.wenum ?_ | refine Ok.wchain ?_ | refine Ok.wc1 ?_ | refine Ok.wc2 ?_ | refine Ok.wc3 ?_ | refine Ok.wc4 ?_ | refine Ok.wc5 ?_ | refine Ok.wunO ?_ | refine Ok.wite ?_ | refine Ok.wand ?_ | refine Ok.wor ?_) | refine Ok.and' (by first | exact True.intro | exact Option.isSome_some | exact ⟨by decide, by decide⟩ | decide | omega | (simp only [ixOk, List.length_map, List.length_append, List.length_cons, List.length_nil, List.length_set, rng_len] at *; omega) | exact cmL (by first | decide | omega) (by first | decide | omega) | exact cmR (by first | decide | omega) (by first | decide | omega)) ?_))
    refine ⟨fun y hy => ?_, fun e2 => ?_, fun e2 => ?_⟩
    · (repeat (first | (with_reducible first | refine Ok.pure ?_ | refine Ok.bind ?_ | refine Ok.wo2T ?_ | refine Ok.wo1T ?_ | refine Ok.wo1 ?_ | refine Ok.wo2 ?_ | refine Ok.wo3 ?_ | refine Ok.wnot ?_ | refine Ok.wmap ?_ | refine Ok.wtup2 ?_ | refine Ok.wtup3 ?_ | refine Ok.wh2 ?_ | refine Ok.wh3 ?_ | refine Ok.wp1 ?_ | refine Ok.wp2 ?_ | refine Ok.wt1 ?_ | refine Ok.wt2 ?_ | refine Ok.wt3 ?_ | refine Ok.wset ?_ | refine Ok.wset2 ?_ | refine Ok.wixO ?_ | refine Ok.wrowO ?_ | refine Ok.wsetRow ?_ | refine Ok.wapp ?_ | refine Ok.wlnil ?_ | refine Ok.wlcons ?_ | refine Ok.wmap ?_ | refine Ok.wsz ?_ | refine Ok.wrng1 ?_ | refine Ok.wrng2 ?_ | refine Ok.wzip ?_ | refine Ok.wenum ?_ | refine Ok.wchain ?_ | refine Ok.wc1 ?_ | refine Ok.wc2 ?_ | refine Ok.wc3 ?_ | refine Ok.wc4 ?_ | refine Ok.wc5 ?_ | refine Ok.wunO ?_ | refine Ok.wite ?_ | refine Ok.wand ?_ | refine Ok.wor ?_) | refine Ok.and' (by first | exact True.intro | exact Option.isSome_some | exact ⟨by decide, by decide⟩ | decide | omega | (simp only [ixOk, List.length_map, List.length_append, List.length_cons, List.length_nil, List.length_set, rng_len] at *; omega) | exact cmL (by first | decide | omega) (by first | decide | omega) | exact cmR (by first | decide | omega) (by first | decide | omega)) ?_))
      rw [Bool.eq_iff_iff]
      simp
      omega
    · (repeat (first | (with_reducible first | refine Ok.pure ?_ | refine Ok.bind ?_ | refine Ok.wo2T ?_ | refine Ok.wo1T ?_ | refine Ok.wo1 ?_ | refine Ok.wo2 ?_ | refine Ok.wo3 ?_ | refine Ok.wnot ?_ | refine Ok.wmap ?_ | refine Ok.wtup2 ?_ | refine Ok.wtup3 ?_ | refine Ok.wh2 ?_ | refine Ok.wh3 ?_ | refine Ok.wp1 ?_ | refine Ok.wp2 ?_ | refine Ok.wt1 ?_ | refine Ok.wt2 ?_ | refine Ok.wt3 ?_ | refine Ok.wset ?_ | refine Ok.wset2 ?_ | refine Ok.wixO ?_ | refine Ok.wrowO ?_ | refine Ok.wsetRow ?_ | refine Ok.wapp ?_ | refine Ok.wlnil ?_ | refine Ok.wlcons ?_ | refine Ok.wmap ?_ | refine Ok.wsz ?_ | refine Ok.wrng1 ?_ | refine Ok.wrng2 ?_ | refine Ok.wzip ?_ | refine Ok.wenum ?_ | refine Ok.wchain ?_ | refine Ok.wc1 ?_ | refine Ok.wc2 ?_ | refine Ok.wc3 ?_ | refine Ok.wc4 ?_ | refine Ok.wc5 ?_ | refine Ok.wunO ?_ | refine Ok.wite ?_ | refine Ok.wand ?_ | refine Ok.wor ?_) | refine Ok.and' (by first | exact True.intro | exact Option.isSome_some | exact ⟨by decide, by decide⟩ | decide | omega | (simp only [ixOk, List.length_map, List.length_append, List.length_cons, List.length_nil, List.length_set, rng_len] at *; omega) | exact cmL (by first | decide | omega) (by first | decide | omega) | exact cmR (by first | decide | omega) (by first | decide | omega)) ?_))
      unfold VB shpB
      rw [eq_comm, Bool.and_assoc, Bool.and_eq_false_iff]
      right
      rw [Bool.and_eq_false_iff]
      left
      rw [← Bool.not_eq_true', List.not_all_eq_any_not]
      exact e2
    · have sh : shpB A T = true := by
        unfold shpB
        rw [Bool.and_eq_true]
        refine ⟨?_, ?_⟩
        · simp at e ⊢; omega
        · rw [← Bool.not_eq_false', List.not_all_eq_any_not]
          exact e2
      have s := shp_all g sh
      (repeat (first | (with_reducible first | refine Ok.pure ?_ | refine Ok.bind ?_ | refine Ok.wo2T ?_ | refine Ok.wo1T ?_ | refine Ok.wo1 ?_ | refine Ok.wo2 ?_ | refine Ok.wo3 ?_ | refine Ok.wnot ?_ | refine Ok.wmap ?_ | refine Ok.wtup2 ?_ | refine Ok.wtup3 ?_ | refine Ok.wh2 ?_ | refine Ok.wh3 ?_ | refine Ok.wp1 ?_ | refine Ok.wp2 ?_ | refine Ok.wt1 ?_ | refine Ok.wt2 ?_ | refine Ok.wt3 ?_ | refine Ok.wset ?_ | refine Ok.wset2 ?_ | refine Ok.wixO ?_ | refine Ok.wrowO ?_ | refine Ok.wsetRow ?_ | refine Ok.wapp ?_ | refine Ok.wlnil ?_ | refine Ok.wlcons ?_ | refine Ok.wmap ?_ | refine Ok.wsz ?_ | refine Ok.wrng1 ?_ | refine Ok.wrng2 ?_ | refine Ok.wzip ?_ | refine Ok.wenum ?_ | refine Ok.wchain ?_ | refine Ok.wc1 ?_ | refine Ok.wc2 ?_ | refine Ok.wc3 ?_ | refine Ok.wc4 ?_ | refine Ok.wc5 ?_ | refine Ok.wunO ?_ | refine Ok.wite ?_ | refine Ok.wand ?_ | refine Ok.wor ?_) | refine Ok.and' (by first | exact True.intro | exact Option.isSome_some | exact ⟨by decide, by decide⟩ | decide | omega | (simp only [ixOk, List.length_map, List.length_append, List.length_cons, List.length_nil, List.length_set, rng_len] at *; omega) | exact cmL (by first | decide | omega) (by first | decide | omega) | exact cmR (by first | decide | omega) (by first | decide | omega)) ?_))
      refine Ok.wlc2 (fun y : (List Int) × (Tu Int) => y.1.zip y.2.l) (fun _ q => (q.1, q.2)) ?_
      (repeat (first | (with_reducible first | refine Ok.pure ?_ | refine Ok.bind ?_ | refine Ok.wo2T ?_ | refine Ok.wo1T ?_ | refine Ok.wo1 ?_ | refine Ok.wo2 ?_ | refine Ok.wo3 ?_ | refine Ok.wnot ?_ | refine Ok.wmap ?_ | refine Ok.wtup2 ?_ | refine Ok.wtup3 ?_ | refine Ok.wh2 ?_ | refine Ok.wh3 ?_ | refine Ok.wp1 ?_ | refine Ok.wp2 ?_ | refine Ok.wt1 ?_ | refine Ok.wt2 ?_ | refine Ok.wt3 ?_ | refine Ok.wset ?_ | refine Ok.wset2 ?_ | refine Ok.wixO ?_ | refine Ok.wrowO ?_ | refine Ok.wsetRow ?_ | refine Ok.wapp ?_ | refine Ok.wlnil ?_ | refine Ok.wlcons ?_ | refine Ok.wmap ?_ | refine Ok.wsz ?_ | refine Ok.wrng1 ?_ | refine Ok.wrng2 ?_ | refine Ok.wzip ?_ | refine Ok.wenum ?_ | refine Ok.wchain ?_ | refine Ok.wc1 ?_ | refine Ok.wc2 ?_ | refine Ok.wc3 ?_ | refine Ok.wc4 ?_ | refine Ok.wc5 ?_ | refine Ok.wunO ?_ | refine Ok.wite ?_ | refine Ok.wand ?_ | refine Ok.wor ?_) | refine Ok.and' (by first | exact True.intro | exact Option.isSome_some | exact ⟨by decide, by decide⟩ | decide | omega | (simp only [ixOk, List.length_map, List.length_append, List.length_cons, List.length_nil, List.length_set, rng_len] at *; omega) | exact cmL (by first | decide | omega) (by first | decide | omega) | exact cmR (by first | decide | omega) (by first | decide | omega)) ?_))
      have z3 := zip_len3 A T.l
      refine ⟨by omega, fun y hy => ⟨?_, fun q hq => ?_⟩, ?_⟩
      · (repeat (first | (with_reducible first | refine Ok.pure ?_ | refine Ok.bind ?_ | refine Ok.wo2T ?_ | refine Ok.wo1T ?_ | refine Ok.wo1 ?_ | refine Ok.wo2 ?_ | refine Ok.wo3 ?_ | refine Ok.wnot ?_ | refine Ok.wmap ?_ | refine Ok.wtup2 ?_ | refine Ok.wtup3 ?_ | refine Ok.wh2 ?_ | refine Ok.wh3 ?_ | refine Ok.wp1 ?_ | refine Ok.wp2 ?_ | refine Ok.wt1 ?_ | refine Ok.wt2 ?_ | refine Ok.wt3 ?_ | refine Ok.wset ?_ | refine Ok.wset2 ?_ | refine Ok.wixO ?_ | refine Ok.wrowO ?_ | refine Ok.wsetRow ?_ | refine Ok.wapp ?_ | refine Ok.wlnil ?_ | refine Ok.wlcons ?_ | refine Ok.wmap ?_ | refine Ok.wsz ?_ | refine Ok.wrng1 ?_ | refine Ok.wrng2 ?_ | refine Ok.wzip ?_ | refine Ok.wenum ?_ | refine Ok.wchain ?_ | refine Ok.wc1 ?_ | refine Ok.wc2 ?_ | refine Ok.wc3 ?_ | refine Ok.wc4 ?_ | refine Ok.wc5 ?_ | refine Ok.wunO ?_ | refine Ok.wite ?_ | refine Ok.wand ?_ | refine Ok.wor ?_) | refine Ok.and' (by first | exact True.intro | exact Option.isSome_some | exact ⟨by decide, by decide⟩ | decide | omega | (simp only [ixOk, List.length_map, List.length_append, List.length_cons, List.length_nil, List.length_set, rng_len] at *; omega) | exact cmL (by first | decide | omega) (by first | decide | omega) | exact cmR (by first | decide | omega) (by first | decide | omega)) ?_))
        refine ⟨rfl, ?_⟩
        have := zip_len3 y.1 y.2.l
        obtain ⟨i, hi, e⟩ := (zip_mem (l := A) (k := T.l) s.1).mp hy
        have := g.len y.1 (by rw [e]; exact nth_mem A i hi)
        omega
      · (repeat (first | (with_reducible first | refine Ok.pure ?_ | refine Ok.bind ?_ | refine Ok.wo2T ?_ | refine Ok.wo1T ?_ | refine Ok.wo1 ?_ | refine Ok.wo2 ?_ | refine Ok.wo3 ?_ | refine Ok.wnot ?_ | refine Ok.wmap ?_ | refine Ok.wtup2 ?_ | refine Ok.wtup3 ?_ | refine Ok.wh2 ?_ | refine Ok.wh3 ?_ | refine Ok.wp1 ?_ | refine Ok.wp2 ?_ | refine Ok.wt1 ?_ | refine Ok.wt2 ?_ | refine Ok.wt3 ?_ | refine Ok.wset ?_ | refine Ok.wset2 ?_ | refine Ok.wixO ?_ | refine Ok.wrowO ?_ | refine Ok.wsetRow ?_ | refine Ok.wapp ?_ | refine Ok.wlnil ?_ | refine Ok.wlcons ?_ | refine Ok.wmap ?_ | refine Ok.wsz ?_ | refine Ok.wrng1 ?_ | refine Ok.wrng2 ?_ | refine Ok.wzip ?_ | refine Ok.wenum ?_ | refine Ok.wchain ?_ | refine Ok.wc1 ?_ | refine Ok.wc2 ?_ | refine Ok.wc3 ?_ | refine Ok.wc4 ?_ | refine Ok.wc5 ?_ | refine Ok.wunO ?_ | refine Ok.wite ?_ | refine Ok.wand ?_ | refine Ok.wor ?_) | refine Ok.and' (by first | exact True.intro | exact Option.isSome_some | exact ⟨by decide, by decide⟩ | decide | omega | (simp only [ixOk, List.length_map, List.length_append, List.length_cons, List.length_nil, List.length_set, rng_len] at *; omega) | exact cmL (by first | decide | omega) (by first | decide | omega) | exact cmR (by first | decide | omega) (by first | decide | omega)) ?_))
        rfl
      have hc : (cellsP A T).length ≤ 9 := by
        unfold cellsP
        rw [List.length_flatMap]
        have : ∀ l : List ((List Int) × (Tu Int)), (∀ y ∈ l, y.1.length = w) → (l.map fun y => ((y.1.zip y.2.l).map fun q => (q.1, q.2)).length).sum ≤ 3 * l.length := by
          intro l
          induction l with
          | nil => intro _; simp
          | cons y l ih =>
            intro hl
            have h1 := hl y List.mem_cons_self
            have h2 := ih fun z hz => hl z (List.mem_cons_of_mem _ hz)
            have h3 := zip_len3 y.1 y.2.l
            rw [List.map_cons, List.sum_cons, List.length_map, List.length_cons]
            omega
        have := this (A.zip T.l) fun y hy => by
          obtain ⟨i, hi, e⟩ := (zip_mem (l := A) (k := T.l) s.1).mp hy
          exact g.len y.1 (by rw [e]; exact nth_mem A i hi)
        omega
      refine Ok.bind (Ok.wo2 (Ok.pure (Ok.wlc1 (fun y : (List Int) × (Tu Int) => (y.1.sum, y.2.l.sum)) ?_)))
      (repeat (first | (with_reducible first | refine Ok.pure ?_ | refine Ok.bind ?_ | refine Ok.wo2T ?_ | refine Ok.wo1T ?_ | refine Ok.wo1 ?_ | refine Ok.wo2 ?_ | refine Ok.wo3 ?_ | refine Ok.wnot ?_ | refine Ok.wmap ?_ | refine Ok.wtup2 ?_ | refine Ok.wtup3 ?_ | refine Ok.wh2 ?_ | refine Ok.wh3 ?_ | refine Ok.wp1 ?_ | refine Ok.wp2 ?_ | refine Ok.wt1 ?_ | refine Ok.wt2 ?_ | refine Ok.wt3 ?_ | refine Ok.wset ?_ | refine Ok.wset2 ?_ | refine Ok.wixO ?_ | refine Ok.wrowO ?_ | refine Ok.wsetRow ?_ | refine Ok.wapp ?_ | refine Ok.wlnil ?_ | refine Ok.wlcons ?_ | refine Ok.wmap ?_ | refine Ok.wsz ?_ | refine Ok.wrng1 ?_ | refine Ok.wrng2 ?_ | refine Ok.wzip ?_ | refine Ok.wenum ?_ | refine Ok.wchain ?_ | refine Ok.wc1 ?_ | refine Ok.wc2 ?_ | refine Ok.wc3 ?_ | refine Ok.wc4 ?_ | refine Ok.wc5 ?_ | refine Ok.wunO ?_ | refine Ok.wite ?_ | refine Ok.wand ?_ | refine Ok.wor ?_) | refine Ok.and' (by first | exact True.intro | exact Option.isSome_some | exact ⟨by decide, by decide⟩ | decide | omega | (simp only [ixOk, List.length_map, List.length_append, List.length_cons, List.length_nil, List.length_set, rng_len] at *; omega) | exact cmL (by first | decide | omega) (by first | decide | omega) | exact cmR (by first | decide | omega) (by first | decide | omega)) ?_))
      refine ⟨fun y hy => ?_, ?_⟩
      · (repeat (first | (with_reducible first | refine Ok.pure ?_ | refine Ok.bind ?_ | refine Ok.wo2T ?_ | refine Ok.wo1T ?_ | refine Ok.wo1 ?_ | refine Ok.wo2 ?_ | refine Ok.wo3 ?_ | refine Ok.wnot ?_ | refine Ok.wmap ?_ | refine Ok.wtup2 ?_ | refine Ok.wtup3 ?_ | refine Ok.wh2 ?_ | refine Ok.wh3 ?_ | refine Ok.wp1 ?_ | refine Ok.wp2 ?_ | refine Ok.wt1 ?_ | refine Ok.wt2 ?_ | refine Ok.wt3 ?_ | refine Ok.wset ?_ | refine Ok.wset2 ?_ | refine Ok.wixO ?_ | refine Ok.wrowO ?_ | refine Ok.wsetRow ?_ | refine Ok.wapp ?_ | refine Ok.wlnil ?_ | refine Ok.wlcons ?_ | refine Ok.wmap ?_ | refine Ok.wsz ?_ | refine Ok.wrng1 ?_ | refine Ok.wrng2 ?_ | refine Ok.wzip ?_ | refine Ok.wenum ?_ | refine Ok.wchain ?_ | refine Ok.wc1 ?_ | refine Ok.wc2 ?_ | refine Ok.wc3 ?_ | refine Ok.wc4 ?_ | refine Ok.wc5 ?_ | refine Ok.wunO ?_ | refine Ok.wite ?_ | refine Ok.wand ?_ | refine Ok.wor ?_) | refine Ok.and' (by first | exact True.intro | exact Option.isSome_some | exact ⟨by decide, by decide⟩ | decide | omega | (simp only [ixOk, List.length_map, List.length_append, List.length_cons, List.length_nil, List.length_set, rng_len] at *; omega) | exact cmL (by first | decide | omega) (by first | decide | omega) | exact cmR (by first | decide | omega) (by first | decide | omega)) ?_))
        rfl
      change ((cellsP A T).length + (linesP A T).length ≤ 1000000) ∧ _
      have hl : (linesP A T).length ≤ 3 := by unfold linesP; rw [List.length_map]; omega
      refine ⟨by omega, ?_⟩
      refine Ok.bind ((colfold g sh (cellsP A T ++ linesP A T) (by rw [List.length_append]; omega)).eq ?_)
      refine Ok.wgx1 (bdb b) (Ok.pure ⟨fun q hq => ?_, ?_⟩)
      · have cd : ∀ x : Int, CDiv x b := fun x => cdv78 b0 b1
        exact Ok.wchain (Ok.wo2 (Ok.pure (Ok.pure ⟨cd _, Ok.pure ⟨trivial, Ok.wo1T (Ok.wo2 (Ok.wo1T (Ok.pure (Ok.pure ⟨cd _, trivial, rfl⟩))))⟩⟩)))
      · unfold VB
        rw [sh, Bool.true_and]
  · refine Ok.pure ?_
    unfold VB shpB
    rw [decide_eq_false (by simp at e; omega)]
    rfl

theorem bdb_mul {a b y : Int} (b0 : 0 < b) : (decide ((y - 1) * b < a) && decide (a < (y + 1) * b)) = bdb b (a, y) := by
  unfold bdb
  have h1 : a / b ≤ y ↔ a < (y + 1) * b := by rw [← Int.lt_add_one_iff, Int.ediv_lt_iff_lt_mul b0]
  have h2 : y ≤ -(-a / b) ↔ (y - 1) * b < a := by
    have : y ≤ -(-a / b) ↔ -a / b ≤ -y := by omega
    rw [this, ← Int.lt_add_one_iff, Int.ediv_lt_iff_lt_mul b0]
    have e : (-y + 1) * b = -((y - 1) * b) := by grind
    rw [e]; omega
  rw [Bool.eq_iff_iff]
  simp only [Bool.and_eq_true, decide_eq_true_eq, h1, h2]
  exact And.comm
theorem zip_rng {α β : Type} [Inhabited α] [Inhabited β] {l : List α} {k : List β} (h : k.length = l.length) : l.zip k = (rng 0 (l.length : Int)).map fun i => (nth l i, nth k i) := by
  refine list_ext (by rw [List.length_zip, List.length_map, rng_len]; omega) fun i hi => ?_
  rw [List.length_zip] at hi
  rw [nth_map _ _ _ (by rw [rng_len]; omega), nth_at _ _ (by rw [List.length_zip]; omega), List.getElem_zip, ← nth_at l i (by omega), ← nth_at k i (by omega)]
  have : nth (rng 0 (l.length : Int)) (i : Int) = (i : Int) := by
    rw [nth_at _ _ (by rw [rng_len]; omega)]
    unfold rng
    simp
  rw [this]
theorem law_rounds_ok {A : List (List Int)} {w : Nat} (g : GR A w) {b : Int} (b0 : 0 < b) (b1 : b ≤ 10) (T : Tu (Tu Int)) : Ok (m__law_rounds A b T) (· = VB A w b T) := by
  unfold m__law_rounds
  have m3 := g.m3
  have w3 := g.w3
  refine Ok.wite (Ok.wor (Ok.wo2T (Ok.wo1T (Ok.pure (Ok.wo1T (Ok.pure ⟨fun e => ?_, fun e => ⟨fun _ => Ok.pure ?_, fun z => by cases z⟩⟩))))))
  · have e0 : T.l.length = A.length := by simp at e; omega
    have er : Ok (R.rng1 (R.o1 T1 (fun xs : (List (List Int)) => (xs.length : Int)) (R.pure A))) (· = rng 0 (A.length : Int)) := Ok.wrng1 (Ok.wo1T (Ok.pure ⟨⟨by omega, by omega⟩, rfl⟩))
    have esh : ((rng 0 (A.length : Int)).map fun i => decide (((nth T.l i).l.length : Int) = (nth A i).length)).all id = shpB A T := by
      unfold shpB
      rw [decide_eq_true e0, Bool.true_and, zip_rng e0, List.all_map, List.all_map]
      congr 1
      funext i
      show decide (((nth T.l i).l.length : Int) = (nth A i).length) = decide ((nth A i).length = (nth T.l i).l.length)
      rw [decide_eq_decide]
      omega
    refine Ok.wnot (Ok.wo1T (Ok.wo1T (Ok.wlc1 (fun i => decide (((nth T.l i).l.length : Int) = (nth A i).length)) (er.eq ⟨by rw [rng_len]; omega, fun i hi => ?_, ?_⟩))))
    · have := mem_rng.mp hi
      (repeat (first | (with_reducible first | refine Ok.pure ?_ | refine Ok.bind ?_ | refine Ok.wo2T ?_ | refine Ok.wo1T ?_ | refine Ok.wo1 ?_ | refine Ok.wo2 ?_ | refine Ok.wo3 ?_ | refine Ok.wnot ?_ | refine Ok.wmap ?_ | refine Ok.wtup2 ?_ | refine Ok.wtup3 ?_ | refine Ok.wh2 ?_ | refine Ok.wh3 ?_ | refine Ok.wp1 ?_ | refine Ok.wp2 ?_ | refine Ok.wt1 ?_ | refine Ok.wt2 ?_ | refine Ok.wt3 ?_ | refine Ok.wset ?_ | refine Ok.wset2 ?_ | refine Ok.wixO ?_ | refine Ok.wrowO ?_ | refine Ok.wsetRow ?_ | refine Ok.wapp ?_ | refine Ok.wlnil ?_ | refine Ok.wlcons ?_ | refine Ok.wmap ?_ | refine Ok.wsz ?_ | refine Ok.wrng1 ?_ | refine Ok.wrng2 ?_ | refine Ok.wzip ?_ | refine Ok.wenum ?_ | refine Ok.wchain ?_ | refine Ok.wc1 ?_ | refine Ok.wc2 ?_ | refine Ok.wc3 ?_ | refine Ok.wc4 ?_ | refine Ok.wc5 ?_ | refine Ok.wunO ?_ | refine Ok.wite ?_ | refine Ok.wand ?_ | refine Ok.wor ?_) | refine Ok.and' (by first | exact True.intro | exact Option.isSome_some | exact ⟨by decide, by decide⟩ | decide | omega | (simp only [ixOk, List.length_map, List.length_append, List.length_cons, List.length_nil, List.length_set, rng_len] at *; omega) | exact cmL (by first | decide | omega) (by first | decide | omega) | exact cmR (by first | decide | omega) (by first | decide | omega)) ?_))
      rfl
    rw [esh]
    refine ⟨fun e2 => Ok.pure ?_, fun e2 => ?_⟩
    · unfold VB
      rw [show shpB A T = false by simpa using e2]
      rfl
    have sh : shpB A T = true := by simpa using e2
    have s := shp_all g sh
    have e1 : linesP A T = (rng 0 (A.length : Int)).map fun i => ((nth A i).sum, (nth T.l i).l.sum) := by
      unfold linesP
      rw [zip_rng e0, List.map_map]
      rfl
    have e3 : cellsP A T = (rng 0 (A.length : Int)).flatMap fun i => (rng 0 (w : Int)).map fun j => (nth (nth A i) j, nth (nth T.l i).l j) := by
      unfold cellsP
      rw [zip_rng e0, List.flatMap_map]
      have : ∀ l : List Int, (∀ i ∈ l, i ∈ rng 0 (A.length : Int)) → l.flatMap (fun a => (((nth A a, nth T.l a) : List Int × Tu Int).1.zip ((nth A a, nth T.l a) : List Int × Tu Int).2.l).map fun q => (q.1, q.2)) = l.flatMap fun i => (rng 0 (w : Int)).map fun j => (nth (nth A i) j, nth (nth T.l i).l j) := by
        intro l
        induction l with
        | nil => intro _; rfl
        | cons i l ih =>
          intro hl
          rw [List.flatMap_cons, List.flatMap_cons, ih fun z hz => hl z (List.mem_cons_of_mem _ hz)]
          congr 1
          have hi := mem_rng.mp (hl i List.mem_cons_self)
          have ei : i = ((i.toNat : Nat) : Int) := by omega
          have a1 : (nth A i).length = w := g.len _ (by rw [ei]; exact nth_mem A _ (by omega))
          have a2 : (nth T.l i).l.length = w := s.2 _ (by rw [ei]; exact nth_mem T.l _ (by omega))
          show ((nth A i).zip (nth T.l i).l).map _ = _
          rw [zip_rng (by rw [a1, a2]), List.map_map, a1]
          rfl
      exact this _ fun i hi => hi
    refine Ok.bind (Ok.wlc1 (fun i => ((nth A i).sum, (nth T.l i).l.sum)) (er.eq ⟨by rw [rng_len]; omega, fun i hi => ?_, ?_⟩))
    · have := mem_rng.mp hi
      (repeat (first | (with_reducible first | refine Ok.pure ?_ | refine Ok.bind ?_ | refine Ok.wo2T ?_ | refine Ok.wo1T ?_ | refine Ok.wo1 ?_ | refine Ok.wo2 ?_ | refine Ok.wo3 ?_ | refine Ok.wnot ?_ | refine Ok.wmap ?_ | refine Ok.wtup2 ?_ | refine Ok.wtup3 ?_ | refine Ok.wh2 ?_ | refine Ok.wh3 ?_ | refine Ok.wp1 ?_ | refine Ok.wp2 ?_ | refine Ok.wt1 ?_ | refine Ok.wt2 ?_ | refine Ok.wt3 ?_ | refine Ok.wset ?_ | refine Ok.wset2 ?_ | refine Ok.wixO ?_ | refine Ok.wrowO ?_ | refine Ok.wsetRow ?_ | refine Ok.wapp ?_ | refine Ok.wlnil ?_ | refine Ok.wlcons ?_ | refine Ok.wmap ?_ | refine Ok.wsz ?_ | refine Ok.wrng1 ?_ | refine Ok.wrng2 ?_ | refine Ok.wzip ?_ | refine Ok.wenum ?_ | refine Ok.wchain ?_ | refine Ok.wc1 ?_ | refine Ok.wc2 ?_ | refine Ok.wc3 ?_ | refine Ok.wc4 ?_ | refine Ok.wc5 ?_ | refine Ok.wunO ?_ | refine Ok.wite ?_ | refine Ok.wand ?_ | refine Ok.wor ?_) | refine Ok.and' (by first | exact True.intro | exact Option.isSome_some | exact ⟨by decide, by decide⟩ | decide | omega | (simp only [ixOk, List.length_map, List.length_append, List.length_cons, List.length_nil, List.length_set, rng_len] at *; omega) | exact cmL (by first | decide | omega) (by first | decide | omega) | exact cmR (by first | decide | omega) (by first | decide | omega)) ?_))
      rfl
    rw [← e1]
    refine Ok.bind (Ok.wfold (fun i s => s = linesP A T ++ ((rng 0 (A.length : Int)).take i).flatMap fun i => (rng 0 (w : Int)).map fun j => (nth (nth A i) j, nth (nth T.l i).l j)) (er.eq ⟨by simp, ?_, ?_⟩))
    · rintro i x s' hi rfl
      have hx := List.mem_of_getElem? hi
      have hx' := mem_rng.mp hx
      have ei : x = ((x.toNat : Nat) : Int) := by omega
      have a1 : (nth A x).length = w := g.len _ (by rw [ei]; exact nth_mem A _ (by omega))
      have a2 : (nth T.l x).l.length = w := s.2 _ (by rw [ei]; exact nth_mem T.l _ (by omega))
      refine Ok.bind (Ok.wo2 (Ok.pure (Ok.wlc1 (fun j => (nth (nth A x) j, nth (nth T.l x).l j)) (Ok.wrng1 (Ok.wo1T (Ok.wo2 (Ok.pure (Ok.pure ⟨by unfold ixOk; omega, ⟨by omega, by omega⟩, by rw [rng_len]; omega, fun j hj => ?_, ?_, Ok.pure ?_⟩))))))))
      · have := mem_rng.mp hj
        (repeat (first | (with_reducible first | refine Ok.pure ?_ | refine Ok.bind ?_ | refine Ok.wo2T ?_ | refine Ok.wo1T ?_ | refine Ok.wo1 ?_ | refine Ok.wo2 ?_ | refine Ok.wo3 ?_ | refine Ok.wnot ?_ | refine Ok.wmap ?_ | refine Ok.wtup2 ?_ | refine Ok.wtup3 ?_ | refine Ok.wh2 ?_ | refine Ok.wh3 ?_ | refine Ok.wp1 ?_ | refine Ok.wp2 ?_ | refine Ok.wt1 ?_ | refine Ok.wt2 ?_ | refine Ok.wt3 ?_ | refine Ok.wset ?_ | refine Ok.wset2 ?_ | refine Ok.wixO ?_ | refine Ok.wrowO ?_ | refine Ok.wsetRow ?_ | refine Ok.wapp ?_ | refine Ok.wlnil ?_ | refine Ok.wlcons ?_ | refine Ok.wmap ?_ | refine Ok.wsz ?_ | refine Ok.wrng1 ?_ | refine Ok.wrng2 ?_ | refine Ok.wzip ?_ | refine Ok.wenum ?_ | refine Ok.wchain ?_ | refine Ok.wc1 ?_ | refine Ok.wc2 ?_ | refine Ok.wc3 ?_ | refine Ok.wc4 ?_ | refine Ok.wc5 ?_ | refine Ok.wunO ?_ | refine Ok.wite ?_ | refine Ok.wand ?_ | refine Ok.wor ?_) | refine Ok.and' (by first | exact True.intro | exact Option.isSome_some | exact ⟨by decide, by decide⟩ | decide | omega | (simp only [ixOk, List.length_map, List.length_append, List.length_cons, List.length_nil, List.length_set, rng_len] at *; omega) | exact cmL (by first | decide | omega) (by first | decide | omega) | exact cmR (by first | decide | omega) (by first | decide | omega)) ?_))
        rfl
      · have hf : ∀ l : List Int, (l.flatMap fun i => (rng 0 (w : Int)).map fun j => (nth (nth A i) j, nth (nth T.l i).l j)).length = l.length * w := by
          intro l
          induction l with
          | nil => simp
          | cons a l ih =>
            rw [List.flatMap_cons, List.length_append, ih, List.length_map, rng_len, List.length_cons, Nat.succ_mul]
            omega
        rw [List.length_append, List.length_map, rng_len, hf, List.length_take, rng_len]
        have hl : (linesP A T).length ≤ 3 := by rw [e1, List.length_map, rng_len]; omega
        have : min i ((A.length : Int) - 0).toNat * w ≤ 3 * 3 := Nat.mul_le_mul (by omega) (by omega)
        omega
      · rw [List.append_assoc]
        congr 1
        have e := List.take_add_one (l := rng 0 (A.length : Int)) (i := i)
        rw [hi] at e
        rw [e, List.flatMap_append, a1]
        simp
    rintro _ rfl
    rw [List.take_length, ← e3]
    refine Ok.bind ((colfold g sh (linesP A T ++ cellsP A T) ?_).eq ?_)
    · rw [List.length_append, e1, e3, List.length_map, rng_len, List.length_flatMap]
      have : ∀ l : List Int, (l.map fun i => ((rng 0 (w : Int)).map fun j => (nth (nth A i) j, nth (nth T.l i).l j)).length).sum ≤ 3 * l.length := by
        intro l
        induction l with
        | nil => simp
        | cons a l ih => rw [List.map_cons, List.sum_cons, List.length_map, rng_len, List.length_cons]; omega
      have := this (rng 0 (A.length : Int))
      rw [rng_len] at this
      omega
    refine Ok.wo1T (Ok.wlc1 (bdb b) (Ok.pure ⟨?_, fun q hq => ?_, ?_⟩))
    · rw [List.length_append, List.length_append, e1, e3, List.length_map, List.length_map, rng_len, rng_len, List.length_flatMap]
      have : ∀ l : List Int, (l.map fun i => ((rng 0 (w : Int)).map fun j => (nth (nth A i) j, nth (nth T.l i).l j)).length).sum ≤ 3 * l.length := by
        intro l
        induction l with
        | nil => simp
        | cons a l ih => rw [List.map_cons, List.sum_cons, List.length_map, rng_len, List.length_cons]; omega
      have := this (rng 0 (A.length : Int))
      rw [rng_len] at this
      omega
    · have e := bdb_mul (a := q.1) (y := q.2) b0
      (repeat (first | (with_reducible first | refine Ok.pure ?_ | refine Ok.bind ?_ | refine Ok.wo2T ?_ | refine Ok.wo1T ?_ | refine Ok.wo1 ?_ | refine Ok.wo2 ?_ | refine Ok.wo3 ?_ | refine Ok.wnot ?_ | refine Ok.wmap ?_ | refine Ok.wtup2 ?_ | refine Ok.wtup3 ?_ | refine Ok.wh2 ?_ | refine Ok.wh3 ?_ | refine Ok.wp1 ?_ | refine Ok.wp2 ?_ | refine Ok.wt1 ?_ | refine Ok.wt2 ?_ | refine Ok.wt3 ?_ | refine Ok.wset ?_ | refine Ok.wset2 ?_ | refine Ok.wixO ?_ | refine Ok.wrowO ?_ | refine Ok.wsetRow ?_ | refine Ok.wapp ?_ | refine Ok.wlnil ?_ | refine Ok.wlcons ?_ | refine Ok.wmap ?_ | refine Ok.wsz ?_ | refine Ok.wrng1 ?_ | refine Ok.wrng2 ?_ | refine Ok.wzip ?_ | refine Ok.wenum ?_ | refine Ok.wchain ?_ | refine Ok.wc1 ?_ | refine Ok.wc2 ?_ | refine Ok.wc3 ?_ | refine Ok.wc4 ?_ | refine Ok.wc5 ?_ | refine Ok.wunO ?_ | refine Ok.witeT ?_ | refine Ok.wandT ?_ | refine Ok.worT ?_) | refine Ok.and' (by first | exact True.intro | exact Option.isSome_some | exact ⟨by decide, by decide⟩ | decide | omega | (simp only [ixOk, List.length_map, List.length_append, List.length_cons, List.length_nil, List.length_set, rng_len] at *; omega) | exact cmL (by first | decide | omega) (by first | decide | omega) | exact cmR (by first | decide | omega) (by first | decide | omega)) ?_))
      exact e
    · unfold VB
      rw [sh, Bool.true_and, List.all_map, Bool.eq_iff_iff]
      simp only [List.all_append, Bool.and_eq_true, Function.comp, id]
      exact ⟨fun h => ⟨⟨h.1.2, h.1.1⟩, h.2⟩, fun h => ⟨⟨h.1.2, h.1.1⟩, h.2⟩⟩
  · unfold VB shpB
    rw [decide_eq_false (by simp at e; omega)]
    rfl
/-! ### orders that are linear -/
structure LinO (α : Type) [Rep α] [DecidableEq α] [POrd α] : Prop where
  as : ∀ x y : α, POrd.lt x y = true → POrd.lt y x = false
  tri : ∀ x y : α, POrd.lt x y = false → POrd.lt y x = false → x = y
  tr : ∀ x y z : α, POrd.lt x y = true → POrd.lt y z = true → POrd.lt x z = true
theorem LinO.int : LinO Int where
  as x y h := by
    change decide (x < y) = true at h
    show decide (y < x) = false
    simp at h ⊢; omega
  tri x y h k := by
    change decide (x < y) = false at h
    change decide (y < x) = false at k
    simp at h k; omega
  tr x y z h k := by
    change decide (x < y) = true at h
    change decide (y < z) = true at k
    show decide (x < z) = true
    simp at h k ⊢; omega
section
variable {α : Type} [Rep α] [DecidableEq α] [POrd α]
theorem LinO.tu (L : LinO α) : LinO (Tu α) where
  as t u h := by
    change lLt t.l u.l = true at h
    show lLt u.l t.l = false
    obtain ⟨xs⟩ := t
    obtain ⟨ys⟩ := u
    change lLt xs ys = true at h
    show lLt ys xs = false
    induction xs generalizing ys with
    | nil => cases ys with
      | nil => cases h
      | cons y ys => rfl
    | cons x xs ih => cases ys with
      | nil => cases h
      | cons y ys =>
        unfold lLt at h ⊢
        by_cases e : x = y
        · rw [if_pos e] at h
          rw [if_pos e.symm]
          exact ih ys h
        · rw [if_neg e] at h
          rw [if_neg (Ne.symm e)]
          exact L.as _ _ h
  tri t u h k := by
    obtain ⟨xs⟩ := t
    obtain ⟨ys⟩ := u
    change lLt xs ys = false at h
    change lLt ys xs = false at k
    congr 1
    induction xs generalizing ys with
    | nil => cases ys with
      | nil => rfl
      | cons y ys => cases h
    | cons x xs ih => cases ys with
      | nil => cases k
      | cons y ys =>
        unfold lLt at h k
        by_cases e : x = y
        · rw [if_pos e] at h
          rw [if_pos e.symm] at k
          rw [e, ih ys h k]
        · rw [if_neg e] at h
          rw [if_neg (Ne.symm e)] at k
          exact absurd (L.tri _ _ h k) e
  tr t u v h k := by
    obtain ⟨xs⟩ := t
    obtain ⟨ys⟩ := u
    obtain ⟨zs⟩ := v
    change lLt xs ys = true at h
    change lLt ys zs = true at k
    show lLt xs zs = true
    induction xs generalizing ys zs with
    | nil => cases ys with
      | nil => cases h
      | cons y ys => cases zs with
        | nil => cases k
        | cons z zs => rfl
    | cons x xs ih => cases ys with
      | nil => cases h
      | cons y ys => cases zs with
        | nil => cases k
        | cons z zs =>
          unfold lLt at h k ⊢
          by_cases e : x = y
          · subst e
            rw [if_pos rfl] at h
            by_cases f : x = z
            · rw [if_pos f] at k
              rw [if_pos f]
              exact ih ys zs h k
            · rw [if_neg f] at k
              rw [if_neg f]
              exact k
          · rw [if_neg e] at h
            by_cases f : y = z
            · subst f
              rw [if_neg e]; exact h
            · rw [if_neg f] at k
              have hxz := L.tr _ _ _ h k
              have : x ≠ z := fun q => by
                subst q
                rw [lt_self] at hxz
                cases hxz
              rw [if_neg this]
              exact hxz
theorem srt_head (L : LinO α) {xs : List α} {h : α} {t : List α} (e : srtD xs = h :: t) : h ∈ xs ∧ ∀ y ∈ xs, POrd.lt y h = false := by
  refine ⟨srt_mem.mp (by rw [e]; exact List.mem_cons_self), fun y hy => ?_⟩
  have hp : (srtD xs).Pairwise fun a b => (!POrd.lt b a) = true := by
    refine List.pairwise_mergeSort (le := fun a b => !POrd.lt b a) ?_ ?_ xs
    · intro a b c h1 h2
      simp only [Bool.not_eq_true'] at h1 h2 ⊢
      cases h3 : POrd.lt c a with
      | false => rfl
      | true =>
        exfalso
        cases h4 : POrd.lt b c with
        | true =>
          have := L.tr _ _ _ h4 h3
          rw [h1] at this; cases this
        | false =>
          have := L.tri _ _ h4 h2
          subst this
          rw [h1] at h3; cases h3
    · intro a b
      cases h3 : POrd.lt b a with
      | false => rfl
      | true => rw [L.as _ _ h3]; rfl
  rw [e] at hp
  have hy2 := srt_mem.mpr hy
  rw [e] at hy2
  rcases List.mem_cons.mp hy2 with rfl | hm
  · exact lt_self y
  · have := (List.pairwise_cons.mp hp).1 y hm
    simpa using this
theorem lLt_app (p : List α) (xs ys : List α) : lLt (p ++ xs) (p ++ ys) = lLt xs ys := by
  induction p with
  | nil => rfl
  | cons x p ih =>
    rw [List.cons_append, List.cons_append, lLt, if_pos rfl, ih]
theorem lLt_ext : ∀ (p q xs ys : List α), p.length = q.length → lLt p q = true → lLt (p ++ xs) (q ++ ys) = true := by
  intro p
  induction p with
  | nil =>
    intro q xs ys hl h
    cases q with
    | nil => cases h
    | cons y q => cases hl
  | cons x p ih =>
    intro q xs ys hl h
    cases q with
    | nil => cases hl
    | cons y q =>
      rw [List.cons_append, List.cons_append]
      unfold lLt at h ⊢
      by_cases e : x = y
      · rw [if_pos e] at h ⊢
        exact ih q xs ys (by simpa using hl) h
      · rw [if_neg e] at h ⊢
        exact h
theorem lLt_one {x y : α} (h : POrd.lt x y = true) : lLt [x] [y] = true := by
  unfold lLt
  rw [if_neg fun e => by rw [e, lt_self] at h; cases h]
  exact h
end
/-! ### the choices of a line -/
def Alw (us : List Bool) (r : List Int) : Prop := r.length = us.length ∧ ∀ j : Nat, j < us.length → nth r (j : Int) = 0 ∨ (nth r (j : Int) = 1 ∧ nth us (j : Int) = true)
theorem nth_app {α : Type} [Inhabited α] (l k : List α) (j : Nat) (h : j < l.length) : nth (l ++ k) (j : Int) = nth l (j : Int) := by
  rw [nth_at _ _ (by rw [List.length_append]; omega), nth_at _ _ h, List.getElem_append_left h]
theorem nth_snoc {α : Type} [Inhabited α] (l : List α) (x : α) : nth (l ++ [x]) (l.length : Int) = x := by
  rw [nth_at _ _ (by rw [List.length_append]; simp), List.getElem_append_right (by omega)]
  simp
def pks (u : Bool) : List Int := if u = true then [0, 1] else [0]
theorem mem_pks {u : Bool} {k : Int} : k ∈ pks u ↔ k = 0 ∨ (k = 1 ∧ u = true) := by
  unfold pks
  cases u <;> simp
theorem alw_snoc {us : List Bool} {u : Bool} {r : List Int} : Alw (us ++ [u]) r ↔ ∃ xs k, r = xs ++ [k] ∧ Alw us xs ∧ k ∈ pks u := by
  constructor
  · rintro ⟨hl, h⟩
    rw [List.length_append] at hl h
    have hne : r ≠ [] := fun e => by rw [e] at hl; simp at hl
    have e := (List.dropLast_concat_getLast hne).symm
    have l1 : r.dropLast.length = us.length := by rw [List.length_dropLast]; simp at hl; omega
    refine ⟨r.dropLast, r.getLast hne, e, ⟨l1, fun j hj => ?_⟩, ?_⟩
    · have := h j (by omega)
      rw [e, nth_app _ _ _ (by omega), nth_app _ _ _ hj] at this
      exact this
    · have := h us.length (by simp)
      rw [nth_snoc, e, ← l1, nth_snoc] at this
      exact mem_pks.mpr this
  · rintro ⟨xs, k, rfl, ⟨hl, h⟩, hk⟩
    refine ⟨by simp [hl], fun j hj => ?_⟩
    rw [List.length_append] at hj
    by_cases e : j < us.length
    · rw [nth_app _ _ _ (by omega), nth_app _ _ _ e]
      exact h j e
    · have : j = us.length := by simp at hj; omega
      subst this
      rw [nth_snoc, ← hl, nth_snoc]
      exact mem_pks.mp hk
theorem pks_asc (u : Bool) : (pks u).Pairwise (· < ·) := by cases u <;> decide
theorem flat_asc (L : List (Tu Int)) (u : Bool) (n : Nat) (hn : ∀ r ∈ L, r.l.length = n) (h : L.Pairwise fun r s => lLt r.l s.l = true) : (L.flatMap fun y => (pks u).map fun k => (⟨y.l ++ [k]⟩ : Tu Int)).Pairwise fun r s => lLt r.l s.l = true := by
  induction L with
  | nil => exact .nil
  | cons r L ih =>
    rw [List.flatMap_cons, List.pairwise_append]
    have h' := List.pairwise_cons.mp h
    refine ⟨?_, ih (fun s hs => hn s (List.mem_cons_of_mem _ hs)) h'.2, ?_⟩
    · rw [List.pairwise_map]
      refine (pks_asc u).imp fun {a b} hab => ?_
      show lLt (r.l ++ [a]) (r.l ++ [b]) = true
      rw [lLt_app]
      exact lLt_one (decide_eq_true hab)
    · intro a ha b hb
      obtain ⟨k, _, rfl⟩ := List.mem_map.mp ha
      obtain ⟨s, hs, hb⟩ := List.mem_flatMap.mp hb
      obtain ⟨k2, _, rfl⟩ := List.mem_map.mp hb
      exact lLt_ext _ _ _ _ (by rw [hn r List.mem_cons_self, hn s (List.mem_cons_of_mem _ hs)]) (h'.1 s hs)
structure Chs (us : List Bool) (L : List (Tu Int)) : Prop where
  mem : ∀ r : Tu Int, r ∈ L ↔ Alw us r.l
  asc : L.Pairwise fun r s => lLt r.l s.l = true
  len : L.length ≤ 2 ^ us.length
theorem alw_nil {r : List Int} : Alw [] r ↔ r = [] := ⟨fun h => List.eq_nil_of_length_eq_zero h.1, fun h => ⟨by rw [h]; rfl, fun j hj => absurd hj (Nat.not_lt_zero _)⟩⟩
theorem Chs.snoc {us : List Bool} {u : Bool} {L : List (Tu Int)} (h : Chs us L) : Chs (us ++ [u]) (L.flatMap fun y => (pks u).map fun k => (⟨y.l ++ [k]⟩ : Tu Int)) where
  mem r := by
    rw [alw_snoc, List.mem_flatMap]
    constructor
    · rintro ⟨y, hy, hr⟩
      obtain ⟨k, hk, rfl⟩ := List.mem_map.mp hr
      exact ⟨y.l, k, rfl, (h.mem y).mp hy, hk⟩
    · rintro ⟨xs, k, e, hx, hk⟩
      exact ⟨⟨xs⟩, (h.mem ⟨xs⟩).mpr hx, List.mem_map.mpr ⟨k, hk, by rw [← e]⟩⟩
  asc := flat_asc L u us.length (fun r hr => ((h.mem r).mp hr).1) h.asc
  len := by
    have : ∀ L : List (Tu Int), (L.flatMap fun y => (pks u).map fun k => (⟨y.l ++ [k]⟩ : Tu Int)).length ≤ L.length * 2 := by
      intro L
      induction L with
      | nil => simp
      | cons y L ih =>
        rw [List.flatMap_cons, List.length_append, List.length_map, List.length_cons, Nat.succ_mul]
        have : (pks u).length ≤ 2 := by cases u <;> decide
        omega
    have h1 := this L
    have h2 := h.len
    rw [List.length_append, List.length_singleton, Nat.pow_succ]
    omega
theorem choices_ok (us : List Bool) (hu : us.length ≤ 3) (lo hi : Int) : Ok (m_choices_of us lo hi) fun L => (∀ r : Tu Int, r ∈ L ↔ Alw us r.l ∧ lo ≤ r.l.sum ∧ r.l.sum ≤ hi) ∧ (L.Pairwise fun r s => lLt r.l s.l = true) ∧ L.length ≤ 8 := by
  unfold m_choices_of
  have p8 : ∀ n : Nat, n ≤ 3 → 2 ^ n ≤ 8 := by decide
  refine Ok.bind (Ok.wsz (Ok.wlcons (Ok.wmap (Ok.wsz (Ok.wlnil ⟨by decide, Ok.wlnil ⟨by decide, ?_⟩⟩)))))
  refine Ok.bind (Ok.wfold (fun i s => Chs (us.take i) s) (Ok.pure ⟨?_, ?_, ?_⟩))
  · refine ⟨fun r => ?_, by simp, by simp⟩
    rw [List.take_zero, alw_nil, List.mem_singleton]
    obtain ⟨r⟩ := r
    simp
  · intro i x s hi h
    have hl := h.len
    have hl2 := p8 (us.take i).length (by rw [List.length_take]; omega)
    have e := List.take_add_one (l := us) (i := i)
    rw [hi] at e
    refine Ok.bind (Ok.wlc2 (fun _ => pks x) (fun y k => (⟨y.l ++ [k]⟩ : Tu Int)) (Ok.pure ⟨by omega, fun y hy => ⟨?_, fun k hk => ?_⟩, Ok.pure ?_⟩))
    · cases x
      · (repeat (first | (with_reducible first | refine Ok.pure ?_ | refine Ok.bind ?_ | refine Ok.wo2T ?_ | refine Ok.wo1T ?_ | refine Ok.wo1 ?_ | refine Ok.wo2 ?_ | refine Ok.wo3 ?_ | refine Ok.wnot ?_ | refine Ok.wmap ?_ | refine Ok.wtup2 ?_ | refine Ok.wtup3 ?_ | refine Ok.wh2 ?_ | refine Ok.wh3 ?_ | refine Ok.wp1 ?_ | refine Ok.wp2 ?_ | refine Ok.wt1 ?_ | refine Ok.wt2 ?_ | refine Ok.wt3 ?_ | refine Ok.wset ?_ | refine Ok.wset2 ?_ | refine Ok.wixO ?_ | refine Ok.wrowO ?_ | refine Ok.wsetRow ?_ | refine Ok.wapp ?_ | refine Ok.wlnil ?_ | refine Ok.wlcons ?_ | refine Ok.wmap ?_ | refine Ok.wsz ?_ | refine Ok.wrng1 ?_ | refine Ok.wrng2 ?_ | refine Ok.wzip ?_ | refine Ok.wenum ?_ | refine Ok.wchain ?_ | refine Ok.wc1 ?_ | refine Ok.wc2 ?_ | refine Ok.wc3 ?_ | refine Ok.wc4 ?_ | refine Ok.wc5 ?_ | refine Ok.wunO ?_ | refine Ok.wite ?_ | refine Ok.wand ?_ | refine Ok.wor ?_) | refine Ok.and' (by first | exact True.intro | exact Option.isSome_some | exact ⟨by decide, by decide⟩ | decide | omega | (simp only [ixOk, List.length_map, List.length_append, List.length_cons, List.length_nil, List.length_set, rng_len] at *; omega) | exact cmL (by first | decide | omega) (by first | decide | omega) | exact cmR (by first | decide | omega) (by first | decide | omega)) ?_))
        refine ⟨fun z => by (cases z), fun _ => ?_⟩
        (repeat (first | (with_reducible first | refine Ok.pure ?_ | refine Ok.bind ?_ | refine Ok.wo2T ?_ | refine Ok.wo1T ?_ | refine Ok.wo1 ?_ | refine Ok.wo2 ?_ | refine Ok.wo3 ?_ | refine Ok.wnot ?_ | refine Ok.wmap ?_ | refine Ok.wtup2 ?_ | refine Ok.wtup3 ?_ | refine Ok.wh2 ?_ | refine Ok.wh3 ?_ | refine Ok.wp1 ?_ | refine Ok.wp2 ?_ | refine Ok.wt1 ?_ | refine Ok.wt2 ?_ | refine Ok.wt3 ?_ | refine Ok.wset ?_ | refine Ok.wset2 ?_ | refine Ok.wixO ?_ | refine Ok.wrowO ?_ | refine Ok.wsetRow ?_ | refine Ok.wapp ?_ | refine Ok.wlnil ?_ | refine Ok.wlcons ?_ | refine Ok.wmap ?_ | refine Ok.wsz ?_ | refine Ok.wrng1 ?_ | refine Ok.wrng2 ?_ | refine Ok.wzip ?_ | refine Ok.wenum ?_ | refine Ok.wchain ?_ | refine Ok.wc1 ?_ | refine Ok.wc2 ?_ | refine Ok.wc3 ?_ | refine Ok.wc4 ?_ | refine Ok.wc5 ?_ | refine Ok.wunO ?_ | refine Ok.wite ?_ | refine Ok.wand ?_ | refine Ok.wor ?_) | refine Ok.and' (by first | exact True.intro | exact Option.isSome_some | exact ⟨by decide, by decide⟩ | decide | omega | (simp only [ixOk, List.length_map, List.length_append, List.length_cons, List.length_nil, List.length_set, rng_len] at *; omega) | exact cmL (by first | decide | omega) (by first | decide | omega) | exact cmR (by first | decide | omega) (by first | decide | omega)) ?_))
        first | decide | exact ⟨rfl, by decide⟩
      · (repeat (first | (with_reducible first | refine Ok.pure ?_ | refine Ok.bind ?_ | refine Ok.wo2T ?_ | refine Ok.wo1T ?_ | refine Ok.wo1 ?_ | refine Ok.wo2 ?_ | refine Ok.wo3 ?_ | refine Ok.wnot ?_ | refine Ok.wmap ?_ | refine Ok.wtup2 ?_ | refine Ok.wtup3 ?_ | refine Ok.wh2 ?_ | refine Ok.wh3 ?_ | refine Ok.wp1 ?_ | refine Ok.wp2 ?_ | refine Ok.wt1 ?_ | refine Ok.wt2 ?_ | refine Ok.wt3 ?_ | refine Ok.wset ?_ | refine Ok.wset2 ?_ | refine Ok.wixO ?_ | refine Ok.wrowO ?_ | refine Ok.wsetRow ?_ | refine Ok.wapp ?_ | refine Ok.wlnil ?_ | refine Ok.wlcons ?_ | refine Ok.wmap ?_ | refine Ok.wsz ?_ | refine Ok.wrng1 ?_ | refine Ok.wrng2 ?_ | refine Ok.wzip ?_ | refine Ok.wenum ?_ | refine Ok.wchain ?_ | refine Ok.wc1 ?_ | refine Ok.wc2 ?_ | refine Ok.wc3 ?_ | refine Ok.wc4 ?_ | refine Ok.wc5 ?_ | refine Ok.wunO ?_ | refine Ok.wite ?_ | refine Ok.wand ?_ | refine Ok.wor ?_) | refine Ok.and' (by first | exact True.intro | exact Option.isSome_some | exact ⟨by decide, by decide⟩ | decide | omega | (simp only [ixOk, List.length_map, List.length_append, List.length_cons, List.length_nil, List.length_set, rng_len] at *; omega) | exact cmL (by first | decide | omega) (by first | decide | omega) | exact cmR (by first | decide | omega) (by first | decide | omega)) ?_))
        refine ⟨fun _ => ?_, fun z => by (cases z)⟩
        (repeat (first | (with_reducible first | refine Ok.pure ?_ | refine Ok.bind ?_ | refine Ok.wo2T ?_ | refine Ok.wo1T ?_ | refine Ok.wo1 ?_ | refine Ok.wo2 ?_ | refine Ok.wo3 ?_ | refine Ok.wnot ?_ | refine Ok.wmap ?_ | refine Ok.wtup2 ?_ | refine Ok.wtup3 ?_ | refine Ok.wh2 ?_ | refine Ok.wh3 ?_ | refine Ok.wp1 ?_ | refine Ok.wp2 ?_ | refine Ok.wt1 ?_ | refine Ok.wt2 ?_ | refine Ok.wt3 ?_ | refine Ok.wset ?_ | refine Ok.wset2 ?_ | refine Ok.wixO ?_ | refine Ok.wrowO ?_ | refine Ok.wsetRow ?_ | refine Ok.wapp ?_ | refine Ok.wlnil ?_ | refine Ok.wlcons ?_ | refine Ok.wmap ?_ | refine Ok.wsz ?_ | refine Ok.wrng1 ?_ | refine Ok.wrng2 ?_ | refine Ok.wzip ?_ | refine Ok.wenum ?_ | refine Ok.wchain ?_ | refine Ok.wc1 ?_ | refine Ok.wc2 ?_ | refine Ok.wc3 ?_ | refine Ok.wc4 ?_ | refine Ok.wc5 ?_ | refine Ok.wunO ?_ | refine Ok.wite ?_ | refine Ok.wand ?_ | refine Ok.wor ?_) | refine Ok.and' (by first | exact True.intro | exact Option.isSome_some | exact ⟨by decide, by decide⟩ | decide | omega | (simp only [ixOk, List.length_map, List.length_append, List.length_cons, List.length_nil, List.length_set, rng_len] at *; omega) | exact cmL (by first | decide | omega) (by first | decide | omega) | exact cmR (by first | decide | omega) (by first | decide | omega)) ?_))
        first | decide | exact ⟨rfl, by decide⟩
    · have := ((h.mem y).mp hy).1
      rw [List.length_take] at this
      refine Ok.wo2 (Ok.pure (Ok.wmap (Ok.wsz (Ok.wlcons (Ok.pure (Ok.wlnil ⟨by simp, ?_, rfl⟩))))))
      show y.l.length + 1 ≤ 1000000
      omega
    · rw [e]
      exact h.snoc
  · intro s h
    rw [List.take_length] at h
    have hl := h.len
    have hl2 := p8 us.length hu
    refine Ok.wlcf (fun r : Tu Int => decide (lo ≤ r.l.sum) && decide (r.l.sum ≤ hi)) (Ok.pure ⟨by omega, fun r hr => ?_, ?_, h.asc.filter _, ?_⟩)
    · exact Ok.wchain (Ok.pure (Ok.wo1T (Ok.pure ⟨trivial, Ok.pure ⟨trivial, rfl⟩⟩)))
    · intro r
      rw [List.mem_filter, h.mem, Bool.and_eq_true, decide_eq_true_eq, decide_eq_true_eq]
    · have := List.length_filter_le (fun r : Tu Int => decide (lo ≤ r.l.sum) && decide (r.l.sum ≤ hi)) s
      omega
abbrev En78 : Type := (Tu (Tu Int)) × (Tu Int)
def dfsB (v_up : (List (List Bool))) (v_most : (List Int)) (v_least : (List Int)) (v_high : (List Int)) (v_low : (List Int)) (w1 : Int × Int) : List En78 → R (Fl (List En78) (Option (Tu (Tu Int))) (List En78)) :=
  (fun s3 =>
  (R.bind (R.pop s3) fun w4 =>
  (R.ite (R.o2 T2 (fun i j : Int => decide (i = j)) (R.o1 T1 (fun xs : (Tu (Tu Int)) => (xs.l.length : Int)) (R.pure w4.2.1)) (R.pure w1.1)) (R.ite (R.o1 T1 (fun i : Bool => i) (R.gx (α := Int) false (R.rng1 (R.pure w1.2)) (fun _ => R.pure true) (fun y5 => (R.o2 T2 (fun i j : Int => decide (i ≤ j)) (R.o2 (fun (xs : (List Int)) i => ixOk xs.length i) nth (R.pure v_low) (R.pure y5)) (R.o2 (fun (xs : (Tu Int)) i => ixOk xs.l.length i) (fun xs i => nth xs.l i) (R.pure w4.2.2) (R.pure y5)))))) (R.map (Fl.rt : _ → Fl (List ((Tu (Tu Int)) × (Tu Int))) (Option (Tu (Tu Int))) (List ((Tu (Tu Int)) × (Tu Int)))) (R.map some (R.pure w4.2.1)))
  (R.pure (Fl.nx w4.1 : Fl (List ((Tu (Tu Int)) × (Tu Int))) (Option (Tu (Tu Int))) (List ((Tu (Tu Int)) × (Tu Int))))))
  (R.bind (R.o1 T1 (fun xs : (Tu (Tu Int)) => (xs.l.length : Int)) (R.pure w4.2.1)) fun w6 =>
  (R.bind (R.fold (α := (Tu Int)) (R.map List.reverse (R.c3 m_choices_of (R.o2 (fun (xs : (List (List Bool))) i => ixOk xs.length i) nth (R.pure v_up) (R.pure w6)) (R.o2 (fun (xs : (List Int)) i => ixOk xs.length i) nth (R.pure v_least) (R.pure w6)) (R.o2 (fun (xs : (List Int)) i => ixOk xs.length i) nth (R.pure v_most) (R.pure w6)))) (w4.1 : (List ((Tu (Tu Int)) × (Tu Int)))) (fun s7 x8 =>
  (R.bind (R.o1 T1 (fun xs : (List Int) => Tu.mk xs) (R.lc (α := (Int × Int)) (R.zip (R.map Tu.l (R.pure w4.2.2)) (R.map Tu.l (R.pure x8))) (fun _ => R.pure true) (fun y11 => (R.o2 T2 (fun i j : Int => i + j) (R.pure y11.1) (R.pure y11.2))))) fun w9 =>
  (R.bind (R.lc (α := Int) (R.rng1 (R.pure w1.2)) (fun _ => R.pure true) (fun y15 => (R.o1 T1 (fun xs : (List Int) => (xs.length : Int)) (R.lc (α := (List Bool)) (R.o3 T3t cut (R.pure v_up) (R.map some (R.o2 T2 (fun i j : Int => i + j) (R.pure w6) (R.pure (1 : Int)))) (R.pure (none : Option Int))) (fun y16 => (R.o1 T1 (fun i : Bool => i) (R.o2 (fun (xs : (List Bool)) i => ixOk xs.length i) nth (R.pure y16) (R.pure y15)))) (fun y16 => (R.pure (1 : Int))))))) fun w12 =>
  (R.bind (R.gx (α := Int) true (R.rng1 (R.pure w1.2)) (fun _ => R.pure true) (fun y19 => (R.o2 T2 (fun i j : Int => decide (j < i)) (R.o2 (fun (xs : (Tu Int)) i => ixOk xs.l.length i) (fun xs i => nth xs.l i) (R.pure w9) (R.pure y19)) (R.o2 (fun (xs : (List Int)) i => ixOk xs.length i) nth (R.pure v_high) (R.pure y19))))) fun w17 =>
  (R.bind (R.ite (R.and (R.not (R.o1 T1 (fun i : Bool => i) (R.pure w17))) (R.o1 T1 (fun i : Bool => i) (R.gx (α := Int) false (R.rng1 (R.pure w1.2)) (fun _ => R.pure true) (fun y20 => (R.o2 T2 (fun i j : Int => decide (j ≤ i)) (R.o2 T2 (fun i j : Int => i + j) (R.o2 (fun (xs : (Tu Int)) i => ixOk xs.l.length i) (fun xs i => nth xs.l i) (R.pure w9) (R.pure y20)) (R.o2 (fun (xs : (List Int)) i => ixOk xs.length i) nth (R.pure w12) (R.pure y20))) (R.o2 (fun (xs : (List Int)) i => ixOk xs.length i) nth (R.pure v_low) (R.pure y20))))))) (R.bind (R.app s7 (R.tup2 (R.o2 (fun (xs ys : (Tu (Tu Int))) => xs.l.length + ys.l.length ≤ 1000000) (fun xs ys => Tu.mk (xs.l ++ ys.l)) (R.pure w4.2.1) (R.map Tu.mk (R.sz (R.lcons (R.pure x8) (R.lnil (α := (Tu Int))))))) (R.pure w9))) fun w23 =>
  (R.pure (w23 : (List ((Tu (Tu Int)) × (Tu Int)))))) (R.pure (s7 : (List ((Tu (Tu Int)) × (Tu Int)))))) fun w22 =>
  (R.pure (w22 : (List ((Tu (Tu Int)) × (Tu Int))))))))))) fun w24 =>
  (R.pure (Fl.nx w24 : Fl (List ((Tu (Tu Int)) × (Tu Int))) (Option (Tu (Tu Int))) (List ((Tu (Tu Int)) × (Tu Int))))))))))
/-! ### the search -/
def cs (rows : List (Tu Int)) (j : Int) : Int := (rows.map fun t => nth t.l j).sum
structure LC (up : List (List Bool)) (w : Nat) (most least high low : List Int) : Prop where
  m1 : 1 ≤ up.length
  m3 : up.length ≤ 3
  w1 : 1 ≤ w
  w3 : w ≤ 3
  len : ∀ u ∈ up, u.length = w
  most : most.length = up.length
  least : least.length = up.length
  high : high.length = w
  low : low.length = w
def Line (up : List (List Bool)) (most least : List Int) (k : Nat) (r : Tu Int) : Prop := Alw (nth up (k : Int)) r.l ∧ nth least (k : Int) ≤ r.l.sum ∧ r.l.sum ≤ nth most (k : Int)
structure Cand (up : List (List Bool)) (w : Nat) (most least high low : List Int) (q : Tu (Tu Int)) : Prop where
  len : q.l.length = up.length
  line : ∀ k : Nat, k < up.length → Line up most least k (nth q.l (k : Int))
  col : ∀ j : Nat, j < w → nth low (j : Int) ≤ cs q.l (j : Int) ∧ cs q.l (j : Int) ≤ nth high (j : Int)
structure Ent (up : List (List Bool)) (w : Nat) (most least high : List Int) (e : En78) : Prop where
  len : e.1.l.length ≤ up.length
  line : ∀ k : Nat, k < e.1.l.length → Line up most least k (nth e.1.l (k : Int))
  sl : e.2.l.length = w
  sm : ∀ j : Nat, j < w → nth e.2.l (j : Int) = cs e.1.l (j : Int)
  top : e.1.l ≠ [] → ∀ j : Nat, j < w → cs e.1.l (j : Int) ≤ nth high (j : Int)
def aft (s r : Tu Int) : List Int := (s.l.zip r.l).map fun p => p.1 + p.2
def lft (up : List (List Bool)) (w l : Nat) : List Int := (rng 0 (w : Int)).map fun j => (((up.drop (l + 1)).filter fun u => nth u j).length : Int)
def okB (up : List (List Bool)) (w : Nat) (high low : List Int) (e : En78) (r : Tu Int) : Bool :=
  !((rng 0 (w : Int)).any fun j => decide (nth high j < nth (aft e.2 r) j)) && (rng 0 (w : Int)).all fun j => decide (nth low j ≤ nth (aft e.2 r) j + nth (lft up w e.1.l.length) j)
def chd (e : En78) (r : Tu Int) : En78 := (⟨e.1.l ++ [r]⟩, ⟨aft e.2 r⟩)
def lowB (w : Nat) (low : List Int) (e : En78) : Bool := (rng 0 (w : Int)).all fun j => decide (nth low j ≤ nth e.2.l j)
structure ChL (up : List (List Bool)) (most least : List Int) (k : Nat) (L : List (Tu Int)) : Prop where
  mem : ∀ r : Tu Int, r ∈ L ↔ Line up most least k r
  asc : L.Pairwise fun r s => lLt r.l s.l = true
  len : L.length ≤ 8
theorem ixn {n k : Nat} (h : k < n) : ixOk n (k : Int) := by unfold ixOk; omega
theorem cut_drop {α : Type} (xs : List α) (k : Int) (h0 : 0 ≤ k) (h1 : k ≤ xs.length) : cut xs (some k) none = xs.drop k.toNat := by
  unfold cut
  have e1 : HT.sIx xs.length 0 (some k) = k.toNat := by unfold HT.sIx; simp; rw [if_neg (by omega)]; omega
  have e2 : HT.sIx xs.length xs.length none = xs.length := by unfold HT.sIx; simp
  rw [e1, e2, List.take_of_length_le (by rw [List.length_drop]; omega)]
theorem aft_nth {w : Nat} {s r : Tu Int} (hs : s.l.length = w) (hr : r.l.length = w) {j : Nat} (hj : j < w) : (aft s r).length = w ∧ nth (aft s r) (j : Int) = nth s.l (j : Int) + nth r.l (j : Int) := by
  unfold aft
  refine ⟨by rw [List.length_map, List.length_zip]; omega, ?_⟩
  rw [nth_map _ _ _ (by rw [List.length_zip]; omega), nth_at _ _ (by rw [List.length_zip]; omega), List.getElem_zip, ← nth_at s.l j (by omega), ← nth_at r.l j (by omega)]
theorem aft_len {w : Nat} {s r : Tu Int} (hs : s.l.length = w) (hr : r.l.length = w) : (aft s r).length = w := by
  unfold aft; rw [List.length_map, List.length_zip]; omega
theorem body_ok {up : List (List Bool)} {w : Nat} {most least high low : List Int} (g : LC up w most least high low) (rest : List En78) (e : En78) (he : Ent up w most least high e) (hl : rest.length ≤ 90000) : Ok (dfsB up most least high low ((up.length : Int), (w : Int)) (rest ++ [e])) fun z =>
    (e.1.l.length = up.length ∧ ((lowB w low e = true ∧ z = .rt (some e.1)) ∨ (lowB w low e = false ∧ z = .nx rest))) ∨ (e.1.l.length < up.length ∧ ∃ L, ChL up most least e.1.l.length L ∧ z = .nx (rest ++ ((L.reverse).filter (okB up w high low e)).map (chd e))) := by
  have m3 := g.m3
  have w3 := g.w3
  have gl := g.low
  have gh := g.high
  have el := he.len
  have es := he.sl
  have gm := g.most
  have ge := g.least
  have rw0 : ∀ {P : List Int → Prop}, P (rng 0 (w : Int)) → Ok (R.rng1 (R.pure (w : Int))) P := fun h => Ok.wrng1 (Ok.pure ⟨⟨by omega, by omega⟩, h⟩)
  unfold dfsB
  refine Ok.bind (Ok.wpop (by simp) ?_)
  have e1 : (rest ++ [e]).dropLast = rest := by simp
  have e2 : (rest ++ [e]).getLastD default = e := by simp
  rw [e1, e2]
  refine Ok.wite (Ok.wo2T (Ok.wo1T (Ok.pure (Ok.pure ⟨fun c => ?_, fun c => ?_⟩))))
  · have c' : e.1.l.length = up.length := by simp at c; omega
    refine Ok.wite (Ok.wo1T (Ok.wgx1 (fun j => decide (nth low j ≤ nth e.2.l j)) (rw0 ⟨fun j hj => ?_, fun a => ?_, fun a => ?_⟩)))
    · have := mem_rng.mp hj
      (repeat (first | (with_reducible first | refine Ok.pure ?_ | refine Ok.bind ?_ | refine Ok.wo2T ?_ | refine Ok.wo1T ?_ | refine Ok.wo1 ?_ | refine Ok.wo2 ?_ | refine Ok.wo3 ?_ | refine Ok.wnot ?_ | refine Ok.wmap ?_ | refine Ok.wtup2 ?_ | refine Ok.wtup3 ?_ | refine Ok.wh2 ?_ | refine Ok.wh3 ?_ | refine Ok.wp1 ?_ | refine Ok.wp2 ?_ | refine Ok.wt1 ?_ | refine Ok.wt2 ?_ | refine Ok.wt3 ?_ | refine Ok.wset ?_ | refine Ok.wset2 ?_ | refine Ok.wixO ?_ | refine Ok.wrowO ?_ | refine Ok.wsetRow ?_ | refine Ok.wapp ?_ | refine Ok.wlnil ?_ | refine Ok.wlcons ?_ | refine Ok.wmap ?_ | refine Ok.wsz ?_ | refine Ok.wrng1 ?_ | refine Ok.wrng2 ?_ | refine Ok.wzip ?_ | refine Ok.wenum ?_ | refine Ok.wchain ?_ | refine Ok.wc1 ?_ | refine Ok.wc2 ?_ | refine Ok.wc3 ?_ | refine Ok.wc4 ?_ | refine Ok.wc5 ?_ | refine Ok.wunO ?_ | refine Ok.wite ?_ | refine Ok.wand ?_ | refine Ok.wor ?_) | refine Ok.and' (by first | exact True.intro | exact Option.isSome_some | exact ⟨by decide, by decide⟩ | decide | omega | (simp only [ixOk, List.length_map, List.length_append, List.length_cons, List.length_nil, List.length_set, rng_len] at *; omega) | exact cmL (by first | decide | omega) (by first | decide | omega) | exact cmR (by first | decide | omega) (by first | decide | omega)) ?_))
      rfl
    · exact Ok.pure (.inl ⟨c', .inl ⟨a, rfl⟩⟩)
    · exact Ok.pure (.inl ⟨c', .inr ⟨a, rfl⟩⟩)
  · have c' : e.1.l.length < up.length := by simp at c; omega
    have hu : (nth up (e.1.l.length : Int)).length = w := g.len _ (nth_mem up _ c')
    obtain ⟨pL, hL1, hL2, hL3⟩ := choices_ok (nth up (e.1.l.length : Int)) (by omega) (nth least (e.1.l.length : Int)) (nth most (e.1.l.length : Int))
    have HL : ChL up most least e.1.l.length (m_choices_of (nth up (e.1.l.length : Int)) (nth least (e.1.l.length : Int)) (nth most (e.1.l.length : Int))).v := ⟨hL1, hL2, hL3⟩
    have OL : Ok (m_choices_of (nth up (e.1.l.length : Int)) (nth least (e.1.l.length : Int)) (nth most (e.1.l.length : Int))) (· = (m_choices_of (nth up (e.1.l.length : Int)) (nth least (e.1.l.length : Int)) (nth most (e.1.l.length : Int))).v) := ⟨pL, rfl⟩
    generalize (m_choices_of (nth up (e.1.l.length : Int)) (nth least (e.1.l.length : Int)) (nth most (e.1.l.length : Int))).v = L at HL OL
    refine Ok.bind (Ok.wo1T (Ok.pure ?_))
    refine Ok.bind (Ok.wfold (fun i s => s = rest ++ ((L.reverse.take i).filter (okB up w high low e)).map (chd e)) (Ok.wmap (Ok.wc3 (Ok.wo2 (Ok.pure (Ok.pure ⟨ixn c', Ok.wo2 (Ok.pure (Ok.pure ⟨ixn (show e.1.l.length < least.length by omega), Ok.wo2 (Ok.pure (Ok.pure ⟨ixn (show e.1.l.length < most.length by omega), OL.eq ⟨by simp, ?_, ?_⟩⟩))⟩))⟩))))))
    · rintro i r s hi rfl
      have hr := List.mem_reverse.mp (List.mem_of_getElem? hi)
      have hrl : r.l.length = w := by rw [((HL.mem r).mp hr).1.1, hu]
      have al := aft_len es hrl
      have ll : (lft up w e.1.l.length).length = w := by unfold lft; rw [List.length_map, rng_len]; omega
      have sl : (rest ++ ((L.reverse.take i).filter (okB up w high low e)).map (chd e)).length < 100000 := by
        rw [List.length_append, List.length_map]
        have h1 := List.length_filter_le (okB up w high low e) (L.reverse.take i)
        have h2 : (L.reverse.take i).length ≤ L.length := by rw [List.length_take, List.length_reverse]; omega
        have h3 := HL.len
        omega
      have et := List.take_add_one (l := L.reverse) (i := i)
      rw [hi] at et
      refine Ok.bind (Ok.wo1T (Ok.wlc1 (fun p : Int × Int => p.1 + p.2) (Ok.wzip (Ok.wmap (Ok.pure (Ok.wmap (Ok.pure ⟨by rw [List.length_zip]; omega, fun p hp => Ok.wo2T (Ok.pure (Ok.pure rfl)), ?_⟩)))))))
      change Ok _ _
      refine Ok.bind (Ok.wlc1 (fun j => (((up.drop (e.1.l.length + 1)).filter fun u => nth u j).length : Int)) (rw0 ⟨by rw [rng_len]; omega, fun j hj => ?_, ?_⟩))
      · have hj' := mem_rng.mp hj
        refine Ok.wo1T (Ok.wlc (fun u => nth u j) (fun _ => (1 : Int)) (Ok.wo3 (Ok.pure (Ok.wmap (Ok.wo2T (Ok.pure (Ok.pure (Ok.pure ⟨trivial, ?_⟩))))))))
        rw [cut_drop up ((e.1.l.length : Int) + 1) (by omega) (by omega)]
        have e5 : ((e.1.l.length : Int) + 1).toNat = e.1.l.length + 1 := by omega
        rw [e5]
        refine ⟨by rw [List.length_drop]; omega, fun u hx => ?_, ?_⟩
        · have := g.len u (List.mem_of_mem_drop hx)
          refine Ok.wo1T (Ok.wo2 (Ok.pure (Ok.pure ⟨by unfold ixOk; omega, rfl, fun _ => Ok.pure rfl⟩)))
        · rw [List.length_map]
      change Ok _ _
      refine Ok.bind (Ok.wgxa1 (fun j => decide (nth high j < nth (aft e.2 r) j)) (rw0 ⟨fun j hj => ?_, ?_⟩))
      · have := mem_rng.mp hj
        refine Ok.wo2T (Ok.wo2 (Ok.pure (Ok.pure ⟨?_, Ok.wo2 (Ok.pure (Ok.pure ⟨by unfold ixOk; omega, rfl⟩))⟩)))
        show ixOk (aft e.2 r).length j
        unfold ixOk; omega
      refine Ok.bind (Ok.wite (Ok.wand (Ok.wnot (Ok.wo1T (Ok.pure ⟨fun a => Ok.wo1T (Ok.wgx1 (fun j => decide (nth low j ≤ nth (aft e.2 r) j + nth (lft up w e.1.l.length) j)) (rw0 ⟨fun j hj => ?_, fun a2 => ?_, fun a2 => ?_⟩)), fun a => ⟨fun z => (by cases z), fun _ => Ok.pure (Ok.pure ?_)⟩⟩)))))
      · have := mem_rng.mp hj
        refine Ok.wo2T (Ok.wo2T (Ok.wo2 (Ok.pure (Ok.pure ⟨?_, Ok.wo2 (Ok.pure (Ok.pure ⟨?_, Ok.wo2 (Ok.pure (Ok.pure ⟨by unfold ixOk; omega, rfl⟩))⟩))⟩))))
        · show ixOk (aft e.2 r).length j
          unfold ixOk; omega
        · show ixOk (lft up w e.1.l.length).length j
          unfold ixOk; omega
      · have ok : okB up w high low e r = true := by
          unfold okB
          rw [a2, Bool.and_true]; exact a
        refine Ok.bind (Ok.wapp (Ok.wtup2 (Ok.wo2 (Ok.pure (Ok.wmap (Ok.wsz (Ok.wlcons (Ok.pure (Ok.wlnil ⟨by simp, ?_, Ok.pure ⟨sl, Ok.pure (Ok.pure ?_)⟩⟩)))))))))
        · show e.1.l.length + 1 ≤ 1000000
          omega
        · rw [et, List.filter_append, List.map_append, ← List.append_assoc]
          show _ = _ ++ (List.filter _ [r]).map _
          rw [List.filter_cons_of_pos ok]
          rfl
      · have ok : okB up w high low e r = false := by
          unfold okB
          rw [a2, Bool.and_false]
        refine Ok.pure (Ok.pure ?_)
        rw [et, List.filter_append]
        show _ = _ ++ (_ ++ List.filter _ [r]).map _
        rw [List.filter_cons_of_neg (by rw [ok]; decide)]
        simp
      · have ok : okB up w high low e r = false := by
          unfold okB
          have a' : (!(rng 0 (w : Int)).any fun j => decide (nth high j < nth (aft e.2 r) j)) = false := a
          rw [a', Bool.false_and]
        rw [et, List.filter_append]
        show _ = _ ++ (_ ++ List.filter _ [r]).map _
        rw [List.filter_cons_of_neg (by rw [ok]; decide)]
        simp
    · rintro _ rfl
      rw [show (L.reverse).take L.reverse.length = L.reverse from List.take_length]
      exact Ok.pure (.inr ⟨c', L, HL, rfl⟩)
/-! ### the search finds the least -/
theorem tu_ext {α : Type} {a b : Tu α} (h : a.l = b.l) : a = b := by
  obtain ⟨a⟩ := a
  obtain ⟨b⟩ := b
  exact congrArg Tu.mk h
theorem cs_app (a b : List (Tu Int)) (j : Int) : cs (a ++ b) j = cs a j + cs b j := by
  unfold cs; rw [List.map_append, List.sum_append]
theorem cs_one (r : Tu Int) (j : Int) : cs [r] j = nth r.l j := by unfold cs; simp
theorem nth_drop {α : Type} [Inhabited α] (l : List α) (n k : Nat) (h : n + k < l.length) : nth (l.drop n) (k : Int) = nth l ((n + k : Nat) : Int) := by
  rw [nth_at _ _ (by rw [List.length_drop]; omega), nth_at _ _ h, List.getElem_drop]
theorem nth_take {α : Type} [Inhabited α] (l : List α) (n k : Nat) (h : k < n) (h2 : k < l.length) : nth (l.take n) (k : Int) = nth l (k : Int) := by
  rw [nth_at _ _ (by rw [List.length_take]; omega), nth_at _ _ h2, List.getElem_take]
theorem take_nx {α : Type} [Inhabited α] (l : List α) (n : Nat) (h : n < l.length) : l.take (n + 1) = l.take n ++ [nth l (n : Int)] := by
  rw [List.take_add_one, List.getElem?_eq_getElem h, nth_at _ _ h]; rfl
theorem cnt_le : ∀ (xs : List (Tu Int)) (us : List (List Bool)) (j : Int), xs.length = us.length → (∀ k : Nat, k < us.length → nth (nth xs (k : Int)).l j = 0 ∨ (nth (nth xs (k : Int)).l j = 1 ∧ nth (nth us (k : Int)) j = true)) → 0 ≤ cs xs j ∧ cs xs j ≤ ((us.filter fun u => nth u j).length : Int) := by
  intro xs
  induction xs with
  | nil =>
    intro us j hl _
    have : us = [] := List.eq_nil_of_length_eq_zero hl.symm
    subst this
    exact ⟨Int.le_refl 0, Int.le_refl 0⟩
  | cons x xs ih =>
    intro us j hl h
    cases us with
    | nil => cases hl
    | cons u us =>
      have h0 := h 0 (by simp)
      have hr := ih us j (by simpa using hl) fun k hk => by
        have := h (k + 1) (by simp; omega)
        rw [show ((k + 1 : Nat) : Int) = (k : Int) + 1 from by omega, nth_succ, nth_succ] at this
        exact this
      have e : cs (x :: xs) j = nth x.l j + cs xs j := by unfold cs; rw [List.map_cons, List.sum_cons]
      rw [show ((0 : Nat) : Int) = 0 from rfl, nth_zero, nth_zero] at h0
      rw [e]
      rcases h0 with h0 | ⟨h0, hu⟩
      · have : (us.filter fun u => nth u j).length ≤ ((u :: us).filter fun u => nth u j).length := by
          rw [List.filter_cons]; split
          · rw [List.length_cons]; omega
          · exact Nat.le_refl _
        omega
      · rw [List.filter_cons_of_pos (p := fun u => nth u j) hu, List.length_cons]
        omega
section
variable {up : List (List Bool)} {w : Nat} {most least high low : List Int}
theorem Cand.cells (g : LC up w most least high low) {c : Tu (Tu Int)} (hc : Cand up w most least high low c) {k j : Nat} (hk : k < up.length) (hj : j < w) : nth (nth c.l (k : Int)).l (j : Int) = 0 ∨ (nth (nth c.l (k : Int)).l (j : Int) = 1 ∧ nth (nth up (k : Int)) (j : Int) = true) :=
  (hc.line k hk).1.2 j (by rw [g.len _ (nth_mem up k hk)]; exact hj)
/-- the chosen line is not pruned -/
theorem ok_path (g : LC up w most least high low) {c : Tu (Tu Int)} (hc : Cand up w most least high low c) {e : En78} (he : Ent up w most least high e) (hp : e.1.l = c.l.take e.1.l.length) (hl : e.1.l.length < up.length) : okB up w high low e (nth c.l (e.1.l.length : Int)) = true := by
  have hcl := hc.len
  have hr : (nth c.l (e.1.l.length : Int)).l.length = w := by
    rw [(hc.line _ hl).1.1]; exact g.len _ (nth_mem up _ hl)
  have key : ∀ j : Nat, j < w → nth (aft e.2 (nth c.l (e.1.l.length : Int))) (j : Int) = cs (c.l.take (e.1.l.length + 1)) (j : Int) ∧ 0 ≤ cs (c.l.drop (e.1.l.length + 1)) (j : Int) ∧ cs (c.l.drop (e.1.l.length + 1)) (j : Int) ≤ nth (lft up w e.1.l.length) (j : Int) := fun j hj => by
    refine ⟨?_, ?_⟩
    · rw [(aft_nth he.sl hr hj).2, he.sm j hj, take_nx _ _ (by omega), cs_app, cs_one, ← hp]
    · have := cnt_le (c.l.drop (e.1.l.length + 1)) (up.drop (e.1.l.length + 1)) (j : Int) (by rw [List.length_drop, List.length_drop, hcl]) fun k hk => by
        rw [List.length_drop] at hk
        rw [nth_drop _ _ _ (by omega), nth_drop _ _ _ (by omega)]
        exact hc.cells g (by omega) hj
      have e2 : nth (lft up w e.1.l.length) (j : Int) = (((up.drop (e.1.l.length + 1)).filter fun u => nth u (j : Int)).length : Int) := by
        unfold lft
        rw [nth_map _ _ _ (by rw [rng_len]; omega), nth_at _ _ (by rw [rng_len]; omega)]
        unfold rng
        simp
      rw [e2]; exact this
  have tot : ∀ j : Nat, cs c.l (j : Int) = cs (c.l.take (e.1.l.length + 1)) (j : Int) + cs (c.l.drop (e.1.l.length + 1)) (j : Int) := fun j => by
    rw [← cs_app, List.take_append_drop]
  unfold okB
  rw [Bool.and_eq_true, Bool.not_eq_true', List.all_eq_true]
  refine ⟨?_, fun j hj => ?_⟩
  · rw [List.any_eq_false]
    intro j hj
    obtain ⟨n, hn, rfl⟩ := mem_rngN.mp hj
    have h1 := key n hn
    have h2 := tot n
    have h3 := hc.col n hn
    simp
    omega
  · obtain ⟨n, hn, rfl⟩ := mem_rngN.mp hj
    have h1 := key n hn
    have h2 := tot n
    have h3 := hc.col n hn
    simp
    omega
theorem ent_chd (g : LC up w most least high low) {e : En78} (he : Ent up w most least high e) (hl : e.1.l.length < up.length) {r : Tu Int} (hr : Line up most least e.1.l.length r) (ok : okB up w high low e r = true) : Ent up w most least high (chd e r) := by
  have hrl : r.l.length = w := by rw [hr.1.1]; exact g.len _ (nth_mem up _ hl)
  have sm : ∀ j : Nat, j < w → nth (aft e.2 r) (j : Int) = cs (e.1.l ++ [r]) (j : Int) := fun j hj => by
    rw [(aft_nth he.sl hrl hj).2, he.sm j hj, cs_app, cs_one]
  refine ⟨?_, fun k hk => ?_, aft_len he.sl hrl, sm, fun _ j hj => ?_⟩
  · show (e.1.l ++ [r]).length ≤ _
    rw [List.length_append, List.length_singleton]; omega
  · change k < (e.1.l ++ [r]).length at hk
    rw [List.length_append, List.length_singleton] at hk
    show Line up most least k (nth (e.1.l ++ [r]) (k : Int))
    by_cases q : k < e.1.l.length
    · rw [nth_app _ _ _ q]; exact he.line k q
    · have : k = e.1.l.length := by omega
      subst this
      rw [nth_snoc]; exact hr
  · show cs (e.1.l ++ [r]) (j : Int) ≤ _
    rw [← sm j hj]
    unfold okB at ok
    rw [Bool.and_eq_true, Bool.not_eq_true', List.any_eq_false] at ok
    have := ok.1 (j : Int) (mem_rngN.mpr ⟨j, hj, rfl⟩)
    simp at this
    omega
def Inv78 (up : List (List Bool)) (w : Nat) (most least high low : List Int) (c : Tu (Tu Int)) (s : List En78) : Prop :=
  (∀ e ∈ s, Ent up w most least high e) ∧ ∃ pre p post, s = pre ++ p :: post ∧ p.1.l = c.l.take p.1.l.length ∧ ∀ e ∈ post, lLt e.1.l (c.l.take e.1.l.length) = true
def mu78 (m : Nat) (s : List En78) : Nat := (s.map fun e => 9 ^ (m - e.1.l.length)).sum
theorem mu_app (m : Nat) (a b : List En78) : mu78 m (a ++ b) = mu78 m a + mu78 m b := by unfold mu78; rw [List.map_append, List.sum_append_nat]
theorem len_mu (m : Nat) (s : List En78) : s.length ≤ mu78 m s := by
  unfold mu78
  induction s with
  | nil => exact Nat.zero_le _
  | cons e s ih =>
    have : 0 < 9 ^ (m - e.1.l.length) := Nat.pow_pos (by decide)
    rw [List.map_cons, List.sum_cons, List.length_cons]
    omega
theorem mu_chd (m : Nat) (e : En78) (L : List (Tu Int)) (hl : e.1.l.length < m) (h8 : L.length ≤ 8) : mu78 m (L.map (chd e)) < 9 ^ (m - e.1.l.length) := by
  have h1 : ∀ L : List (Tu Int), mu78 m (L.map (chd e)) = L.length * 9 ^ (m - (e.1.l.length + 1)) := by
    intro L
    induction L with
    | nil => simp [mu78]
    | cons r L ih =>
      unfold mu78 at ih ⊢
      rw [List.map_cons, List.map_cons, List.sum_cons, ih, List.length_cons, Nat.succ_mul]
      have : (chd e r).1.l.length = e.1.l.length + 1 := by
        show (e.1.l ++ [r]).length = _
        rw [List.length_append]; rfl
      rw [this]; omega
  rw [h1]
  have h2 : m - e.1.l.length = (m - (e.1.l.length + 1)) + 1 := by omega
  rw [h2, Nat.pow_succ]
  have : 0 < 9 ^ (m - (e.1.l.length + 1)) := Nat.pow_pos (by decide)
  have h3 : L.length * 9 ^ (m - (e.1.l.length + 1)) ≤ 8 * 9 ^ (m - (e.1.l.length + 1)) := Nat.mul_le_mul_right _ h8
  omega
theorem low_iff {e : En78} (he : Ent up w most least high e) : lowB w low e = true ↔ ∀ j : Nat, j < w → nth low (j : Int) ≤ cs e.1.l (j : Int) := by
  unfold lowB
  rw [List.all_eq_true]
  constructor
  · intro h j hj
    have := h (j : Int) (mem_rngN.mpr ⟨j, hj, rfl⟩)
    rw [decide_eq_true_eq, he.sm j hj] at this
    exact this
  · intro h x hx
    obtain ⟨j, hj, rfl⟩ := mem_rngN.mp hx
    rw [decide_eq_true_eq, he.sm j hj]
    exact h j hj
theorem leaf_cand (g : LC up w most least high low) {e : En78} (he : Ent up w most least high e) (hl : e.1.l.length = up.length) (h : lowB w low e = true) : Cand up w most least high low e.1 where
  len := hl
  line k hk := he.line k (by omega)
  col j hj := ⟨(low_iff he).mp h j hj, he.top (fun z => by have := g.m1; rw [z] at hl; simp at hl; omega) j hj⟩
theorem step_ok (g : LC up w most least high low) {c : Tu (Tu Int)} (hc : Cand up w most least high low c) (hm : ∀ q, Cand up w most least high low q → POrd.lt q c = false) (s : List En78) (hI : Inv78 up w most least high low c s) (hmu : mu78 up.length s < 100000 - 20000) : Ok (dfsB up most least high low ((up.length : Int), (w : Int)) s) (FlC (fun s' => Inv78 up w most least high low c s' ∧ mu78 up.length s' < mu78 up.length s) (· = some c) fun _ => False) := by
  obtain ⟨hE, pre, p, post, rfl, hp, hpost⟩ := hI
  have hcl := hc.len
  have hlm := len_mu up.length (pre ++ p :: post)
  rcases List.eq_nil_or_concat post with rfl | ⟨post', t, rfl⟩
  · have he := hE p (by simp)
    rw [List.length_append, List.length_singleton] at hlm
    refine (body_ok g pre p he (by omega)).imp fun z hz => ?_
    rcases hz with ⟨hl, ⟨_, rfl⟩ | ⟨hlo, rfl⟩⟩ | ⟨hl, L, HL, rfl⟩
    · show some p.1 = some c
      have : p.1.l = c.l := by rw [hp, hl, ← hcl, List.take_length]
      rw [tu_ext this]
    · exfalso
      have : p.1.l = c.l := by rw [hp, hl, ← hcl, List.take_length]
      have h2 : lowB w low p = true := (low_iff he).mpr fun j hj => by rw [this]; exact (hc.col j hj).1
      rw [h2] at hlo; cases hlo
    · have hmem : nth c.l (p.1.l.length : Int) ∈ L := (HL.mem _).mpr (hc.line _ hl)
      obtain ⟨A, B, hAB⟩ := List.append_of_mem hmem
      have ok := ok_path g hc he hp hl
      refine ⟨⟨fun e hx => ?_, ?_⟩, ?_⟩
      · rcases List.mem_append.mp hx with hx | hx
        · exact hE e (List.mem_append_left _ hx)
        · obtain ⟨r, hr, rfl⟩ := List.mem_map.mp hx
          obtain ⟨hr1, hr2⟩ := List.mem_filter.mp hr
          exact ent_chd g he hl ((HL.mem r).mp (List.mem_reverse.mp hr1)) hr2
      · refine ⟨pre ++ (B.reverse.filter (okB up w high low p)).map (chd p), chd p (nth c.l (p.1.l.length : Int)), (A.reverse.filter (okB up w high low p)).map (chd p), ?_, ?_, fun e hx => ?_⟩
        · rw [hAB]
          simp [List.filter_append, ok]
        · show p.1.l ++ [nth c.l (p.1.l.length : Int)] = c.l.take (p.1.l ++ [nth c.l (p.1.l.length : Int)]).length
          rw [List.length_append, List.length_singleton, take_nx _ _ (by omega), ← hp]
        · obtain ⟨r, hr, rfl⟩ := List.mem_map.mp hx
          have hrA := List.mem_reverse.mp (List.mem_filter.mp hr).1
          have hlt : lLt r.l (nth c.l (p.1.l.length : Int)).l = true := by
            have := HL.asc
            rw [hAB, List.pairwise_append] at this
            exact this.2.2 r hrA _ List.mem_cons_self
          show lLt (p.1.l ++ [r]) (c.l.take (p.1.l ++ [r]).length) = true
          rw [List.length_append, List.length_singleton, take_nx _ _ (by omega), ← hp, lLt_app]
          exact lLt_one hlt
      · rw [mu_app, mu_app]
        have h1 := mu_chd up.length p (L.reverse.filter (okB up w high low p)) hl (by
          have := List.length_filter_le (okB up w high low p) L.reverse
          rw [List.length_reverse] at this
          have := HL.len
          omega)
        have : mu78 up.length [p] = 9 ^ (up.length - p.1.l.length) := by unfold mu78; simp
        omega
  · have et : pre ++ p :: (post'.concat t) = (pre ++ p :: post') ++ [t] := by simp
    rw [et] at hE hlm hmu ⊢
    have he := hE t (by simp)
    have hlt := hpost t (by simp)
    have hpost' : ∀ e ∈ post', lLt e.1.l (c.l.take e.1.l.length) = true := fun e hx => hpost e (by simp [hx])
    rw [List.length_append, List.length_singleton] at hlm
    refine (body_ok g (pre ++ p :: post') t he (by omega)).imp fun z hz => ?_
    rcases hz with ⟨hl, ⟨hlo, rfl⟩ | ⟨hlo, rfl⟩⟩ | ⟨hl, L, HL, rfl⟩
    · exfalso
      have h1 := hm _ (leaf_cand g he hl hlo)
      rw [hl, ← hcl, List.take_length] at hlt
      change lLt t.1.l c.l = false at h1
      rw [hlt] at h1; cases h1
    · refine ⟨⟨fun e hx => hE e (List.mem_append_left _ hx), pre, p, post', rfl, hp, hpost'⟩, ?_⟩
      rw [mu_app _ _ [t]]
      have : mu78 up.length [t] = 9 ^ (up.length - t.1.l.length) := by unfold mu78; simp
      have : 0 < 9 ^ (up.length - t.1.l.length) := Nat.pow_pos (by decide)
      omega
    · refine ⟨⟨fun e hx => ?_, pre, p, post' ++ ((L.reverse).filter (okB up w high low t)).map (chd t), by simp, hp, fun e hx => ?_⟩, ?_⟩
      · rcases List.mem_append.mp hx with hx | hx
        · exact hE e (List.mem_append_left _ hx)
        · obtain ⟨r, hr, rfl⟩ := List.mem_map.mp hx
          obtain ⟨hr1, hr2⟩ := List.mem_filter.mp hr
          exact ent_chd g he hl ((HL.mem r).mp (List.mem_reverse.mp hr1)) hr2
      · rcases List.mem_append.mp hx with hx | hx
        · exact hpost' e hx
        · obtain ⟨r, hr, rfl⟩ := List.mem_map.mp hx
          show lLt (t.1.l ++ [r]) (c.l.take (t.1.l ++ [r]).length) = true
          rw [List.length_append, List.length_singleton, take_nx _ _ (by omega)]
          exact lLt_ext _ _ _ _ (by rw [List.length_take]; omega) hlt
      · rw [mu_app, mu_app _ _ [t]]
        have h1 := mu_chd up.length t (L.reverse.filter (okB up w high low t)) hl (by
          have := List.length_filter_le (okB up w high low t) L.reverse
          rw [List.length_reverse] at this
          have := HL.len
          omega)
        have : mu78 up.length [t] = 9 ^ (up.length - t.1.l.length) := by unfold mu78; simp
        omega
theorem least_ok (g : LC up w most least high low) {c : Tu (Tu Int)} (hc : Cand up w most least high low c) (hm : ∀ q, Cand up w most least high low q → POrd.lt q c = false) : Ok (m_least_choice up most least high low) (· = some c) := by
  have m1 := g.m1
  have m3 := g.m3
  have w1 := g.w1
  have w3 := g.w3
  have l0 : (nth up 0).length = w := g.len _ (nth_mem up 0 (by omega))
  have p3 : ∀ n : Nat, n ≤ 3 → 9 ^ n ≤ 729 := by decide
  unfold m_least_choice
  refine Ok.bind (Ok.wtup2 (Ok.wo1T (Ok.pure (Ok.wo1T (Ok.wo2 (Ok.pure (Ok.pure ⟨ixn (k := 0) (by omega), ?_⟩)))))))
  rw [l0]
  refine Ok.bind (Ok.wsz (Ok.wlcons (Ok.wtup2 (Ok.wmap (Ok.wsz (Ok.wlnil ⟨by decide, Ok.wo2 (Ok.wmap (Ok.wsz (Ok.wlcons (Ok.pure (Ok.wlnil ⟨by decide, Ok.pure ⟨⟨⟨by simp, by decide⟩, by omega, by omega⟩, Ok.wlnil ⟨by simp, ?_⟩⟩⟩)))))⟩))))))
  have e0 : (List.replicate ((w : Int)).toNat [(0 : Int)]).flatten = List.replicate w 0 := by rw [flat_one]; simp
  refine Ok.flR ((Ok.wlg (L := Empty) (fun s => Inv78 up w most least high low c s ∧ mu78 up.length s < 100000 - 20000) (mu78 up.length) (· = some c) (fun _ => False) ?_ ?_ ?_ ?_).imp fun z hz => FlP.imp hz (fun s hs => ?_) (fun b hb => hb) (fun l hl => hl))
  · refine ⟨⟨fun e hx => ?_, [], _, [], rfl, by simp, by simp⟩, ?_⟩
    · rw [List.mem_singleton] at hx
      subst hx
      refine ⟨Nat.zero_le _, fun k hk => absurd hk (Nat.not_lt_zero _), ?_, fun j hj => ?_, fun z => absurd rfl z⟩
      · show (List.replicate ((w : Int)).toNat [(0 : Int)]).flatten.length = w
        rw [e0, List.length_replicate]
      · show nth (List.replicate ((w : Int)).toNat [(0 : Int)]).flatten (j : Int) = _
        rw [e0, nth_at _ _ (by rw [List.length_replicate]; exact hj), List.getElem_replicate]
        rfl
    · have := p3 up.length m3
      show 9 ^ (up.length - 0) + 0 < _
      rw [Nat.sub_zero]; omega
  · have := p3 up.length m3
    show 9 ^ (up.length - 0) + 0 < _
    rw [Nat.sub_zero]; omega
  · intro s _
    exact ⟨trivial, trivial⟩
  · intro s hs _
    refine (step_ok g hc hm s hs.1 hs.2).imp fun z hz => ?_
    cases z with
    | nx s' => exact ⟨⟨hz.1, by have := hz.2; omega⟩, hz.2⟩
    | rt b => exact hz
    | bk b => exact hz
    | ct s' => exact ⟨⟨hz.1, by have := hz.2; omega⟩, hz.2⟩
  · exfalso
    rcases hs with ⟨⟨⟨_, pre, p, post, e, _⟩, _⟩, hv⟩ | hs
    · subst e
      change (!(pre ++ p :: post).isEmpty) = false at hv
      simp at hv
    · exact hs
end
def rings : List (Nat × Nat) := (33, 18) :: (65, 20) :: (129, 24) :: (66, 36) :: (130, 40) :: (132, 72) :: (513, 258) :: (1025, 260) :: (2049, 264) :: (1026, 516) :: (2050, 520) :: (2052, 1032) :: (8193, 4098) :: (16385, 4100) :: (32769, 4104) :: (16386, 8196) :: (32770, 8200) :: (32772, 16392) :: (528, 288) :: (1040, 320) :: (2064, 384) :: (1056, 576) :: (2080, 640) :: (2112, 1152) :: (8208, 4128) :: (16400, 4160) :: (32784, 4224) :: (16416, 8256) :: (32800, 8320) :: (32832, 16512) :: (8448, 4608) :: (16640, 5120) :: (33024, 6144) :: (16896, 9216) :: (33280, 10240) :: (33792, 18432) :: (1057, 322) :: (577, 1042) :: (2081, 386) :: (641, 2066) :: (577, 292) :: (1057, 532) :: (2113, 388) :: (1153, 2068) :: (641, 296) :: (2081, 536) :: (1153, 328) :: (2113, 1048) :: (322, 532) :: (1042, 292) :: (2114, 644) :: (1154, 2084) :: (386, 536) :: (2066, 296) :: (1154, 584) :: (2114, 1064) :: (388, 1048) :: (2068, 328) :: (644, 1064) :: (2084, 584) :: (16417, 4162) :: (8257, 16402) :: (32801, 4226) :: (8321, 32786) :: (8257, 4132) :: (16417, 8212) :: (32833, 4228) :: (16513, 32788) :: (8321, 4136) :: (32801, 8216) :: (16513, 4168) :: (32833, 16408) :: (4162, 8212) :: (16402, 4132) :: (32834, 8324) :: (16514, 32804) :: (4226, 8216) :: (32786, 4136) :: (16514, 8264) :: (32834, 16424) :: (4228, 16408) :: (32788, 4168) :: (8324, 16424) :: (32804, 8264) :: (16897, 5122) :: (9217, 16642) :: (33281, 6146) :: (10241, 33026) :: (9217, 4612) :: (16897, 8452) :: (33793, 6148) :: (18433, 33028) :: (10241, 4616) :: (33281, 8456) :: (18433, 5128) :: (33793, 16648) :: (5122, 8452) :: (16642, 4612) :: (33794, 10244) :: (18434, 33284) :: (6146, 8456) :: (33026, 4616) :: (18434, 9224) :: (33794, 16904) :: (6148, 16648) :: (33028, 5128) :: (10244, 16904) :: (33284, 9224) :: (16912, 5152) :: (9232, 16672) :: (33296, 6176) :: (10256, 33056) :: (9232, 4672) :: (16912, 8512) :: (33808, 6208) :: (18448, 33088) :: (10256, 4736) :: (33296, 8576) :: (18448, 5248) :: (33808, 16768) :: (5152, 8512) :: (16672, 4672) :: (33824, 10304) :: (18464, 33344) :: (6176, 8576) :: (33056, 4736) :: (18464, 9344) :: (33824, 17024) :: (6208, 16768) :: (33088, 5248) :: (10304, 17024) :: (33344, 9344) :: (33825, 6210) :: (18465, 33090) :: (33345, 5250) :: (17025, 33810) :: (10305, 16770) :: (9345, 18450) :: (18465, 5250) :: (33825, 16770) :: (17025, 6210) :: (33345, 18450) :: (9345, 33090) :: (10305, 33810) :: (33345, 6180) :: (10305, 33060) :: (33825, 4740) :: (9345, 33300) :: (18465, 8580) :: (17025, 10260) :: (10305, 4740) :: (33345, 8580) :: (9345, 6180) :: (33825, 10260) :: (17025, 33060) :: (18465, 33300) :: (17025, 5160) :: (9345, 16680) :: (18465, 4680) :: (10305, 16920) :: (33825, 8520) :: (33345, 9240) :: (9345, 4680) :: (17025, 8520) :: (10305, 5160) :: (18465, 9240) :: (33345, 16680) :: (33825, 16920) :: (33090, 10260) :: (6210, 33300) :: (33810, 8580) :: (5250, 33060) :: (18450, 4740) :: (16770, 6180) :: (6210, 8580) :: (33090, 4740) :: (5250, 10260) :: (33810, 6180) :: (16770, 33300) :: (18450, 33060) :: (16770, 9240) :: (5250, 16920) :: (18450, 8520) :: (6210, 16680) :: (33810, 4680) :: (33090, 5160) :: (5250, 8520) :: (16770, 4680) :: (6210, 9240) :: (18450, 5160) :: (33090, 16920) :: (33810, 16680) :: (8580, 16920) :: (4740, 9240) :: (10260, 16680) :: (6180, 8520) :: (33300, 5160) :: (33060, 4680) :: (4740, 16680) :: (8580, 5160) :: (6180, 16920) :: (10260, 4680) :: (33060, 9240) :: (33300, 8520) :: []
/-! ### a table of four lines and columns, rounded -/
def sg (c : Nat × Nat) (i j : Nat) : Int := (if c.1.testBit (4 * i + j) = true then 1 else 0) - (if c.2.testBit (4 * i + j) = true then 1 else 0)
def cel : List (Nat × Nat) := [(0, 0), (0, 1), (0, 2), (0, 3), (1, 0), (1, 1), (1, 2), (1, 3), (2, 0), (2, 1), (2, 2), (2, 3), (3, 0), (3, 1), (3, 2), (3, 3)]
theorem rings_line : ∀ c ∈ rings, ∀ i : Nat, i < 4 → sg c i 0 + sg c i 1 + sg c i 2 + sg c i 3 = 0 ∧ sg c 0 i + sg c 1 i + sg c 2 i + sg c 3 i = 0 := by decide +kernel
theorem rings_one : ∀ c ∈ rings, ∃ p ∈ cel, sg c p.1 p.2 ≠ 0 := by decide +kernel
theorem rings_in : ∀ c ∈ rings, ∀ p ∈ cel, (sg c p.1 p.2 = 1 ∨ sg c p.1 p.2 = -1 ∨ sg c p.1 p.2 = 0) ∧ (sg c p.1 p.2 ≠ 0 → (Nat.lor c.1 c.2).testBit (4 * p.1 + p.2) = true) := by decide +kernel
def rowOk : List Nat := [0, 3, 5, 6, 7, 9, 10, 11, 12, 13, 14, 15]
def colBad (m : Nat) : Bool := cel.any fun p => Nat.beq (Nat.land m (4369 * 2 ^ p.2)) (2 ^ (4 * p.1 + p.2))
def colBad2 : List (Nat × Nat) := [(4369, 1), (4369, 16), (4369, 256), (4369, 4096), (8738, 2), (8738, 32), (8738, 512), (8738, 8192), (17476, 4), (17476, 64), (17476, 1024), (17476, 16384), (34952, 8), (34952, 128), (34952, 2048), (34952, 32768)]
def ringM : List Nat := rings.map fun c => Nat.lor c.1 c.2
def chk4 (m : Nat) : Bool := Nat.beq m 0 || (colBad2.any fun p => Nat.beq (Nat.land m p.1) p.2) || (ringM.any fun c => Nat.beq (Nat.land m c) c)
set_option maxHeartbeats 0 in
theorem chk_all : (rowOk.all fun a => rowOk.all fun b => rowOk.all fun c => rowOk.all fun d => chk4 (Nat.add a (Nat.mul 16 (Nat.add b (Nat.mul 16 (Nat.add c (Nat.mul 16 d))))))) = true := by decide +kernel
theorem rowOk_of : ∀ r < 16, (r ≠ 1 ∧ r ≠ 2 ∧ r ≠ 4 ∧ r ≠ 8) → r ∈ rowOk := by decide
theorem bits_of (f : Nat → Bool) : ∀ n : Nat, ∃ m, m < 2 ^ n ∧ ∀ k < n, m.testBit k = f k := by
  intro n
  induction n with
  | zero => exact ⟨0, by decide, fun k hk => absurd hk (Nat.not_lt_zero _)⟩
  | succ n ih =>
    obtain ⟨m, hm, h⟩ := ih
    cases hf : f n with
    | false =>
      refine ⟨m, by rw [Nat.pow_succ]; omega, fun k hk => ?_⟩
      by_cases e : k = n
      · subst e
        rw [hf]; exact Nat.testBit_lt_two_pow hm
      · exact h k (by omega)
    | true =>
      refine ⟨2 ^ n + m, by rw [Nat.pow_succ]; omega, fun k hk => ?_⟩
      by_cases e : k = n
      · subst e
        rw [hf, Nat.testBit_two_pow_add_eq, Nat.testBit_lt_two_pow hm]; rfl
      · rw [Nat.testBit_two_pow_add_gt (by omega)]
        exact h k (by omega)
def rowS (X : Nat → Nat → Int) (i : Nat) : Int := X i 0 + X i 1 + X i 2 + X i 3
def colS (X : Nat → Nat → Int) (j : Nat) : Int := X 0 j + X 1 j + X 2 j + X 3 j
structure Tb (b : Int) (X : Nat → Nat → Int) : Prop where
  bd : ∀ i < 4, ∀ j < 4, 0 ≤ X i j ∧ X i j ≤ b
  row : ∀ i < 4, b ∣ rowS X i
  col : ∀ j < 4, b ∣ colS X j
def fra (b : Int) (X : Nat → Nat → Int) (i j : Nat) : Bool := !(decide (X i j = 0) || decide (X i j = b))
theorem fra_f {b : Int} {X : Nat → Nat → Int} {i j : Nat} (h : fra b X i j = false) : b ∣ X i j := by
  unfold fra at h
  simp at h
  by_cases q : X i j = 0
  · rw [q]; exact Int.dvd_zero b
  · rw [h q]; exact Int.dvd_refl b
theorem fra_or {b : Int} {X : Nat → Nat → Int} {i j : Nat} (h : fra b X i j = false) : X i j = 0 ∨ X i j = b := by
  unfold fra at h
  simp at h
  by_cases q : X i j = 0
  · exact .inl q
  · exact .inr (h q)
theorem fra_t {b : Int} {X : Nat → Nat → Int} (T : Tb b X) {i j : Nat} (hi : i < 4) (hj : j < 4) (h : fra b X i j = true) : 0 < X i j ∧ X i j < b ∧ ¬ b ∣ X i j := by
  have h1 := T.bd i hi j hj
  unfold fra at h
  simp at h
  refine ⟨by omega, by omega, fun hd => ?_⟩
  have := Int.le_of_dvd (by omega) hd
  omega
theorem dvd4 {b x y z t : Int} (h : b ∣ x + y + z + t) (hy : b ∣ y) (hz : b ∣ z) (ht : b ∣ t) : b ∣ x := by
  have e : x = (x + y + z + t) - (y + z + t) := by omega
  rw [e]
  exact Int.dvd_sub h (Int.dvd_add (Int.dvd_add hy hz) ht)
/-- no line has just one that is not whole -/
theorem one_row {b : Int} {X : Nat → Nat → Int} (T : Tb b X) {i : Nat} (hi : i < 4) {j : Nat} (hj : j < 4) (h1 : fra b X i j = true) (h : ∀ k < 4, k ≠ j → fra b X i k = false) : False := by
  refine (fra_t T hi hj h1).2.2 ?_
  have hr := T.row i hi
  unfold rowS at hr
  have hk : ∀ k < 4, k ≠ j → b ∣ X i k := fun k a c => fra_f (h k a c)
  have hj' : j = 0 ∨ j = 1 ∨ j = 2 ∨ j = 3 := by omega
  rcases hj' with rfl | rfl | rfl | rfl
  · exact dvd4 hr (hk 1 (by decide) (by decide)) (hk 2 (by decide) (by decide)) (hk 3 (by decide) (by decide))
  · exact dvd4 (x := X i 1) (y := X i 0) (by rw [Int.add_comm (X i 1)]; exact hr) (hk 0 (by decide) (by decide)) (hk 2 (by decide) (by decide)) (hk 3 (by decide) (by decide))
  · have e : X i 2 + X i 0 + X i 1 + X i 3 = X i 0 + X i 1 + X i 2 + X i 3 := by omega
    rw [← e] at hr
    exact dvd4 hr (hk 0 (by decide) (by decide)) (hk 1 (by decide) (by decide)) (hk 3 (by decide) (by decide))
  · have e : X i 3 + X i 0 + X i 1 + X i 2 = X i 0 + X i 1 + X i 2 + X i 3 := by omega
    rw [← e] at hr
    exact dvd4 hr (hk 0 (by decide) (by decide)) (hk 1 (by decide) (by decide)) (hk 2 (by decide) (by decide))
theorem Tb.flip {b : Int} {X : Nat → Nat → Int} (T : Tb b X) : Tb b fun i j => X j i := ⟨fun i hi j hj => T.bd j hj i hi, T.col, T.row⟩
theorem one_col {b : Int} {X : Nat → Nat → Int} (T : Tb b X) {j : Nat} (hj : j < 4) {i : Nat} (hi : i < 4) (h1 : fra b X i j = true) (h : ∀ k < 4, k ≠ i → fra b X k j = false) : False :=
  one_row T.flip hj hi h1 h
theorem bad_cell0 : ∀ p ∈ colBad2, ∃ q ∈ cel, q.1 < 4 ∧ q.2 < 4 ∧ ∀ k < 4, (p.1.testBit (4 * k + q.2) = true) ∧ p.2.testBit (4 * k + q.2) = decide (k = q.1) := by decide +kernel
theorem bad_cell : ∀ p ∈ colBad2, ∃ i j, i < 4 ∧ j < 4 ∧ ∀ k < 4, (p.1.testBit (4 * k + j) = true) ∧ p.2.testBit (4 * k + j) = decide (k = i) := fun p hp => by
  obtain ⟨q, _, h1, h2, h3⟩ := bad_cell0 p hp
  exact ⟨q.1, q.2, h1, h2, h3⟩
theorem digit4 (m i j : Nat) (hj : j < 4) : m.testBit (4 * i + j) = (m / 2 ^ (4 * i) % 16).testBit j := by
  rw [show (16 : Nat) = 2 ^ 4 from rfl, Nat.testBit_mod_two_pow, Nat.testBit_div_two_pow]
  simp [hj, Nat.add_comm]
theorem two_bit : ∀ r < 16, ∀ j < 4, r = 2 ^ j → ∀ k < 4, r.testBit k = decide (k = j) := by decide
theorem ring_ex {b : Int} {X : Nat → Nat → Int} (T : Tb b X) : (∀ p ∈ cel, fra b X p.1 p.2 = false) ∨ ∃ c ∈ rings, ∀ p ∈ cel, sg c p.1 p.2 ≠ 0 → fra b X p.1 p.2 = true := by
  obtain ⟨m, hm, hb⟩ := bits_of (fun k => fra b X (k / 4) (k % 4)) 16
  have hbit : ∀ i < 4, ∀ j < 4, m.testBit (4 * i + j) = fra b X i j := fun i hi j hj => by
    have := hb (4 * i + j) (by omega)
    rw [this, show (4 * i + j) / 4 = i by omega, show (4 * i + j) % 4 = j by omega]
  have hrow : ∀ i < 4, m / 2 ^ (4 * i) % 16 ∈ rowOk := fun i hi => by
    refine rowOk_of _ (Nat.mod_lt _ (by decide)) ?_
    have key : ∀ j < 4, m / 2 ^ (4 * i) % 16 ≠ 2 ^ j := fun j hj e => by
      have hk := two_bit _ (Nat.mod_lt _ (by decide)) j hj e
      refine one_row T hi hj ?_ fun k hk4 hne => ?_
      · rw [← hbit i hi j hj, digit4 _ _ _ hj, hk j hj, decide_eq_true rfl]
      · rw [← hbit i hi k hk4, digit4 _ _ _ hk4, hk k hk4, decide_eq_false hne]
    exact ⟨key 0 (by decide), key 1 (by decide), key 2 (by decide), key 3 (by decide)⟩
  have hm' : m = Nat.add (m / 2 ^ (4 * 0) % 16) (Nat.mul 16 (Nat.add (m / 2 ^ (4 * 1) % 16) (Nat.mul 16 (Nat.add (m / 2 ^ (4 * 2) % 16) (Nat.mul 16 (m / 2 ^ (4 * 3) % 16)))))) := by
    show m = m / 1 % 16 + 16 * (m / 16 % 16 + 16 * (m / 256 % 16 + 16 * (m / 4096 % 16)))
    omega
  have C := chk_all
  rw [List.all_eq_true] at C
  have C := C _ (hrow 0 (by decide))
  rw [List.all_eq_true] at C
  have C := C _ (hrow 1 (by decide))
  rw [List.all_eq_true] at C
  have C := C _ (hrow 2 (by decide))
  rw [List.all_eq_true] at C
  have C := C _ (hrow 3 (by decide))
  rw [← hm'] at C
  unfold chk4 at C
  rw [Bool.or_eq_true, Bool.or_eq_true, List.any_eq_true, List.any_eq_true] at C
  have hcel : ∀ p ∈ cel, p.1 < 4 ∧ p.2 < 4 := by decide
  rcases C with (C | ⟨p, hp, e⟩) | ⟨c, hc, e⟩
  · left
    intro p hp
    have h4 := hcel p hp
    rw [← hbit _ h4.1 _ h4.2, Nat.eq_of_beq_eq_true C, Nat.zero_testBit]
  · exfalso
    have e := Nat.eq_of_beq_eq_true e
    change m &&& p.1 = p.2 at e
    obtain ⟨i, j, hi, hj, h⟩ := bad_cell p hp
    have hk : ∀ k < 4, m.testBit (4 * k + j) = decide (k = i) := fun k hk => by
      rw [← (h k hk).2, ← e, Nat.testBit_and, (h k hk).1, Bool.and_true]
    refine one_col T hj hi ?_ fun k hk4 hne => ?_
    · rw [← hbit i hi j hj, hk i hi, decide_eq_true rfl]
    · rw [← hbit k hk4 j hj, hk k hk4, decide_eq_false hne]
  · right
    obtain ⟨r, hr, rfl⟩ := List.mem_map.mp hc
    have e := Nat.eq_of_beq_eq_true e
    change m &&& Nat.lor r.1 r.2 = Nat.lor r.1 r.2 at e
    refine ⟨r, hr, fun p hp hs => ?_⟩
    have h4 := hcel p hp
    have h1 := (rings_in r hr p hp).2 hs
    rw [← hbit _ h4.1 _ h4.2]
    rw [← e, Nat.testBit_and, Bool.and_eq_true] at h1
    exact h1.1
/-- the least of some -/
theorem least_of {α : Type} (f : α → Int) : ∀ l : List α, l ≠ [] → ∃ x ∈ l, ∀ y ∈ l, f x ≤ f y := by
  intro l
  induction l with
  | nil => intro h; exact absurd rfl h
  | cons x l ih =>
    intro _
    by_cases h : l = []
    · subst h
      exact ⟨x, List.mem_cons_self, fun y hy => by rw [List.mem_singleton.mp hy]; exact Int.le_refl _⟩
    · obtain ⟨z, hz, hm⟩ := ih h
      by_cases q : f x ≤ f z
      · refine ⟨x, List.mem_cons_self, fun y hy => ?_⟩
        rcases List.mem_cons.mp hy with rfl | hy
        · exact Int.le_refl _
        · have := hm y hy; omega
      · refine ⟨z, List.mem_cons_of_mem _ hz, fun y hy => ?_⟩
        rcases List.mem_cons.mp hy with rfl | hy
        · omega
        · exact hm y hy
theorem fewer {α : Type} (p q : α → Bool) : ∀ l : List α, (∀ x ∈ l, q x = true → p x = true) → (∃ x ∈ l, p x = true ∧ q x = false) → (l.filter q).length < (l.filter p).length := by
  have le : ∀ l : List α, (∀ x ∈ l, q x = true → p x = true) → (l.filter q).length ≤ (l.filter p).length := by
    intro l
    induction l with
    | nil => intro _; exact Nat.le_refl _
    | cons x l ih =>
      intro h
      have := ih fun y hy => h y (List.mem_cons_of_mem _ hy)
      have hx := h x List.mem_cons_self
      rw [List.filter_cons, List.filter_cons]
      cases hq : q x with
      | false => simp only [Bool.false_eq_true, if_false]; split <;> (try simp only [List.length_cons]) <;> omega
      | true => rw [hx hq]; simp only [if_true, List.length_cons]; omega
  intro l
  induction l with
  | nil => rintro _ ⟨x, hx, _⟩; cases hx
  | cons y l ih =>
    rintro h ⟨x, hx, h1, h2⟩
    have hl := le l fun z hz => h z (List.mem_cons_of_mem _ hz)
    have hy := h y List.mem_cons_self
    rw [List.filter_cons, List.filter_cons]
    rcases List.mem_cons.mp hx with rfl | hx
    · rw [h1, h2]; simp only [Bool.false_eq_true, if_false, if_true, List.length_cons]; omega
    · have := ih (fun z hz => h z (List.mem_cons_of_mem _ hz)) ⟨x, hx, h1, h2⟩
      cases hq : q y with
      | false => simp only [Bool.false_eq_true, if_false]; split <;> (try simp only [List.length_cons]) <;> omega
      | true => rw [hy hq]; simp only [if_true, List.length_cons]; omega
theorem cel_all : ∀ i < 4, ∀ j < 4, (i, j) ∈ cel := by decide
theorem round4 {b : Int} (b0 : 0 < b) : ∀ (n : Nat) (X : Nat → Nat → Int), Tb b X → (cel.filter fun p => fra b X p.1 p.2).length ≤ n → ∃ Y : Nat → Nat → Int, (∀ i < 4, ∀ j < 4, (Y i j = 0 ∨ Y i j = b) ∧ (X i j = 0 → Y i j = 0)) ∧ (∀ i < 4, rowS Y i = rowS X i) ∧ ∀ j < 4, colS Y j = colS X j := by
  intro n
  induction n with
  | zero =>
    intro X T hn
    have he : (cel.filter fun p => fra b X p.1 p.2) = [] := List.eq_nil_of_length_eq_zero (by omega)
    refine ⟨X, fun i hi j hj => ⟨?_, fun h => h⟩, fun _ _ => rfl, fun _ _ => rfl⟩
    exact fra_or (by simpa using List.filter_eq_nil_iff.mp he (i, j) (cel_all i hi j hj))
  | succ n ih =>
    intro X T hn
    rcases ring_ex T with h | ⟨c, hc, hf⟩
    · refine ⟨X, fun i hi j hj => ⟨?_, fun h => h⟩, fun _ _ => rfl, fun _ _ => rfl⟩
      exact fra_or (h (i, j) (cel_all i hi j hj))
    · have hcel : ∀ p ∈ cel, p.1 < 4 ∧ p.2 < 4 := by decide
      obtain ⟨p0, hp0, hs0⟩ := rings_one c hc
      have hne : (cel.filter fun p => decide (sg c p.1 p.2 ≠ 0)) ≠ [] := List.ne_nil_of_mem (List.mem_filter.mpr ⟨hp0, decide_eq_true hs0⟩)
      obtain ⟨q, hq, hmin⟩ := least_of (fun p : Nat × Nat => if sg c p.1 p.2 = 1 then b - X p.1 p.2 else X p.1 p.2) _ hne
      obtain ⟨hq1, hq2⟩ := List.mem_filter.mp hq
      have hq2 : sg c q.1 q.2 ≠ 0 := by simpa using hq2
      have hfq := fra_t T (hcel q hq1).1 (hcel q hq1).2 (hf q hq1 hq2)
      have hsq := (rings_in c hc q hq1).1
      generalize hd : (if sg c q.1 q.2 = 1 then b - X q.1 q.2 else X q.1 q.2) = d at hmin
      have hd0 : 0 < d := by rw [← hd]; split <;> omega
      have hX' : ∀ i < 4, ∀ j < 4, (sg c i j = 0 → X i j + d * sg c i j = X i j) ∧ (sg c i j ≠ 0 → 0 ≤ X i j + d * sg c i j ∧ X i j + d * sg c i j ≤ b ∧ fra b X i j = true) := fun i hi j hj => by
        have hm := cel_all i hi j hj
        refine ⟨fun e => by rw [e]; simp, fun e => ?_⟩
        have h1 := hmin (i, j) (List.mem_filter.mpr ⟨hm, decide_eq_true e⟩)
        have h2 := fra_t T hi hj (hf _ hm e)
        have h3 := (rings_in c hc _ hm).1
        simp only at h1 h3
        rcases h3 with h3 | h3 | h3
        · rw [if_pos h3] at h1
          rw [h3]
          exact ⟨by omega, by omega, hf _ hm e⟩
        · rw [if_neg (by omega)] at h1
          rw [h3]
          exact ⟨by omega, by omega, hf _ hm e⟩
        · exact absurd h3 e
      have hrow : ∀ i < 4, rowS (fun i j => X i j + d * sg c i j) i = rowS X i := fun i hi => by
        have := (rings_line c hc i hi).1
        unfold rowS
        simp only []
        have e : d * sg c i 0 + d * sg c i 1 + d * sg c i 2 + d * sg c i 3 = 0 := by
          rw [← Int.mul_add, ← Int.mul_add, ← Int.mul_add, this, Int.mul_zero]
        omega
      have hcol : ∀ j < 4, colS (fun i j => X i j + d * sg c i j) j = colS X j := fun i hi => by
        have := (rings_line c hc i hi).2
        unfold colS
        simp only []
        have e : d * sg c 0 i + d * sg c 1 i + d * sg c 2 i + d * sg c 3 i = 0 := by
          rw [← Int.mul_add, ← Int.mul_add, ← Int.mul_add, this, Int.mul_zero]
        omega
      have T' : Tb b fun i j => X i j + d * sg c i j := by
        refine ⟨fun i hi j hj => ?_, fun i hi => by rw [hrow i hi]; exact T.row i hi, fun j hj => by rw [hcol j hj]; exact T.col j hj⟩
        have := hX' i hi j hj
        by_cases e : sg c i j = 0
        · show 0 ≤ X i j + d * sg c i j ∧ _ ≤ b
          rw [this.1 e]; exact T.bd i hi j hj
        · exact ⟨(this.2 e).1, (this.2 e).2.1⟩
      have hlt : (cel.filter fun p => fra b (fun i j => X i j + d * sg c i j) p.1 p.2).length < (cel.filter fun p => fra b X p.1 p.2).length := by
        refine fewer _ _ _ (fun p hp h => ?_) ⟨q, hq1, hf q hq1 hq2, ?_⟩
        · by_cases e : sg c p.1 p.2 = 0
          · have e2 := (hX' _ (hcel p hp).1 _ (hcel p hp).2).1 e
            have e3 : fra b (fun i j => X i j + d * sg c i j) p.1 p.2 = fra b X p.1 p.2 := by
              unfold fra
              simp only [e2]
            rw [← e3]
            exact h
          · exact hf p hp e
        · unfold fra
          rcases hsq with h | h | h
          · rw [if_pos h] at hd
            have : X q.1 q.2 + d * sg c q.1 q.2 = b := by rw [h]; omega
            simp [this]
          · rw [if_neg (by omega)] at hd
            have : X q.1 q.2 + d * sg c q.1 q.2 = 0 := by rw [h]; omega
            simp [this]
          · exact absurd h hq2
      obtain ⟨Y, h1, h2, h3⟩ := ih _ T' (by omega)
      refine ⟨Y, fun i hi j hj => ⟨(h1 i hi j hj).1, fun e => (h1 i hi j hj).2 ?_⟩, fun i hi => by rw [h2 i hi, hrow i hi], fun j hj => by rw [h3 j hj, hcol j hj]⟩
      have := hX' i hi j hj
      by_cases e2 : sg c i j = 0
      · show X i j + d * sg c i j = 0
        rw [this.1 e2, e]
      · have h4 := fra_t T hi hj (this.2 e2).2.2
        omega
/-! ### a rounding is told by its choices -/
structure VBI (A : List (List Int)) (w : Nat) (b : Int) (T : Tu (Tu Int)) : Prop where
  len : T.l.length = A.length
  rl : ∀ i : Nat, i < A.length → (nth T.l (i : Int)).l.length = w
  cell : ∀ i : Nat, i < A.length → ∀ j : Nat, j < w → bdb b (nth (nth A (i : Int)) (j : Int), nth (nth T.l (i : Int)).l (j : Int)) = true
  row : ∀ i : Nat, i < A.length → bdb b ((nth A (i : Int)).sum, (nth T.l (i : Int)).l.sum) = true
  col : ∀ j : Nat, j < w → bdb b (colP A T (j : Int)) = true
theorem GR.nl {A : List (List Int)} {w : Nat} (g : GR A w) {i : Nat} (h : i < A.length) : (nth A (i : Int)).length = w := g.len _ (nth_mem A i h)
theorem VB_iff {A : List (List Int)} {w : Nat} (g : GR A w) {b : Int} {T : Tu (Tu Int)} : VB A w b T = true ↔ VBI A w b T := by
  have cm : ∀ {x}, T.l.length = A.length → (x ∈ A.zip T.l ↔ ∃ i : Nat, i < A.length ∧ x = (nth A (i : Int), nth T.l (i : Int))) := fun h => zip_mem h
  unfold VB
  rw [Bool.and_eq_true]
  simp only [List.all_append, Bool.and_eq_true, List.all_eq_true]
  constructor
  · rintro ⟨h0, ⟨h1, h2⟩, h3⟩
    have s := shp_all g h0
    have rl : ∀ i : Nat, i < A.length → (nth T.l (i : Int)).l.length = w := fun i hi => s.2 _ (nth_mem T.l i (by omega))
    refine ⟨s.1, rl, fun i hi j hj => ?_, fun i hi => ?_, fun j hj => ?_⟩
    · refine h1 _ (List.mem_flatMap.mpr ⟨_, (cm s.1).mpr ⟨i, hi, rfl⟩, List.mem_map.mpr ⟨_, (zip_mem (by rw [rl i hi, g.nl hi])).mpr ⟨j, by rw [g.nl hi]; exact hj, rfl⟩, rfl⟩⟩)
    · exact h2 _ (List.mem_map.mpr ⟨_, (cm s.1).mpr ⟨i, hi, rfl⟩, rfl⟩)
    · exact h3 _ (List.mem_map.mpr ⟨(j : Int), mem_rngN.mpr ⟨j, hj, rfl⟩, rfl⟩)
  · intro V
    refine ⟨?_, ⟨fun p hp => ?_, fun p hp => ?_⟩, fun p hp => ?_⟩
    · unfold shpB
      rw [Bool.and_eq_true, decide_eq_true_eq, List.all_eq_true]
      refine ⟨V.len, fun y hy => ?_⟩
      obtain ⟨i, hi, rfl⟩ := (cm V.len).mp hy
      rw [decide_eq_true_eq, V.rl i hi, g.nl hi]
    · obtain ⟨y, hy, hp⟩ := List.mem_flatMap.mp hp
      obtain ⟨i, hi, rfl⟩ := (cm V.len).mp hy
      obtain ⟨q, hq, rfl⟩ := List.mem_map.mp hp
      obtain ⟨j, hj, rfl⟩ := (zip_mem (by rw [V.rl i hi, g.nl hi])).mp hq
      exact V.cell i hi j (by rw [g.nl hi] at hj; exact hj)
    · obtain ⟨y, hy, rfl⟩ := List.mem_map.mp hp
      obtain ⟨i, hi, rfl⟩ := (cm V.len).mp hy
      exact V.row i hi
    · obtain ⟨x, hx, rfl⟩ := List.mem_map.mp hp
      obtain ⟨j, hj, rfl⟩ := mem_rngN.mp hx
      exact V.col j hj
theorem nth_rm {α : Type} [Inhabited α] (n : Nat) (g : Int → α) (i : Nat) (h : i < n) : nth ((rng 0 (n : Int)).map g) (i : Int) = g i := by
  rw [nth_map _ _ _ (by rw [rng_len]; omega), nth_at _ _ (by rw [rng_len]; omega)]
  unfold rng
  simp
theorem rm_len {α : Type} (n : Nat) (g : Int → α) : ((rng 0 (n : Int)).map g).length = n := by rw [List.length_map, rng_len]; omega
def mkT (m w : Nat) (h : Int → Int → Int) : Tu (Tu Int) := ⟨(rng 0 (m : Int)).map fun i => ⟨(rng 0 (w : Int)).map fun j => h i j⟩⟩
theorem mkT_len (m w : Nat) (h : Int → Int → Int) : (mkT m w h).l.length = m := rm_len _ _
theorem mkT_row (m w : Nat) (h : Int → Int → Int) {i : Nat} (hi : i < m) : nth (mkT m w h).l (i : Int) = ⟨(rng 0 (w : Int)).map fun j => h i j⟩ := nth_rm m (fun i => (⟨(rng 0 (w : Int)).map fun j => h i j⟩ : Tu Int)) i hi
theorem mkT_cell (m w : Nat) (h : Int → Int → Int) {i j : Nat} (hi : i < m) (hj : j < w) : nth (nth (mkT m w h).l (i : Int)).l (j : Int) = h i j := by
  rw [mkT_row m w h hi]; exact nth_rm w (fun j => h i j) j hj
theorem mkT_eq {m w : Nat} {T : Tu (Tu Int)} (h : Int → Int → Int) (hl : T.l.length = m) (hr : ∀ i : Nat, i < m → (nth T.l (i : Int)).l.length = w) (hc : ∀ i : Nat, i < m → ∀ j : Nat, j < w → nth (nth T.l (i : Int)).l (j : Int) = h i j) : T = mkT m w h := by
  refine tu_ext (list_ext (by rw [hl, mkT_len]) fun i hi => ?_)
  rw [hl] at hi
  rw [mkT_row m w h hi]
  refine tu_ext (list_ext (by rw [hr i hi, rm_len]) fun j hj => ?_)
  rw [hr i hi] at hj
  rw [hc i hi j hj]
  exact (nth_rm w (fun j => h i j) j hj).symm
theorem rowsum {A : List (List Int)} {w : Nat} (g : GR A w) {i : Nat} (hi : i < A.length) : (nth A (i : Int)).sum = ((rng 0 (w : Int)).map fun j => nth (nth A (i : Int)) j).sum := by
  have := map_nth (nth A (i : Int))
  rw [g.nl hi] at this
  rw [this]
theorem colsum (A : List (List Int)) (j : Int) : (A.map fun r => nth r j).sum = ((rng 0 (A.length : Int)).map fun i => nth (nth A i) j).sum := by rw [map_rng]
theorem mkcol (m w : Nat) (h : Int → Int → Int) {j : Nat} (hj : j < w) : ((mkT m w h).l.map fun t => nth t.l (j : Int)).sum = ((rng 0 (m : Int)).map fun i => h i (j : Int)).sum := by
  unfold mkT
  rw [List.map_map]
  congr 1
  refine List.map_congr_left fun i _ => ?_
  exact nth_rm w (fun j => h i j) j hj
theorem sum_mulsub {α : Type} (L : List α) (b : Int) (t a : α → Int) : b * (L.map t).sum - (L.map a).sum = (L.map fun x => b * t x - a x).sum := by
  induction L with
  | nil => simp
  | cons x L ih =>
    rw [List.map_cons, List.map_cons, List.map_cons, List.sum_cons, List.sum_cons, List.sum_cons, ← ih, Int.mul_add]
    omega
theorem sumW {w : Nat} (hw : w ≤ 3) (h : Int → Int) (k : Nat → Int) (hk : ∀ j : Nat, j < w → h j = k j) (h0 : ∀ j : Nat, w ≤ j → j < 3 → k j = 0) : ((rng 0 (w : Int)).map h).sum = k 0 + k 1 + k 2 := by
  have e : rng 0 (w : Int) = (List.range w).map fun (i : Nat) => (i : Int) := rng_nat w
  rw [e, List.map_map]
  have : (List.range w).map (h ∘ fun (i : Nat) => (i : Int)) = (List.range w).map k := List.map_congr_left fun j hj => hk j (List.mem_range.mp hj)
  rw [this]
  have hw' : w = 0 ∨ w = 1 ∨ w = 2 ∨ w = 3 := by omega
  rcases hw' with rfl | rfl | rfl | rfl
  · rw [h0 0 (by omega) (by omega), h0 1 (by omega) (by omega), h0 2 (by omega) (by omega)]; rfl
  · rw [h0 1 (by omega) (by omega), h0 2 (by omega) (by omega)]; simp [List.range_succ]
  · rw [h0 2 (by omega) (by omega)]; simp [List.range_succ]
  · simp [List.range_succ]
    omega
theorem bdb_diff {a b y : Int} (b0 : 0 < b) (h1 : -b < b * y - a) (h2 : b * y - a < b) : bdb b (a, y) = true := by
  rw [← bdb_mul b0, Bool.and_eq_true, decide_eq_true_eq, decide_eq_true_eq, Int.sub_mul, Int.add_mul, Int.mul_comm y b]
  omega
/-- there is a rounding -/
theorem exists_T {A : List (List Int)} {w : Nat} (g : GR A w) {b : Int} (b0 : 0 < b) : ∃ T, VBI A w b T := by
  have m3 := g.m3
  have w3 := g.w3
  let F : Nat → Nat → Int := fun i j => if i < A.length ∧ j < w then nth (nth A (i : Int)) (j : Int) % b else 0
  have hF : ∀ i j, 0 ≤ F i j ∧ F i j < b := fun i j => by
    show 0 ≤ (if i < A.length ∧ j < w then nth (nth A (i : Int)) (j : Int) % b else 0) ∧ (if i < A.length ∧ j < w then nth (nth A (i : Int)) (j : Int) % b else 0) < b
    split
    · exact ⟨Int.emod_nonneg _ (by omega), Int.emod_lt_of_pos _ b0⟩
    · exact ⟨Int.le_refl 0, b0⟩
  have hF0 : ∀ i j, ¬ (i < A.length ∧ j < w) → F i j = 0 := fun i j h => if_neg h
  have hF1 : ∀ i j, i < A.length → j < w → F i j = nth (nth A (i : Int)) (j : Int) % b := fun i j h1 h2 => if_pos ⟨h1, h2⟩
  generalize F = F at hF hF0 hF1
  let X : Nat → Nat → Int := fun i j => if i < 3 then (if j < 3 then F i j else (-(F i 0 + F i 1 + F i 2)) % b) else (if j < 3 then (-(F 0 j + F 1 j + F 2 j)) % b else (F 0 0 + F 0 1 + F 0 2 + F 1 0 + F 1 1 + F 1 2 + F 2 0 + F 2 1 + F 2 2) % b)
  have x0 : ∀ i j, i < 3 → j < 3 → X i j = F i j := fun i j h1 h2 => by show (if i < 3 then (if j < 3 then F i j else _) else _) = _; rw [if_pos h1, if_pos h2]
  have x1 : ∀ i, i < 3 → X i 3 = (-(F i 0 + F i 1 + F i 2)) % b := fun i h1 => by show (if i < 3 then (if 3 < 3 then F i 3 else _) else _) = _; rw [if_pos h1, if_neg (by decide)]
  have x2 : ∀ j, j < 3 → X 3 j = (-(F 0 j + F 1 j + F 2 j)) % b := fun j h1 => by show (if 3 < 3 then (if j < 3 then F 3 j else _) else (if j < 3 then _ else _)) = _; rw [if_neg (by decide), if_pos h1]
  have x3 : X 3 3 = (F 0 0 + F 0 1 + F 0 2 + F 1 0 + F 1 1 + F 1 2 + F 2 0 + F 2 1 + F 2 2) % b := rfl
  have hX : ∀ i < 4, ∀ j < 4, 0 ≤ X i j ∧ X i j < b := fun i hi j hj => by
    show 0 ≤ (if i < 3 then (if j < 3 then F i j else (-(F i 0 + F i 1 + F i 2)) % b) else (if j < 3 then (-(F 0 j + F 1 j + F 2 j)) % b else _ % b)) ∧ (if i < 3 then (if j < 3 then F i j else (-(F i 0 + F i 1 + F i 2)) % b) else (if j < 3 then (-(F 0 j + F 1 j + F 2 j)) % b else _ % b)) < b
    split <;> split <;> first | exact hF i j | exact ⟨Int.emod_nonneg _ (by omega), Int.emod_lt_of_pos _ b0⟩
  generalize X = X at x0 x1 x2 x3 hX
  have em : ∀ s : Int, ∃ k, s % b = s - b * k := fun s => ⟨s / b, by have := Int.emod_add_mul_ediv s b; omega⟩
  have T : Tb b X := by
    refine ⟨fun i hi j hj => by have := hX i hi j hj; omega, fun i hi => ?_, fun j hj => ?_⟩
    · have hi' : i < 3 ∨ i = 3 := by omega
      unfold rowS
      rcases hi' with h | rfl
      · rw [x0 i 0 h (by decide), x0 i 1 h (by decide), x0 i 2 h (by decide), x1 i h]
        obtain ⟨k, hk⟩ := em (-(F i 0 + F i 1 + F i 2))
        exact ⟨-k, by rw [hk, Int.mul_neg]; omega⟩
      · rw [x2 0 (by decide), x2 1 (by decide), x2 2 (by decide), x3]
        obtain ⟨k0, h0⟩ := em (-(F 0 0 + F 1 0 + F 2 0))
        obtain ⟨k1, h1⟩ := em (-(F 0 1 + F 1 1 + F 2 1))
        obtain ⟨k2, h2⟩ := em (-(F 0 2 + F 1 2 + F 2 2))
        obtain ⟨k3, h3⟩ := em (F 0 0 + F 0 1 + F 0 2 + F 1 0 + F 1 1 + F 1 2 + F 2 0 + F 2 1 + F 2 2)
        exact ⟨-k0 + -k1 + -k2 + -k3, by rw [h0, h1, h2, h3, Int.mul_add, Int.mul_add, Int.mul_add, Int.mul_neg, Int.mul_neg, Int.mul_neg, Int.mul_neg]; omega⟩
    · have hj' : j < 3 ∨ j = 3 := by omega
      unfold colS
      rcases hj' with h | rfl
      · rw [x0 0 j (by decide) h, x0 1 j (by decide) h, x0 2 j (by decide) h, x2 j h]
        obtain ⟨k, hk⟩ := em (-(F 0 j + F 1 j + F 2 j))
        exact ⟨-k, by rw [hk, Int.mul_neg]; omega⟩
      · rw [x1 0 (by decide), x1 1 (by decide), x1 2 (by decide), x3]
        obtain ⟨k0, h0⟩ := em (-(F 0 0 + F 0 1 + F 0 2))
        obtain ⟨k1, h1⟩ := em (-(F 1 0 + F 1 1 + F 1 2))
        obtain ⟨k2, h2⟩ := em (-(F 2 0 + F 2 1 + F 2 2))
        obtain ⟨k3, h3⟩ := em (F 0 0 + F 0 1 + F 0 2 + F 1 0 + F 1 1 + F 1 2 + F 2 0 + F 2 1 + F 2 2)
        exact ⟨-k0 + -k1 + -k2 + -k3, by rw [h0, h1, h2, h3, Int.mul_add, Int.mul_add, Int.mul_add, Int.mul_neg, Int.mul_neg, Int.mul_neg, Int.mul_neg]; omega⟩
  obtain ⟨Y, hY, hr, hc⟩ := round4 b0 _ X T (Nat.le_refl _)
  have hd : ∀ i < 4, ∀ j < 4, -b < Y i j - X i j ∧ Y i j - X i j < b := fun i hi j hj => by
    have h1 := hY i hi j hj
    have h2 := hX i hi j hj
    rcases h1.1 with h | h
    · omega
    · by_cases e : X i j = 0
      · have := h1.2 e; omega
      · omega
  let c : Nat → Nat → Int := fun i j => if Y i j = b then 1 else 0
  have hc1 : ∀ i < 4, ∀ j < 4, b * c i j = Y i j := fun i hi j hj => by
    show b * (if Y i j = b then 1 else 0) = _
    rcases (hY i hi j hj).1 with h | h
    · rw [if_neg (by omega), h]; simp
    · rw [if_pos h, h]; simp
  generalize c = c at hc1
  let h : Int → Int → Int := fun i j => nth (nth A i) j / b + c i.toNat j.toNat
  have hh : ∀ i j : Nat, i < A.length → j < w → b * h i j - nth (nth A (i : Int)) (j : Int) = Y i j - X i j := fun i j hi hj => by
    show b * (nth (nth A (i : Int)) (j : Int) / b + c ((i : Int)).toNat ((j : Int)).toNat) - _ = _
    rw [Int.mul_add, show ((i : Int)).toNat = i by omega, show ((j : Int)).toNat = j by omega, hc1 i (by omega) j (by omega), x0 i j (by omega) (by omega), hF1 i j hi hj]
    have := Int.emod_add_mul_ediv (nth (nth A (i : Int)) (j : Int)) b
    omega
  have hz : ∀ i j, i < 3 → j < 3 → ¬ (i < A.length ∧ j < w) → Y i j - X i j = 0 := fun i j hi hj hn => by
    have h1 : X i j = 0 := by rw [x0 i j hi hj]; exact hF0 i j hn
    have := (hY i (by omega) j (by omega)).2 h1
    omega
  generalize h = h at hh
  refine ⟨mkT A.length w h, mkT_len _ _ _, fun i hi => by rw [mkT_row _ _ _ hi]; exact rm_len _ _, fun i hi j hj => ?_, fun i hi => ?_, fun j hj => ?_⟩
  · rw [mkT_cell _ _ _ hi hj]
    have := hd i (by omega) j (by omega)
    have := hh i j hi hj
    exact bdb_diff b0 (by omega) (by omega)
  · rw [mkT_row _ _ _ hi, rowsum g hi]
    have e : b * ((rng 0 (w : Int)).map fun j => h (i : Int) j).sum - ((rng 0 (w : Int)).map fun j => nth (nth A (i : Int)) j).sum = X i 3 - Y i 3 := by
      rw [sum_mulsub, sumW w3 _ (fun j => Y i j - X i j) (fun j hj => hh i j hi hj) fun j h1 h2 => hz i j (by omega) h2 (by omega)]
      have := hr i (by omega)
      unfold rowS at this
      omega
    have := hd i (by omega) 3 (by omega)
    exact bdb_diff b0 (by show -b < b * ((rng 0 (w : Int)).map fun j => h (i : Int) j).sum - _; omega) (by show b * ((rng 0 (w : Int)).map fun j => h (i : Int) j).sum - _ < b; omega)
  · unfold colP
    rw [colsum, mkcol _ _ _ hj]
    have e : b * ((rng 0 (A.length : Int)).map fun i => h i (j : Int)).sum - ((rng 0 (A.length : Int)).map fun i => nth (nth A i) (j : Int)).sum = X 3 j - Y 3 j := by
      rw [sum_mulsub, sumW m3 _ (fun i => Y i j - X i j) (fun i hi => hh i j hi hj) fun i h1 h2 => hz i j h2 (by omega) (by omega)]
      have := hc j (by omega)
      unfold colS at this
      omega
    have := hd 3 (by omega) j (by omega)
    exact bdb_diff b0 (by omega) (by omega)
/-! ### choices and roundings -/
def upA (A : List (List Int)) (b : Int) : List (List Bool) := A.map fun r => r.map fun x => decide (0 < x % b)
def toldA (A : List (List Int)) (b : Int) : List (List Int) := A.map fun r => r.map fun x => x / b
def mostA (A : List (List Int)) (b : Int) : List Int := A.map fun r => -(-r.sum / b) - (r.map fun x => x / b).sum
def leastA (A : List (List Int)) (b : Int) : List Int := A.map fun r => r.sum / b - (r.map fun x => x / b).sum
def colA (A : List (List Int)) (j : Int) : Int := (A.map fun r => nth r j).sum
def highA (A : List (List Int)) (w : Nat) (b : Int) : List Int := (rng 0 (w : Int)).map fun j => -(-(colA A j) / b) - ((toldA A b).map fun l => nth l j).sum
def lowA (A : List (List Int)) (w : Nat) (b : Int) : List Int := (rng 0 (w : Int)).map fun j => colA A j / b - ((toldA A b).map fun l => nth l j).sum
def addT (A : List (List Int)) (w : Nat) (b : Int) (q : Tu (Tu Int)) : Tu (Tu Int) := mkT A.length w fun i j => nth (nth A i) j / b + nth (nth q.l i).l j
def subT (A : List (List Int)) (w : Nat) (b : Int) (T : Tu (Tu Int)) : Tu (Tu Int) := mkT A.length w fun i j => nth (nth T.l i).l j - nth (nth A i) j / b
structure Shp (m w : Nat) (q : Tu (Tu Int)) : Prop where
  len : q.l.length = m
  rl : ∀ i : Nat, i < m → (nth q.l (i : Int)).l.length = w
theorem add_sub {A : List (List Int)} {w : Nat} {b : Int} {T : Tu (Tu Int)} (s : Shp A.length w T) : addT A w b (subT A w b T) = T := by
  refine (mkT_eq _ s.len s.rl fun i hi j hj => ?_).symm
  rw [show nth (nth (subT A w b T).l (i : Int)).l (j : Int) = nth (nth T.l (i : Int)).l (j : Int) - nth (nth A (i : Int)) (j : Int) / b from mkT_cell _ _ _ hi hj]
  omega
theorem sub_shp (A : List (List Int)) (w : Nat) (b : Int) (T : Tu (Tu Int)) : Shp A.length w (subT A w b T) := ⟨mkT_len _ _ _, fun i hi => by unfold subT; rw [mkT_row _ _ _ hi]; exact rm_len _ _⟩
theorem ceil_of {b : Int} (b0 : 0 < b) (b1 : b ≤ 10) (x : Int) : -(-x / b) = x / b + if 0 < x % b then 1 else 0 := by
  have : b = 1 ∨ b = 2 ∨ b = 3 ∨ b = 4 ∨ b = 5 ∨ b = 6 ∨ b = 7 ∨ b = 8 ∨ b = 9 ∨ b = 10 := by omega
  rcases this with rfl | rfl | rfl | rfl | rfl | rfl | rfl | rfl | rfl | rfl <;> split <;> omega
theorem cell_q {b : Int} (b0 : 0 < b) (b1 : b ≤ 10) (x q : Int) : bdb b (x, x / b + q) = true ↔ q = 0 ∨ (q = 1 ∧ decide (0 < x % b) = true) := by
  unfold bdb
  rw [Bool.and_eq_true, decide_eq_true_eq, decide_eq_true_eq, decide_eq_true_eq, ceil_of b0 b1]
  simp only
  split <;> omega
theorem nth_up {A : List (List Int)} {b : Int} {i : Nat} (hi : i < A.length) {j : Nat} (hj : j < (nth A (i : Int)).length) : nth (nth (upA A b) (i : Int)) (j : Int) = decide (0 < nth (nth A (i : Int)) (j : Int) % b) := by
  unfold upA
  rw [nth_map _ _ _ hi, nth_map _ _ _ hj]
theorem nth_told {A : List (List Int)} {b : Int} {i : Nat} (hi : i < A.length) : nth (toldA A b) (i : Int) = (nth A (i : Int)).map fun x => x / b := by
  unfold toldA
  rw [nth_map _ _ _ hi]
theorem map_rngW {A : List (List Int)} {w : Nat} (g : GR A w) {i : Nat} (hi : i < A.length) (f : Int → Int) : (nth A (i : Int)).map f = (rng 0 (w : Int)).map fun j => f (nth (nth A (i : Int)) j) := by
  have := map_rng f (nth A (i : Int))
  rw [g.nl hi] at this
  exact this
theorem told_col {A : List (List Int)} {w : Nat} (g : GR A w) {b : Int} {j : Nat} (hj : j < w) : ((toldA A b).map fun l => nth l (j : Int)).sum = ((rng 0 (A.length : Int)).map fun i => nth (nth A i) (j : Int) / b).sum := by
  unfold toldA
  rw [List.map_map]
  rw [map_rng (α := List Int) _ A]
  congr 1
  refine List.map_congr_left fun i hi => ?_
  obtain ⟨n, hn, rfl⟩ := mem_rngN.mp hi
  exact nth_map _ _ _ (by rw [g.nl hn]; exact hj)
theorem cs_rng {m w : Nat} {q : Tu (Tu Int)} (s : Shp m w q) (j : Int) : cs q.l j = ((rng 0 (m : Int)).map fun i => nth (nth q.l i).l j).sum := by
  unfold cs
  rw [map_rng, s.len]
theorem row_rng {m w : Nat} {q : Tu (Tu Int)} (s : Shp m w q) {i : Nat} (hi : i < m) : (nth q.l (i : Int)).l.sum = ((rng 0 (w : Int)).map fun j => nth (nth q.l (i : Int)).l j).sum := by
  have := map_nth (nth q.l (i : Int)).l
  rw [s.rl i hi] at this
  rw [this]
theorem lc_ok {A : List (List Int)} {w : Nat} (g : GR A w) (b : Int) : LC (upA A b) w (mostA A b) (leastA A b) (highA A w b) (lowA A w b) where
  m1 := by unfold upA; rw [List.length_map]; exact g.m1
  m3 := by unfold upA; rw [List.length_map]; exact g.m3
  w1 := g.w1
  w3 := g.w3
  len u hu := by
    obtain ⟨r, hr, rfl⟩ := List.mem_map.mp hu
    rw [List.length_map]; exact g.len r hr
  most := by unfold mostA upA; simp
  least := by unfold leastA upA; simp
  high := rm_len _ _
  low := rm_len _ _
theorem cand_shp {A : List (List Int)} {w : Nat} (g : GR A w) {b : Int} {q : Tu (Tu Int)} (h : Cand (upA A b) w (mostA A b) (leastA A b) (highA A w b) (lowA A w b) q) : Shp A.length w q := by
  have e : (upA A b).length = A.length := by unfold upA; rw [List.length_map]
  refine ⟨by rw [h.len, e], fun i hi => ?_⟩
  rw [((h.line i (by omega)).1).1]
  exact (lc_ok g b).len _ (nth_mem _ i (by omega))
theorem cand_iff {A : List (List Int)} {w : Nat} (g : GR A w) {b : Int} (b0 : 0 < b) (b1 : b ≤ 10) {q : Tu (Tu Int)} (s : Shp A.length w q) : Cand (upA A b) w (mostA A b) (leastA A b) (highA A w b) (lowA A w b) q ↔ VBI A w b (addT A w b q) := by
  have e : (upA A b).length = A.length := by unfold upA; rw [List.length_map]
  have cells : ∀ i : Nat, i < A.length → ∀ j : Nat, j < w → (bdb b (nth (nth A (i : Int)) (j : Int), nth (nth (addT A w b q).l (i : Int)).l (j : Int)) = true ↔ nth (nth q.l (i : Int)).l (j : Int) = 0 ∨ (nth (nth q.l (i : Int)).l (j : Int) = 1 ∧ nth (nth (upA A b) (i : Int)) (j : Int) = true)) := fun i hi j hj => by
    unfold addT
    rw [mkT_cell _ _ _ hi hj, cell_q b0 b1, nth_up hi (by rw [g.nl hi]; exact hj)]
  have rows : ∀ i : Nat, i < A.length → (bdb b ((nth A (i : Int)).sum, (nth (addT A w b q).l (i : Int)).l.sum) = true ↔ nth (leastA A b) (i : Int) ≤ (nth q.l (i : Int)).l.sum ∧ (nth q.l (i : Int)).l.sum ≤ nth (mostA A b) (i : Int)) := fun i hi => by
    have e1 : (nth (addT A w b q).l (i : Int)).l.sum = ((nth A (i : Int)).map fun x => x / b).sum + (nth q.l (i : Int)).l.sum := by
      unfold addT
      rw [mkT_row _ _ _ hi, map_rngW g hi, row_rng s hi, ← sum_add]
    unfold bdb leastA mostA
    rw [Bool.and_eq_true, decide_eq_true_eq, decide_eq_true_eq, nth_map _ _ _ hi, nth_map _ _ _ hi, e1]
    simp only
    omega
  have cols : ∀ j : Nat, j < w → (bdb b (colP A (addT A w b q) (j : Int)) = true ↔ nth (lowA A w b) (j : Int) ≤ cs q.l (j : Int) ∧ cs q.l (j : Int) ≤ nth (highA A w b) (j : Int)) := fun j hj => by
    have e1 : ((addT A w b q).l.map fun t => nth t.l (j : Int)).sum = ((toldA A b).map fun l => nth l (j : Int)).sum + cs q.l (j : Int) := by
      unfold addT
      rw [mkcol _ _ _ hj, told_col g hj, cs_rng s, ← sum_add]
    unfold colP bdb lowA highA
    rw [nth_rm _ _ _ hj, nth_rm _ _ _ hj, Bool.and_eq_true, decide_eq_true_eq, decide_eq_true_eq, e1]
    show colA A (j : Int) / b ≤ _ ∧ _ ≤ -(-(colA A (j : Int)) / b) ↔ _
    omega
  have ul : ∀ i : Nat, i < A.length → (nth (upA A b) (i : Int)).length = w := fun i hi => (lc_ok g b).len _ (nth_mem _ i (by omega))
  constructor
  · intro h
    refine ⟨mkT_len _ _ _, fun i hi => by unfold addT; rw [mkT_row _ _ _ hi]; exact rm_len _ _, fun i hi j hj => (cells i hi j hj).mpr ((h.line i (by omega)).1.2 j (by rw [ul i hi]; exact hj)), fun i hi => (rows i hi).mpr (h.line i (by omega)).2, fun j hj => (cols j hj).mpr (h.col j hj)⟩
  · intro V
    refine ⟨by rw [s.len, e], fun k hk => ⟨⟨by rw [s.rl k (by omega), ul k (by omega)], fun j hj => (cells k (by omega) j (by rw [ul k (by omega)] at hj; exact hj)).mp (V.cell k (by omega) j (by rw [ul k (by omega)] at hj; exact hj))⟩, (rows k (by omega)).mp (V.row k (by omega))⟩, fun j hj => (cols j hj).mp (V.col j hj)⟩
theorem lLt_iff {α : Type} [Rep α] [DecidableEq α] [POrd α] [Inhabited α] : ∀ xs ys : List α, xs.length = ys.length → (lLt xs ys = true ↔ ∃ k : Nat, k < xs.length ∧ (∀ i : Nat, i < k → nth xs (i : Int) = nth ys (i : Int)) ∧ POrd.lt (nth xs (k : Int)) (nth ys (k : Int)) = true) := by
  intro xs
  induction xs with
  | nil =>
    intro ys hl
    cases ys with
    | nil => exact ⟨fun h => (by cases h), fun ⟨k, hk, _⟩ => absurd hk (Nat.not_lt_zero _)⟩
    | cons y ys => cases hl
  | cons x xs ih =>
    intro ys hl
    cases ys with
    | nil => cases hl
    | cons y ys =>
      have hl' : xs.length = ys.length := by simpa using hl
      unfold lLt
      by_cases e : x = y
      · rw [if_pos e, ih ys hl']
        subst e
        constructor
        · rintro ⟨k, hk, h1, h2⟩
          refine ⟨k + 1, by rw [List.length_cons]; omega, fun i hi => ?_, ?_⟩
          · cases i with
            | zero => rfl
            | succ i => rw [show ((i + 1 : Nat) : Int) = (i : Int) + 1 by omega, nth_succ, nth_succ]; exact h1 i (by omega)
          · rw [show ((k + 1 : Nat) : Int) = (k : Int) + 1 by omega, nth_succ, nth_succ]; exact h2
        · rintro ⟨k, hk, h1, h2⟩
          cases k with
          | zero =>
            change POrd.lt x x = true at h2
            rw [lt_self] at h2; cases h2
          | succ k =>
            refine ⟨k, by rw [List.length_cons] at hk; omega, fun i hi => ?_, ?_⟩
            · have := h1 (i + 1) (by omega)
              rw [show ((i + 1 : Nat) : Int) = (i : Int) + 1 by omega, nth_succ, nth_succ] at this; exact this
            · rw [show ((k + 1 : Nat) : Int) = (k : Int) + 1 by omega, nth_succ, nth_succ] at h2; exact h2
      · rw [if_neg e]
        constructor
        · intro h
          exact ⟨0, by simp, fun i hi => absurd hi (Nat.not_lt_zero _), h⟩
        · rintro ⟨k, hk, h1, h2⟩
          cases k with
          | zero => exact h2
          | succ k => exact absurd (h1 0 (by omega)) e
theorem add_lt {A : List (List Int)} {w : Nat} {b : Int} {q c : Tu (Tu Int)} (sq : Shp A.length w q) (sc : Shp A.length w c) (h : POrd.lt q c = true) : POrd.lt (addT A w b q) (addT A w b c) = true := by
  change lLt q.l c.l = true at h
  show lLt (addT A w b q).l (addT A w b c).l = true
  rw [lLt_iff _ _ (by rw [sq.len, sc.len])] at h
  obtain ⟨k, hk, h1, h2⟩ := h
  rw [sq.len] at hk
  have al : ∀ q, (addT A w b q).l.length = A.length := fun q => mkT_len _ _ _
  rw [lLt_iff _ _ (by rw [al, al])]
  refine ⟨k, by rw [al]; exact hk, fun i hi => ?_, ?_⟩
  · unfold addT
    rw [mkT_row _ _ _ (by omega), mkT_row _ _ _ (by omega), h1 i hi]
  · change lLt (nth q.l (k : Int)).l (nth c.l (k : Int)).l = true at h2
    show lLt (nth (addT A w b q).l (k : Int)).l (nth (addT A w b c).l (k : Int)).l = true
    rw [lLt_iff _ _ (by rw [sq.rl k hk, sc.rl k hk])] at h2
    obtain ⟨j, hj, h3, h4⟩ := h2
    rw [sq.rl k hk] at hj
    have rl : ∀ q, (nth (addT A w b q).l (k : Int)).l.length = w := fun q => by
      unfold addT
      rw [mkT_row _ _ _ hk]; exact rm_len _ _
    have cl : ∀ q, ∀ i : Nat, i < w → nth (nth (addT A w b q).l (k : Int)).l (i : Int) = nth (nth A (k : Int)) (i : Int) / b + nth (nth q.l (k : Int)).l (i : Int) := fun q i hi => mkT_cell _ _ _ hk hi
    rw [lLt_iff _ _ (by rw [rl, rl])]
    refine ⟨j, by rw [rl]; exact hj, fun i hi => ?_, ?_⟩
    · rw [cl q i (by omega), cl c i (by omega), h3 i hi]
    · rw [cl q j hj, cl c j hj]
      change decide (_ < _) = true at h4
      show decide (_ < _) = true
      simp at h4 ⊢
      omega
theorem table_ok {A : List (List Int)} {w : Nat} (g : GR A w) {b : Int} (b0 : 0 < b) (b1 : b ≤ 10) {c : Tu (Tu Int)} (hc : Cand (upA A b) w (mostA A b) (leastA A b) (highA A w b) (lowA A w b) c) (hm : ∀ q, Cand (upA A b) w (mostA A b) (leastA A b) (highA A w b) (lowA A w b) q → POrd.lt q c = false) : Ok (m_rounded_table A b) (· = addT A w b c) := by
  have m1 := g.m1
  have m3 := g.m3
  have w3 := g.w3
  have l0 := g.l0
  have cd : ∀ x : Int, CDiv x b := fun x => cdv78 b0 b1
  have s := cand_shp g hc
  have tl : (toldA A b).length = A.length := by unfold toldA; rw [List.length_map]
  have colL : ∀ i : Nat, i < w → (nth ((rng 0 (w : Int)).map fun x => A.map fun r => nth r x) (i : Int)) = A.map fun r => nth r (i : Int) := fun i hi => nth_rm w (fun x => A.map fun r => nth r x) i hi
  have rw0 : ∀ {P : List Int → Prop}, P (rng 0 (w : Int)) → Ok (R.rng1 (R.pure (w : Int))) P := fun h => Ok.wrng1 (Ok.pure ⟨⟨by omega, by omega⟩, h⟩)
  unfold m_rounded_table
  refine Ok.bind (Ok.wtup2 (Ok.wo1T (Ok.pure (Ok.wo1T (Ok.wo2 (Ok.pure (Ok.pure ⟨ixn (k := 0) (by omega), ?_⟩)))))))
  rw [l0]
  have lr : ∀ r ∈ A, r.length ≤ 100000 := fun r hr => by rw [g.len r hr]; omega
  refine Ok.bind (Ok.wlc1 (fun r => r.map fun x => x / b) (Ok.pure ⟨by omega, fun r hr => Ok.wlc1 (fun x => x / b) (Ok.pure ⟨lr r hr, fun x _ => Ok.wo2 (Ok.pure (Ok.pure ⟨cd x, rfl⟩)), rfl⟩), ?_⟩))
  refine Ok.bind (Ok.wlc1 (fun r => r.map fun x => decide (0 < x % b)) (Ok.pure ⟨by omega, fun r hr => Ok.wlc1 (fun x => decide (0 < x % b)) (Ok.pure ⟨lr r hr, fun x _ => Ok.wo2T (Ok.wo2 (Ok.pure (Ok.pure ⟨b0, Ok.pure rfl⟩))), rfl⟩), ?_⟩))
  refine Ok.bind (Ok.wlc1 (fun r => (-(-r.sum / b), r.sum / b)) (Ok.pure ⟨by omega, fun r hr => Ok.wtup2 (Ok.wo1T (Ok.wo2 (Ok.wo1T (Ok.wo1T (Ok.pure (Ok.pure ⟨cd _, Ok.wo2 (Ok.wo1T (Ok.pure (Ok.pure ⟨cd _, rfl⟩)))⟩)))))), ?_⟩))
  refine Ok.bind (Ok.wlc1 (fun x => A.map fun r => nth r x) (rw0 ⟨by rw [rng_len]; omega, fun x hx => Ok.wlc1 (fun r => nth r x) (Ok.pure ⟨by omega, fun r hr => Ok.wo2 (Ok.pure (Ok.pure ⟨?_, rfl⟩)), rfl⟩), ?_⟩))
  · have := g.len r hr
    have := mem_rng.mp hx
    show ixOk r.length x
    unfold ixOk; omega
  refine Ok.bind (Ok.wlc1 (fun r => (-(-r.sum / b), r.sum / b)) (Ok.pure ⟨by rw [List.length_map, rng_len]; omega, fun r hr => Ok.wtup2 (Ok.wo1T (Ok.wo2 (Ok.wo1T (Ok.wo1T (Ok.pure (Ok.pure ⟨cd _, Ok.wo2 (Ok.wo1T (Ok.pure (Ok.pure ⟨cd _, rfl⟩)))⟩)))))), ?_⟩))
  change Ok (R.bind (R.c5 m_least_choice (R.pure (upA A b)) _ _ _ _) _) _
  have eR : ((rng 0 (w : Int)).map fun x => A.map fun r => nth r x).map (fun r : List Int => ((-(-r.sum / b), r.sum / b) : Int × Int)) = (rng 0 (w : Int)).map fun x => (-(-(colA A x) / b), colA A x / b) := by rw [List.map_map]; rfl
  have enR : enum ((rng 0 (w : Int)).map fun x => ((-(-(colA A x) / b), colA A x / b) : Int × Int)) = (rng 0 (w : Int)).map fun x => (x, (-(-(colA A x) / b), colA A x / b)) := by
    rw [enum_eq, rm_len]
    refine List.map_congr_left fun x hx => ?_
    obtain ⟨j, hj, rfl⟩ := mem_rngN.mp hx
    rw [nth_rm _ _ _ hj]
  have ezL : (A.map fun r => ((-(-r.sum / b), r.sum / b) : Int × Int)).zip (A.map fun r => r.map fun x => x / b) = A.map fun r => ((-(-r.sum / b), r.sum / b), r.map fun x => x / b) := List.zip_map' ..
  rw [eR]
  refine Ok.bind (Ok.wc5 (Ok.pure (Ok.wlc1 (fun y : (Int × Int) × List Int => y.1.1 - y.2.sum) (Ok.wzip (Ok.pure (Ok.pure ?_))))))
  rw [ezL]
  refine ⟨by rw [List.length_map]; omega, fun y _ => Ok.wo2T (Ok.pure (Ok.wo1T (Ok.pure rfl))), ?_⟩
  refine Ok.wlc1 (fun y : (Int × Int) × List Int => y.1.2 - y.2.sum) (Ok.wzip (Ok.pure (Ok.pure ?_)))
  rw [ezL]
  refine ⟨by rw [List.length_map]; omega, fun y _ => Ok.wo2T (Ok.pure (Ok.wo1T (Ok.pure rfl))), ?_⟩
  have tc : ∀ y : Int × Int × Int, y ∈ ((rng 0 (w : Int)).map fun x => (x, ((-(-(colA A x) / b), colA A x / b) : Int × Int))) → Ok (R.lc (α := (List Int)) (R.pure (toldA A b)) (fun _ => R.pure true) (fun y33 => (R.o2 (fun (xs : (List Int)) i => ixOk xs.length i) nth (R.pure y33) (R.pure y.1)))) (· = (toldA A b).map fun l => nth l y.1) := fun y hy => by
    obtain ⟨x, hx, rfl⟩ := List.mem_map.mp hy
    refine Ok.wlc1 (fun l => nth l x) (Ok.pure ⟨by rw [tl]; omega, fun l hl => Ok.wo2 (Ok.pure (Ok.pure ⟨?_, rfl⟩)), rfl⟩)
    obtain ⟨r, hr, rfl⟩ := List.mem_map.mp hl
    have := mem_rng.mp hx
    rw [List.length_map, g.len r hr]
    unfold ixOk; omega
  refine Ok.wlc1 (fun y : Int × Int × Int => y.2.1 - ((toldA A b).map fun l => nth l y.1).sum) (Ok.wenum (Ok.pure ?_))
  rw [enR]
  refine ⟨by rw [rm_len]; omega, fun y hy => Ok.wo2T (Ok.pure (Ok.wo1T ((tc y hy).eq rfl))), ?_⟩
  refine Ok.wlc1 (fun y : Int × Int × Int => y.2.2 - ((toldA A b).map fun l => nth l y.1).sum) (Ok.wenum (Ok.pure ?_))
  rw [enR]
  refine ⟨by rw [rm_len]; omega, fun y hy => Ok.wo2T (Ok.pure (Ok.wo1T ((tc y hy).eq rfl))), ?_⟩
  have e1 : (A.map fun r => ((-(-r.sum / b), r.sum / b), r.map fun x => x / b)).map (fun y : (Int × Int) × List Int => y.1.1 - y.2.sum) = mostA A b := by rw [List.map_map]; rfl
  have e2 : (A.map fun r => ((-(-r.sum / b), r.sum / b), r.map fun x => x / b)).map (fun y : (Int × Int) × List Int => y.1.2 - y.2.sum) = leastA A b := by rw [List.map_map]; rfl
  have e3 : ((rng 0 (w : Int)).map fun x => (x, ((-(-(colA A x) / b), colA A x / b) : Int × Int))).map (fun y : Int × Int × Int => y.2.1 - ((toldA A b).map fun l => nth l y.1).sum) = highA A w b := by rw [List.map_map]; rfl
  have e4 : ((rng 0 (w : Int)).map fun x => (x, ((-(-(colA A x) / b), colA A x / b) : Int × Int))).map (fun y : Int × Int × Int => y.2.2 - ((toldA A b).map fun l => nth l y.1).sum) = lowA A w b := by rw [List.map_map]; rfl
  rw [e1, e2, e3, e4]
  refine (least_ok (lc_ok g b) hc hm).eq ?_
  refine Ok.wo1T (Ok.wlc1 (fun i => (⟨(rng 0 (w : Int)).map fun j => nth (nth A i) j / b + nth (nth c.l i).l j⟩ : Tu Int)) (Ok.wrng1 (Ok.pure ⟨⟨by omega, by omega⟩, by rw [rng_len]; omega, fun i hi => ?_, rfl⟩)))
  obtain ⟨n, hn, rfl⟩ := mem_rngN.mp hi
  refine Ok.wo1T (Ok.wlc1 (fun j => nth (nth A (n : Int)) j / b + nth (nth c.l (n : Int)).l j) (rw0 ⟨by rw [rng_len]; omega, fun j hj => ?_, rfl⟩))
  obtain ⟨k, hk, rfl⟩ := mem_rngN.mp hj
  have h1 : nth (toldA A b) (n : Int) = (nth A (n : Int)).map fun x => x / b := nth_told hn
  change Ok (R.o2 T2 _ (R.o2 _ nth (R.o2 _ nth (R.pure (toldA A b)) _) _) _) _
  refine Ok.wo2T (Ok.wo2 (Ok.wo2 (Ok.pure (Ok.pure ⟨ixn (by omega), Ok.pure ⟨?_, ?_⟩⟩))))
  · rw [h1, List.length_map, g.nl hn]; exact ixn hk
  · rw [h1, nth_map _ _ _ (by rw [g.nl hn]; exact hk)]
    refine Ok.wo2 (Ok.wo2 (Ok.wunO (Ok.pure ⟨rfl, Ok.pure ⟨ixn (by show n < c.l.length; rw [s.len]; exact hn), Ok.pure ⟨ixn ?_, rfl⟩⟩⟩)))
    show k < (nth c.l (n : Int)).l.length
    rw [s.rl n hn]; exact hk
def evB (w3 : Int × Int) (w4 : Int) (w5 : List (List Int)) : List (Tu Int) → Int → R (List (Tu Int)) :=
  (fun s11 x12 =>
  (R.bind (R.fold (α := Int) (R.rng1 (R.pure w3.2)) (s11 : (List (Tu Int))) (fun s13 x14 =>
  (R.bind (R.tup2 (R.o2 CDiv (fun i j : Int => i / j) (R.o2 (fun (xs : (List Int)) i => ixOk xs.length i) nth (R.o2 (fun (xs : (List (List Int))) i => ixOk xs.length i) nth (R.pure w5) (R.pure x12)) (R.pure x14)) (R.pure w4)) (R.o2 CDiv (fun i j : Int => i / j) (R.o2 T2 (fun i j : Int => i - j) (R.o2 T2 (fun i j : Int => i + j) (R.o2 (fun (xs : (List Int)) i => ixOk xs.length i) nth (R.o2 (fun (xs : (List (List Int))) i => ixOk xs.length i) nth (R.pure w5) (R.pure x12)) (R.pure x14)) (R.pure w4)) (R.pure (1 : Int))) (R.pure w4))) fun w15 =>
  (R.bind (R.lc (α := (Tu Int)) (R.pure s13) (fun _ => R.pure true) (fun y18 => (R.o2 (fun (xs ys : (Tu Int)) => xs.l.length + ys.l.length ≤ 1000000) (fun xs ys => Tu.mk (xs.l ++ ys.l)) (R.pure y18) (R.map Tu.mk (R.sz (R.lcons (R.pure w15.1) (R.lnil (α := Int)))))))) fun w16 =>
  (R.bind (R.o2 (fun (xs ys : (List (Tu Int))) => xs.length + ys.length ≤ 1000000) (fun xs ys => xs ++ ys) (R.pure w16) (R.lc (α := (Tu Int)) (R.pure s13) (fun y21 => (R.o2 T2 (fun i j : Int => decide (j < i)) (R.pure w15.2) (R.pure w15.1))) (fun y21 => (R.o2 (fun (xs ys : (Tu Int)) => xs.l.length + ys.l.length ≤ 1000000) (fun xs ys => Tu.mk (xs.l ++ ys.l)) (R.pure y21) (R.map Tu.mk (R.sz (R.lcons (R.pure w15.2) (R.lnil (α := Int))))))))) fun w19 =>
  (R.pure (w19 : (List (Tu Int))))))))) fun w22 =>
  (R.pure (w22 : (List (Tu Int))))))
theorem W.iteN {σT σU β : Type} {c : N Bool} {a1 a2 : (σU → Prop) → (β → Prop) → Prop} {b : σU → (σT → Prop) → (β → Prop) → Prop} {K : σT → Prop} {Kr : β → Prop} (h : c.p) (k1 : a1 (fun s => b s K Kr) Kr) (k2 : a2 (fun s => b s K Kr) Kr) : W.seq (W.ite c a1 a2) b K Kr := ⟨h, fun _ => k1, fun _ => k2⟩
/-! ### all the choices of the law -/
theorem pick78 {α : Type} [Inhabited α] {l : List α} {P : α → Prop} (h0 : 0 < l.length) (h1 : l.length < 1000000) (h : ∀ x ∈ l, P x) : NOk (N.o2 (fun (xs : List α) i => ixOk xs.length i) nth (N.of (R.pure l)) (N.d1 m_draw (N.of (R.o1 T1 (fun xs : List α => (xs.length : Int)) (R.pure l))))) P :=
  NOk.o2 (A := (· = l)) (B := fun i => 0 ≤ i ∧ i < l.length) (NOk.of Ok.pr) (NOk.drawP (Ok.wo1T (Ok.pure ⟨⟨by omega, by omega⟩, fun i a b => ⟨a, b⟩⟩))) fun x i hx hi => by
    subst hx
    refine ⟨by unfold ixOk; omega, h _ ?_⟩
    have e : i = ((i.toNat : Nat) : Int) := by omega
    rw [e]; exact nth_mem _ _ (by omega)
def flat78 (m w : Nat) (T : Tu (Tu Int)) : List Int := (rng 0 ((m * w : Nat) : Int)).map fun k => nth (nth T.l (k / (w : Int))).l (k % (w : Int))
theorem flat_len (m w : Nat) (T : Tu (Tu Int)) : (flat78 m w T).length = m * w := rm_len _ _
theorem ij_lt {m w i j : Nat} (hi : i < m) (hj : j < w) : i * w + j < m * w := by
  have : (i + 1) * w ≤ m * w := Nat.mul_le_mul_right _ hi
  rw [Nat.succ_mul] at this
  omega
theorem flat_nth {m w : Nat} {T : Tu (Tu Int)} {i j : Nat} (hi : i < m) (hj : j < w) : nth (flat78 m w T) ((i * w + j : Nat) : Int) = nth (nth T.l (i : Int)).l (j : Int) := by
  unfold flat78
  rw [nth_rm _ _ _ (ij_lt hi hj)]
  have h1 : (i * w + j) / w = i := by
    rw [Nat.mul_comm, Nat.mul_add_div (by omega), Nat.div_eq_of_lt hj]; rfl
  have h2 : (i * w + j) % w = j := by
    rw [Nat.mul_comm, Nat.mul_add_mod, Nat.mod_eq_of_lt hj]
  rw [← Int.natCast_ediv, ← Int.natCast_emod, h1, h2]
structure EvI (A : List (List Int)) (w : Nat) (b : Int) (n : Nat) (s : List (Tu Int)) : Prop where
  all : ∀ T, VBI A w b T → (⟨(flat78 A.length w T).take n⟩ : Tu Int) ∈ s
  len : ∀ r ∈ s, r.l.length = n
  few : s.length ≤ 2 ^ n
theorem high_of {b : Int} (b0 : 0 < b) (b1 : b ≤ 10) (x : Int) : (x + b - 1) / b = -(-x / b) := by
  have : b = 1 ∨ b = 2 ∨ b = 3 ∨ b = 4 ∨ b = 5 ∨ b = 6 ∨ b = 7 ∨ b = 8 ∨ b = 9 ∨ b = 10 := by omega
  rcases this with rfl | rfl | rfl | rfl | rfl | rfl | rfl | rfl | rfl | rfl <;> omega
theorem snoc_ok {l : Tu Int} {x : Int} (h : l.l.length ≤ 1000) {P : Tu Int → Prop} (hP : P ⟨l.l ++ [x]⟩) : Ok (R.o2 (fun (xs ys : (Tu Int)) => xs.l.length + ys.l.length ≤ 1000000) (fun xs ys => Tu.mk (xs.l ++ ys.l)) (R.pure l) (R.map Tu.mk (R.sz (R.lcons (R.pure x) (R.lnil (α := Int)))))) P :=
  Ok.wo2 (Ok.pure (Ok.wmap (Ok.wsz (Ok.wlcons (Ok.pure (Ok.wlnil ⟨by simp, by show l.l.length + 1 ≤ 1000000; omega, hP⟩))))))
theorem ev_step {A : List (List Int)} {w : Nat} (g : GR A w) {b : Int} (b0 : 0 < b) (b1 : b ≤ 10) {i j : Nat} (hi : i < A.length) (hj : j < w) {s : List (Tu Int)} (h : EvI A w b (i * w + j) s) : EvI A w b (i * w + j + 1) (s.map (fun r => (⟨r.l ++ [nth (nth A (i : Int)) (j : Int) / b]⟩ : Tu Int)) ++ (s.filter fun _ => decide (nth (nth A (i : Int)) (j : Int) / b < (nth (nth A (i : Int)) (j : Int) + b - 1) / b)).map fun r => (⟨r.l ++ [(nth (nth A (i : Int)) (j : Int) + b - 1) / b]⟩ : Tu Int)) where
  all T V := by
    have hm := h.all T V
    have hc := V.cell i hi j hj
    unfold bdb at hc
    rw [Bool.and_eq_true, decide_eq_true_eq, decide_eq_true_eq] at hc
    simp only at hc
    have hn := ij_lt hi hj
    rw [take_nx _ _ (by rw [flat_len]; exact hn), flat_nth hi hj]
    rw [← high_of b0 b1] at hc
    have hce := ceil_of b0 b1 (nth (nth A (i : Int)) (j : Int))
    rw [← high_of b0 b1] at hce
    rw [List.mem_append]
    by_cases e : nth (nth T.l (i : Int)).l (j : Int) = nth (nth A (i : Int)) (j : Int) / b
    · left
      exact List.mem_map.mpr ⟨_, hm, by rw [e]⟩
    · right
      refine List.mem_map.mpr ⟨_, List.mem_filter.mpr ⟨hm, decide_eq_true (by omega)⟩, ?_⟩
      have : nth (nth T.l (i : Int)).l (j : Int) = (nth (nth A (i : Int)) (j : Int) + b - 1) / b := by
        split at hce <;> omega
      rw [this]
  len r hr := by
    rcases List.mem_append.mp hr with hr | hr
    · obtain ⟨q, hq, rfl⟩ := List.mem_map.mp hr
      show (q.l ++ [_]).length = _
      rw [List.length_append, h.len q hq]; rfl
    · obtain ⟨q, hq, rfl⟩ := List.mem_map.mp hr
      show (q.l ++ [_]).length = _
      rw [List.length_append, h.len q (List.mem_filter.mp hq).1]; rfl
  few := by
    rw [List.length_append, List.length_map, List.length_map, Nat.pow_succ]
    have h1 := h.few
    have h2 := List.length_filter_le (fun _ : Tu Int => decide (nth (nth A (i : Int)) (j : Int) / b < (nth (nth A (i : Int)) (j : Int) + b - 1) / b)) s
    omega
theorem EvI.le {A : List (List Int)} {w : Nat} {b : Int} {n : Nat} {s : List (Tu Int)} (h : EvI A w b n s) (hn : n ≤ 9) : s.length ≤ 512 := by
  have h1 := h.few
  have h2 : 2 ^ n ≤ 2 ^ 9 := Nat.pow_le_pow_right (by decide) hn
  omega
theorem every_ok {A : List (List Int)} {w : Nat} (g : GR A w) {b : Int} (b0 : 0 < b) (b1 : b ≤ 10) : Ok (R.fold (α := Int) (R.rng1 (R.pure (A.length : Int))) ([⟨[]⟩] : List (Tu Int)) (evB ((A.length : Int), (w : Int)) b A)) (EvI A w b (A.length * w)) := by
  have m3 := g.m3
  have w3 := g.w3
  have cd : ∀ x : Int, CDiv x b := fun x => cdv78 b0 b1
  have n9 : A.length * w ≤ 9 := by
    have : A.length * w ≤ 3 * 3 := Nat.mul_le_mul m3 w3
    omega
  refine Ok.wfold (fun i s => EvI A w b (i * w) s) (Ok.wrng1 (Ok.pure ⟨⟨by omega, by omega⟩, ?_, ?_, ?_⟩))
  · rw [Nat.zero_mul]
    exact ⟨fun T _ => by rw [List.take_zero]; exact List.mem_singleton.mpr rfl, fun r hr => by rw [List.mem_singleton.mp hr]; rfl, by decide⟩
  · intro i x s hx h
    have hx' := rng_at hx
    have hi : i < A.length := by omega
    have ex : x = (i : Int) := by omega
    subst ex
    have gl := g.nl hi
    unfold evB
    refine Ok.bind (Ok.wfold (fun j s => EvI A w b (i * w + j) s) (Ok.wrng1 (Ok.pure ⟨⟨by omega, by omega⟩, h, ?_, ?_⟩)))
    · intro j y s hy h
      have hy' := rng_at hy
      have hj : j < w := by omega
      have ey : y = (j : Int) := by omega
      subst ey
      have hn := ij_lt hi hj
      have hs := h.le (by omega)
      have hsl : ∀ r ∈ s, r.l.length ≤ 1000 := fun r hr => by rw [h.len r hr]; omega
      refine Ok.bind (Ok.wtup2 (Ok.wo2 (Ok.wo2 (Ok.wo2 (Ok.pure (Ok.pure ⟨ixn hi, Ok.pure ⟨by rw [gl]; exact ixn hj, Ok.pure ⟨cd _, ?_⟩⟩⟩))))))
      refine Ok.wo2 (Ok.wo2T (Ok.wo2T (Ok.wo2 (Ok.wo2 (Ok.pure (Ok.pure ⟨ixn hi, Ok.pure ⟨by rw [gl]; exact ixn hj, Ok.pure (Ok.pure (Ok.pure ⟨cd _, ?_⟩))⟩⟩))))))
      refine Ok.bind (Ok.wlc1 (fun r => (⟨r.l ++ [nth (nth A (i : Int)) (j : Int) / b]⟩ : Tu Int)) (Ok.pure ⟨by omega, fun r hr => snoc_ok (hsl r hr) rfl, ?_⟩))
      refine Ok.bind (Ok.wo2 (Ok.pure (Ok.wlc (fun _ => decide (nth (nth A (i : Int)) (j : Int) / b < (nth (nth A (i : Int)) (j : Int) + b - 1) / b)) (fun r => (⟨r.l ++ [(nth (nth A (i : Int)) (j : Int) + b - 1) / b]⟩ : Tu Int)) (Ok.pure ⟨by omega, fun r hr => Ok.wo2T (Ok.pure (Ok.pure ⟨rfl, fun _ => snoc_ok (hsl r hr) rfl⟩)), ?_, Ok.pure (ev_step g b0 b1 hi hj h)⟩))))
      rw [List.length_map, List.length_map]
      have h2 := List.length_filter_le (fun _ : Tu Int => decide (nth (nth A (i : Int)) (j : Int) / b < (nth (nth A (i : Int)) (j : Int) + b - 1) / b)) s
      omega
    · intro s h
      rw [rng_len] at h
      refine Ok.pure ?_
      rw [Nat.succ_mul]
      have e : ((w : Int) - 0).toNat = w := by omega
      rw [e] at h
      exact h
  · intro s h
    rw [rng_len] at h
    have e : ((A.length : Int) - 0).toNat = A.length := by omega
    rw [e] at h
    exact h
def resh (m w : Nat) (r : Tu Int) : Tu (Tu Int) := mkT m w fun i j => nth r.l (i * (w : Int) + j)
theorem cut_row {m w : Nat} {r : List Int} (hl : r.length = m * w) {i : Nat} (hi : i < m) : cut r (some ((i : Int) * (w : Int))) (some (((i : Int) + 1) * (w : Int))) = (rng 0 (w : Int)).map fun j => nth r ((i : Int) * (w : Int) + j) := by
  have h1 : i * w + w ≤ m * w := by
    have : (i + 1) * w ≤ m * w := Nat.mul_le_mul_right _ hi
    rw [Nat.succ_mul] at this
    exact this
  have e1 : (i : Int) * (w : Int) = ((i * w : Nat) : Int) := by rw [Int.natCast_mul]
  have e2 : ((i : Int) + 1) * (w : Int) = ((i * w + w : Nat) : Int) := by rw [Int.add_mul, Int.one_mul, e1, Int.natCast_add]
  have e3 : cut r (some ((i : Int) * (w : Int))) (some (((i : Int) + 1) * (w : Int))) = (r.drop (i * w)).take w := by
    unfold cut
    rw [e2, e1, HT.sIx_nat, HT.sIx_nat, hl, Nat.min_eq_left h1, Nat.min_eq_left (show i * w ≤ m * w by omega)]
    congr 1
    omega
  rw [e3]
  have ll : ((r.drop (i * w)).take w).length = w := by rw [List.length_take, List.length_drop, hl]; omega
  refine list_ext (by rw [ll, rm_len]) fun j hj => ?_
  rw [ll] at hj
  rw [nth_rm w (fun j => nth r ((i : Int) * (w : Int) + j)) j hj, nth_take _ _ _ hj (by rw [List.length_drop, hl]; omega), nth_drop _ _ _ (by rw [hl]; omega), e1, Int.natCast_add]
theorem resh_flat {m w : Nat} {T : Tu (Tu Int)} (s : Shp m w T) : resh m w ⟨flat78 m w T⟩ = T := by
  refine (mkT_eq _ s.len s.rl fun i hi j hj => ?_).symm
  have := flat_nth (T := T) hi hj
  rw [Int.natCast_add, Int.natCast_mul] at this
  exact this.symm
theorem VBI.shp {A : List (List Int)} {w : Nat} {b : Int} {T : Tu (Tu Int)} (V : VBI A w b T) : Shp A.length w T := ⟨V.len, V.rl⟩
theorem resh_shp (m w : Nat) (r : Tu Int) : Shp m w (resh m w r) := ⟨mkT_len _ _ _, fun i hi => by unfold resh; rw [mkT_row _ _ _ hi]; exact rm_len _ _⟩
theorem shp_rows {m w : Nat} {T : Tu (Tu Int)} (s : Shp m w T) : ∀ t ∈ T.l, t.l.length = w := fun t ht => by
  obtain ⟨i, hi, rfl⟩ := mem_nth ht
  exact s.rl i (by rw [s.len] at hi; exact hi)
/-- the least of the roundings is the one the program tells -/
theorem head_table {A : List (List Int)} {w : Nat} (g : GR A w) {b : Int} (b0 : 0 < b) (b1 : b ≤ 10) {h : Tu (Tu Int)} (V : VBI A w b h) (hm : ∀ T, VBI A w b T → POrd.lt T h = false) : Ok (m_rounded_table A b) (· = h) := by
  have s := V.shp
  have e := add_sub (b := b) s
  have hc : Cand (upA A b) w (mostA A b) (leastA A b) (highA A w b) (lowA A w b) (subT A w b h) := (cand_iff g b0 b1 (sub_shp A w b h)).mpr (by rw [e]; exact V)
  refine (table_ok g b0 b1 hc fun q hq => ?_).imp fun x hx => by rw [hx, e]
  cases hl : POrd.lt q (subT A w b h) with
  | false => rfl
  | true =>
    have sq := cand_shp g hq
    have h1 := add_lt (b := b) sq (sub_shp A w b h) hl
    rw [e, hm _ ((cand_iff g b0 b1 sq).mp hq)] at h1
    cases h1
theorem wp_ok : wp_law (fun _ => False) (fun b => b = true) := by
  unfold wp_law
  have dr : ∀ n : Int, 0 < n → n < 1000 → NOk (N.d1 m_draw (N.of (R.pure n))) fun i => 0 ≤ i ∧ i < n := fun n h0 h1 => NOk.drawP (Ok.pure ⟨⟨h0, by omega⟩, fun i a b => ⟨a, b⟩⟩)
  have dr1 : ∀ n : Int, 0 < n → n < 1000 → NOk (N.o2 T2 (fun i j : Int => i + j) (N.of (R.pure (1 : Int))) (N.d1 m_draw (N.of (R.pure n)))) fun i => 1 ≤ i ∧ i ≤ n := fun n h0 h1 => NOk.o2 (A := (· = (1 : Int))) (NOk.of Ok.pr) (dr n h0 h1) fun x y hx hy => ⟨trivial, by omega, by omega⟩
  refine W.sf (fun _ _ => True) (Ok.wrng1 (Ok.pure ⟨⟨by decide, by decide⟩, trivial, fun _ _ _ _ _ => ?_, fun _ _ => ?_⟩))
  · refine W.sq (NOk.tup2 (A := fun i => 1 ≤ i ∧ i ≤ 3) (B := fun i => 1 ≤ i ∧ i ≤ 3) (dr1 3 (by decide) (by decide)) (dr1 3 (by decide) (by decide)) fun x y hx hy => ?_)
    obtain ⟨m, rfl⟩ : ∃ m : Nat, x = (m : Int) := ⟨x.toNat, by omega⟩
    obtain ⟨w, rfl⟩ : ∃ w : Nat, y = (w : Int) := ⟨y.toNat, by omega⟩
    refine W.sq ((dr1 10 (by decide) (by decide)).imp fun b hb => ?_)
    have b0 : 0 < b := by omega
    have b1 : b ≤ 10 := hb.2
    refine W.sq (NOk.lcA (fun r : List Int => r.length = w) (NOk.of (Ok.wrng1 (Ok.pure ⟨⟨by omega, by omega⟩, by rw [rng_len]; omega, fun _ _ => NOk.lcA (fun _ => True) (NOk.of (Ok.wrng1 (Ok.pure ⟨⟨by omega, by omega⟩, by rw [rng_len]; omega, fun _ _ => (NOk.drawP (Ok.wo2 (Ok.pure (Ok.pure ⟨cmL (by decide) (by decide), ⟨by omega, by omega⟩, fun _ _ _ => trivial⟩)))), fun ys hl _ => by rw [hl, rng_len]; omega⟩))), fun A hA hr => ?_⟩))))
    have hAm : A.length = m := by rw [hA, rng_len]; omega
    subst hAm
    have g : GR A w := ⟨by omega, by omega, by omega, by omega, hr⟩
    have m3 := g.m3
    have w3 := g.w3
    refine W.seq_of (Ok.wsz (Ok.wlcons (Ok.wmap (Ok.wsz (Ok.wlnil ⟨by decide, Ok.wlnil ⟨by decide, ?_⟩⟩)))))
    refine W.seq_of ((every_ok g b0 b1).imp fun L hL => ?_)
    have n9 : A.length * w ≤ 9 := by
      have : A.length * w ≤ 3 * 3 := Nat.mul_le_mul m3 w3
      omega
    have hLl := hL.le n9
    refine W.seq_of (Ok.wlc1 (resh A.length w) (Ok.pure ⟨by omega, fun r hr => ?_, ?_⟩))
    · refine Ok.wo1T (Ok.wlc1 (fun i => (⟨(rng 0 (w : Int)).map fun j => nth r.l (i * (w : Int) + j)⟩ : Tu Int)) (Ok.wrng1 (Ok.pure ⟨⟨by omega, by omega⟩, by rw [rng_len]; omega, fun i hi => ?_, rfl⟩)))
      obtain ⟨n, hn, rfl⟩ := mem_rngN.mp hi
      refine Ok.wo3 (Ok.pure (Ok.wmap (Ok.wo2 (Ok.pure (Ok.pure ⟨cmL (by omega) (by omega), Ok.wmap (Ok.wo2 (Ok.wo2T (Ok.pure (Ok.pure (Ok.pure ⟨cmL (by omega) (by omega), trivial, ?_⟩)))))⟩)))))
      exact congrArg Tu.mk (cut_row (hL.len r hr) hn)
    have hT : ∀ T, VBI A w b T → T ∈ L.map (resh A.length w) := fun T V => by
      refine List.mem_map.mpr ⟨_, hL.all T V, ?_⟩
      rw [show (flat78 A.length w T).take (A.length * w) = flat78 A.length w T from List.take_of_length_le (by rw [flat_len]; exact Nat.le_refl _)]
      exact resh_flat V.shp
    have hS : ∀ T ∈ L.map (resh A.length w), Shp A.length w T := fun T hT => by
      obtain ⟨r, _, rfl⟩ := List.mem_map.mp hT
      exact resh_shp _ _ _
    have hTl : (L.map (resh A.length w)).length ≤ 512 := by rw [List.length_map]; exact hLl
    obtain ⟨T0, V0⟩ := exists_T g b0
    have hne : 0 < (L.map (resh A.length w)).length := List.length_pos_of_mem (hT T0 V0)
    generalize L.map (resh A.length w) = Ts at hT hS hTl hne
    refine W.seq_of (Ok.wo1 (Ok.wlcf (VB A w b) (Ok.pure ⟨by omega, fun T _ => Ok.wo1T (Ok.wc3 (Ok.pure (Ok.pure (Ok.pure (law_rounds_ok g b0 b1 T))))), srtb_tu _ fun T hT => ?_, ?_⟩)))
    · have e := (hS T (List.mem_filter.mp hT).1).len
      intro z
      rw [z] at e
      have := g.m1
      change 0 = A.length at e
      omega
    have hin : T0 ∈ srtD (Ts.filter (VB A w b)) := srt_mem.mpr (List.mem_filter.mpr ⟨hT T0 V0, (VB_iff g).mpr V0⟩)
    obtain ⟨h, t, eG⟩ : ∃ h t, srtD (Ts.filter (VB A w b)) = h :: t := by
      cases e : srtD (Ts.filter (VB A w b)) with
      | nil => rw [e] at hin; cases hin
      | cons h t => exact ⟨h, t, rfl⟩
    obtain ⟨hh, hmin⟩ := srt_head LinO.int.tu.tu eG
    have Vh := (VB_iff g).mp (List.mem_filter.mp hh).2
    have tab := head_table g b0 b1 Vh fun T V => hmin T (List.mem_filter.mpr ⟨hT T V, (VB_iff g).mpr V⟩)
    rw [eG]
    refine W.gd (Ok.wor (Ok.wo2T (Ok.pure (Ok.wsz (Ok.wlnil ⟨by decide, fun _ => Ok.wnot (Ok.wo1T (Ok.wc2 (Ok.wo2 (Ok.pure (Ok.pure ⟨ixn (k := 0) (by simp), Ok.wc2 (Ok.wlc1 (fun xs => xs) (Ok.pure ⟨by omega, fun xs _ => Ok.wo1T (Ok.pure rfl), Ok.pure ?_⟩))⟩))))), fun z => ?_⟩)))))
    · rw [List.map_id']
      refine tab.eq (Ok.wexact ?_ ?_)
      · show Sm h
        have sr := shp_rows Vh.shp
        rw [sm_tu]
        refine ⟨by rw [Vh.len]; omega, fun t ht => ?_⟩
        rw [sm_tu]
        exact ⟨by rw [sr t ht]; omega, fun x _ => sm_int x⟩
      · refine ⟨by rw [nth_zero, decide_eq_true rfl]; rfl, ?_⟩
        -- a bent table
        refine W.sq (NOk.lcR1 (fun t : Tu Int => t.l) (NOk.map (pick78 hne (by omega) fun T hT => ?_)))
        have sT := hS T hT
        have sr := shp_rows sT
        refine ⟨by rw [sT.len]; omega, fun t _ => Ok.wo1T (Ok.pure rfl), ?_⟩
        have bl : (T.l.map fun t => t.l).length = A.length := by rw [List.length_map, sT.len]
        have br : ∀ r ∈ T.l.map fun t => t.l, r.length = w := fun r hr => by
          obtain ⟨t, ht, rfl⟩ := List.mem_map.mp hr
          exact sr t ht
        generalize (T.l.map fun t => t.l) = B at bl br
        refine W.sq (NOk.tup2 (dr (A.length : Int) (by omega) (by omega)) (dr (w : Int) (by omega) (by omega)) fun i j hi hj => ?_)
        obtain ⟨i, rfl⟩ : ∃ n : Nat, i = (n : Int) := ⟨i.toNat, by omega⟩
        obtain ⟨j, rfl⟩ : ∃ n : Nat, j = (n : Int) := ⟨j.toNat, by omega⟩
        have hi' : i < B.length := by omega
        have bi : (nth B (i : Int)).length = w := br _ (nth_mem B i hi')
        refine W.sq (NOk.set2 (A := fun _ => True) (B := (· = (i : Int))) (C := (· = (j : Int))) (NOk.o2 (A := fun _ => True) (B := fun _ => True) (NOk.o2 (A := fun _ => True) (B := fun _ => True) (NOk.of (Ok.wixO (Ok.pure (Ok.pure ⟨⟨ixn hi', by rw [bi]; exact ixn (by omega)⟩, trivial⟩)))) ((dr 3 (by decide) (by decide)).imp fun _ _ => trivial) fun _ _ _ _ => ⟨trivial, trivial⟩) (NOk.of (Ok.pure trivial)) fun _ _ _ _ => ⟨trivial, trivial⟩) (NOk.of Ok.pr) (NOk.of Ok.pr) (fun a ha => ?_) fun x a c _ ha hc => ?_)
        · subst ha
          refine ⟨⟨by omega, by omega⟩, fun c hc => ?_⟩
          subst hc
          rw [bi]; omega
        subst ha hc
        have cl : (B.set (i : Int).toNat ((nth B (i : Int)).set (j : Int).toNat x)).length = A.length := by rw [List.length_set]; exact bl
        have cr : ∀ r ∈ B.set (i : Int).toNat ((nth B (i : Int)).set (j : Int).toNat x), r.length ≤ 1000 := fun r hr => by
          rcases List.mem_or_eq_of_mem_set hr with h | h
          · rw [br r h]; omega
          · rw [h, List.length_set, bi]; omega
        generalize B.set (i : Int).toNat ((nth B (i : Int)).set (j : Int).toNat x) = C at cl cr
        have fin : ∀ D : List (List Int), D.length = A.length → W.seq (W.of (N.of (R.o1 T1 (fun xs : (List (Tu Int)) => Tu.mk xs) (R.lc (α := (List Int)) (R.pure D) (fun _ => R.pure true) (fun y45 => (R.o1 T1 (fun xs : (List Int) => Tu.mk xs) (R.pure y45))))))) (fun w43 => (W.seq (W.ite (N.of (R.not (R.o1 T1 (fun i : Bool => i) (R.c2 FP.exact (R.c3 m__law_rounds (R.pure A) (R.pure b) (R.pure w43)) (R.c3 m_is_rounded (R.pure A) (R.pure b) (R.pure w43)))))) (W.ret (N.of (R.pure false))) (W.nil (() : Unit))) fun w46 => (W.nil (() : Unit)))) (fun _ => True) (fun b => b = true) := fun D hD => by
          refine W.seq_of (Ok.wo1T (Ok.wlc1 (fun r : List Int => (⟨r⟩ : Tu Int)) (Ok.pure ⟨by omega, fun r _ => Ok.wo1T (Ok.pure rfl), ?_⟩)))
          refine W.gd (Ok.wnot (Ok.wo1T (Ok.wc2 (Ok.wc3 (Ok.pure (Ok.pure (Ok.pure ((law_rounds_ok g b0 b1 _).eq (Ok.wc3 (Ok.pure (Ok.pure (Ok.pure ((is_rounded_ok g b0 b1 _).eq (Ok.wexact (sm_bool _) ⟨by rw [decide_eq_true rfl]; rfl, trivial⟩))))))))))))))
        refine W.iteN ⟨(dr 6 (by decide) (by decide)).1, trivial, fun _ _ _ _ => trivial⟩ ?_ ?_
        · refine W.seq_of (Ok.wsetRow (Ok.wo2 (Ok.wrowO (Ok.pure ⟨ixn (by omega), Ok.wsz (Ok.wlcons (Ok.pure (Ok.wlnil ⟨by simp, ?_, Ok.pure ⟨⟨by omega, by omega⟩, ?_⟩⟩)))⟩))))
          · have := cr _ (nth_mem C i (by omega))
            show (nth C (i : Int)).length + 1 ≤ 1000000
            omega
          · exact fin _ (by rw [List.length_set]; exact cl)
        · exact fin _ cl
    · simp at z
  · refine W.rt (NOk.of (Ok.wand ?_))
    (repeat (first | (with_reducible first | refine Ok.pure ?_ | refine Ok.bind ?_ | refine Ok.wo2T ?_ | refine Ok.wo1T ?_ | refine Ok.wo1 ?_ | refine Ok.wo2 ?_ | refine Ok.wo3 ?_ | refine Ok.wnot ?_ | refine Ok.wmap ?_ | refine Ok.wtup2 ?_ | refine Ok.wtup3 ?_ | refine Ok.wh2 ?_ | refine Ok.wh3 ?_ | refine Ok.wp1 ?_ | refine Ok.wp2 ?_ | refine Ok.wt1 ?_ | refine Ok.wt2 ?_ | refine Ok.wt3 ?_ | refine Ok.wset ?_ | refine Ok.wset2 ?_ | refine Ok.wixO ?_ | refine Ok.wrowO ?_ | refine Ok.wsetRow ?_ | refine Ok.wapp ?_ | refine Ok.wlnil ?_ | refine Ok.wlcons ?_ | refine Ok.wmap ?_ | refine Ok.wsz ?_ | refine Ok.wrng1 ?_ | refine Ok.wrng2 ?_ | refine Ok.wzip ?_ | refine Ok.wenum ?_ | refine Ok.wchain ?_ | refine Ok.wc1 ?_ | refine Ok.wc2 ?_ | refine Ok.wc3 ?_ | refine Ok.wc4 ?_ | refine Ok.wc5 ?_ | refine Ok.wunO ?_ | refine Ok.wite ?_ | refine Ok.wand ?_ | refine Ok.wor ?_) | refine Ok.and' (by first | exact True.intro | exact Option.isSome_some | exact ⟨by decide, by decide⟩ | decide | omega | (simp only [ixOk, List.length_map, List.length_append, List.length_cons, List.length_nil, List.length_set, rng_len] at *; omega) | exact cmL (by first | decide | omega) (by first | decide | omega) | exact cmR (by first | decide | omega) (by first | decide | omega)) ?_))
    refine (is_rounded_ok (A := [[1, 1], [1, 1]]) (w := 2) ⟨by decide, by decide, by decide, by decide, by decide⟩ (by decide) (by decide) _).eq ⟨fun _ => ?_, fun z => ?_⟩
    · (repeat (first | (with_reducible first | refine Ok.pure ?_ | refine Ok.bind ?_ | refine Ok.wo2T ?_ | refine Ok.wo1T ?_ | refine Ok.wo1 ?_ | refine Ok.wo2 ?_ | refine Ok.wo3 ?_ | refine Ok.wnot ?_ | refine Ok.wmap ?_ | refine Ok.wtup2 ?_ | refine Ok.wtup3 ?_ | refine Ok.wh2 ?_ | refine Ok.wh3 ?_ | refine Ok.wp1 ?_ | refine Ok.wp2 ?_ | refine Ok.wt1 ?_ | refine Ok.wt2 ?_ | refine Ok.wt3 ?_ | refine Ok.wset ?_ | refine Ok.wset2 ?_ | refine Ok.wixO ?_ | refine Ok.wrowO ?_ | refine Ok.wsetRow ?_ | refine Ok.wapp ?_ | refine Ok.wlnil ?_ | refine Ok.wlcons ?_ | refine Ok.wmap ?_ | refine Ok.wsz ?_ | refine Ok.wrng1 ?_ | refine Ok.wrng2 ?_ | refine Ok.wzip ?_ | refine Ok.wenum ?_ | refine Ok.wchain ?_ | refine Ok.wc1 ?_ | refine Ok.wc2 ?_ | refine Ok.wc3 ?_ | refine Ok.wc4 ?_ | refine Ok.wc5 ?_ | refine Ok.wunO ?_ | refine Ok.wite ?_ | refine Ok.wand ?_ | refine Ok.wor ?_) | refine Ok.and' (by first | exact True.intro | exact Option.isSome_some | exact ⟨by decide, by decide⟩ | decide | omega | (simp only [ixOk, List.length_map, List.length_append, List.length_cons, List.length_nil, List.length_set, rng_len] at *; omega) | exact cmL (by first | decide | omega) (by first | decide | omega) | exact cmR (by first | decide | omega) (by first | decide | omega)) ?_))
      refine (is_rounded_ok (A := [[1, 1], [1, 1]]) (w := 2) ⟨by decide, by decide, by decide, by decide, by decide⟩ (by decide) (by decide) _).eq ?_
      decide +kernel
    · exact absurd z (by decide +kernel)
/-! ### the head -/
def d__law_exact : He.DefD := ⟨("_law_exact", none), "_law_exact", "_law_exact", defArgs s__law_exact, defBody s__law_exact, defScope s__law_exact, [], []⟩
def d__law_refill : He.DefD := ⟨("_law_refill", none), "_law_refill", "_law_refill", defArgs s__law_refill, defBody s__law_refill, defScope s__law_refill, [], []⟩
def d__law_draw : He.DefD := ⟨("_law_draw", none), "_law_draw", "_law_draw", defArgs s__law_draw, defBody s__law_draw, defScope s__law_draw, [], []⟩
def d_choices_of : He.DefD := ⟨("choices_of", none), "choices_of", "choices_of", defArgs s_choices_of, defBody s_choices_of, defScope s_choices_of, [], []⟩
def d_least_choice : He.DefD := ⟨("least_choice", none), "least_choice", "least_choice", defArgs s_least_choice, defBody s_least_choice, defScope s_least_choice, [], []⟩
def d_rounded_table : He.DefD := ⟨("rounded_table", none), "rounded_table", "rounded_table", defArgs s_rounded_table, defBody s_rounded_table, defScope s_rounded_table, [], []⟩
def d_is_rounded : He.DefD := ⟨("is_rounded", none), "is_rounded", "is_rounded", defArgs s_is_rounded, defBody s_is_rounded, defScope s_is_rounded, [], []⟩
def d__law_rounds : He.DefD := ⟨("_law_rounds", none), "_law_rounds", "_law_rounds", defArgs s__law_rounds, defBody s__law_rounds, defScope s__law_rounds, [], []⟩
def d_law : He.DefD := ⟨("law", none), "law", "law", defArgs s_law, defBody s_law, defScope s_law, [], []⟩
def fnL : List He.DefD := [d__law_exact, d__law_refill, d__law_draw, d_choices_of, d_least_choice, d_rounded_table, d_is_rounded, d__law_rounds, d_law]
def faL : List He.Fa := [.glo "_law_exact", .glo "_law_refill", .glo "_law_draw", .glo "choices_of", .glo "least_choice", .glo "rounded_table", .glo "is_rounded", .glo "_law_rounds", .glo "law", .free "all", .free "any", .free "bool", .free "enumerate", .free "int", .free "isinstance", .free "len", .free "list", .free "range", .free "reversed", .free "sorted", .free "str", .free "sum", .free "tuple", .free "zip"]
def tfL : List He.Defn := [("least_choice", none), ("is_rounded", none)]
def exL (K : PySem.W.Frag) : Bool := true
abbrev Rw : PySem.W.OpenRow := PySem.W.OpenLaw.row PySem.Challenge.rw_fairparts_k78_whole_rounded_tables
abbrev hkL : PySem.W.Hook := He.hookX 4 faL fnL [] tfL exL
def obL (s : PySem.W.SharedT) : He.AlX := He.obsX 4 faL fnL [] tfL exL (HandSHeadRun.getT s)
theorem obL_eq (s : PySem.W.SharedT) : obL s = hkL.obs s.abs := He.obsX_eq (HandSHeadRun.getT_eq s)
def looseL : List PySem.Str := "rounded_table" :: "least_choice" :: "choices_of" :: "is_rounded" :: "_law_refill" :: "_law_draw" :: "_law_exact" :: "_law_rounds" :: []
theorem runL (w : World) : HandSHeadRun.RunEq Rw (PySem.W.view Rw.prog [10]) hkL obL 4000 looseL w := by
  intro os
  kernel_rfl
theorem codeL {K : PySem.W.Frag} {x qual : Str} {params : Arguments} {body : List Stmt} {scope : Scope} {fd : FuncData} {p : He.Defn} (F : FunD K x qual params body scope [] [] (He.fAd K p) fd) : fd.code = .ref (He.cT K p).1 := by
  obtain ⟨oc, od, dV, kV, doc, pm, an, cdv, ct, osl, rfl, lk, hcd, _, _⟩ := F.ex
  obtain ⟨c, hc⟩ := He.codeIn_ref hcd
  subst hc
  rw [show (He.cT K p).1 = c from He.codeOf_eq lk rfl]
set_option maxHeartbeats 4000000 in
theorem factsL {w : World} {K : PySem.W.Frag} {h : Heap} {mg : Str → Option Value} {f : Addr} (X : K.In h) (G : h.Ns mainGlobals mg) (hfa : mg ("law" : Str) = some (.ref f)) (c : He.SaysX faL fnL [] tfL exL w h K) (hW : wp_law (fun _ => False) (fun b => b = true)) :
    ∃ fd : FuncData, (∀ (s : Shared) (v : Value), BindsTo s fd ⟨[v], []⟩ [("script", v)]) ∧ ∀ base : Heap, K.In base → base.Ns mainGlobals mg → (∀ p ∈ tfL.map (He.cT K), LamX.TabB base mg p.1 p.2) → FnOk (PySem.Challenge.rw_fairparts_k78_whole_rounded_tables).prog w K mg base CX0 13 f fd ["script"] (SpL K (fun P => P ∈ (tfL.map (He.cT K)).map (·.2))) := by
  have cd := c.t.d
  obtain ⟨fd__law_exact, F__law_exact⟩ := cd.defs (d := d__law_exact) (by simp [fnL])
  have g__law_exact : mg "_law_exact" = some (.ref (He.fAd K ("_law_exact", none))) := He.glo_ok X G (cd.facts (f := .glo "_law_exact") (by simp [faL]))
  obtain ⟨fd__law_refill, F__law_refill⟩ := cd.defs (d := d__law_refill) (by simp [fnL])
  have g__law_refill : mg "_law_refill" = some (.ref (He.fAd K ("_law_refill", none))) := He.glo_ok X G (cd.facts (f := .glo "_law_refill") (by simp [faL]))
  obtain ⟨fd__law_draw, F__law_draw⟩ := cd.defs (d := d__law_draw) (by simp [fnL])
  have g__law_draw : mg "_law_draw" = some (.ref (He.fAd K ("_law_draw", none))) := He.glo_ok X G (cd.facts (f := .glo "_law_draw") (by simp [faL]))
  obtain ⟨fd_choices_of, F_choices_of⟩ := cd.defs (d := d_choices_of) (by simp [fnL])
  have g_choices_of : mg "choices_of" = some (.ref (He.fAd K ("choices_of", none))) := He.glo_ok X G (cd.facts (f := .glo "choices_of") (by simp [faL]))
  obtain ⟨fd_least_choice, F_least_choice⟩ := cd.defs (d := d_least_choice) (by simp [fnL])
  have g_least_choice : mg "least_choice" = some (.ref (He.fAd K ("least_choice", none))) := He.glo_ok X G (cd.facts (f := .glo "least_choice") (by simp [faL]))
  obtain ⟨fd_rounded_table, F_rounded_table⟩ := cd.defs (d := d_rounded_table) (by simp [fnL])
  have g_rounded_table : mg "rounded_table" = some (.ref (He.fAd K ("rounded_table", none))) := He.glo_ok X G (cd.facts (f := .glo "rounded_table") (by simp [faL]))
  obtain ⟨fd_is_rounded, F_is_rounded⟩ := cd.defs (d := d_is_rounded) (by simp [fnL])
  have g_is_rounded : mg "is_rounded" = some (.ref (He.fAd K ("is_rounded", none))) := He.glo_ok X G (cd.facts (f := .glo "is_rounded") (by simp [faL]))
  obtain ⟨fd__law_rounds, F__law_rounds⟩ := cd.defs (d := d__law_rounds) (by simp [fnL])
  have g__law_rounds : mg "_law_rounds" = some (.ref (He.fAd K ("_law_rounds", none))) := He.glo_ok X G (cd.facts (f := .glo "_law_rounds") (by simp [faL]))
  obtain ⟨fd_law, F_law⟩ := cd.defs (d := d_law) (by simp [fnL])
  have g_law : mg "law" = some (.ref (He.fAd K ("law", none))) := He.glo_ok X G (cd.facts (f := .glo "law") (by simp [faL]))
  have z_all : mg "all" = none := He.free_ok X G (cd.facts (f := .free "all") (by simp [faL]))
  have z_any : mg "any" = none := He.free_ok X G (cd.facts (f := .free "any") (by simp [faL]))
  have z_bool : mg "bool" = none := He.free_ok X G (cd.facts (f := .free "bool") (by simp [faL]))
  have z_enumerate : mg "enumerate" = none := He.free_ok X G (cd.facts (f := .free "enumerate") (by simp [faL]))
  have z_int : mg "int" = none := He.free_ok X G (cd.facts (f := .free "int") (by simp [faL]))
  have z_isinstance : mg "isinstance" = none := He.free_ok X G (cd.facts (f := .free "isinstance") (by simp [faL]))
  have z_len : mg "len" = none := He.free_ok X G (cd.facts (f := .free "len") (by simp [faL]))
  have z_list : mg "list" = none := He.free_ok X G (cd.facts (f := .free "list") (by simp [faL]))
  have z_range : mg "range" = none := He.free_ok X G (cd.facts (f := .free "range") (by simp [faL]))
  have z_reversed : mg "reversed" = none := He.free_ok X G (cd.facts (f := .free "reversed") (by simp [faL]))
  have z_sorted : mg "sorted" = none := He.free_ok X G (cd.facts (f := .free "sorted") (by simp [faL]))
  have z_str : mg "str" = none := He.free_ok X G (cd.facts (f := .free "str") (by simp [faL]))
  have z_sum : mg "sum" = none := He.free_ok X G (cd.facts (f := .free "sum") (by simp [faL]))
  have z_tuple : mg "tuple" = none := He.free_ok X G (cd.facts (f := .free "tuple") (by simp [faL]))
  have z_zip : mg "zip" = none := He.free_ok X G (cd.facts (f := .free "zip") (by simp [faL]))
  have e := hfa.symm.trans g_law
  cases e
  refine ⟨fd_law, fun s v => FunD.bindsA (ps := ["script"]) F_law (fun _ _ _ _ _ _ us hl => match us, hl with | [_], _ => rfl) s [v] rfl, fun base KB NB TB => ?_⟩
  have tb_least_choice := TB (He.cT K ("least_choice", none)) (List.mem_map.mpr ⟨_, by simp [tfL], rfl⟩)
  have tb_is_rounded := TB (He.cT K ("is_rounded", none)) (List.mem_map.mpr ⟨_, by simp [tfL], rfl⟩)
  have c__law_exact := w__law_exact (P := (PySem.Challenge.rw_fairparts_k78_whole_rounded_tables).prog) (w := w) (mg := mg) (base := base) (T := fun P => P ∈ (tfL.map (He.cT K)).map (·.2)) z_all z_bool z_int z_isinstance z_len z_list z_range z_str z_tuple F__law_exact g__law_exact (FunD.bindsN F__law_exact fun _ _ _ _ _ _ us hl => match us, hl with | [_, _], _ => rfl) 12
  have c__law_refill := w__law_refill (P := (PySem.Challenge.rw_fairparts_k78_whole_rounded_tables).prog) (w := w) (mg := mg) (base := base) (T := fun P => P ∈ (tfL.map (He.cT K)).map (·.2)) z_int z_len F__law_refill g__law_refill (FunD.bindsN F__law_refill fun _ _ _ _ _ _ us hl => match us, hl with | [_, _], _ => rfl)
  have c__law_draw := w__law_draw (P := (PySem.Challenge.rw_fairparts_k78_whole_rounded_tables).prog) (w := w) (mg := mg) (base := base) (T := fun P => P ∈ (tfL.map (He.cT K)).map (·.2)) z_int c__law_refill F__law_draw g__law_draw (FunD.bindsN F__law_draw fun _ _ _ _ _ _ us hl => match us, hl with | [_, _, _], _ => rfl)
  have c_choices_of := w_choices_of (P := (PySem.Challenge.rw_fairparts_k78_whole_rounded_tables).prog) (w := w) (mg := mg) (base := base) (T := fun P => P ∈ (tfL.map (He.cT K)).map (·.2)) z_sum F_choices_of g_choices_of (FunD.bindsN F_choices_of fun _ _ _ _ _ _ us hl => match us, hl with | [_, _, _], _ => rfl)
  have c_least_choice := w_least_choice (P := (PySem.Challenge.rw_fairparts_k78_whole_rounded_tables).prog) (w := w) (mg := mg) (base := base) (T := fun P => P ∈ (tfL.map (He.cT K)).map (·.2)) z_all z_any z_len z_range z_reversed z_tuple z_zip c_choices_of F_least_choice g_least_choice (FunD.bindsN F_least_choice fun _ _ _ _ _ _ us hl => match us, hl with | [_, _, _, _, _], _ => rfl) ⟨tb_least_choice.code, tb_least_choice.bm, tb_least_choice.gP⟩ (List.mem_map.mpr ⟨_, List.mem_map.mpr ⟨_, by simp [tfL], rfl⟩, rfl⟩) (codeL F_least_choice)
  have c_rounded_table := w_rounded_table (P := (PySem.Challenge.rw_fairparts_k78_whole_rounded_tables).prog) (w := w) (mg := mg) (base := base) (T := fun P => P ∈ (tfL.map (He.cT K)).map (·.2)) z_enumerate z_len z_range z_sum z_tuple z_zip c_least_choice F_rounded_table g_rounded_table (FunD.bindsN F_rounded_table fun _ _ _ _ _ _ us hl => match us, hl with | [_, _], _ => rfl)
  have c_is_rounded := w_is_rounded (P := (PySem.Challenge.rw_fairparts_k78_whole_rounded_tables).prog) (w := w) (mg := mg) (base := base) (T := fun P => P ∈ (tfL.map (He.cT K)).map (·.2)) z_all z_any z_len z_range z_sum z_zip F_is_rounded g_is_rounded (FunD.bindsN F_is_rounded fun _ _ _ _ _ _ us hl => match us, hl with | [_, _, _], _ => rfl) ⟨tb_is_rounded.code, tb_is_rounded.bm, tb_is_rounded.gP⟩ (List.mem_map.mpr ⟨_, List.mem_map.mpr ⟨_, by simp [tfL], rfl⟩, rfl⟩) (codeL F_is_rounded)
  have c__law_rounds := w__law_rounds (P := (PySem.Challenge.rw_fairparts_k78_whole_rounded_tables).prog) (w := w) (mg := mg) (base := base) (T := fun P => P ∈ (tfL.map (He.cT K)).map (·.2)) z_all z_len z_range z_sum F__law_rounds g__law_rounds (FunD.bindsN F__law_rounds fun _ _ _ _ _ _ us hl => match us, hl with | [_, _, _], _ => rfl)
  exact w_law z_len z_list z_range z_sorted z_tuple c__law_draw c__law_rounds c_rounded_table c__law_exact c_is_rounded F_law hW
end FP
open PySem PySem.W PySem.Calls PyProof.Rows
theorem cwH (hW : FP.wp_law (fun _ => False) (fun b => b = true)) : PySem.Challenge.rw_fairparts_k78_whole_rounded_tables.Holds := by
  w_on; o_law
  refine HandSHeadRun.head_any (r := OpenLaw.row PySem.Challenge.rw_fairparts_k78_whole_rounded_tables) (q := view (OpenLaw.row PySem.Challenge.rw_fairparts_k78_whole_rounded_tables).prog [10]) (H := FP.hkL) (ob := FP.obL) (M := 4000) (loose := FP.looseL) (d := HandSHeadRun.topDef (OpenLaw.row PySem.Challenge.rw_fairparts_k78_whole_rounded_tables).prog 10) (kwd := []) FP.obL_eq (by kernel_rfl) (fun s => by kernel_rfl) FP.runL (by kernel_rfl) (by kernel_rfl) (by kernel_rfl) (by rfl) (by first | assumption | decide +kernel) (by decide +kernel) ⟨rfl, rfl, rfl, rfl, rfl, by decide +kernel⟩ ?hw ?hc
  case hw => w_witness2
  case hc =>
    refine LamX.walk_ofTsE (l := PySem.Challenge.rw_fairparts_k78_whole_rounded_tables) (n := 63) (k := 13) (x := "script") (CX := fun _ => L2.CX0) rfl (by decide) (by kernel_rfl) ⟨rfl, by decide, by decide⟩ ?F (fun _ _ _ _ _ z => z)
    intro w mg fa h Y G hmg0
    obtain ⟨K, KX, c⟩ := Y
    have hmg : mg ("law" : PySem.Str) = some (.ref fa) := by
      have e : (HandSHeadRun.topDef (OpenLaw.row PySem.Challenge.rw_fairparts_k78_whole_rounded_tables).prog 10).name = ("law" : PySem.Str) := by kernel_rfl
      rw [← e]
      exact hmg0
    obtain ⟨fd, hb, hF⟩ := FP.factsL (w := w) KX G hmg c hW
    refine ⟨K, KX, fd, FP.tfL.map (He.cT K), FP.SpL K (fun P => P ∈ (FP.tfL.map (He.cT K)).map (·.2)), fun p hp => ?_, fun p hp => ?_, fun p hp => ?_, hb, fun H a ns hl _ hH hS => ⟨a, ns, rfl, hS, fun P hP => ?_, fun _ => rfl⟩, hF⟩
    · obtain ⟨q, hq, rfl⟩ := List.mem_map.mp hp
      exact c.empty q hq
    · obtain ⟨q, hq, rfl⟩ := List.mem_map.mp hp
      exact c.out q hq
    · obtain ⟨q, hq, rfl⟩ := List.mem_map.mp hp
      exact codeHd_of_K KX (c.hd q hq)
    · obtain ⟨q, hq, rfl⟩ := List.mem_map.mp hP
      exact ⟨#[], hH q hq, trivial⟩
theorem PySem.Challenge.cw_fairparts_k78_whole_rounded_tables_holds : PySem.Challenge.rw_fairparts_k78_whole_rounded_tables.Holds :=
  cwH FP.wp_ok
