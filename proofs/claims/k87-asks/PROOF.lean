import PyProof.Rows.All
import HandS.ForMost
import HandS.Conv
import HandS.TupAny
import HandS.Zip
import HandS.SortInts
import HandS.Gcd
import HandS.Wide
import HandS.Flow
import HandS.Head0
import HandS.Head1
import HandS.Head2
import HandS.HeadEnd
import HandS.HeadHook1
import HandS.HeadHook2
import HandS.HeadHook3
import HandS.HeadHook4
import HandS.HeadWalk
import HandS.AnyAll
import HandS.GenList
import KE.GoesEnum
import KE.GoesMore
import KE.GoesZip
import HandS.IsInst
import KE.SortUse
import KE.DatumOrd
import KE.DataCmp
import HandS.SetFor
import HandS.Strs
import HandS.Iter
import HandS.RevRange
import HandS.Style
import HandS.Head3
import PySem.Challenge.RW_fairparts_k87_whole_costs_of_asks
set_option Elab.async false
set_option linter.all false
set_option maxRecDepth 100000
set_option maxHeartbeats 4000000
namespace FP
open PySem PySem.Spec PyProof.Rows L2

/-! ### data and what bears it -/
abbrev D := PyData
mutual
inductive Den (K : PySem.W.Frag) (S : Hp) : D → V → Prop
  | non : Den K S .none .non
  | bl (b : Bool) : Den K S (.bool b) (.bl b)
  | int (i : Int) : Den K S (.int i) (.int i)
  | str (x : Str) : Den K S (.str x) (.str x)
  | lst {a : Addr} {vs : List V} {ds : List D} : S a = some (.lst vs) → Dens K S ds vs → Den K S (.list ds) (.ref a)
  | tup {a : Addr} {vs : List V} {ds : List D} : SqT K S a vs → Dens K S ds vs → Den K S (.tuple ds) (.ref a)
inductive Dens (K : PySem.W.Frag) (S : Hp) : List D → List V → Prop
  | nil : Dens K S [] []
  | cons {d : D} {v : V} {ds : List D} {vs : List V} : Den K S d v → Dens K S ds vs → Dens K S (d :: ds) (v :: vs)
end
abbrev Sub (S S' : Hp) : Prop := ∀ a o, S a = some o → S' a = some o
section
variable {K : PySem.W.Frag} {S S' : Hp}
theorem sub_rd (h : Sub S S') {a : Addr} {u : HO} (r : Rd S a u) : Rd S' a u := by
  rcases r with r | ⟨o, r⟩
  · exact .inl (h a _ r)
  · exact .inr ⟨o, h a _ r⟩
theorem sub_sqt (h : Sub S S') {a : Addr} {xs : List V} (r : SqT K S a xs) : SqT K S' a xs := by
  rcases r with r | r
  · exact .inl (sub_rd h r)
  · exact .inr r
theorem sub_sql (h : Sub S S') {a : Addr} {xs : List V} (r : SqL K S a xs) : SqL K S' a xs := by
  rcases r with r | r
  · exact .inl (sub_rd h r)
  · exact .inr r
mutual
theorem Den.mono (h : Sub S S') : ∀ (d : D) (v : V), Den K S d v → Den K S' d v
  | .none, _, x => by cases x; exact .non
  | .bool b, _, x => by cases x; exact .bl b
  | .int i, _, x => by cases x; exact .int i
  | .str s, _, x => by cases x; exact .str s
  | .list ds, _, x => by
    cases x with
    | lst e r => exact .lst (h _ _ e) (Dens.mono h ds _ r)
  | .tuple ds, _, x => by
    cases x with
    | tup e r => exact .tup (sub_sqt h e) (Dens.mono h ds _ r)
  | .dict _, _, x => by cases x
theorem Dens.mono (h : Sub S S') : ∀ (ds : List D) (vs : List V), Dens K S ds vs → Dens K S' ds vs
  | [], _, x => by cases x; exact .nil
  | d :: ds, _, x => by
    cases x with
    | cons a r => exact .cons (Den.mono h d _ a) (Dens.mono h ds _ r)
end
theorem Den.mon {d : D} {v : V} (x : Den K S d v) (h : Sub S S') : Den K S' d v := Den.mono h d v x
theorem Dens.mon {ds : List D} {vs : List V} (x : Dens K S ds vs) (h : Sub S S') : Dens K S' ds vs := Dens.mono h ds vs x
theorem Dens.length : ∀ {ds : List D} {vs : List V}, Dens K S ds vs → ds.length = vs.length
  | _, _, .nil => rfl
  | _, _, .cons _ r => by simp [r.length]
theorem Dens.get : ∀ {ds : List D} {vs : List V} {i : Nat} {d : D}, Dens K S ds vs → ds[i]? = some d → ∃ v, vs[i]? = some v ∧ Den K S d v
  | _, _, _, _, .nil, e => by simp at e
  | _, _, 0, d, .cons r _, e => by simp at e; subst e; exact ⟨_, rfl, r⟩
  | _, _, i + 1, d, .cons _ t, e => by
    obtain ⟨v, h1, h2⟩ := Dens.get (i := i) (d := d) t (by simpa using e)
    exact ⟨v, by simpa using h1, h2⟩
theorem Dens.getV : ∀ {ds : List D} {vs : List V} {i : Nat} {v : V}, Dens K S ds vs → vs[i]? = some v → ∃ d, ds[i]? = some d ∧ Den K S d v
  | _, _, _, _, .nil, e => by simp at e
  | _, _, 0, d, .cons r _, e => by simp at e; subst e; exact ⟨_, rfl, r⟩
  | _, _, i + 1, d, .cons _ t, e => by
    obtain ⟨v, h1, h2⟩ := Dens.getV (i := i) (v := d) t (by simpa using e)
    exact ⟨v, by simpa using h1, h2⟩
theorem Dens.set {d : D} {v : V} (h : Den K S d v) : ∀ {ds : List D} {vs : List V} (i : Nat), Dens K S ds vs → Dens K S (ds.set i d) (vs.set i v)
  | _, _, _, .nil => .nil
  | _, _, 0, .cons _ t => .cons h t
  | _, _, i + 1, .cons q t => .cons q (Dens.set h i t)
theorem Dens.append : ∀ {ds es : List D} {vs us : List V}, Dens K S ds vs → Dens K S es us → Dens K S (ds ++ es) (vs ++ us)
  | _, _, _, _, .nil, s => s
  | _, _, _, _, .cons r t, s => .cons r (Dens.append t s)
theorem Dens.take : ∀ {ds : List D} {vs : List V} (n : Nat), Dens K S ds vs → Dens K S (ds.take n) (vs.take n)
  | _, _, 0, _ => .nil
  | _, _, _ + 1, .nil => .nil
  | _, _, n + 1, .cons r t => .cons r (Dens.take n t)
theorem Dens.drop : ∀ {ds : List D} {vs : List V} (n : Nat), Dens K S ds vs → Dens K S (ds.drop n) (vs.drop n)
  | _, _, 0, r => r
  | _, _, _ + 1, .nil => .nil
  | _, _, n + 1, .cons _ t => Dens.drop n t
theorem Dens.rev : ∀ {ds : List D} {vs : List V}, Dens K S ds vs → Dens K S ds.reverse vs.reverse
  | _, _, .nil => .nil
  | _, _, .cons r t => by rw [List.reverse_cons, List.reverse_cons]; exact Dens.append (Dens.rev t) (.cons r .nil)
theorem Dens.rep {ds : List D} {vs : List V} (r : Dens K S ds vs) : ∀ n : Nat, Dens K S (List.replicate n ds).flatten (List.replicate n vs).flatten
  | 0 => .nil
  | n + 1 => by rw [List.replicate_succ, List.replicate_succ, List.flatten_cons, List.flatten_cons]; exact r.append (r.rep n)
theorem Dens.erase : ∀ {ds : List D} {vs : List V} (i : Nat), Dens K S ds vs → Dens K S (ds.eraseIdx i) (vs.eraseIdx i)
  | _, _, _, .nil => .nil
  | _, _, 0, .cons _ t => t
  | _, _, i + 1, .cons q t => .cons q (Dens.erase i t)
theorem Dens.dropLast {ds : List D} {vs : List V} (r : Dens K S ds vs) : Dens K S ds.dropLast vs.dropLast := by
  rw [List.dropLast_eq_take, List.dropLast_eq_take, r.length]
  exact r.take _
/-- ints -/
theorem Dens.ints : ∀ {is : List Int} {vs : List V}, Dens K S (is.map .int) vs → vs = is.map .int
  | [], _, x => by cases x; rfl
  | i :: is, _, x => by
    cases x with
    | cons a r => cases a; rw [Dens.ints r]; rfl
theorem Dens.ofInts : ∀ (is : List Int), Dens K S (is.map .int) (is.map .int)
  | [] => .nil
  | i :: is => .cons (.int i) (Dens.ofInts is)
theorem Dens.bools : ∀ {is : List Bool} {vs : List V}, Dens K S (is.map .bool) vs → vs = is.map .bl
  | [], _, x => by cases x; rfl
  | i :: is, _, x => by
    cases x with
    | cons a r => cases a; rw [Dens.bools r]; rfl
theorem Dens.strs : ∀ {is : List Str} {vs : List V}, Dens K S (is.map .str) vs → vs = is.map .str
  | [], _, x => by cases x; rfl
  | i :: is, _, x => by
    cases x with
    | cons a r => cases a; rw [Dens.strs r]; rfl
theorem Dens.ofStrs : ∀ (is : List Str), Dens K S (is.map .str) (is.map .str)
  | [] => .nil
  | i :: is => .cons (.str i) (Dens.ofStrs is)
mutual
theorem Den.dp : ∀ (d : D) (v : V), Den K S d v → Dp K S v d
  | .none, _, x => by cases x; exact .non
  | .bool b, _, x => by cases x; exact .bl b
  | .int i, _, x => by cases x; exact .int i
  | .str s, _, x => by cases x; exact .str s
  | .list ds, _, x => by
    cases x with
    | lst e r => exact .lst (.inl (.inl e)) (Dens.dp ds _ r)
  | .tuple ds, _, x => by
    cases x with
    | tup e r => exact .tup e (Dens.dp ds _ r)
  | .dict _, _, x => by cases x
theorem Dens.dp : ∀ (ds : List D) (vs : List V), Dens K S ds vs → DpAll K S vs ds
  | [], _, x => by cases x; exact .nil
  | d :: ds, _, x => by
    cases x with
    | cons a r => exact .cons (Den.dp d _ a) (Dens.dp ds _ r)
end
end

/-! ### steps of the heap: S what stays for ever, H all, M what may turn (a list of two ints) -/
def Vk (o : Option HO) : Prop := ∃ i j : Int, o = some (.lst [.int i, .int j])
def NoT (o : HO) : Prop := ∀ ps, o ≠ .tbl ps
def TbG (H : Hp) (P : Addr) : Prop := ∃ ps : Array Value, H P = some (.tbl ps) ∧ TriplesOk ps.toList
/-- what may turn; the tables that stand -/
structure Mm where
  v : Addr → Prop
  t : Addr → Prop
instance : CoeFun Mm (fun _ => Addr → Prop) := ⟨Mm.v⟩
abbrev noM (T : Addr → Prop) : Mm := ⟨fun _ => False, T⟩
structure Step (M : Mm) (S H S' H' : Hp) : Prop where
  ss : Sub S S'
  sh : Sub S' H'
  ext : ∀ a o, H a = some o → ¬ M a → NoT o → H' a = some o
  tb : ∀ a ps, H a = some (.tbl ps) → TriplesOk ps.toList → ∃ qs : Array Value, H' a = some (.tbl qs) ∧ TriplesOk qs.toList
  cap : ∀ a, S a = none → H a ≠ none → S' a = none
  vk : ∀ a, M a → Vk (H a) → Vk (H' a)
  keep : ∀ a, H a ≠ none → H' a ≠ none
structure Gd (M : Mm) (S H : Hp) : Prop where
  sub : Sub S H
  vol : ∀ a, M a → H a ≠ none ∧ S a = none
  tab : ∀ p, M.t p → TbG H p ∧ S p = none
section
variable {M : Mm} {S H S' H' S2 H2 : Hp}
theorem Step.refl (g : Sub S H) : Step M S H S H :=
  ⟨fun _ _ e => e, g, fun _ _ e _ _ => e, fun _ ps e t => ⟨ps, e, t⟩, fun _ e _ => e, fun _ _ v => v, fun _ e => e⟩
theorem Step.trans (a : Step M S H S' H') (b : Step M S' H' S2 H2) : Step M S H S2 H2 where
  ss := fun x o e => b.ss x o (a.ss x o e)
  sh := b.sh
  ext := fun x o e m n => b.ext x o (a.ext x o e m n) m n
  tb := fun x ps e t => by
    obtain ⟨qs, e1, t1⟩ := a.tb x ps e t
    exact b.tb x qs e1 t1
  cap := fun x e n => b.cap x (a.cap x e n) (a.keep x n)
  vk := fun x m v => b.vk x m (a.vk x m v)
  keep := fun x n => b.keep x (a.keep x n)
theorem Gd.step (g : Gd M S H) (t : Step M S H S' H') : Gd M S' H' :=
  ⟨t.sh, fun a m => ⟨t.keep a (g.vol a m).1, t.cap a (g.vol a m).2 (g.vol a m).1⟩, fun p m => by
    obtain ⟨⟨ps, e, ok⟩, n⟩ := g.tab p m
    exact ⟨t.tb p ps e ok, t.cap p n (by rw [e]; exact fun z => nomatch z)⟩⟩
theorem Gd.fresh (g : Gd M S H) {p : Addr} (h : H p = none) : S p = none := by
  cases e : S p with
  | none => rfl
  | some o => rw [g.sub p o e] at h; cases h
theorem Gd.notM (g : Gd M S H) {p : Addr} (h : H p = none) : ¬ M p := fun m => (g.vol p m).1 h
/-- a new object, not (yet) of what stays -/
theorem Step.new (g : Gd M S H) {p : Addr} (o : HO) (h : H p = none) : Step M S H S (upd H p o) where
  ss := fun _ _ e => e
  sh := fun a u e => by rw [upd_ne (ne_of_none (g.sub a u e) h)]; exact g.sub a u e
  ext := fun a u e _ _ => by rw [upd_ne (ne_of_none e h)]; exact e
  tb := fun a ps e t => ⟨ps, by rw [upd_ne (ne_of_none e h)]; exact e, t⟩
  cap := fun _ e _ => e
  vk := fun a m v => by
    have n : a ≠ p := fun z => by subst z; exact g.notM h m
    rw [upd_ne n]; exact v
  keep := fun a n => by
    by_cases z : a = p
    · subst z; rw [upd_same]; exact fun q => nomatch q
    · rw [upd_ne z]; exact n
/-- what is new becomes what stays -/
theorem Step.hold {p : Addr} {o : HO} (g : Sub S H) (h : H p = some o) (hn : S p = none) : Sub S (upd S p o) ∧ Sub (upd S p o) H := by
  refine ⟨fun a u e => by rw [upd_ne (ne_of_none e hn)]; exact e, fun a u e => ?_⟩
  by_cases z : a = p
  · subst z; rw [upd_same] at e; cases e; exact h
  · rw [upd_ne z] at e; exact g a u e
theorem Step.hold' (t : Step M S H S' H') {p : Addr} {o : HO} (h : H' p = some o) (hn : S' p = none) (h0 : H p = none) : Step M S H (upd S' p o) H' where
  ss := fun a u e => (Step.hold t.sh h hn).1 a u (t.ss a u e)
  sh := (Step.hold t.sh h hn).2
  ext := t.ext
  tb := t.tb
  cap := fun a e n => by
    have z : a ≠ p := fun z => by subst z; exact n h0
    rw [upd_ne z]; exact t.cap a e n
  vk := t.vk
  keep := t.keep
theorem Step.newS (g : Gd M S H) {p : Addr} (o : HO) (h : H p = none) : Step M S H (upd S p o) (upd H p o) :=
  (Step.new g o h).hold' upd_same (g.fresh h) h
/-- a smaller set of what may turn -/
theorem Step.more {M' : Mm} (t : Step M S H S' H') (h : ∀ a, M a → M' a) (hv : ∀ a, M' a → ¬ M a → Vk (H a) → False) : Step M' S H S' H' where
  ss := t.ss
  sh := t.sh
  ext := fun a o e m n => t.ext a o e (fun z => m (h a z)) n
  tb := t.tb
  cap := t.cap
  vk := fun a m v => by
    by_cases z : M a
    · exact t.vk a z v
    · exact (hv a m z v).elim
  keep := t.keep
/-- a call's step, nothing of M turned by it -/
theorem Step.none {T : Addr → Prop} (t : Step (noM T) S H S' H') : Step M S H S' H' where
  ss := t.ss
  sh := t.sh
  ext := fun a o e _ n => t.ext a o e (fun z => z) n
  tb := t.tb
  cap := t.cap
  vk := fun a _ ⟨i, j, e⟩ => ⟨i, j, t.ext a _ e (fun z => z) (fun _ q => nomatch q)⟩
  keep := t.keep
end

theorem lst_noT {vs : List V} : NoT (.lst vs) := fun _ q => nomatch q
theorem Step.sql {M : Mm} {K : PySem.W.Frag} {S H S' H' : Hp} (t : Step M S H S' H') {a : Addr} {vs : List V} (h : SqL K H a vs) (m : ¬ M a) : SqL K H' a vs := by
  rcases h with (h | ⟨o, h⟩) | h
  · exact .inl (.inl (t.ext a _ h m lst_noT))
  · exact .inl (.inr ⟨o, t.ext a _ h m (fun _ q => nomatch q)⟩)
  · exact .inr h
/-- a table has grown -/
theorem Step.tabd {M : Mm} {S H H2 : Hp} (g : Gd M S H) {P : Addr} (hT : M.t P) (h1 : TbG H2 P) (h2 : ∀ b, b ≠ P → H2 b = H b) : Step M S H S H2 where
  ss := fun _ _ e => e
  sh := fun a o e => by
    have z : a ≠ P := ne_of_none e (g.tab P hT).2
    rw [h2 a z]; exact g.sub a o e
  ext := fun a o e _ n => by
    obtain ⟨ps, q, _⟩ := (g.tab P hT).1
    have z : a ≠ P := fun z => by subst z; rw [q] at e; cases e; exact n ps rfl
    rw [h2 a z]; exact e
  tb := fun a ps e t => by
    by_cases z : a = P
    · subst z; exact h1
    · exact ⟨ps, by rw [h2 a z]; exact e, t⟩
  cap := fun _ e _ => e
  vk := fun a m v => by
    obtain ⟨ps, q, _⟩ := (g.tab P hT).1
    obtain ⟨i, j, e⟩ := v
    have z : a ≠ P := fun z => by subst z; rw [q] at e; cases e
    exact ⟨i, j, by rw [h2 a z]; exact e⟩
  keep := fun a n => by
    by_cases z : a = P
    · subst z
      obtain ⟨ps, q, _⟩ := h1
      rw [q]; exact fun z => nomatch z
    · rw [h2 a z]; exact n
/-- the script -/
def ScOk (K : PySem.W.Frag) (M : Mm) (H : Hp) (a : Addr) (is : List Int) : Prop := (Rd H a (.lst (is.map V.int)) ∧ ¬ M a) ∨ ∀ H' : Hp, SqL K H' a (is.map V.int)
theorem ScOk.sql {K : PySem.W.Frag} {M : Mm} {H : Hp} {a : Addr} {is : List Int} (x : ScOk K M H a is) : SqL K H a (is.map V.int) := by
  rcases x with ⟨r, _⟩ | x
  · exact .inl r
  · exact x H
theorem ScOk.step {K : PySem.W.Frag} {M : Mm} {S H S' H' : Hp} {a : Addr} {is : List Int} (x : ScOk K M H a is) (t : Step M S H S' H') : ScOk K M H' a is := by
  rcases x with ⟨r, m⟩ | x
  · refine .inl ⟨?_, m⟩
    rcases r with r | ⟨o, r⟩
    · exact .inl (t.ext a _ r m lst_noT)
    · exact .inr ⟨o, t.ext a _ r m (fun _ q => nomatch q)⟩
  · exact .inr x
/-! ### the slots -/
inductive Sl where
  /-- not known -/
  | un
  /-- what stays -/
  | im (d : D)
  /-- a list of one's own -/
  | ow (ds : List D)
  /-- a caller's list, to be read -/
  | br (ds : List D)
  /-- a list of one's own with lists of one's own -/
  | oo (dss : List (List D))
  /-- the list of two ints that turns -/
  | st
  /-- the law's script, to be read -/
  | sc (is : List Int)

def Owns (K : PySem.W.Frag) (S H : Hp) : List (List D) → List Addr → Prop
  | [], [] => True
  | ds :: dss, a :: as => (∃ vs, H a = some (.lst vs) ∧ Dens K S ds vs) ∧ Owns K S H dss as
  | _, _ => False
def SlOk (K : PySem.W.Frag) (M : Mm) (S H0 H : Hp) (O : List Addr) : Sl → Option (Option V) → Prop
  | .un, _ => True
  | .im d, x => ∃ v, x = some (some v) ∧ Den K S d v
  | .ow ds, x => ∃ a vs, O = [a] ∧ x = some (some (.ref a)) ∧ H a = some (.lst vs) ∧ Dens K S ds vs
  | .br ds, x => ∃ a vs, x = some (some (.ref a)) ∧ H0 a = some (.lst vs) ∧ ¬ M a ∧ Dens K S ds vs
  | .oo dss, x => ∃ a as, O = a :: as ∧ (a :: as).Nodup ∧ x = some (some (.ref a)) ∧ H a = some (.lst (as.map V.ref)) ∧ Owns K S H dss as
  | .st, x => ∃ a, x = some (some (.ref a)) ∧ M a ∧ Vk (H a)
  | .sc is, x => ∃ a, x = some (some (.ref a)) ∧ ScOk K M H0 a is
structure St0 (K : PySem.W.Frag) (M : Mm) (S0 H0 S H : Hp) (env : List Sl) (σ : L2.St) : Prop where
  len : env.length = σ.length
  stp : Step M S0 H0 S H
  gd : Gd M S H
  own : ∃ O : Nat → List Addr, (∀ i j a, a ∈ O i → a ∈ O j → i = j) ∧ (∀ i a, a ∈ O i → ¬ M a ∧ H0 a = none ∧ S a = none ∧ H a ≠ none) ∧ ∀ i s, env[i]? = some s → SlOk K M S H0 H (O i) s (σ[i]?)
section
variable {K : PySem.W.Frag} {M : Mm} {S0 H0 S H S' H' : Hp} {env : List Sl} {σ : L2.St}
theorem Owns.step (t : Step M S H S' H') : ∀ {dss : List (List D)} {as : List Addr}, (∀ a ∈ as, ¬ M a) → Owns K S H dss as → Owns K S' H' dss as
  | [], [], _, _ => trivial
  | ds :: dss, a :: as, m, ⟨⟨vs, e, r⟩, h⟩ =>
    ⟨⟨vs, t.ext a _ e (m a List.mem_cons_self) lst_noT, r.mon t.ss⟩, Owns.step t (fun b hb => m b (List.mem_cons_of_mem _ hb)) h⟩
  | [], _ :: _, _, h => h.elim
  | _ :: _, [], _, h => h.elim
theorem Owns.mon {S1 : Hp} (hs : Sub S S1) : ∀ {dss : List (List D)} {as : List Addr}, Owns K S H dss as → Owns K S1 H dss as
  | [], [], _ => trivial
  | ds :: dss, a :: as, ⟨⟨vs, e, r⟩, h⟩ => ⟨⟨vs, e, r.mon hs⟩, Owns.mon hs h⟩
  | [], _ :: _, h => h.elim
  | _ :: _, [], h => h.elim
theorem Owns.upd {p : Addr} {o : HO} : ∀ {dss : List (List D)} {as : List Addr}, (∀ a ∈ as, a ≠ p) → Owns K S H dss as → Owns K S (upd H p o) dss as
  | [], [], _, _ => trivial
  | ds :: dss, a :: as, m, ⟨⟨vs, e, r⟩, h⟩ => ⟨⟨vs, by rw [upd_ne (m a List.mem_cons_self)]; exact e, r⟩, Owns.upd (fun b hb => m b (List.mem_cons_of_mem _ hb)) h⟩
  | [], _ :: _, _, h => h.elim
  | _ :: _, [], _, h => h.elim
theorem SlOk.step {O : List Addr} {s : Sl} {x : Option (Option V)} (h : SlOk K M S H0 H O s x) (t : Step M S H S' H') (ho : ∀ a ∈ O, ¬ M a) : SlOk K M S' H0 H' O s x := by
  cases s with
  | un => trivial
  | im d => obtain ⟨v, e, r⟩ := h; exact ⟨v, e, r.mon t.ss⟩
  | ow ds =>
    obtain ⟨a, vs, e, e1, e2, r⟩ := h
    exact ⟨a, vs, e, e1, t.ext a _ e2 (ho a (by rw [e]; exact List.mem_cons_self)) lst_noT, r.mon t.ss⟩
  | br ds => obtain ⟨a, vs, e, e1, e2, r⟩ := h; exact ⟨a, vs, e, e1, e2, r.mon t.ss⟩
  | oo dss =>
    obtain ⟨a, as, e, nd, e1, e2, r⟩ := h
    exact ⟨a, as, e, nd, e1, t.ext a _ e2 (ho a (by rw [e]; exact List.mem_cons_self)) lst_noT, r.step t fun b hb => ho b (by rw [e]; exact List.mem_cons_of_mem _ hb)⟩
  | st => obtain ⟨a, e, m, v⟩ := h; exact ⟨a, e, m, t.vk a m v⟩
  | sc is => exact h
theorem St0.step (h : St0 K M S0 H0 S H env σ) (t : Step M S H S' H') : St0 K M S0 H0 S' H' env σ := by
  obtain ⟨len, stp, gd, O, inj, out, sl⟩ := h
  exact ⟨len, stp.trans t, gd.step t, O, inj, fun i a m => ⟨(out i a m).1, (out i a m).2.1, t.cap a (out i a m).2.2.1 (out i a m).2.2.2, t.keep a (out i a m).2.2.2⟩,
    fun i s e => (sl i s e).step t fun a m => (out i a m).1⟩
theorem get_set {α : Type} {l : List α} {i j : Nat} {x y : α} (h : (l.set i x)[j]? = some y) : (j = i ∧ y = x) ∨ (j ≠ i ∧ l[j]? = some y) := by
  by_cases e : j = i
  · subst e
    have hl : j < l.length := by
      have := (List.getElem?_eq_some_iff.mp h).1
      simpa using this
    rw [List.getElem?_set_self hl] at h
    exact .inl ⟨rfl, (Option.some.inj h).symm⟩
  · rw [List.getElem?_set_ne (Ne.symm e)] at h
    exact .inr ⟨e, h⟩
/-- a slot is stored: its new footprint N -/
theorem St0.put (h : St0 K M S0 H0 S H env σ) (i : Nat) (N : List Addr) (s : Sl) (v : Option V) (hN : ∀ a ∈ N, (¬ M a ∧ H0 a = none ∧ S a = none ∧ H a ≠ none))
    (hO : ∀ O : Nat → List Addr, (∀ i a, a ∈ O i → ¬ M a ∧ H0 a = none ∧ S a = none ∧ H a ≠ none) → (∀ i s, env[i]? = some s → SlOk K M S H0 H (O i) s (σ[i]?)) → ∀ j a, a ∈ O j → a ∈ N → j = i) (hs : i < σ.length → SlOk K M S H0 H N s (some v)) : St0 K M S0 H0 S H (env.set i s) (σ.set i v) := by
  obtain ⟨len, stp, gd, O, inj, out, sl⟩ := h
  have dis := hO O out sl
  refine ⟨by simp [len], stp, gd, fun j => if j = i then N else O j, fun a b x ha hb => ?_, fun j a ha => ?_, fun j u hj => ?_⟩
  · by_cases e1 : a = i <;> by_cases e2 : b = i
    · rw [e1, e2]
    · simp only [e1, e2, if_true, if_false] at ha hb
      exact absurd (dis b x hb ha) e2
    · simp only [e1, e2, if_true, if_false] at ha hb
      exact absurd (dis a x ha hb) e1
    · simp only [e1, e2, if_false] at ha hb
      exact inj a b x ha hb
  · by_cases e1 : j = i
    · simp only [e1, if_true] at ha; exact hN a ha
    · simp only [e1, if_false] at ha; exact out j a ha
  · rcases get_set hj with ⟨e, e2⟩ | ⟨e, e2⟩
    · subst e; subst e2
      have hl : j < σ.length := by
        have := (List.getElem?_eq_some_iff.mp hj).1
        simpa [len] using this
      rw [List.getElem?_set_self hl]
      simp only [if_true]
      exact hs hl
    · rw [List.getElem?_set_ne (Ne.symm e)]
      simp only [e, if_false]
      exact sl j u e2
theorem St0.putIm (h : St0 K M S0 H0 S H env σ) (i : Nat) {d : D} {v : V} (r : Den K S d v) : St0 K M S0 H0 S H (env.set i (.im d)) (σ.set i (some v)) :=
  h.put i [] (.im d) (some v) (fun _ z => nomatch z) (fun _ _ _ _ _ _ z => nomatch z) fun _ => ⟨v, rfl, r⟩
theorem St0.putUn (h : St0 K M S0 H0 S H env σ) (i : Nat) (v : Option V) : St0 K M S0 H0 S H (env.set i .un) (σ.set i v) :=
  h.put i [] .un v (fun _ z => nomatch z) (fun _ _ _ _ _ _ z => nomatch z) fun _ => trivial
/-- a new list becomes a slot's own -/
theorem St0.putOw (h : St0 K M S0 H0 S H env σ) (t : Step M S H S' H') (i : Nat) {p : Addr} {vs : List V} {ds : List D} (hp : H p = none) (hs : S' p = none) (e : H' p = some (.lst vs)) (r : Dens K S' ds vs) :
    St0 K M S0 H0 S' H' (env.set i (.ow ds)) (σ.set i (some (.ref p))) := by
  have h0 : H0 p = none := by
    cases q : H0 p with
    | none => rfl
    | some o => exact absurd hp (h.stp.keep p (by rw [q]; exact fun z => nomatch z))
  obtain ⟨len, stp, gd, O, inj, out, sl⟩ := h
  have h' : St0 K M S0 H0 S' H' env σ := St0.step ⟨len, stp, gd, O, inj, out, sl⟩ t
  -- the footprints of before: not p
  obtain ⟨_, stp', gd', _⟩ := h'
  refine ⟨by simp [len], stp', gd', fun j => if j = i then [p] else O j, fun a b x ha hb => ?_, fun j a ha => ?_, fun j u hj => ?_⟩
  · have nop : ∀ j, p ∉ O j := fun j z => (out j p z).2.2.2 hp
    by_cases e1 : a = i <;> by_cases e2 : b = i
    · rw [e1, e2]
    · simp only [e1, e2, if_true, if_false, List.mem_singleton] at ha hb
      subst ha
      exact absurd hb (nop b)
    · simp only [e1, e2, if_true, if_false, List.mem_singleton] at ha hb
      subst hb
      exact absurd ha (nop a)
    · simp only [e1, e2, if_false] at ha hb
      exact inj a b x ha hb
  · by_cases e1 : j = i
    · simp only [e1, if_true, List.mem_singleton] at ha
      subst ha
      exact ⟨gd.notM hp, h0, hs, by rw [e]; exact fun z => nomatch z⟩
    · simp only [e1, if_false] at ha
      exact ⟨(out j a ha).1, (out j a ha).2.1, t.cap a (out j a ha).2.2.1 (out j a ha).2.2.2, t.keep a (out j a ha).2.2.2⟩
  · rcases get_set hj with ⟨e1, e2⟩ | ⟨e1, e2⟩
    · subst e1; subst e2
      have hl : j < σ.length := by
        have := (List.getElem?_eq_some_iff.mp hj).1
        simpa [len] using this
      rw [List.getElem?_set_self hl]
      simp only [if_true]
      exact ⟨p, vs, rfl, rfl, e, r⟩
    · rw [List.getElem?_set_ne (Ne.symm e1)]
      simp only [e1, if_false]
      exact (sl j u e2).step t fun a m => (out j a m).1
/-- a slot's own list is changed -/
theorem St0.mut (h : St0 K M S0 H0 S H env σ) {i : Nat} {ds : List D} (hi : env[i]? = some (.ow ds)) :
    ∃ a vs, σ[i]? = some (some (.ref a)) ∧ H a = some (.lst vs) ∧ Dens K S ds vs ∧ ¬ M a ∧ S a = none ∧ ∀ vs' ds', Dens K S ds' vs' → St0 K M S0 H0 S (upd H a (.lst vs')) (env.set i (.ow ds')) σ := by
  obtain ⟨len, stp, gd, O, inj, out, sl⟩ := h
  obtain ⟨a, vs, eO, e1, e2, r⟩ := sl i _ hi
  have oa := out i a (by rw [eO]; exact List.mem_cons_self)
  have nS : ∀ b o, S b = some o → b ≠ a := fun b o e => ne_of_none e oa.2.2.1
  refine ⟨a, vs, e1, e2, r, oa.1, oa.2.2.1, fun vs' ds' r' => ⟨by simp [len], ⟨stp.ss, fun b o e => ?_, fun b o e m n => ?_, fun b ps e t => ?_, stp.cap, fun b m v => ?_, fun b n => ?_⟩, ⟨fun b o e => ?_, fun b m => ?_, fun p m => ?_⟩, O, inj, fun j b hb => ?_, fun j u hj => ?_⟩⟩
  · rw [upd_ne (nS b o e)]; exact stp.sh b o e
  · rw [upd_ne (ne_of_none e oa.2.1)]; exact stp.ext b o e m n
  · obtain ⟨qs, q1, q2⟩ := stp.tb b ps e t
    exact ⟨qs, by rw [upd_ne (ne_of_none e oa.2.1)]; exact q1, q2⟩
  · have : b ≠ a := fun z => by subst z; exact oa.1 m
    rw [upd_ne this]; exact stp.vk b m v
  · by_cases z : b = a
    · subst z; rw [upd_same]; exact fun q => nomatch q
    · rw [upd_ne z]; exact stp.keep b n
  · rw [upd_ne (nS b o e)]; exact gd.sub b o e
  · have : b ≠ a := fun z => by subst z; exact oa.1 m
    rw [upd_ne this]; exact gd.vol b m
  · obtain ⟨⟨ps, e, ok⟩, n⟩ := gd.tab p m
    exact ⟨⟨ps, by rw [upd_ne (ne_of e e2 (fun z => nomatch z))]; exact e, ok⟩, n⟩
  · obtain ⟨o1, o2, o3, o4⟩ := out j b hb
    refine ⟨o1, o2, o3, ?_⟩
    by_cases z : b = a
    · subst z; rw [upd_same]; exact fun q => nomatch q
    · rw [upd_ne z]; exact o4
  · rcases get_set hj with ⟨e, e'⟩ | ⟨e, e'⟩
    · subst e; subst e'
      exact ⟨a, vs', eO, e1, upd_same, r'⟩
    · have na : ∀ b ∈ O j, b ≠ a := fun b hb z => by
        subst z
        exact e (inj j i b hb (by rw [eO]; exact List.mem_cons_self))
      have q := sl j u e'
      cases u with
      | un => trivial
      | im d => exact q
      | ow es =>
        obtain ⟨b, us, f1, f2, f3, f4⟩ := q
        exact ⟨b, us, f1, f2, by rw [upd_ne (na b (by rw [f1]; exact List.mem_cons_self))]; exact f3, f4⟩
      | br es => exact q
      | oo dss =>
        obtain ⟨b, bs, f1, f2, f3, f4, f5⟩ := q
        exact ⟨b, bs, f1, f2, f3, by rw [upd_ne (na b (by rw [f1]; exact List.mem_cons_self))]; exact f4, f5.upd fun c hc => na c (by rw [f1]; exact List.mem_cons_of_mem _ hc)⟩
      | st =>
        obtain ⟨b, f1, f2, f3⟩ := q
        have : b ≠ a := fun z => by subst z; exact oa.1 f2
        exact ⟨b, f1, f2, by rw [upd_ne this]; exact f3⟩
      | sc is => exact q
/-- a slot's own list becomes what stays -/
theorem St0.frz (h : St0 K M S0 H0 S H env σ) {i : Nat} {ds : List D} (hi : env[i]? = some (.ow ds)) :
    ∃ a vs, σ[i]? = some (some (.ref a)) ∧ H a = some (.lst vs) ∧ S a = none ∧ H0 a = none ∧ Dens K S ds vs ∧ Sub S (upd S a (.lst vs)) ∧ St0 K M S0 H0 (upd S a (.lst vs)) H (env.set i (.im (.list ds))) σ := by
  obtain ⟨len, stp, gd, O, inj, out, sl⟩ := h
  obtain ⟨a, vs, eO, e1, e2, r⟩ := sl i _ hi
  have oa := out i a (by rw [eO]; exact List.mem_cons_self)
  have hd := Step.hold gd.sub e2 oa.2.2.1
  refine ⟨a, vs, e1, e2, oa.2.2.1, oa.2.1, r, hd.1, by simp [len], stp.hold' e2 oa.2.2.1 oa.2.1, ⟨hd.2, fun b m => ⟨(gd.vol b m).1, ?_⟩, fun p m => ⟨(gd.tab p m).1, by
    obtain ⟨⟨ps, e, ok⟩, n⟩ := gd.tab p m
    rw [upd_ne (ne_of e e2 (fun z => nomatch z))]; exact n⟩⟩, fun j => if j = i then [] else O j, fun x y b hx hy => ?_, fun j b hb => ?_, fun j u hj => ?_⟩
  · have : b ≠ a := fun z => by subst z; exact oa.1 m
    rw [upd_ne this]; exact (gd.vol b m).2
  · by_cases z : x = i
    · simp [z] at hx
    · by_cases z' : y = i
      · simp [z'] at hy
      · simp only [z, z', if_false] at hx hy
        exact inj x y b hx hy
  · by_cases z : j = i
    · simp [z] at hb
    · simp only [z, if_false] at hb
      obtain ⟨o1, o2, o3, o4⟩ := out j b hb
      refine ⟨o1, o2, ?_, o4⟩
      have : b ≠ a := fun z' => by
        subst z'
        exact z (inj j i b hb (by rw [eO]; exact List.mem_cons_self))
      rw [upd_ne this]; exact o3
  · have up : ∀ {O' : List Addr} {u : Sl} {x : Option (Option V)}, SlOk K M S H0 H O' u x → SlOk K M (upd S a (.lst vs)) H0 H O' u x := fun {O' u x} q => by
      cases u with
      | un => trivial
      | im d => obtain ⟨v, q1, q2⟩ := q; exact ⟨v, q1, q2.mon hd.1⟩
      | ow es => obtain ⟨b, us, f1, f2, f3, f4⟩ := q; exact ⟨b, us, f1, f2, f3, f4.mon hd.1⟩
      | br es => obtain ⟨b, us, f1, f2, f3, f4⟩ := q; exact ⟨b, us, f1, f2, f3, f4.mon hd.1⟩
      | oo dss =>
        obtain ⟨b, bs, f1, f2, f3, f4, f5⟩ := q
        exact ⟨b, bs, f1, f2, f3, f4, f5.mon hd.1⟩
      | st => exact q
      | sc is => exact q
    rcases get_set hj with ⟨e, e'⟩ | ⟨e, e'⟩
    · subst e; subst e'
      exact ⟨_, e1, .lst upd_same (r.mon hd.1)⟩
    · simp only [e, if_false]
      exact up (sl j u e')
/-- forgetting a slot -/
theorem St0.drp (h : St0 K M S0 H0 S H env σ) (i : Nat) : St0 K M S0 H0 S H (env.set i .un) σ := by
  obtain ⟨len, stp, gd, O, inj, out, sl⟩ := h
  refine ⟨by simp [len], stp, gd, O, inj, out, fun j u hj => ?_⟩
  rcases get_set hj with ⟨e, e'⟩ | ⟨e, e'⟩
  · subst e'; trivial
  · exact sl j u e'
end
end FP
namespace FP
open PySem PySem.Spec PyProof.Rows L2

/-! ### readings over data -/
def Bor (K : PySem.W.Frag) (M : Mm) (S H : Hp) (d : D) (v : V) : Prop :=
  Den K S d v ∨ ∃ a ds vs, d = .list ds ∧ v = .ref a ∧ H a = some (.lst vs) ∧ ¬ M a ∧ Dens K S ds vs
inductive Bors (K : PySem.W.Frag) (M : Mm) (S H : Hp) : List Bool → List D → List V → Prop
  | nil : Bors K M S H [] [] []
  | im {ms : List Bool} {d : D} {v : V} {ds : List D} {vs : List V} : Den K S d v → Bors K M S H ms ds vs → Bors K M S H (true :: ms) (d :: ds) (v :: vs)
  | br {ms : List Bool} {d : D} {v : V} {ds : List D} {vs : List V} : Bor K M S H d v → Bors K M S H ms ds vs → Bors K M S H (false :: ms) (d :: ds) (v :: vs)
section
variable {K : PySem.W.Frag} {M : Mm} {S H S' H' : Hp}
theorem Bor.step {d : D} {v : V} (b : Bor K M S H d v) (t : Step M S H S' H') : Bor K M S' H' d v := by
  rcases b with b | ⟨a, ds, vs, e1, e2, e3, e4, r⟩
  · exact .inl (b.mon t.ss)
  · exact .inr ⟨a, ds, vs, e1, e2, t.ext a _ e3 e4 lst_noT, e4, r.mon t.ss⟩
theorem Bors.step (t : Step M S H S' H') : ∀ {ms : List Bool} {ds : List D} {vs : List V}, Bors K M S H ms ds vs → Bors K M S' H' ms ds vs
  | _, _, _, .nil => .nil
  | _, _, _, .im r b => .im (r.mon t.ss) (Bors.step t b)
  | _, _, _, .br r b => .br (r.step t) (Bors.step t b)
theorem Bor.int {i : Int} {v : V} (b : Bor K M S H (.int i) v) : v = .int i := by
  rcases b with b | ⟨a, ds, vs, e1, _⟩
  · cases b; rfl
  · cases e1
theorem Bor.bl {i : Bool} {v : V} (b : Bor K M S H (.bool i) v) : v = .bl i := by
  rcases b with b | ⟨a, ds, vs, e1, _⟩
  · cases b; rfl
  · cases e1
theorem Bor.str {i : Str} {v : V} (b : Bor K M S H (.str i) v) : v = .str i := by
  rcases b with b | ⟨a, ds, vs, e1, _⟩
  · cases b; rfl
  · cases e1
theorem Bor.lst {ds : List D} {v : V} (g : Gd M S H) (b : Bor K M S H (.list ds) v) : ∃ a vs, v = .ref a ∧ H a = some (.lst vs) ∧ ¬ M a ∧ Dens K S ds vs := by
  rcases b with b | ⟨a, es, vs, e1, e2, e3, e4, r⟩
  · cases b with
    | lst e r => exact ⟨_, _, rfl, g.sub _ _ e, (fun m => by rw [(g.vol _ m).2] at e; cases e), r⟩
  · cases e1; exact ⟨a, vs, e2, e3, e4, r⟩
theorem Bor.tup {ds : List D} {v : V} (g : Gd M S H) (b : Bor K M S H (.tuple ds) v) : ∃ a vs, v = .ref a ∧ SqT K S a vs ∧ Dens K S ds vs := by
  rcases b with b | ⟨a, es, vs, e1, _⟩
  · cases b with
    | tup e r => exact ⟨_, _, rfl, e, r⟩
  · cases e1
theorem DpAll.mon (h : Sub S S') {vs : List V} {ds : List D} (r : Dens K S ds vs) : DpAll K S' vs ds := Dens.dp ds vs (r.mon h)
theorem Bor.dp {d : D} {v : V} (g : Gd M S H) (b : Bor K M S H d v) : Dp K H v d := by
  rcases b with b | ⟨a, ds, vs, rfl, rfl, e, _, r⟩
  · exact Den.dp d v (b.mon g.sub)
  · exact .lst (.inl (.inl e)) (DpAll.mon g.sub r)
theorem Bors.length : ∀ {ms : List Bool} {ds : List D} {vs : List V}, Bors K M S H ms ds vs → ds.length = vs.length ∧ ms.length = vs.length
  | _, _, _, .nil => ⟨rfl, rfl⟩
  | _, _, _, .im _ b => ⟨by simp [b.length.1], by simp [b.length.2]⟩
  | _, _, _, .br _ b => ⟨by simp [b.length.1], by simp [b.length.2]⟩
end

section
variable (K : PySem.W.Frag) (M : Mm)
def RdE (te : TE) (env : List Sl) (P : D → Prop) : Prop :=
  ∀ S0 H0 σ S H, St0 K M S0 H0 S H env σ → ∀ Q : VK, (∀ d v S' H', P d → Den K S' d v → Step M S H S' H' → Q v H') → te σ H Q
def RdB (te : TE) (env : List Sl) (P : D → Prop) : Prop :=
  ∀ S0 H0 σ S H, St0 K M S0 H0 S H env σ → ∀ Q : VK, (∀ d v S' H', P d → Bor K M S' H' d v → Step M S H S' H' → Q v H') → te σ H Q
/-- a new list -/
def RdF (te : TE) (env : List Sl) (P : List D → Prop) : Prop :=
  ∀ S0 H0 σ S H, St0 K M S0 H0 S H env σ → ∀ Q : VK, (∀ ds p vs S' H', P ds → H p = none → S' p = none → H' p = some (.lst vs) → Dens K S' ds vs → Step M S H S' H' → Q (.ref p) H') → te σ H Q
def RdA (ta : TA) (env : List Sl) (ms : List Bool) (P : List D → Prop) : Prop :=
  ∀ S0 H0 σ S H, St0 K M S0 H0 S H env σ → ∀ Q : List V → Hp → Prop, (∀ ds vs S' H', P ds → Bors K M S' H' ms ds vs → Step M S H S' H' → Q vs H') → ta σ H Q
def RdT (tt : TT) (env : List Sl) (P : Bool → Prop) : Prop :=
  ∀ S0 H0 σ S H, St0 K M S0 H0 S H env σ → ∀ Q : Bool → Hp → Prop, (∀ b S' H', P b → Step M S H S' H' → Q b H') → tt σ H Q
def Sem2 (r : R2) (d e : D) (T : D → Prop) : Prop :=
  ∀ S H x y, Gd M S H → Bor K M S H d x → Bor K M S H e y → ∀ Q : VK, (∀ t v S' H', T t → Den K S' t v → Step M S H S' H' → Q v H') → r x y H Q
def Sem2F (r : R2) (d e : D) (T : List D → Prop) : Prop :=
  ∀ S H x y, Gd M S H → Bor K M S H d x → Bor K M S H e y → ∀ Q : VK, (∀ ds p vs S' H', T ds → H p = none → S' p = none → H' p = some (.lst vs) → Dens K S' ds vs → Step M S H S' H' → Q (.ref p) H') → r x y H Q
def Sem1 (r : V → Hp → VK → Prop) (d : D) (T : D → Prop) : Prop :=
  ∀ S H x, Gd M S H → Bor K M S H d x → ∀ Q : VK, (∀ t v S' H', T t → Den K S' t v → Step M S H S' H' → Q v H') → r x H Q
/-- of an argument list, by values -/
def SemA (r : List V → Hp → VK → Prop) (ms : List Bool) (ds : List D) (T : D → Prop) : Prop :=
  ∀ S H xs, Gd M S H → Bors K M S H ms ds xs → ∀ Q : VK, (∀ t v S' H', T t → Den K S' t v → Step M S H S' H' → Q v H') → r xs H Q
def SemAF (r : List V → Hp → VK → Prop) (ms : List Bool) (ds : List D) (T : List D → Prop) : Prop :=
  ∀ S H xs, Gd M S H → Bors K M S H ms ds xs → ∀ Q : VK, (∀ es p vs S' H', T es → H p = none → S' p = none → H' p = some (.lst vs) → Dens K S' es vs → Step M S H S' H' → Q (.ref p) H') → r xs H Q
end
section
variable {K : PySem.W.Frag} {M : Mm} {env : List Sl} {ta tb tc te : TE} {P T : D → Prop} {Q : D → D → Prop}
theorem RdE.b (h : RdE K M te env P) : RdB K M te env P := fun S0 H0 σ S H st Q q => h S0 H0 σ S H st Q fun d v S' H' p r t => q d v S' H' p (.inl r) t
theorem RdE.imp {P' : D → Prop} (h : RdE K M te env P) (i : ∀ d, P d → P' d) : RdE K M te env P' := fun S0 H0 σ S H st Q q => h S0 H0 σ S H st Q fun d v S' H' p r t => q d v S' H' (i d p) r t
theorem RdF.imp {P P' : List D → Prop} (h : RdF K M te env P) (i : ∀ d, P d → P' d) : RdF K M te env P' := fun S0 H0 σ S H st Q q => h S0 H0 σ S H st Q fun ds p vs S' H' pp => q ds p vs S' H' (i ds pp)
theorem RdF.e {P : List D → Prop} (h : RdF K M te env P) : RdE K M te env (fun d => ∃ ds, d = .list ds ∧ P ds) := fun S0 H0 σ S H st Q q => h S0 H0 σ S H st Q fun ds p vs S' H' pp h1 h2 h3 r t =>
  q (.list ds) (.ref p) (upd S' p (.lst vs)) H' ⟨ds, rfl, pp⟩ (.lst upd_same (r.mon (Step.hold t.sh h3 h2).1)) (t.hold' h3 h2 h1)
theorem RdE.op {r : R2} (ha : RdB K M ta env P) (hb : ∀ d, P d → RdB K M tb env (Q d)) (hr : ∀ d e, P d → Q d e → Sem2 K M r d e T) : RdE K M (tOp r ta tb) env T := fun S0 H0 σ S H st Qv q => by
  refine ha _ _ _ _ _ st _ fun d x S1 H1 pd bx t1 => ?_
  refine hb d pd _ _ _ _ _ (st.step t1) _ fun e y S2 H2 qe by' t2 => ?_
  exact hr d e pd qe S2 H2 x y ((st.step t1).step t2).gd (bx.step t2) by' Qv fun t v S' H' tt dn t3 => q t v S' H' tt dn ((t1.trans t2).trans t3)
theorem RdF.op {r : R2} {T : List D → Prop} (ha : RdB K M ta env P) (hb : ∀ d, P d → RdB K M tb env (Q d)) (hr : ∀ d e, P d → Q d e → Sem2F K M r d e T) : RdF K M (tOp r ta tb) env T := fun S0 H0 σ S H st Qv q => by
  refine ha _ _ _ _ _ st _ fun d x S1 H1 pd bx t1 => ?_
  refine hb d pd _ _ _ _ _ (st.step t1) _ fun e y S2 H2 qe by' t2 => ?_
  refine hr d e pd qe S2 H2 x y ((st.step t1).step t2).gd (bx.step t2) by' Qv fun ds p vs S' H' tt h1 h2 h3 dn t3 => q ds p vs S' H' tt ?_ h2 h3 dn ((t1.trans t2).trans t3)
  cases z : H p with
  | none => rfl
  | some o => exact absurd h1 ((t1.trans t2).keep p (by rw [z]; exact fun z => nomatch z))
theorem RdE.un {r : V → Hp → VK → Prop} (ha : RdB K M ta env P) (hr : ∀ d, P d → Sem1 K M r d T) : RdE K M (tUn r ta) env T := fun S0 H0 σ S H st Qv q => by
  refine ha _ _ _ _ _ st _ fun d x S1 H1 pd bx t1 => ?_
  exact hr d pd S1 H1 x (st.step t1).gd bx Qv fun t v S' H' tt dn t3 => q t v S' H' tt dn (t1.trans t3)
theorem RdE.cb {r : List V → Hp → VK → Prop} {tl : TA} {ms : List Bool} {A : List D → Prop} (ha : RdA K M tl env ms A) (hr : ∀ ds, A ds → SemA K M r ms ds T) : RdE K M (tCB r tl) env T := fun S0 H0 σ S H st Qv q => by
  refine ha _ _ _ _ _ st _ fun ds xs S1 H1 pd bx t1 => ?_
  exact hr ds pd S1 H1 xs (st.step t1).gd bx Qv fun t v S' H' tt dn t3 => q t v S' H' tt dn (t1.trans t3)
theorem RdF.cb {r : List V → Hp → VK → Prop} {tl : TA} {ms : List Bool} {A : List D → Prop} {T : List D → Prop} (ha : RdA K M tl env ms A) (hr : ∀ ds, A ds → SemAF K M r ms ds T) : RdF K M (tCB r tl) env T := fun S0 H0 σ S H st Qv q => by
  refine ha _ _ _ _ _ st _ fun ds xs S1 H1 pd bx t1 => ?_
  refine hr ds pd S1 H1 xs (st.step t1).gd bx Qv fun es p vs S' H' tt h1 h2 h3 dn t3 => q es p vs S' H' tt ?_ h2 h3 dn (t1.trans t3)
  cases z : H p with
  | none => rfl
  | some o => exact absurd h1 (t1.keep p (by rw [z]; exact fun z => nomatch z))
theorem RdA.nil : RdA K M tNil env [] (· = []) := fun S0 H0 σ S H st Q q => q [] [] S H rfl .nil (Step.refl st.gd.sub)
theorem RdA.im {tl : TA} {ms : List Bool} {A : D → List D → Prop} (ha : RdE K M ta env P) (hr : ∀ d, P d → RdA K M tl env ms (A d)) : RdA K M (tCons ta tl) env (true :: ms) (fun l => ∃ d ds, P d ∧ A d ds ∧ l = d :: ds) := fun S0 H0 σ S H st Q q => by
  refine ha _ _ _ _ _ st _ fun d x S1 H1 pd bx t1 => ?_
  refine hr d pd _ _ _ _ _ (st.step t1) _ fun ds xs S2 H2 ad bs t2 => ?_
  exact q (d :: ds) (x :: xs) S2 H2 ⟨d, ds, pd, ad, rfl⟩ (.im (bx.mon t2.ss) bs) (t1.trans t2)
theorem RdA.br {tl : TA} {ms : List Bool} {A : D → List D → Prop} (ha : RdB K M ta env P) (hr : ∀ d, P d → RdA K M tl env ms (A d)) : RdA K M (tCons ta tl) env (false :: ms) (fun l => ∃ d ds, P d ∧ A d ds ∧ l = d :: ds) := fun S0 H0 σ S H st Q q => by
  refine ha _ _ _ _ _ st _ fun d x S1 H1 pd bx t1 => ?_
  refine hr d pd _ _ _ _ _ (st.step t1) _ fun ds xs S2 H2 ad bs t2 => ?_
  exact q (d :: ds) (x :: xs) S2 H2 ⟨d, ds, pd, ad, rfl⟩ (.br (bx.step t2) bs) (t1.trans t2)
theorem Bors.dens {S H : Hp} : ∀ {n : Nat} {ds : List D} {vs : List V}, Bors K M S H (List.replicate n true) ds vs → Dens K S ds vs
  | 0, _, _, .nil => .nil
  | n + 1, _, _, .im r b => .cons r (Bors.dens b)
theorem allIm {ms : List Bool} {S H : Hp} (h : ms.all id = true) {ds : List D} {vs : List V} (b : Bors K M S H ms ds vs) : Dens K S ds vs := by
  induction b with
  | nil => exact .nil
  | im r b ih => exact .cons r (ih (by simpa using h))
  | br r b ih => simp at h
/-- a written tuple, a written list -/
theorem RdE.tup {tl : TA} {ms : List Bool} {A : List D → Prop} (ha : RdA K M tl env ms A) (hm : ms.all id = true) (hl : ∀ ds, A ds → ds.length ≤ sizeLine) : RdE K M (tTup tl) env (fun d => ∃ ds, A ds ∧ d = .tuple ds) := fun S0 H0 σ S H st Q q => by
  refine ha _ _ _ _ _ st _ fun ds xs S1 H1 ad bs t1 => ?_
  have r := allIm hm bs
  refine ⟨by rw [← r.length]; exact hl ds ad, fun p hp => ?_⟩
  have g1 := (st.step t1).gd
  have t2 := Step.newS g1 (.tup xs) hp
  exact q (.tuple ds) (.ref p) _ _ ⟨ds, ad, rfl⟩ (.tup (.inl (.inl upd_same)) (r.mon t2.ss)) (t1.trans t2)
theorem RdF.lst {tl : TA} {ms : List Bool} {A : List D → Prop} (ha : RdA K M tl env ms A) (hm : ms.all id = true) (hl : ∀ ds, A ds → ds.length ≤ sizeLine) : RdF K M (tLst tl) env A := fun S0 H0 σ S H st Q q => by
  refine ha _ _ _ _ _ st _ fun ds xs S1 H1 ad bs t1 => ?_
  have r := allIm hm bs
  refine ⟨by rw [← r.length]; exact hl ds ad, fun p hp => ?_⟩
  have g1 := (st.step t1).gd
  refine q ds p xs S1 _ ad ?_ (g1.fresh hp) upd_same r (t1.trans (Step.new g1 (.lst xs) hp))
  cases z : H p with
  | none => rfl
  | some o => exact absurd hp (t1.keep p (by rw [z]; exact fun z => nomatch z))
theorem RdT.tst {P : Bool → Prop} (h : RdB K M te env (fun d => ∃ b, d = .bool b ∧ P b)) : RdT K M (tTest te) env P := fun S0 H0 σ S H st Q q => by
  refine h _ _ _ _ _ st _ fun d v S1 H1 ⟨b, e, pb⟩ r t => ?_
  subst e
  exact ⟨b, r.bl, q b S1 H1 pb t⟩
theorem RdE.if {P : Bool → Prop} {tt : TT} (h : RdT K M tt env P) (h1 : P true → RdE K M ta env T) (h2 : P false → RdE K M tb env T) : RdE K M (tIf tt ta tb) env T := fun S0 H0 σ S H st Q q => by
  refine h _ _ _ _ _ st _ fun b S1 H1 pb t => ?_
  cases b with
  | true => exact h1 pb _ _ _ _ _ (st.step t) Q fun d v S' H' p r t' => q d v S' H' p r (t.trans t')
  | false => exact h2 pb _ _ _ _ _ (st.step t) Q fun d v S' H' p r t' => q d v S' H' p r (t.trans t')
end

/-! ### the weakest readings -/
def star (X : Cx) (e : Expr) : TE := fun σ H Q => ∀ pins s, L2.Inv X pins σ H s → wpAny (model X.prog X.w) X.A (eval e X.env) (EP X pins σ Q) X.xe s
def starT (X : Cx) (e : Expr) : TT := fun σ H Q => ∀ pins s, L2.Inv X pins σ H s → wpAny (model X.prog X.w) X.A (isTrue e X.env (eval e X.env)) (TP X pins σ Q) X.xe s
def starW (X : Cx) (e : Expr) : TT := fun σ H Q => ∀ whole pins s, L2.Inv X pins σ H s → wpAny (model X.prog X.w) X.A (isTrue e X.env whole) (TP X pins σ Q) X.xe s
def starA (X : Cx) (es : List Expr) : TA := fun σ H Q => ∀ pos pins s, L2.Inv X pins σ H s → wpAny (model X.prog X.w) X.A (spliced (backTo pos (starEach es X.env))) (AP X pins σ Q) X.xe s
def starS (X : Cx) (st : Stmt) : TS := fun D σ H => ∀ pins s, L2.Inv X pins σ H s → wpAny (model X.prog X.w) X.A (exec st X.env) (SP X pins D) X.xe s
def starB (X : Cx) (st : List Stmt) : TS := fun D σ H => ∀ pins s, L2.Inv X pins σ H s → wpAny (model X.prog X.w) X.A (execs st X.env) (SP X pins D) X.xe s
theorem star_pe {X : Cx} {e : Expr} : PE X e (star X e) := ⟨fun pins s σ H Q I h => h pins s I⟩
theorem star_pt {X : Cx} {e : Expr} : PT X e (starT X e) := ⟨fun pins s σ H Q I h => h pins s I⟩
theorem star_pw {X : Cx} {e : Expr} : PW X e (starW X e) := ⟨fun wh pins s σ H Q I h => h wh pins s I⟩
theorem star_pa {X : Cx} {e : List Expr} : PA X e (starA X e) := ⟨fun pos pins s σ H Q I h => h pos pins s I⟩
theorem star_ps {X : Cx} {e : Stmt} : PS X e (starS X e) := ⟨fun pins s σ H D I h => h pins s I⟩
theorem star_pss {X : Cx} {e : List Stmt} : PSs X e (starB X e) := ⟨fun pins s σ H D I h => h pins s I⟩
section
variable (X : Cx) (M : Mm)
def EV (e : Expr) (env : List Sl) (P : D → Prop) : Prop := RdE X.K M (star X e) env P
def EB (e : Expr) (env : List Sl) (P : D → Prop) : Prop := RdB X.K M (star X e) env P
def EF (e : Expr) (env : List Sl) (P : List D → Prop) : Prop := RdF X.K M (star X e) env P
def EA (es : List Expr) (env : List Sl) (ms : List Bool) (P : List D → Prop) : Prop := RdA X.K M (starA X es) env ms P
def ET (e : Expr) (env : List Sl) (P : Bool → Prop) : Prop := RdT X.K M (starT X e) env P
def EW (e : Expr) (env : List Sl) (P : Bool → Prop) : Prop := RdT X.K M (starW X e) env P
end
section
variable {X : Cx} {M : Mm} {e : Expr} {es : List Expr} {env : List Sl} {te : TE} {tl : TA} {tt : TT} {P : D → Prop}
theorem EV.of (h : PE X e te) (r : RdE X.K M te env P) : EV X M e env P := fun S0 H0 σ S H st Q q pins s I => h.run pins s σ H Q I (r S0 H0 σ S H st Q q)
theorem EB.of (h : PE X e te) (r : RdB X.K M te env P) : EB X M e env P := fun S0 H0 σ S H st Q q pins s I => h.run pins s σ H Q I (r S0 H0 σ S H st Q q)
theorem EF.of {P : List D → Prop} (h : PE X e te) (r : RdF X.K M te env P) : EF X M e env P := fun S0 H0 σ S H st Q q pins s I => h.run pins s σ H Q I (r S0 H0 σ S H st Q q)
theorem EA.of {ms : List Bool} {P : List D → Prop} (h : PA X es tl) (r : RdA X.K M tl env ms P) : EA X M es env ms P := fun S0 H0 σ S H st Q q pos pins s I => h.run pos pins s σ H Q I (r S0 H0 σ S H st Q q)
theorem ET.of {P : Bool → Prop} (h : PT X e tt) (r : RdT X.K M tt env P) : ET X M e env P := fun S0 H0 σ S H st Q q pins s I => h.run pins s σ H Q I (r S0 H0 σ S H st Q q)
theorem EW.of {P : Bool → Prop} (h : PW X e tt) (r : RdT X.K M tt env P) : EW X M e env P := fun S0 H0 σ S H st Q q wh pins s I => h.run wh pins s σ H Q I (r S0 H0 σ S H st Q q)
theorem EW.t {P : Bool → Prop} (r : EW X M e env P) : ET X M e env P := ET.of star_pw.pt r
end

/-! ### values that may fail: what must hold, and the value -/
structure R (α : Type) where
  p : Prop
  v : α
@[simp] def R.pure {α : Type} (x : α) : R α := ⟨True, x⟩
@[simp] def R.bind {α β : Type} (m : R α) (f : α → R β) : R β := ⟨m.p ∧ (f m.v).p, (f m.v).v⟩
@[simp] def R.o1 {α β : Type} (C : α → Prop) (f : α → β) (m : R α) : R β := ⟨m.p ∧ C m.v, f m.v⟩
@[simp] def R.o2 {α β γ : Type} (C : α → β → Prop) (f : α → β → γ) (m : R α) (n : R β) : R γ := ⟨m.p ∧ n.p ∧ C m.v n.v, f m.v n.v⟩
@[simp] def R.o3 {α β γ δ : Type} (C : α → β → γ → Prop) (f : α → β → γ → δ) (m : R α) (n : R β) (o : R γ) : R δ := ⟨m.p ∧ n.p ∧ o.p ∧ C m.v n.v o.v, f m.v n.v o.v⟩
@[simp] def R.ite {α : Type} (c : R Bool) (a b : R α) : R α := ⟨c.p ∧ (c.v = true → a.p) ∧ (c.v = false → b.p), if c.v = true then a.v else b.v⟩
@[simp] def R.and (a b : R Bool) : R Bool := ⟨a.p ∧ (a.v = true → b.p), a.v && b.v⟩
@[simp] def R.or (a b : R Bool) : R Bool := ⟨a.p ∧ (a.v = false → b.p), a.v || b.v⟩
@[simp] def R.not (a : R Bool) : R Bool := ⟨a.p, !a.v⟩
@[simp] def R.map {α β : Type} (f : α → β) (m : R α) : R β := ⟨m.p, f m.v⟩
@[simp] def R.tup2 {α β : Type} (m : R α) (n : R β) : R (α × β) := ⟨m.p ∧ n.p, (m.v, n.v)⟩
@[simp] def R.p1 {α β : Type} (m : R (α × β)) : R α := ⟨m.p, m.v.1⟩
@[simp] def R.p2 {α β : Type} (m : R (α × β)) : R β := ⟨m.p, m.v.2⟩
@[simp] def R.setIx {α : Type} (xs : List α) (m : R α) (n : R Int) : R (List α) := ⟨m.p ∧ n.p ∧ 0 ≤ n.v ∧ n.v < xs.length, xs.set n.v.toNat m.v⟩
@[simp] def R.app {α : Type} (xs : List α) (m : R α) : R (List α) := ⟨m.p ∧ xs.length < 100000, xs ++ [m.v]⟩

class Rep (α : Type) where
  rep : α → D
open Rep (rep)
instance : Rep Int := ⟨.int⟩
instance : Rep Bool := ⟨.bool⟩
instance : Rep Str := ⟨.str⟩
instance : Rep D := ⟨id⟩
instance {α : Type} [Rep α] : Rep (List α) := ⟨fun l => .list (l.map rep)⟩
/-- a tuple of any length, of one kind -/
structure Tu (α : Type) where
  l : List α
deriving DecidableEq, Inhabited
structure T3 (α β γ : Type) where
  a : α
  b : β
  c : γ
deriving DecidableEq, Inhabited
structure T4 (α β γ δ : Type) where
  a : α
  b : β
  c : γ
  d : δ
deriving DecidableEq, Inhabited
@[simp] def R.tup3 {α β γ : Type} (m : R α) (n : R β) (o : R γ) : R (T3 α β γ) := ⟨m.p ∧ n.p ∧ o.p, ⟨m.v, n.v, o.v⟩⟩
@[simp] def R.t1 {α β γ : Type} (m : R (T3 α β γ)) : R α := ⟨m.p, m.v.a⟩
@[simp] def R.t2 {α β γ : Type} (m : R (T3 α β γ)) : R β := ⟨m.p, m.v.b⟩
@[simp] def R.t3 {α β γ : Type} (m : R (T3 α β γ)) : R γ := ⟨m.p, m.v.c⟩
instance {α : Type} [Rep α] : Rep (Tu α) := ⟨fun t => .tuple (t.l.map rep)⟩
instance {α β : Type} [Rep α] [Rep β] : Rep (α × β) := ⟨fun t => .tuple [rep t.1, rep t.2]⟩
instance {α β γ : Type} [Rep α] [Rep β] [Rep γ] : Rep (T3 α β γ) := ⟨fun t => .tuple [rep t.a, rep t.b, rep t.c]⟩
instance {α β γ δ : Type} [Rep α] [Rep β] [Rep γ] [Rep δ] : Rep (T4 α β γ δ) := ⟨fun t => .tuple [rep t.a, rep t.b, rep t.c, rep t.d]⟩
instance {α : Type} [Rep α] : Rep (Option α) := ⟨fun t => match t with | none => .none | some x => rep x⟩
instance : Rep Unit := ⟨fun _ => .none⟩

section
variable (X : Cx) (M : Mm) {α : Type} [Rep α]
structure RE (e : Expr) (env : List Sl) (m : R α) : Prop where
  run : m.p → EV X M e env (· = rep m.v)
structure RB (e : Expr) (env : List Sl) (m : R α) : Prop where
  run : m.p → EB X M e env (· = rep m.v)
structure RF (e : Expr) (env : List Sl) (m : R (List α)) : Prop where
  run : m.p → EF X M e env (· = m.v.map rep)
structure RA (es : List Expr) (env : List Sl) (ms : List Bool) (m : R (List D)) : Prop where
  run : m.p → EA X M es env ms (· = m.v)
structure RT (e : Expr) (env : List Sl) (m : R Bool) : Prop where
  run : m.p → ET X M e env (· = m.v)
structure RW (e : Expr) (env : List Sl) (m : R Bool) : Prop where
  run : m.p → EW X M e env (· = m.v)
end
section
variable {X : Cx} {M : Mm} {α : Type} [Rep α] {e : Expr} {es : List Expr} {env : List Sl}
instance {m : R α} : CoeFun (RE X M e env m) (fun _ => m.p → EV X M e env (· = rep m.v)) := ⟨RE.run⟩
instance {m : R α} : CoeFun (RB X M e env m) (fun _ => m.p → EB X M e env (· = rep m.v)) := ⟨RB.run⟩
instance {m : R (List α)} : CoeFun (RF X M e env m) (fun _ => m.p → EF X M e env (· = m.v.map rep)) := ⟨RF.run⟩
instance {ms : List Bool} {m : R (List D)} : CoeFun (RA X M es env ms m) (fun _ => m.p → EA X M es env ms (· = m.v)) := ⟨RA.run⟩
instance {m : R Bool} : CoeFun (RT X M e env m) (fun _ => m.p → ET X M e env (· = m.v)) := ⟨RT.run⟩
instance {m : R Bool} : CoeFun (RW X M e env m) (fun _ => m.p → EW X M e env (· = m.v)) := ⟨RW.run⟩
end
end FP
namespace FP
open PySem PySem.Spec PyProof.Rows L2
open Rep (rep)
/-! ### operations over data -/
section
variable (X : Cx) (M : Mm) {α β γ : Type} [Rep α] [Rep β] [Rep γ]
structure Op2 (op : Operator) (C : α → β → Prop) (f : α → β → γ) : Prop where
  ex : ∃ r, OpR X (binaryOp op) r ∧ ∀ x y, C x y → Sem2 X.K M r (rep x) (rep y) (· = rep (f x y))
structure Op2F (op : Operator) (C : α → β → Prop) (f : α → β → List γ) : Prop where
  ex : ∃ r, OpR X (binaryOp op) r ∧ ∀ x y, C x y → Sem2F X.K M r (rep x) (rep y) (· = (f x y).map rep)
structure Cm2 (op : CmpOp) (C : α → β → Prop) (f : α → β → Bool) : Prop where
  ex : ∃ r, OpR X (compareOp op) r ∧ ∀ x y, C x y → Sem2 X.K M r (rep x) (rep y) (· = .bool (f x y))
structure Ix2 (C : α → β → Prop) (f : α → β → γ) : Prop where
  ex : ∃ r, IxR X r ∧ ∀ x y, C x y → Sem2 X.K M r (rep x) (rep y) (· = rep (f x y))
structure Un1 (op : UnaryOp) (C : α → Prop) (f : α → β) : Prop where
  ex : ∃ r, UnR X (unaryOp op) r ∧ ∀ x, C x → Sem1 X.K M r (rep x) (· = rep (f x))
structure Cb1 (fv : Value) (C : α → Prop) (f : α → β) : Prop where
  ex : ∃ r, CallR X fv r ∧ ∀ x, C x → SemA X.K M r [false] [rep x] (· = rep (f x))
structure Cb1F (fv : Value) (C : α → Prop) (f : α → List β) : Prop where
  ex : ∃ r, CallR X fv r ∧ ∀ x, C x → SemAF X.K M r [false] [rep x] (· = (f x).map rep)
structure Cb2 (fv : Value) (C : α → β → Prop) (f : α → β → γ) : Prop where
  ex : ∃ r, CallR X fv r ∧ ∀ x y, C x y → SemA X.K M r [false, false] [rep x, rep y] (· = rep (f x y))
/-- a value's truth -/
structure Tr1 (C : α → Prop) (f : α → Bool) : Prop where
  ex : ∀ x, C x → ∀ S H v, Gd M S H → Bor X.K M S H (rep x) v → TruV X.K v H (f x)
end

section
variable {X : Cx} {M : Mm} {env : List Sl} {a b c e : Expr} {es : List Expr} {pos : Pos} {α β γ : Type} [Rep α] [Rep β] [Rep γ]
theorem RE.bor {m : R α} (h : RE X M e env m) : RB X M e env m := .mk fun p => RdE.b (h p)
theorem RF.re {m : R (List α)} (h : RF X M e env m) : RE X M e env m := .mk fun p => (RdF.e (h p)).imp fun d ⟨ds, e1, e2⟩ => by rw [e1, e2]; rfl
theorem RE.cast {m n : R α} (h : RE X M e env m) (hp : n.p → m.p) (hv : n.p → m.v = n.v) : RE X M e env n := .mk fun p => RdE.imp (h (hp p)) fun d e => by rw [e, hv p]

/-! names, constants -/
structure OkN (nm : Str) : Prop where
  d : (nm == ("__debug__" : Str)) = false
  c : (nm == ("__classdict__" : Str)) = false
  n : nm ≠ "__name__"
theorem RE.var {x : α} (i : Nat) {nm : Str} (hi : env[i]? = some (.im (rep x))) (hN : X.N[i]? = some nm) (hv : Vis X.env.scope nm) (hk : OkN nm) : RE X M (.Name nm pos) env (R.pure x) := .mk fun _ =>
  EV.of (pe_var hN hv hk.d hk.c) fun S0 H0 σ S H st Q q => by
    obtain ⟨O, _, _, sl⟩ := st.own
    obtain ⟨v, e1, r⟩ := sl i _ hi
    exact ⟨v, e1, q _ v S H rfl r (Step.refl st.gd.sub)⟩
theorem RB.varB {x : List α} (i : Nat) {nm : Str} (hi : env[i]? = some (.br (x.map rep))) (hN : X.N[i]? = some nm) (hv : Vis X.env.scope nm) (hk : OkN nm) : RB X M (.Name nm pos) env (R.pure x) := .mk fun _ =>
  EB.of (pe_var hN hv hk.d hk.c) fun S0 H0 σ S H st Q q => by
    obtain ⟨O, _, _, sl⟩ := st.own
    obtain ⟨p, vs, e1, e2, e3, r⟩ := sl i _ hi
    exact ⟨_, e1, q _ _ S H rfl (.inr ⟨p, _, vs, rfl, rfl, st.stp.ext _ _ e2 e3 lst_noT, e3, r⟩) (Step.refl st.gd.sub)⟩
theorem RB.varO {x : List α} (i : Nat) {nm : Str} (hi : env[i]? = some (.ow (x.map rep))) (hN : X.N[i]? = some nm) (hv : Vis X.env.scope nm) (hk : OkN nm) : RB X M (.Name nm pos) env (R.pure x) := .mk fun _ =>
  EB.of (pe_var hN hv hk.d hk.c) fun S0 H0 σ S H st Q q => by
    obtain ⟨O, _, out, sl⟩ := st.own
    obtain ⟨p, vs, eO, e1, e2, r⟩ := sl i _ hi
    exact ⟨_, e1, q _ _ S H rfl (.inr ⟨p, _, vs, rfl, rfl, e2, (out i p (by rw [eO]; exact List.mem_cons_self)).1, r⟩) (Step.refl st.gd.sub)⟩
theorem EV.const {v : V} {d : D} (h : PE X e (tC v)) (r : ∀ S, Den X.K S d v) : EV X M e env (· = d) := EV.of h fun S0 H0 σ S H st Q q => q d v S H rfl (r S) (Step.refl st.gd.sub)
theorem RE.int {i : Int} {j} : RE X M (.Constant (.int i) j pos) env (R.pure i) := .mk fun _ => EV.const pe_int fun _ => .int i
theorem RE.bl {i : Bool} {j} : RE X M (.Constant (.bool i) j pos) env (R.pure i) := .mk fun _ => EV.const pe_bl fun _ => .bl i
theorem RE.str {i : Str} {j} : RE X M (.Constant (.str i) j pos) env (R.pure i) := .mk fun _ => EV.const pe_str fun _ => .str i
theorem RE.non {j} : RE X M (.Constant .none j pos) env (R.pure (none : Option α)) := .mk fun _ => EV.const pe_non fun _ => .non
theorem RE.nonU {j} : RE X M (.Constant .none j pos) env (R.pure ()) := .mk fun _ => EV.const pe_non fun _ => .non
/-- a module's constant -/
theorem RE.glob {x : α} {nm : Str} {v : V} {u : Value} (hg : Gl X nm) (hm : X.mg nm = some u) (r : RelV v u) (hr : ∀ S, Den X.K S (rep x) v) (hk : OkN nm) : RE X M (.Name nm pos) env (R.pure x) := .mk fun _ =>
  EV.const (pe_glob hg hm r hk.d) hr
/-- a value where one may be none -/
theorem RE.sm {m : R α} (h : RE X M e env m) : RE X M e env (R.map Option.some m) := .mk fun p => h p

/-! operators -/
theorem RE.bin {op : Operator} {C : α → β → Prop} {f : α → β → γ} (o : Op2 X M op C f) {m : R α} {n : R β} (ha : RB X M a env m) (hb : RB X M b env n) : RE X M (.BinOp a op b pos) env (R.o2 C f m n) := .mk fun hp => by
  obtain ⟨r, ho, hs⟩ := o.ex
  exact EV.of (pe_op ho star_pe star_pe) (RdE.op (ha hp.1) (fun _ _ => hb hp.2.1) fun d e' h1 h2 => by rw [h1, h2]; exact hs _ _ hp.2.2)
theorem RF.bin {op : Operator} {C : α → β → Prop} {f : α → β → List γ} (o : Op2F X M op C f) {m : R α} {n : R β} (ha : RB X M a env m) (hb : RB X M b env n) : RF X M (.BinOp a op b pos) env (R.o2 C f m n) := .mk fun hp => by
  obtain ⟨r, ho, hs⟩ := o.ex
  exact EF.of (pe_op ho star_pe star_pe) (RdF.op (ha hp.1) (fun _ _ => hb hp.2.1) fun d e' h1 h2 => by rw [h1, h2]; exact hs _ _ hp.2.2)
theorem RE.un {op : UnaryOp} {C : α → Prop} {f : α → β} (o : Un1 X M op C f) {m : R α} (ha : RB X M a env m) : RE X M (.UnaryOp op a pos) env (R.o1 C f m) := .mk fun hp => by
  obtain ⟨r, ho, hs⟩ := o.ex
  exact EV.of (pe_un ho star_pe) (RdE.un (ha hp.1) fun d h1 => by rw [h1]; exact hs _ hp.2)
theorem RE.ix {C : α → β → Prop} {f : α → β → γ} (o : Ix2 X M C f) {m : R α} {n : R β} (ha : RB X M a env m) (hb : RB X M b env n) (hs : PlainIx b) : RE X M (.Subscript a b pos) env (R.o2 C f m n) := .mk fun hp => by
  obtain ⟨r, ho, hr⟩ := o.ex
  exact EV.of (pe_ix ho star_pe star_pe hs) (RdE.op (ha hp.1) (fun _ _ => hb hp.2.1) fun d e' h1 h2 => by rw [h1, h2]; exact hr _ _ hp.2.2)
theorem cmp_rd {op : CmpOp} {C : α → β → Prop} {f : α → β → Bool} {m : R α} {n : R β} {r : R2} (hs : ∀ x y, C x y → Sem2 X.K M r (rep x) (rep y) (· = .bool (f x y))) (ha : RB X M a env m) (hb : RB X M b env n) (hp : (R.o2 C f m n).p) :
    RdE X.K M (tOp r (star X a) (star X b)) env (· = rep (f m.v n.v)) := RdE.op (ha hp.1) (fun _ _ => hb hp.2.1) fun d e' h1 h2 => by rw [h1, h2]; exact hs _ _ hp.2.2
theorem RE.cmp {op : CmpOp} {C : α → β → Prop} {f : α → β → Bool} (o : Cm2 X M op C f) {m : R α} {n : R β} (ha : RB X M a env m) (hb : RB X M b env n) (hm : behindInMarks op b = false) : RE X M (.Compare a [op] [b] pos) env (R.o2 C f m n) := .mk fun hp => by
  obtain ⟨r, ho, hs⟩ := o.ex
  exact EV.of (pe_cmpR ho star_pe star_pe hm) (cmp_rd (op := op) hs ha hb hp)
theorem RT.cmp {op : CmpOp} {C : α → β → Prop} {f : α → β → Bool} (o : Cm2 X M op C f) {m : R α} {n : R β} (ha : RB X M a env m) (hb : RB X M b env n) (hm : behindInMarks op b = false) : RT X M (.Compare a [op] [b] pos) env (R.o2 C f m n) := .mk fun hp => by
  obtain ⟨r, ho, hs⟩ := o.ex
  exact ET.of (pt_cmpR ho star_pe star_pe hm) (RdT.tst (RdE.imp (cmp_rd (op := op) hs ha hb hp) fun d e' => ⟨_, e', rfl⟩).b)
/-- a < b < c -/
theorem chain_rd {C : α → β → Prop} {f : α → β → Bool} {C' : β → γ → Prop} {f' : β → γ → Bool} {m : R α} {n : R β} {o : R γ} {r r' : R2} (hs : ∀ x y, C x y → Sem2 X.K M r (rep x) (rep y) (· = .bool (f x y))) (hs' : ∀ x y, C' x y → Sem2 X.K M r' (rep x) (rep y) (· = .bool (f' x y)))
    (ha : RB X M a env m) (hb : RB X M b env n) (hc : RB X M c env o) (hp : m.p ∧ n.p ∧ C m.v n.v ∧ (f m.v n.v = true → o.p ∧ C' n.v o.v)) :
    RdE X.K M (tChain r r' (star X a) (star X b) (star X c)) env (· = rep (f m.v n.v && f' n.v o.v)) := fun S0 H0 σ S H st Q q => by
  refine ha hp.1 _ _ _ _ _ st _ fun d x S1 H1 pd bx t1 => ?_
  refine hb hp.2.1 _ _ _ _ _ (st.step t1) _ fun e' y S2 H2 qe by' t2 => ?_
  subst pd; subst qe
  refine hs _ _ hp.2.2.1 S2 H2 x y ((st.step t1).step t2).gd (bx.step t2) by' _ fun t v S3 H3 tt dn t3 => ?_
  subst tt
  cases dn
  refine ⟨_, rfl, ?_⟩
  cases hf : f m.v n.v with
  | true =>
    rw [if_pos rfl]
    obtain ⟨h1, h2⟩ := hp.2.2.2 hf
    refine hc h1 _ _ _ _ _ (((st.step t1).step t2).step t3) _ fun g z S4 H4 qg bz t4 => ?_
    subst qg
    refine hs' _ _ h2 S4 H4 y z ((((st.step t1).step t2).step t3).step t4).gd ((by'.step t3).step t4) bz _ fun t v S5 H5 tt dn t5 => ?_
    subst tt
    exact q _ v S5 H5 (by rw [hf]; rfl) dn ((((t1.trans t2).trans t3).trans t4).trans t5)
  | false =>
    rw [if_neg (by decide)]
    exact q _ _ S3 H3 (by rw [hf]; rfl) (.bl false) ((t1.trans t2).trans t3)
@[simp] def R.chain {α β γ : Type} (C : α → β → Prop) (f : α → β → Bool) (C' : β → γ → Prop) (f' : β → γ → Bool) (m : R α) (n : R β) (o : R γ) : R Bool := ⟨m.p ∧ n.p ∧ C m.v n.v ∧ (f m.v n.v = true → o.p ∧ C' n.v o.v), f m.v n.v && f' n.v o.v⟩
theorem RE.chain {op op' : CmpOp} {C : α → β → Prop} {f : α → β → Bool} {C' : β → γ → Prop} {f' : β → γ → Bool} (o : Cm2 X M op C f) (o' : Cm2 X M op' C' f') {m : R α} {n : R β} {k : R γ} (ha : RB X M a env m) (hb : RB X M b env n) (hc : RB X M c env k)
    (hm : lastMarks [op, op'] [b, c] = false) : RE X M (.Compare a [op, op'] [b, c] pos) env (R.chain C f C' f' m n k) := .mk fun hp => by
  obtain ⟨r, ho, hs⟩ := o.ex
  obtain ⟨r', ho', hs'⟩ := o'.ex
  exact EV.of (pe_chain ho ho' star_pe star_pe star_pe hm) (chain_rd hs hs' ha hb hc hp)
theorem RT.chain {op op' : CmpOp} {C : α → β → Prop} {f : α → β → Bool} {C' : β → γ → Prop} {f' : β → γ → Bool} (o : Cm2 X M op C f) (o' : Cm2 X M op' C' f') {m : R α} {n : R β} {k : R γ} (ha : RB X M a env m) (hb : RB X M b env n) (hc : RB X M c env k)
    (hm : lastMarks [op, op'] [b, c] = false) : RT X M (.Compare a [op, op'] [b, c] pos) env (R.chain C f C' f' m n k) := .mk fun hp => by
  obtain ⟨r, ho, hs⟩ := o.ex
  obtain ⟨r', ho', hs'⟩ := o'.ex
  exact ET.of (pt_chain ho ho' star_pe star_pe star_pe hm) (RdT.tst (RdE.imp (chain_rd hs hs' ha hb hc hp) fun d e' => ⟨_, e', rfl⟩).b)

/-! tests -/
theorem RT.and1 {m : R Bool} (h : RT X M a env m) : RW X M (.BoolOp .And [a] pos) env m := .mk fun p => EW.of (pw_and1 star_pt) (h p)
theorem RT.or1 {m : R Bool} (h : RT X M a env m) : RW X M (.BoolOp .Or [a] pos) env m := .mk fun p => EW.of (pw_or1 star_pt) (h p)
theorem RW.and {m n : R Bool} {rest : List Expr} (h : RT X M a env m) (h' : RW X M (.BoolOp .And (b :: rest) pos) env n) : RW X M (.BoolOp .And (a :: b :: rest) pos) env (R.and m n) := .mk fun p =>
  EW.of (pw_and star_pt star_pw) fun S0 H0 σ S H st Q q => by
    refine h p.1 _ _ _ _ _ st _ fun c S1 H1 ec t1 => ?_
    subst ec
    cases hv : m.v with
    | true => exact h' (p.2 hv) _ _ _ _ _ (st.step t1) _ fun d S2 H2 ed t2 => q d S2 H2 (by rw [ed]; simp [hv]) (t1.trans t2)
    | false => exact q false S1 H1 (by simp [hv]) t1
theorem RW.or {m n : R Bool} {rest : List Expr} (h : RT X M a env m) (h' : RW X M (.BoolOp .Or (b :: rest) pos) env n) : RW X M (.BoolOp .Or (a :: b :: rest) pos) env (R.or m n) := .mk fun p =>
  EW.of (pw_or star_pt star_pw) fun S0 H0 σ S H st Q q => by
    refine h p.1 _ _ _ _ _ st _ fun c S1 H1 ec t1 => ?_
    subst ec
    cases hv : m.v with
    | false => exact h' (p.2 hv) _ _ _ _ _ (st.step t1) _ fun d S2 H2 ed t2 => q d S2 H2 (by rw [ed]; simp [hv]) (t1.trans t2)
    | true => exact q true S1 H1 (by simp [hv]) t1
theorem RW.t {m : R Bool} (h : RW X M a env m) : RT X M a env m := .mk fun p => (h p).t
theorem RT.not {m : R Bool} (h : RT X M a env m) : RT X M (.UnaryOp .Not a pos) env (R.not m) := .mk fun p =>
  ET.of (pt_not star_pt) fun S0 H0 σ S H st Q q => h p _ _ _ _ _ st _ fun c S1 H1 ec t1 => q (!c) S1 H1 (by rw [ec]; rfl) t1
/-- a value as a test -/
theorem RT.tru {C : α → Prop} {f : α → Bool} (o : Tr1 X M C f) {m : R α} (h : RB X M a env m) (he : ∀ whole, isTrue a X.env whole = (do let v ← whole; standAt a.pos; holding [v] (truthy v))) : RT X M a env (R.o1 C f m) := .mk fun p =>
  ET.of (pt_truth star_pe he) fun S0 H0 σ S H st Q q => by
    refine h p.1 _ _ _ _ _ st _ fun d v S1 H1 ed r t1 => ?_
    subst ed
    exact ⟨_, o.ex _ p.2 S1 H1 v (st.step t1).gd r, q _ S1 H1 rfl t1⟩
/-! .. as values -/
theorem RE.one {op : BoolOp} {m : R α} (h : RE X M a env m) : RE X M (.BoolOp op [a] pos) env m := .mk fun p => EV.of (pe_one star_pe) (h p)
theorem RE.and {m n : R Bool} {rest : List Expr} (h : RB X M a env m) (h' : RE X M (.BoolOp .And (b :: rest) pos) env n) : RE X M (.BoolOp .And (a :: b :: rest) pos) env (R.and m n) := .mk fun p =>
  EV.of (pe_and star_pe star_pe) fun S0 H0 σ S H st Q q => by
    refine h p.1 _ _ _ _ _ st _ fun d v S1 H1 ec r t1 => ?_
    subst ec
    refine ⟨m.v, r.bl, ?_⟩
    cases hv : m.v with
    | true => exact h' (p.2 hv) _ _ _ _ _ (st.step t1) _ fun d v S2 H2 ed r2 t2 => q d v S2 H2 (by rw [ed]; simp [hv]) r2 (t1.trans t2)
    | false => exact q (rep false) _ S1 H1 (by simp [hv]) (.bl false) t1
theorem RE.or {m n : R Bool} {rest : List Expr} (h : RB X M a env m) (h' : RE X M (.BoolOp .Or (b :: rest) pos) env n) : RE X M (.BoolOp .Or (a :: b :: rest) pos) env (R.or m n) := .mk fun p =>
  EV.of (pe_or star_pe star_pe) fun S0 H0 σ S H st Q q => by
    refine h p.1 _ _ _ _ _ st _ fun d v S1 H1 ec r t1 => ?_
    subst ec
    refine ⟨m.v, r.bl, ?_⟩
    cases hv : m.v with
    | false => exact h' (p.2 hv) _ _ _ _ _ (st.step t1) _ fun d v S2 H2 ed r2 t2 => q d v S2 H2 (by rw [ed]; simp [hv]) r2 (t1.trans t2)
    | true => exact q (rep true) _ S1 H1 (by simp [hv]) (.bl true) t1
theorem RE.not {m : R Bool} (h : RB X M a env m) : RE X M (.UnaryOp .Not a pos) env (R.not m) := .mk fun p =>
  EV.of (pe_not star_pe) fun S0 H0 σ S H st Q q => by
    refine h p _ _ _ _ _ st _ fun d v S1 H1 ec r t1 => ?_
    subst ec
    exact ⟨m.v, r.bl, q _ _ S1 H1 rfl (.bl _) t1⟩
theorem RE.ite {c : R Bool} {m n : R α} {ce : Expr} (hc : RT X M ce env c) (ha : RE X M a env m) (hb : RE X M b env n) : RE X M (.IfExp ce a b pos) env (R.ite c m n) := .mk fun p =>
  EV.of (pe_ifExp star_pt star_pe star_pe) (RdE.if (hc p.1) (fun h => RdE.imp (ha (p.2.1 h.symm)) fun d e' => by rw [e']; simp [← h]) fun h => RdE.imp (hb (p.2.2 h.symm)) fun d e' => by rw [e']; simp [← h])

/-! argument lists -/
@[simp] def R.nil : R (List D) := ⟨True, []⟩
@[simp] def R.cons {α : Type} [Rep α] (m : R α) (l : R (List D)) : R (List D) := ⟨m.p ∧ l.p, rep m.v :: l.v⟩
theorem RA.nil : RA X M [] env [] R.nil := .mk fun _ => EA.of pa_nil RdA.nil
theorem RA.im {ms : List Bool} {m : R α} {l : R (List D)} (h : RE X M e env m) (hr : RA X M es env ms l) (hs : starEach (e :: es) X.env = (false, eval e X.env) :: starEach es X.env := by rfl) : RA X M (e :: es) env (true :: ms) (R.cons m l) := .mk fun p =>
  EA.of (pa_cons star_pe star_pa hs) fun S0 H0 σ S H st Q q => RdA.im (h p.1) (fun _ _ => hr p.2) _ _ _ _ _ st Q fun ds vs S' H' ⟨d, ds', e1, e2, e3⟩ => q ds vs S' H' (by rw [e3, e1, e2]; rfl)
theorem RA.br {ms : List Bool} {m : R α} {l : R (List D)} (h : RB X M e env m) (hr : RA X M es env ms l) (hs : starEach (e :: es) X.env = (false, eval e X.env) :: starEach es X.env := by rfl) : RA X M (e :: es) env (false :: ms) (R.cons m l) := .mk fun p =>
  EA.of (pa_cons star_pe star_pa hs) fun S0 H0 σ S H st Q q => RdA.br (h p.1) (fun _ _ => hr p.2) _ _ _ _ _ st Q fun ds vs S' H' ⟨d, ds', e1, e2, e3⟩ => q ds vs S' H' (by rw [e3, e1, e2]; rfl)
/-- .. of one kind -/
@[simp] def R.lnil {α : Type} : R (List α) := ⟨True, []⟩
@[simp] def R.lcons {α : Type} (m : R α) (l : R (List α)) : R (List α) := ⟨m.p ∧ l.p, m.v :: l.v⟩
structure RL (X : Cx) (M : Mm) {α : Type} [Rep α] (es : List Expr) (env : List Sl) (m : R (List α)) : Prop where
  run : m.p → EA X M es env (List.replicate es.length true) (· = m.v.map rep)
instance {m : R (List α)} : CoeFun (RL X M es env m) (fun _ => m.p → EA X M es env (List.replicate es.length true) (· = m.v.map rep)) := ⟨RL.run⟩
theorem RL.nil : RL X M (α := α) [] env R.lnil := .mk fun _ => EA.of pa_nil RdA.nil
theorem RL.cons {m : R α} {l : R (List α)} (h : RE X M e env m) (hr : RL X M es env l) (hs : starEach (e :: es) X.env = (false, eval e X.env) :: starEach es X.env := by rfl) : RL X M (e :: es) env (R.lcons m l) := .mk fun p =>
  EA.of (pa_cons star_pe star_pa hs) fun S0 H0 σ S H st Q q => RdA.im (h p.1) (fun _ _ => hr p.2) _ _ _ _ _ st Q fun ds vs S' H' ⟨d, ds', e1, e2, e3⟩ => q ds vs S' H' (by rw [e3, e1, e2]; rfl)
theorem all_rep (n : Nat) : (List.replicate n true).all id = true := by simp [List.all_replicate]
@[simp] def R.sz {α : Type} (m : R (List α)) : R (List α) := ⟨m.p ∧ m.v.length ≤ 100000, m.v⟩
theorem sz_of {n : Nat} (h : n ≤ 100000) : n ≤ sizeLine := Nat.le_trans h (by decide)
theorem RF.lst {m : R (List α)} (h : RL X M es env m) : RF X M (.List es pos) env (R.sz m) := .mk fun p =>
  EF.of (pe_lst star_pa) (RdF.lst (h p.1) (all_rep _) fun ds e => by rw [e, List.length_map]; exact sz_of p.2)
theorem RE.tu {m : R (List α)} {k : Nat} (h : RL X M es env m) : RE X M (.Tuple es k pos) env (R.map Tu.mk (R.sz m)) := .mk fun p =>
  EV.of (pe_tup star_pa) (RdE.imp (RdE.tup (h p.1) (all_rep _) fun ds e => by rw [e, List.length_map]; exact sz_of p.2) fun d ⟨ds, e1, e2⟩ => by rw [e2, e1]; rfl)
theorem RE.tup2 {m : R α} {n : R β} {k : Nat} (h : RA X M es env [true, true] (R.cons m (R.cons n R.nil))) : RE X M (.Tuple es k pos) env (R.tup2 m n) := .mk fun p =>
  EV.of (pe_tup star_pa) (RdE.imp (RdE.tup (h ⟨p.1, p.2, trivial⟩) rfl fun ds e => by rw [e]; exact sz_of (by simp)) fun d ⟨ds, e1, e2⟩ => by rw [e2, e1]; rfl)
theorem RE.tup3 {m : R α} {n : R β} {o : R γ} {k : Nat} (h : RA X M es env [true, true, true] (R.cons m (R.cons n (R.cons o R.nil)))) : RE X M (.Tuple es k pos) env (R.tup3 m n o) := .mk fun p =>
  EV.of (pe_tup star_pa) (RdE.imp (RdE.tup (h ⟨p.1, p.2.1, p.2.2, trivial⟩) rfl fun ds e => by rw [e]; exact sz_of (by simp)) fun d ⟨ds, e1, e2⟩ => by rw [e2, e1]; rfl)
/-! places of pairs -/
theorem RdB.con {K : PySem.W.Frag} {v : V} {d : D} (r : ∀ S, Den K S d v) : RdB K M (tC v) env (· = d) := fun S0 H0 σ S H st Q q => q d v S H rfl (.inl (r S)) (Step.refl st.gd.sub)
theorem place_rd {p2 : Pos} {j : Nat} {k : Int} {d0 : D} {ds : List D} (hk : ds[k.toNat]? = some d0) (h0 : 0 ≤ k) (ha : EB X M a env (· = .tuple ds)) (hs : PlainIx (.Constant (.int k) j p2)) :
    EV X M (.Subscript a (.Constant (.int k) j p2) pos) env (· = d0) :=
  EV.of (pe_ix ix_tup star_pe pe_int hs) (RdE.op ha (Q := fun _ e => e = .int k) (fun _ _ => RdB.con fun _ => .int k)
    fun d e' hd he S H x y g bx by' Q q => by
      subst he
      subst hd
      obtain ⟨p, vs, rfl, sq, r⟩ := bx.tup g
      obtain ⟨v, hv, rv⟩ := r.get hk
      have hl : k.toNat < vs.length := (List.getElem?_eq_some_iff.mp hv).1
      refine ⟨p, vs, k, v, rfl, by'.int, sub_sqt g.sub sq, ?_, q d0 v S H rfl rv (Step.refl g.sub)⟩
      unfold atI ixN
      rw [if_pos h0, if_pos (by omega)]
      exact hv)
section
variable {δ : Type} [Rep δ] {p2 : Pos} {j : Nat}
theorem RE.fst {m : R (α × β)} (h : RB X M a env m) (hs : PlainIx (.Constant (.int 0) j p2)) : RE X M (.Subscript a (.Constant (.int 0) j p2) pos) env (R.p1 m) := .mk fun p => place_rd (by rfl) (by decide) (h p) hs
theorem RE.snd {m : R (α × β)} (h : RB X M a env m) (hs : PlainIx (.Constant (.int 1) j p2)) : RE X M (.Subscript a (.Constant (.int 1) j p2) pos) env (R.p2 m) := .mk fun p => place_rd (by rfl) (by decide) (h p) hs
theorem RE.t31 {m : R (T3 α β γ)} (h : RB X M a env m) (hs : PlainIx (.Constant (.int 0) j p2)) : RE X M (.Subscript a (.Constant (.int 0) j p2) pos) env (R.t1 m) := .mk fun p => place_rd (by rfl) (by decide) (h p) hs
theorem RE.t32 {m : R (T3 α β γ)} (h : RB X M a env m) (hs : PlainIx (.Constant (.int 1) j p2)) : RE X M (.Subscript a (.Constant (.int 1) j p2) pos) env (R.t2 m) := .mk fun p => place_rd (by rfl) (by decide) (h p) hs
theorem RE.t33 {m : R (T3 α β γ)} (h : RB X M a env m) (hs : PlainIx (.Constant (.int 2) j p2)) : RE X M (.Subscript a (.Constant (.int 2) j p2) pos) env (R.t3 m) := .mk fun p => place_rd (by rfl) (by decide) (h p) hs
end
end
end FP
namespace FP
open PySem PySem.Spec PyProof.Rows L2
open Rep (rep)
/-! ### calls -/
def SpD (K : PySem.W.Frag) (T : Addr → Prop) (ms : List Bool) (G : List D → (D → Prop) → Prop) : Sp := fun vs H Q _ =>
  ∃ S ds P, Sub S H ∧ (∀ p, T p → TbG H p ∧ S p = none) ∧ Bors K (noM T) S H ms ds vs ∧ G ds P ∧ ∀ d v S' H', P d → Den K S' d v → Step (noM T) S H S' H' → Q v H'
theorem Bor.none {T : Addr → Prop} {K : PySem.W.Frag} {M : Mm} {S H : Hp} {d : D} {v : V} (b : Bor K M S H d v) : Bor K (noM T) S H d v := by
  rcases b with b | ⟨a, ds, vs, e1, e2, e3, _, r⟩
  · exact .inl b
  · exact .inr ⟨a, ds, vs, e1, e2, e3, fun z => z, r⟩
theorem Bors.none {T : Addr → Prop} {K : PySem.W.Frag} {M : Mm} {S H : Hp} : ∀ {ms : List Bool} {ds : List D} {vs : List V}, Bors K M S H ms ds vs → Bors K (noM T) S H ms ds vs
  | _, _, _, .nil => .nil
  | _, _, _, .im r b => .im r b.none
  | _, _, _, .br r b => .br r.none b.none
/-- a def that may be called: its promise, at a level -/
structure Fn (P : Program) (w : World) (K : PySem.W.Frag) (mg : Str → Option Value) (base : Heap) (k : Nat) (x : Str) (sp : Sp) : Prop where
  ex : ∃ (f : Addr) (fd : FuncData) (ps : List Str), FnOk P w K mg base CX0 k f fd ps sp ∧ mg x = some (.ref f) ∧ PySem.W.keepIn K (.ref f) = true ∧ Binds K fd ps []
section
variable {X : Cx} {M : Mm} {env : List Sl} {pos : Pos}
theorem pe_fn {k j : Nat} {nm : Str} {sp : Sp} {e : Expr} {es : List Expr} {t : TA} {p : Pos} (c : Fn X.prog X.w X.K X.mg X.base k nm sp) (hr : Room j X.A) (hk : k ≤ j) (hg : Gl X nm) (ha : PA X (e :: es) t)
    (hn : OkN nm) (he : starEach (e :: es) X.env = (false, eval e X.env) :: starEach es X.env := by rfl) (hpl : (backTo pos (starEach es X.env)).any (·.1) = false := by rfl) :
    PE X (.Call (.Name nm p) (e :: es) [] pos) (tCall sp [] E0 t) := by
  obtain ⟨f, fd, ps, F, hm, kp, b⟩ := c.ex
  exact pe_call F (hr.mono hk) hg hm kp b .nil pass0 ha hn.d he hpl
theorem EV.call {ms : List Bool} {G : List D → (D → Prop) → Prop} {A : List D → Prop} {P : D → Prop} {k j : Nat} {nm : Str} {e : Expr} {es : List Expr} {p : Pos} (c : Fn X.prog X.w X.K X.mg X.base k nm (SpD X.K M.t ms G)) (hr : Room j X.A) (hk : k ≤ j) (hg : Gl X nm)
    (ha : EA X M (e :: es) env ms A) (h : ∀ ds, A ds → G ds P)
    (hn : OkN nm) (he : starEach (e :: es) X.env = (false, eval e X.env) :: starEach es X.env := by rfl) (hpl : (backTo pos (starEach es X.env)).any (·.1) = false := by rfl) :
    EV X M (.Call (.Name nm p) (e :: es) [] pos) env P :=
  EV.of (pe_fn c hr hk hg star_pa hn he hpl) fun S0 H0 σ S H st Q q => by
    refine ha _ _ _ _ _ st _ fun ds vs S1 H1 ad bs t1 => ?_
    rw [List.append_nil]
    exact ⟨S1, ds, P, (st.step t1).gd.sub, (st.step t1).gd.tab, bs.none, h ds ad, fun d v S' H' pd r t => q d v S' H' pd r (t1.trans t.none)⟩
def G1 {α0 β : Type} [Rep α0] [Rep β] (f : α0 → R β) : List D → (D → Prop) → Prop := fun ds P => ∃ x0, ds = [rep x0] ∧ (f x0).p ∧ P (rep (f x0).v)
@[simp] def R.c1 {α0 β : Type} (f : α0 → R β) (m0 : R α0) : R β := ⟨m0.p ∧ (f m0.v).p, (f m0.v).v⟩
theorem RE.call1 {α0 β : Type} [Rep α0] [Rep β] {f : α0 → R β} {k j : Nat} {nm : Str} {ms : List Bool} {e0 : Expr} {p0 : Pos} {m0 : R α0}
    (c : Fn X.prog X.w X.K X.mg X.base k nm (SpD X.K M.t ms (G1 f))) (hr : Room j X.A) (hk : k ≤ j) (hg : Gl X nm) (ha : RA X M [e0] env ms (R.cons m0 R.nil))
    (hn : OkN nm) (he : starEach (e0 :: []) X.env = (false, eval e0 X.env) :: starEach [] X.env := by rfl) (hpl : (backTo pos (starEach [] X.env)).any (·.1) = false := by rfl) :
    RE X M (.Call (.Name nm p0) [e0] [] pos) env (R.c1 f m0) := .mk fun p =>
  EV.call c hr hk hg (ha ⟨p.1, trivial⟩) (fun ds e => ⟨m0.v, e, p.2, rfl⟩) hn he hpl
def G2 {α0 α1 β : Type} [Rep α0] [Rep α1] [Rep β] (f : α0 → α1 → R β) : List D → (D → Prop) → Prop := fun ds P => ∃ x0 x1, ds = [rep x0, rep x1] ∧ (f x0 x1).p ∧ P (rep (f x0 x1).v)
@[simp] def R.c2 {α0 α1 β : Type} (f : α0 → α1 → R β) (m0 : R α0) (m1 : R α1) : R β := ⟨m0.p ∧ m1.p ∧ (f m0.v m1.v).p, (f m0.v m1.v).v⟩
theorem RE.call2 {α0 α1 β : Type} [Rep α0] [Rep α1] [Rep β] {f : α0 → α1 → R β} {k j : Nat} {nm : Str} {ms : List Bool} {e0 e1 : Expr} {p0 : Pos} {m0 : R α0} {m1 : R α1}
    (c : Fn X.prog X.w X.K X.mg X.base k nm (SpD X.K M.t ms (G2 f))) (hr : Room j X.A) (hk : k ≤ j) (hg : Gl X nm) (ha : RA X M [e0, e1] env ms (R.cons m0 (R.cons m1 R.nil)))
    (hn : OkN nm) (he : starEach (e0 :: [e1]) X.env = (false, eval e0 X.env) :: starEach [e1] X.env := by rfl) (hpl : (backTo pos (starEach [e1] X.env)).any (·.1) = false := by rfl) :
    RE X M (.Call (.Name nm p0) [e0, e1] [] pos) env (R.c2 f m0 m1) := .mk fun p =>
  EV.call c hr hk hg (ha ⟨p.1, p.2.1, trivial⟩) (fun ds e => ⟨m0.v, m1.v, e, p.2.2, rfl⟩) hn he hpl
def G3 {α0 α1 α2 β : Type} [Rep α0] [Rep α1] [Rep α2] [Rep β] (f : α0 → α1 → α2 → R β) : List D → (D → Prop) → Prop := fun ds P => ∃ x0 x1 x2, ds = [rep x0, rep x1, rep x2] ∧ (f x0 x1 x2).p ∧ P (rep (f x0 x1 x2).v)
@[simp] def R.c3 {α0 α1 α2 β : Type} (f : α0 → α1 → α2 → R β) (m0 : R α0) (m1 : R α1) (m2 : R α2) : R β := ⟨m0.p ∧ m1.p ∧ m2.p ∧ (f m0.v m1.v m2.v).p, (f m0.v m1.v m2.v).v⟩
theorem RE.call3 {α0 α1 α2 β : Type} [Rep α0] [Rep α1] [Rep α2] [Rep β] {f : α0 → α1 → α2 → R β} {k j : Nat} {nm : Str} {ms : List Bool} {e0 e1 e2 : Expr} {p0 : Pos} {m0 : R α0} {m1 : R α1} {m2 : R α2}
    (c : Fn X.prog X.w X.K X.mg X.base k nm (SpD X.K M.t ms (G3 f))) (hr : Room j X.A) (hk : k ≤ j) (hg : Gl X nm) (ha : RA X M [e0, e1, e2] env ms (R.cons m0 (R.cons m1 (R.cons m2 R.nil))))
    (hn : OkN nm) (he : starEach (e0 :: [e1, e2]) X.env = (false, eval e0 X.env) :: starEach [e1, e2] X.env := by rfl) (hpl : (backTo pos (starEach [e1, e2] X.env)).any (·.1) = false := by rfl) :
    RE X M (.Call (.Name nm p0) [e0, e1, e2] [] pos) env (R.c3 f m0 m1 m2) := .mk fun p =>
  EV.call c hr hk hg (ha ⟨p.1, p.2.1, p.2.2.1, trivial⟩) (fun ds e => ⟨m0.v, m1.v, m2.v, e, p.2.2.2, rfl⟩) hn he hpl
def G4 {α0 α1 α2 α3 β : Type} [Rep α0] [Rep α1] [Rep α2] [Rep α3] [Rep β] (f : α0 → α1 → α2 → α3 → R β) : List D → (D → Prop) → Prop := fun ds P => ∃ x0 x1 x2 x3, ds = [rep x0, rep x1, rep x2, rep x3] ∧ (f x0 x1 x2 x3).p ∧ P (rep (f x0 x1 x2 x3).v)
@[simp] def R.c4 {α0 α1 α2 α3 β : Type} (f : α0 → α1 → α2 → α3 → R β) (m0 : R α0) (m1 : R α1) (m2 : R α2) (m3 : R α3) : R β := ⟨m0.p ∧ m1.p ∧ m2.p ∧ m3.p ∧ (f m0.v m1.v m2.v m3.v).p, (f m0.v m1.v m2.v m3.v).v⟩
theorem RE.call4 {α0 α1 α2 α3 β : Type} [Rep α0] [Rep α1] [Rep α2] [Rep α3] [Rep β] {f : α0 → α1 → α2 → α3 → R β} {k j : Nat} {nm : Str} {ms : List Bool} {e0 e1 e2 e3 : Expr} {p0 : Pos} {m0 : R α0} {m1 : R α1} {m2 : R α2} {m3 : R α3}
    (c : Fn X.prog X.w X.K X.mg X.base k nm (SpD X.K M.t ms (G4 f))) (hr : Room j X.A) (hk : k ≤ j) (hg : Gl X nm) (ha : RA X M [e0, e1, e2, e3] env ms (R.cons m0 (R.cons m1 (R.cons m2 (R.cons m3 R.nil)))))
    (hn : OkN nm) (he : starEach (e0 :: [e1, e2, e3]) X.env = (false, eval e0 X.env) :: starEach [e1, e2, e3] X.env := by rfl) (hpl : (backTo pos (starEach [e1, e2, e3] X.env)).any (·.1) = false := by rfl) :
    RE X M (.Call (.Name nm p0) [e0, e1, e2, e3] [] pos) env (R.c4 f m0 m1 m2 m3) := .mk fun p =>
  EV.call c hr hk hg (ha ⟨p.1, p.2.1, p.2.2.1, p.2.2.2.1, trivial⟩) (fun ds e => ⟨m0.v, m1.v, m2.v, m3.v, e, p.2.2.2.2, rfl⟩) hn he hpl
def G5 {α0 α1 α2 α3 α4 β : Type} [Rep α0] [Rep α1] [Rep α2] [Rep α3] [Rep α4] [Rep β] (f : α0 → α1 → α2 → α3 → α4 → R β) : List D → (D → Prop) → Prop := fun ds P => ∃ x0 x1 x2 x3 x4, ds = [rep x0, rep x1, rep x2, rep x3, rep x4] ∧ (f x0 x1 x2 x3 x4).p ∧ P (rep (f x0 x1 x2 x3 x4).v)
@[simp] def R.c5 {α0 α1 α2 α3 α4 β : Type} (f : α0 → α1 → α2 → α3 → α4 → R β) (m0 : R α0) (m1 : R α1) (m2 : R α2) (m3 : R α3) (m4 : R α4) : R β := ⟨m0.p ∧ m1.p ∧ m2.p ∧ m3.p ∧ m4.p ∧ (f m0.v m1.v m2.v m3.v m4.v).p, (f m0.v m1.v m2.v m3.v m4.v).v⟩
theorem RE.call5 {α0 α1 α2 α3 α4 β : Type} [Rep α0] [Rep α1] [Rep α2] [Rep α3] [Rep α4] [Rep β] {f : α0 → α1 → α2 → α3 → α4 → R β} {k j : Nat} {nm : Str} {ms : List Bool} {e0 e1 e2 e3 e4 : Expr} {p0 : Pos} {m0 : R α0} {m1 : R α1} {m2 : R α2} {m3 : R α3} {m4 : R α4}
    (c : Fn X.prog X.w X.K X.mg X.base k nm (SpD X.K M.t ms (G5 f))) (hr : Room j X.A) (hk : k ≤ j) (hg : Gl X nm) (ha : RA X M [e0, e1, e2, e3, e4] env ms (R.cons m0 (R.cons m1 (R.cons m2 (R.cons m3 (R.cons m4 R.nil))))))
    (hn : OkN nm) (he : starEach (e0 :: [e1, e2, e3, e4]) X.env = (false, eval e0 X.env) :: starEach [e1, e2, e3, e4] X.env := by rfl) (hpl : (backTo pos (starEach [e1, e2, e3, e4] X.env)).any (·.1) = false := by rfl) :
    RE X M (.Call (.Name nm p0) [e0, e1, e2, e3, e4] [] pos) env (R.c5 f m0 m1 m2 m3 m4) := .mk fun p =>
  EV.call c hr hk hg (ha ⟨p.1, p.2.1, p.2.2.1, p.2.2.2.1, p.2.2.2.2.1, trivial⟩) (fun ds e => ⟨m0.v, m1.v, m2.v, m3.v, m4.v, e, p.2.2.2.2.2, rfl⟩) hn he hpl
def G6 {α0 α1 α2 α3 α4 α5 β : Type} [Rep α0] [Rep α1] [Rep α2] [Rep α3] [Rep α4] [Rep α5] [Rep β] (f : α0 → α1 → α2 → α3 → α4 → α5 → R β) : List D → (D → Prop) → Prop := fun ds P => ∃ x0 x1 x2 x3 x4 x5, ds = [rep x0, rep x1, rep x2, rep x3, rep x4, rep x5] ∧ (f x0 x1 x2 x3 x4 x5).p ∧ P (rep (f x0 x1 x2 x3 x4 x5).v)
@[simp] def R.c6 {α0 α1 α2 α3 α4 α5 β : Type} (f : α0 → α1 → α2 → α3 → α4 → α5 → R β) (m0 : R α0) (m1 : R α1) (m2 : R α2) (m3 : R α3) (m4 : R α4) (m5 : R α5) : R β := ⟨m0.p ∧ m1.p ∧ m2.p ∧ m3.p ∧ m4.p ∧ m5.p ∧ (f m0.v m1.v m2.v m3.v m4.v m5.v).p, (f m0.v m1.v m2.v m3.v m4.v m5.v).v⟩
theorem RE.call6 {α0 α1 α2 α3 α4 α5 β : Type} [Rep α0] [Rep α1] [Rep α2] [Rep α3] [Rep α4] [Rep α5] [Rep β] {f : α0 → α1 → α2 → α3 → α4 → α5 → R β} {k j : Nat} {nm : Str} {ms : List Bool} {e0 e1 e2 e3 e4 e5 : Expr} {p0 : Pos} {m0 : R α0} {m1 : R α1} {m2 : R α2} {m3 : R α3} {m4 : R α4} {m5 : R α5}
    (c : Fn X.prog X.w X.K X.mg X.base k nm (SpD X.K M.t ms (G6 f))) (hr : Room j X.A) (hk : k ≤ j) (hg : Gl X nm) (ha : RA X M [e0, e1, e2, e3, e4, e5] env ms (R.cons m0 (R.cons m1 (R.cons m2 (R.cons m3 (R.cons m4 (R.cons m5 R.nil)))))))
    (hn : OkN nm) (he : starEach (e0 :: [e1, e2, e3, e4, e5]) X.env = (false, eval e0 X.env) :: starEach [e1, e2, e3, e4, e5] X.env := by rfl) (hpl : (backTo pos (starEach [e1, e2, e3, e4, e5] X.env)).any (·.1) = false := by rfl) :
    RE X M (.Call (.Name nm p0) [e0, e1, e2, e3, e4, e5] [] pos) env (R.c6 f m0 m1 m2 m3 m4 m5) := .mk fun p =>
  EV.call c hr hk hg (ha ⟨p.1, p.2.1, p.2.2.1, p.2.2.2.1, p.2.2.2.2.1, p.2.2.2.2.2.1, trivial⟩) (fun ds e => ⟨m0.v, m1.v, m2.v, m3.v, m4.v, m5.v, e, p.2.2.2.2.2.2, rfl⟩) hn he hpl
def G7 {α0 α1 α2 α3 α4 α5 α6 β : Type} [Rep α0] [Rep α1] [Rep α2] [Rep α3] [Rep α4] [Rep α5] [Rep α6] [Rep β] (f : α0 → α1 → α2 → α3 → α4 → α5 → α6 → R β) : List D → (D → Prop) → Prop := fun ds P => ∃ x0 x1 x2 x3 x4 x5 x6, ds = [rep x0, rep x1, rep x2, rep x3, rep x4, rep x5, rep x6] ∧ (f x0 x1 x2 x3 x4 x5 x6).p ∧ P (rep (f x0 x1 x2 x3 x4 x5 x6).v)
@[simp] def R.c7 {α0 α1 α2 α3 α4 α5 α6 β : Type} (f : α0 → α1 → α2 → α3 → α4 → α5 → α6 → R β) (m0 : R α0) (m1 : R α1) (m2 : R α2) (m3 : R α3) (m4 : R α4) (m5 : R α5) (m6 : R α6) : R β := ⟨m0.p ∧ m1.p ∧ m2.p ∧ m3.p ∧ m4.p ∧ m5.p ∧ m6.p ∧ (f m0.v m1.v m2.v m3.v m4.v m5.v m6.v).p, (f m0.v m1.v m2.v m3.v m4.v m5.v m6.v).v⟩
theorem RE.call7 {α0 α1 α2 α3 α4 α5 α6 β : Type} [Rep α0] [Rep α1] [Rep α2] [Rep α3] [Rep α4] [Rep α5] [Rep α6] [Rep β] {f : α0 → α1 → α2 → α3 → α4 → α5 → α6 → R β} {k j : Nat} {nm : Str} {ms : List Bool} {e0 e1 e2 e3 e4 e5 e6 : Expr} {p0 : Pos} {m0 : R α0} {m1 : R α1} {m2 : R α2} {m3 : R α3} {m4 : R α4} {m5 : R α5} {m6 : R α6}
    (c : Fn X.prog X.w X.K X.mg X.base k nm (SpD X.K M.t ms (G7 f))) (hr : Room j X.A) (hk : k ≤ j) (hg : Gl X nm) (ha : RA X M [e0, e1, e2, e3, e4, e5, e6] env ms (R.cons m0 (R.cons m1 (R.cons m2 (R.cons m3 (R.cons m4 (R.cons m5 (R.cons m6 R.nil))))))))
    (hn : OkN nm) (he : starEach (e0 :: [e1, e2, e3, e4, e5, e6]) X.env = (false, eval e0 X.env) :: starEach [e1, e2, e3, e4, e5, e6] X.env := by rfl) (hpl : (backTo pos (starEach [e1, e2, e3, e4, e5, e6] X.env)).any (·.1) = false := by rfl) :
    RE X M (.Call (.Name nm p0) [e0, e1, e2, e3, e4, e5, e6] [] pos) env (R.c7 f m0 m1 m2 m3 m4 m5 m6) := .mk fun p =>
  EV.call c hr hk hg (ha ⟨p.1, p.2.1, p.2.2.1, p.2.2.2.1, p.2.2.2.2.1, p.2.2.2.2.2.1, p.2.2.2.2.2.2.1, trivial⟩) (fun ds e => ⟨m0.v, m1.v, m2.v, m3.v, m4.v, m5.v, m6.v, e, p.2.2.2.2.2.2.2, rfl⟩) hn he hpl
def G8 {α0 α1 α2 α3 α4 α5 α6 α7 β : Type} [Rep α0] [Rep α1] [Rep α2] [Rep α3] [Rep α4] [Rep α5] [Rep α6] [Rep α7] [Rep β] (f : α0 → α1 → α2 → α3 → α4 → α5 → α6 → α7 → R β) : List D → (D → Prop) → Prop := fun ds P => ∃ x0 x1 x2 x3 x4 x5 x6 x7, ds = [rep x0, rep x1, rep x2, rep x3, rep x4, rep x5, rep x6, rep x7] ∧ (f x0 x1 x2 x3 x4 x5 x6 x7).p ∧ P (rep (f x0 x1 x2 x3 x4 x5 x6 x7).v)
@[simp] def R.c8 {α0 α1 α2 α3 α4 α5 α6 α7 β : Type} (f : α0 → α1 → α2 → α3 → α4 → α5 → α6 → α7 → R β) (m0 : R α0) (m1 : R α1) (m2 : R α2) (m3 : R α3) (m4 : R α4) (m5 : R α5) (m6 : R α6) (m7 : R α7) : R β := ⟨m0.p ∧ m1.p ∧ m2.p ∧ m3.p ∧ m4.p ∧ m5.p ∧ m6.p ∧ m7.p ∧ (f m0.v m1.v m2.v m3.v m4.v m5.v m6.v m7.v).p, (f m0.v m1.v m2.v m3.v m4.v m5.v m6.v m7.v).v⟩
theorem RE.call8 {α0 α1 α2 α3 α4 α5 α6 α7 β : Type} [Rep α0] [Rep α1] [Rep α2] [Rep α3] [Rep α4] [Rep α5] [Rep α6] [Rep α7] [Rep β] {f : α0 → α1 → α2 → α3 → α4 → α5 → α6 → α7 → R β} {k j : Nat} {nm : Str} {ms : List Bool} {e0 e1 e2 e3 e4 e5 e6 e7 : Expr} {p0 : Pos} {m0 : R α0} {m1 : R α1} {m2 : R α2} {m3 : R α3} {m4 : R α4} {m5 : R α5} {m6 : R α6} {m7 : R α7}
    (c : Fn X.prog X.w X.K X.mg X.base k nm (SpD X.K M.t ms (G8 f))) (hr : Room j X.A) (hk : k ≤ j) (hg : Gl X nm) (ha : RA X M [e0, e1, e2, e3, e4, e5, e6, e7] env ms (R.cons m0 (R.cons m1 (R.cons m2 (R.cons m3 (R.cons m4 (R.cons m5 (R.cons m6 (R.cons m7 R.nil)))))))))
    (hn : OkN nm) (he : starEach (e0 :: [e1, e2, e3, e4, e5, e6, e7]) X.env = (false, eval e0 X.env) :: starEach [e1, e2, e3, e4, e5, e6, e7] X.env := by rfl) (hpl : (backTo pos (starEach [e1, e2, e3, e4, e5, e6, e7] X.env)).any (·.1) = false := by rfl) :
    RE X M (.Call (.Name nm p0) [e0, e1, e2, e3, e4, e5, e6, e7] [] pos) env (R.c8 f m0 m1 m2 m3 m4 m5 m6 m7) := .mk fun p =>
  EV.call c hr hk hg (ha ⟨p.1, p.2.1, p.2.2.1, p.2.2.2.1, p.2.2.2.2.1, p.2.2.2.2.2.1, p.2.2.2.2.2.2.1, p.2.2.2.2.2.2.2.1, trivial⟩) (fun ds e => ⟨m0.v, m1.v, m2.v, m3.v, m4.v, m5.v, m6.v, m7.v, e, p.2.2.2.2.2.2.2.2, rfl⟩) hn he hpl
end

/-! ### what is walked -/
def Rch (K : PySem.W.Frag) (M : Mm) (lp : Bool) (S0 H0 S1 H1 S H : Hp) : Prop := Gd M S H ∧ Sub S1 S ∧ (if lp = true then Step M S0 H0 S H else Step M S1 H1 S H)
structure ItOk (K : PySem.W.Frag) (M : Mm) (rch : Hp → Hp → Prop) (ds : List D) (J : It) : Prop where
  go : ∀ (S H : Hp) (i : Nat) (d : D), rch S H → ds[i]? = some d → J.go i H ∧ ∀ x H', J.yld i H x H' → ∃ S', Step M S H S' H' ∧ Den K S' d x
  stop : ∀ (S H : Hp) (i : Nat), rch S H → ds.length ≤ i → i ≤ ds.length → J.stop i H
def RdI (K : PySem.W.Frag) (M : Mm) (lp : Bool) (wi : TI) (env : List Sl) (P : List D → Prop) : Prop :=
  ∀ S0 H0 σ S H, St0 K M S0 H0 S H env σ → ∀ Rr : It → Hp → Prop, (∀ ds J S1 H1, P ds → Step M S H S1 H1 → ItOk K M (Rch K M lp S0 H0 S1 H1) ds J → Rr J H1) → wi σ H Rr
/-- a list that is walked -/
def RdP (K : PySem.W.Frag) (M : Mm) (lp : Bool) (te : TE) (env : List Sl) (P : List D → Prop) : Prop :=
  ∀ S0 H0 σ S H, St0 K M S0 H0 S H env σ → ∀ Q : VK, (∀ ds a S1 H1, P ds → Step M S H S1 H1 → (∀ S' H', Rch K M lp S0 H0 S1 H1 S' H' → ∃ vs, H' a = some (.lst vs) ∧ Dens K S' ds vs) → Q (.ref a) H1) → te σ H Q
def starI (X : Cx) (tg iter : Expr) : TI := fun σ H Rr => ∀ pins s, L2.Inv X pins σ H s → wpAny (model X.prog X.w) X.A (eval iter X.env) (fun v s1 => wpAny (model X.prog X.w) X.A (pyIter v) (PIE X pins σ tg Rr) X.xe s1) X.xe s
theorem star_pi {X : Cx} {tg iter : Expr} : PI X tg iter (starI X tg iter) := ⟨fun pins s σ H Rr I h => h pins s I⟩
structure RI (X : Cx) (M : Mm) (lp : Bool) {α : Type} [Rep α] (tg iter : Expr) (env : List Sl) (m : R (List α)) : Prop where
  run : m.p → RdI X.K M lp (starI X tg iter) env (· = m.v.map rep)
instance {X : Cx} {M : Mm} {lp : Bool} {α : Type} [Rep α] {tg iter : Expr} {env : List Sl} {m : R (List α)} : CoeFun (RI X M lp tg iter env m) (fun _ => m.p → RdI X.K M lp (starI X tg iter) env (· = m.v.map rep)) := ⟨RI.run⟩
structure RP (X : Cx) (M : Mm) (lp : Bool) {α : Type} [Rep α] (e : Expr) (env : List Sl) (m : R (List α)) : Prop where
  run : m.p → RdP X.K M lp (star X e) env (· = m.v.map rep)
instance {X : Cx} {M : Mm} {lp : Bool} {α : Type} [Rep α] {e : Expr} {env : List Sl} {m : R (List α)} : CoeFun (RP X M lp e env m) (fun _ => m.p → RdP X.K M lp (star X e) env (· = m.v.map rep)) := ⟨RP.run⟩
section
variable {X : Cx} {M : Mm} {env : List Sl} {pos : Pos} {lp : Bool} {α β : Type} [Rep α] [Rep β] {tg iter e a b c : Expr} {wi : TI}
theorem RdI.of {P : List D → Prop} (h : PI X tg iter wi) (r : RdI X.K M lp wi env P) : RdI X.K M lp (starI X tg iter) env P := fun S0 H0 σ S H st Q q pins s I => h.run pins s σ H Q I (r S0 H0 σ S H st Q q)
theorem Rch.step {K : PySem.W.Frag} {S0 H0 S1 H1 S H S' H' : Hp} (h : Rch K M lp S0 H0 S1 H1 S H) (t : Step M S H S' H') : Rch K M lp S0 H0 S1 H1 S' H' := by
  obtain ⟨g, sb, s⟩ := h
  refine ⟨g.step t, fun a o e => t.ss a o (sb a o e), ?_⟩
  cases lp with
  | true => exact Step.trans s t
  | false => exact Step.trans s t
theorem RP.ofE {m : R (List α)} (h : RE X M e env m) : RP X M lp e env m := .mk fun p S0 H0 σ S H st Q q => h p _ _ _ _ _ st _ fun d v S1 H1 ed r t => by
  subst ed
  cases r with
  | lst e' r => exact q _ _ S1 H1 rfl t fun S' H' rc => ⟨_, rc.1.sub _ _ (rc.2.1 _ _ e'), r.mon rc.2.1⟩
theorem RP.ofB {m : R (List α)} (h : RB X M e env m) : RP X M false e env m := .mk fun p S0 H0 σ S H st Q q => h p _ _ _ _ _ st _ fun d v S1 H1 ed r t => by
  subst ed
  obtain ⟨a, vs, rfl, e1, nm, r⟩ := r.lst (st.step t).gd
  exact q _ _ S1 H1 rfl t fun S' H' rc => ⟨_, Step.ext (show Step M S1 H1 S' H' from rc.2.2) _ _ e1 nm lst_noT, r.mon rc.2.1⟩
theorem RP.br {x : List α} (i : Nat) {nm : Str} (hi : env[i]? = some (.br (x.map rep))) (hN : X.N[i]? = some nm) (hv : Vis X.env.scope nm) (hk : OkN nm) : RP X M lp (.Name nm pos) env (R.pure x) := .mk fun _ S0 H0 σ S H st Q q pins s I => (pe_var hN hv hk.d hk.c).run pins s σ H Q I (by
    obtain ⟨O, _, _, sl⟩ := st.own
    obtain ⟨p, vs, e1, e2, e3, r⟩ := sl i _ hi
    refine ⟨_, e1, q _ _ S H rfl (Step.refl st.gd.sub) fun S' H' rc => ⟨vs, ?_, r.mon rc.2.1⟩⟩
    obtain ⟨_, _, rc⟩ := rc
    cases lp with
    | true => exact Step.ext (show Step M S0 H0 S' H' from rc) _ _ e2 e3 lst_noT
    | false => exact Step.ext (show Step M S H S' H' from rc) _ _ (st.stp.ext _ _ e2 e3 lst_noT) e3 lst_noT)
theorem sql_of {K : PySem.W.Frag} {H : Hp} {a : Addr} {vs : List V} (h : H a = some (.lst vs)) : SqL K H a vs := .inl (.inl h)
theorem RI.list {m : R (List α)} (h : RP X M lp iter env m) : RI X M lp tg iter env m := .mk fun p => RdI.of (pi_list star_pe) fun S0 H0 σ S H st Rr q =>
  h p _ _ _ _ _ st _ fun ds a S1 H1 ed t hp => by
    obtain ⟨vs0, e0, _⟩ := hp S1 H1 ⟨(st.step t).gd, fun _ _ e => e, by
      cases lp with
      | true => exact st.stp.trans t
      | false => exact Step.refl (st.step t).gd.sub⟩
    refine ⟨a, rfl, ⟨vs0, sql_of e0⟩, q ds _ S1 H1 ed t ⟨fun S' H' i d rc hd => ?_, fun S' H' i rc hd hd2 => ?_⟩⟩
    · obtain ⟨vs, e1, r⟩ := hp S' H' rc
      obtain ⟨v, hv, rv⟩ := r.get hd
      refine ⟨⟨vs, v, sql_of e1, hv⟩, fun x H2 y => ?_⟩
      obtain ⟨rfl, y⟩ := y
      have e2 := y vs (sql_of e1)
      rw [hv] at e2
      cases e2
      exact ⟨S', Step.refl rc.1.sub, rv⟩
    · obtain ⟨vs, e1, r⟩ := hp S' H' rc
      exact ⟨vs, sql_of e1, by rw [← r.length]; exact hd⟩
/-- a tuple that is walked -/
theorem RI.tup {m : R (Tu α)} (h : RE X M iter env m) : RI X M lp tg iter env (R.map Tu.l m) := .mk fun p => RdI.of (pi_tup star_pe) fun S0 H0 σ S H st Rr q =>
  h p _ _ _ _ _ st _ fun d v S1 H1 ed r t => by
    subst ed
    cases r with
    | tup e' r =>
      rename_i a vs
      refine ⟨a, rfl, ⟨vs, sub_sqt (st.step t).gd.sub e'⟩, q _ _ S1 H1 rfl t ⟨fun S' H' i d rc hd => ?_, fun S' H' i rc hd hd2 => ?_⟩⟩
      · obtain ⟨v, hv, rv⟩ := r.get hd
        have sq := sub_sqt rc.1.sub (sub_sqt rc.2.1 e')
        refine ⟨⟨vs, v, sq, hv⟩, fun x H2 y => ?_⟩
        obtain ⟨rfl, y⟩ := y
        have e2 := y vs sq
        rw [hv] at e2
        cases e2
        exact ⟨S', Step.refl rc.1.sub, rv.mon rc.2.1⟩
      · exact ⟨vs, sub_sqt rc.1.sub (sub_sqt rc.2.1 e'), by rw [← r.length]; exact hd⟩
/-- lo, lo + 1, .. below hi -/
def rng (lo hi : Int) : List Int := (List.range (hi - lo).toNat).map fun (i : Nat) => lo + (i : Int)
theorem rng_len {lo hi : Int} : (rng lo hi).length = (hi - lo).toNat := by simp [rng]
theorem rng_get {lo hi : Int} {i : Nat} {x : D} (h : ((rng lo hi).map rep)[i]? = some x) : i < (hi - lo).toNat ∧ x = .int (lo + (i : Int)) := by
  have hl : i < (hi - lo).toNat := by
    have := (List.getElem?_eq_some_iff.mp h).1
    simpa [rng] using this
  refine ⟨hl, ?_⟩
  unfold rng at h
  rw [List.map_map, List.getElem?_map, List.getElem?_range hl] at h
  exact (Option.some.inj h).symm
theorem rng_it {K : PySem.W.Frag} {rch : Hp → Hp → Prop} {lo hi : Int} (hr : ∀ S H, rch S H → Gd M S H) : ItOk K M rch ((rng lo hi).map rep) (Itr lo (hi - lo).toNat) where
  go := fun S H i d rc hd => by
    obtain ⟨hl, rfl⟩ := rng_get hd
    exact ⟨hl, fun x H' ⟨e1, e2⟩ => ⟨S, by rw [e1]; exact Step.refl (hr S H rc).sub, by rw [e2]; exact .int _⟩⟩
  stop := fun S H i rc hd _ => by
    rw [List.length_map, rng_len] at hd
    exact hd
@[simp] def R.rng1 (m : R Int) : R (List Int) := R.o1 (fun n : Int => n ≤ 1000000) (fun n => rng 0 n) ⟨m.p ∧ -1000000 ≤ m.v, m.v⟩
@[simp] def R.rng2 (m n : R Int) : R (List Int) := R.o2 (fun i j : Int => (-1000000 ≤ i ∧ i ≤ 1000000) ∧ -1000000 ≤ j ∧ j ≤ 1000000) rng m n
theorem RI.range1 {m : R Int} {p0 : Pos} (hg : Gl X "range") (hm : X.mg "range" = none) (h : RB X M a env m) (hs : starEach [a] X.env = [(false, eval a X.env)] := by rfl) :
    RI X M lp tg (.Call (.Name "range" p0) [a] [] pos) env (R.rng1 m) := .mk fun p => RdI.of (pi_range1 hg hm (pa_cons star_pe pa_nil (by rw [hs]; rfl)) hs) fun S0 H0 σ S H st Rr q =>
  h p.1.1 _ _ _ _ _ st _ fun d v S1 H1 ed r t => by
    subst ed
    rw [r.int]
    have h1 := p.1.2
    have h2 := p.2
    have e : (m.v - 0).toNat = m.v.toNat := by rw [Int.sub_zero]
    refine ⟨m.v, rfl, ?_, ?_, ?_⟩
    · have h1' : -1000000 ≤ m.v := h1
      omega
    · have h2' : m.v ≤ 1000000 := h2
      omega
    · rw [← e]
      exact q _ _ S1 H1 rfl t (rng_it fun S H rc => rc.1)
theorem RI.range2 {m n : R Int} {p0 : Pos} (hg : Gl X "range") (hm : X.mg "range" = none) (h : RB X M a env m) (h' : RB X M b env n) (hs : starEach [a, b] X.env = [(false, eval a X.env), (false, eval b X.env)] := by rfl) (hs2 : starEach [b] X.env = [(false, eval b X.env)] := by rfl) :
    RI X M lp tg (.Call (.Name "range" p0) [a, b] [] pos) env (R.rng2 m n) := .mk fun p => RdI.of (pi_range2 hg hm (pa_cons star_pe (pa_cons star_pe pa_nil (by rw [hs2]; rfl)) (by rw [hs, hs2])) hs hs2) fun S0 H0 σ S H st Rr q =>
  h p.1 _ _ _ _ _ st _ fun d v S1 H1 ed r t => by
    subst ed
    refine h' p.2.1 _ _ _ _ _ (st.step t) _ fun d v S2 H2 ed r2 t2 => ?_
    subst ed
    rw [r.int, r2.int]
    have h1 : (-1000000 ≤ m.v ∧ m.v ≤ 1000000) ∧ -1000000 ≤ n.v ∧ n.v ≤ 1000000 := p.2.2
    exact ⟨m.v, n.v, rfl, ⟨by omega, by omega, by omega, by omega⟩, q _ _ S2 H2 rfl (t.trans t2) (rng_it fun S H rc => rc.1)⟩
/-- (0, x), (1, y), .. -/
def enum {α : Type} (l : List α) : List (Int × α) := l.zipIdx.map fun p => ((p.2 : Int), p.1)
theorem enum_get {l : List α} {i : Nat} {d : D} (h : ((enum l).map rep)[i]? = some d) : ∃ x, l[i]? = some x ∧ d = .tuple [.int (i : Int), rep x] := by
  unfold enum at h
  rw [List.map_map, List.getElem?_map, List.getElem?_zipIdx] at h
  cases e : l[i]? with
  | none => rw [e] at h; cases h
  | some x => rw [e] at h; refine ⟨x, rfl, ?_⟩; simp at h; exact h.symm
theorem enum_len {l : List α} : (enum l).length = l.length := by simp [enum]
theorem newtup {K : PySem.W.Frag} {S H : Hp} (g : Gd M S H) {T : Addr} {vs : List V} {ds : List D} (h : H T = none) (r : Dens K S ds vs) : ∃ S', Step M S H S' (upd H T (.tup vs)) ∧ Den K S' (.tuple ds) (.ref T) :=
  ⟨_, Step.newS g (.tup vs) h, .tup (.inl (.inl upd_same)) (r.mon (Step.newS g (.tup vs) h).ss)⟩
@[simp] def R.enum {α : Type} (m : R (List α)) : R (List (Int × α)) := R.map FP.enum m
theorem RI.enum {elts : List Expr} {kk : Nat} {tpos p0 : Pos} {m : R (List α)} (hg : Gl X "enumerate") (hm : X.mg "enumerate" = none) (h : RP X M lp e env m) (hs : starEach [e] X.env = (false, eval e X.env) :: starEach [] X.env := by rfl)
    (hpi : ∀ ta, PA X [e] ta → PI X (.Tuple elts kk tpos) (.Call (.Name "enumerate" p0) [e] [] pos) (iEnum X.K ta) := by intro ta h; exact pi_enum (by assumption) (by assumption) h) :
    RI X M lp (.Tuple elts kk tpos) (.Call (.Name "enumerate" p0) [e] [] pos) env (R.enum m) := .mk fun p => RdI.of (hpi _ (pa_cons star_pe pa_nil hs)) fun S0 H0 σ S H st Rr q =>
  h p _ _ _ _ _ st _ fun ds a S1 H1 ed t hp => by
    subst ed
    obtain ⟨vs0, e0, _⟩ := hp S1 H1 ⟨(st.step t).gd, fun _ _ e => e, by
      cases lp with
      | true => exact st.stp.trans t
      | false => exact Step.refl (st.step t).gd.sub⟩
    refine ⟨a, vs0, rfl, sql_of e0, q _ _ S1 H1 rfl t ⟨fun S' H' i d rc hd => ?_, fun S' H' i rc hd hd2 => ?_⟩⟩
    · obtain ⟨x, hx, rfl⟩ := enum_get hd
      obtain ⟨vs, e1, r⟩ := hp S' H' rc
      obtain ⟨v, hv, rv⟩ := r.get (show (m.v.map rep)[i]? = some (rep x) by rw [List.getElem?_map, hx]; rfl)
      refine ⟨⟨vs, v, sql_of e1, hv⟩, fun y H2 yy => ?_⟩
      obtain ⟨T, z, rfl, hT, rfl, hz⟩ := yy
      have e2 := hz vs (sql_of e1)
      rw [hv] at e2
      cases e2
      exact newtup rc.1 hT (.cons (.int _) (.cons rv .nil))
    · obtain ⟨vs, e1, r⟩ := hp S' H' rc
      refine ⟨vs, sql_of e1, ?_⟩
      rw [← r.length]
      have : (FP.enum m.v).length ≤ i := by simpa [R.enum, R.map] using hd
      rw [enum_len] at this
      simpa using this
theorem zip_get {l : List α} {k : List β} {i : Nat} {d : D} (h : ((l.zip k).map rep)[i]? = some d) : ∃ x y, l[i]? = some x ∧ k[i]? = some y ∧ d = .tuple [rep x, rep y] := by
  rw [List.getElem?_map] at h
  cases e : (l.zip k)[i]? with
  | none => rw [e] at h; cases h
  | some p =>
    obtain ⟨x, y⟩ := p
    rw [e] at h
    obtain ⟨e1, e2⟩ := List.getElem?_zip_eq_some.mp e
    exact ⟨x, y, e1, e2, (Option.some.inj h).symm⟩
@[simp] def R.zip {α β : Type} (m : R (List α)) (n : R (List β)) : R (List (α × β)) := R.o2 (fun _ _ => True) List.zip m n
theorem RI.zip {elts : List Expr} {kk : Nat} {tpos p0 : Pos} {m : R (List α)} {n : R (List β)} (h : RP X M lp a env m) (h' : RP X M lp b env n)
    (hpi : ∀ ta, PA X [a, b] ta → PI X (.Tuple elts kk tpos) (.Call (.Name "zip" p0) [a, b] [] pos) (iZip X.K ta)) (hs : starEach [a, b] X.env = (false, eval a X.env) :: starEach [b] X.env := by rfl) (hs2 : starEach [b] X.env = (false, eval b X.env) :: starEach [] X.env := by rfl) :
    RI X M lp (.Tuple elts kk tpos) (.Call (.Name "zip" p0) [a, b] [] pos) env (R.zip m n) := .mk fun p => RdI.of (hpi _ (pa_cons star_pe (pa_cons star_pe pa_nil hs2) hs)) fun S0 H0 σ S H st Rr q =>
  h p.1 _ _ _ _ _ st _ fun ds a S1 H1 ed t hp => by
    subst ed
    refine h' p.2.1 _ _ _ _ _ (st.step t) _ fun ds b S2 H2 ed t2 hp2 => ?_
    subst ed
    have back : ∀ S' H', Rch X.K M lp S0 H0 S2 H2 S' H' → Rch X.K M lp S0 H0 S1 H1 S' H' := fun S' H' rc => ⟨rc.1, fun x o e => rc.2.1 x o (t2.ss x o e), by
      have z := rc.2.2
      cases lp with
      | true => exact z
      | false => exact t2.trans z⟩
    have now : Rch X.K M lp S0 H0 S2 H2 S2 H2 := ⟨((st.step t).step t2).gd, fun _ _ e => e, by
      cases lp with
      | true => exact (st.stp.trans t).trans t2
      | false => exact Step.refl ((st.step t).step t2).gd.sub⟩
    obtain ⟨vs0, e0, _⟩ := hp S2 H2 (back _ _ now)
    obtain ⟨us0, f0, _⟩ := hp2 S2 H2 now
    refine ⟨a, b, vs0, us0, rfl, sql_of e0, sql_of f0, q _ _ S2 H2 rfl (t.trans t2) ⟨fun S' H' i d rc hd => ?_, fun S' H' i rc hd hd2 => ?_⟩⟩
    · obtain ⟨x, y, hx, hy, rfl⟩ := zip_get hd
      obtain ⟨vs, e1, r⟩ := hp S' H' (back _ _ rc)
      obtain ⟨us, f1, r'⟩ := hp2 S' H' rc
      obtain ⟨v, hv, rv⟩ := r.get (show (m.v.map rep)[i]? = some (rep x) by rw [List.getElem?_map, hx]; rfl)
      obtain ⟨u, hu, ru⟩ := r'.get (show (n.v.map rep)[i]? = some (rep y) by rw [List.getElem?_map, hy]; rfl)
      refine ⟨⟨vs, us, v, u, sql_of e1, sql_of f1, hv, hu⟩, fun y' H3 yy => ?_⟩
      obtain ⟨T, z, z', rfl, hT, rfl, hz, hz'⟩ := yy
      have e2 := hz vs (sql_of e1)
      rw [hv] at e2
      cases e2
      have e3 := hz' us (sql_of f1)
      rw [hu] at e3
      cases e3
      exact newtup rc.1 hT (.cons rv (.cons ru .nil))
    · obtain ⟨vs, e1, r⟩ := hp S' H' (back _ _ rc)
      obtain ⟨us, f1, r'⟩ := hp2 S' H' rc
      refine ⟨vs, us, sql_of e1, sql_of f1, ?_⟩
      have h1 := r.length
      have h2 := r'.length
      simp only [R.zip, R.o2, List.length_map, List.length_zip] at h1 h2 hd
      omega
theorem RI.zipT {elts : List Expr} {kk : Nat} {tpos p0 : Pos} {m : R (Tu α)} {n : R (Tu β)} (h : RE X M a env m) (h' : RE X M b env n)
    (hpi : ∀ ta, PA X [a, b] ta → PI X (.Tuple elts kk tpos) (.Call (.Name "zip" p0) [a, b] [] pos) (RZ.iZipA X.K ta)) (hs : starEach [a, b] X.env = (false, eval a X.env) :: starEach [b] X.env := by rfl) (hs2 : starEach [b] X.env = (false, eval b X.env) :: starEach [] X.env := by rfl) :
    RI X M lp (.Tuple elts kk tpos) (.Call (.Name "zip" p0) [a, b] [] pos) env (R.o2 (fun _ _ => True) (fun s t => List.zip s.l t.l) m n) := .mk fun p => RdI.of (hpi _ (pa_cons star_pe (pa_cons star_pe pa_nil hs2) hs)) fun S0 H0 σ S H st Rr q =>
  h p.1 _ _ _ _ _ st _ fun d v S1 H1 ed r t => by
    subst ed
    refine h' p.2.1 _ _ _ _ _ (st.step t) _ fun d v S2 H2 ed r' t2 => ?_
    subst ed
    cases r with
    | tup e1 r =>
      rename_i a vs
      cases r' with
      | tup f1 r' =>
        rename_i b us
        have g := ((st.step t).step t2).gd
        have at1 : ∀ S' H', Rch X.K M lp S0 H0 S2 H2 S' H' → SqT X.K H' a vs ∧ SqT X.K H' b us ∧ Sub S1 S' ∧ Sub S2 S' := fun S' H' rc =>
          ⟨sub_sqt rc.1.sub (sub_sqt rc.2.1 (sub_sqt t2.ss e1)), sub_sqt rc.1.sub (sub_sqt rc.2.1 f1), fun x o e => rc.2.1 x o (t2.ss x o e), rc.2.1⟩
        refine ⟨a, b, vs, us, rfl, .inr ⟨sub_sqt g.sub (sub_sqt t2.ss e1), sub_sqt g.sub f1, q _ _ S2 H2 rfl (t.trans t2) ⟨fun S' H' i d rc hd => ?_, fun S' H' i rc hd hd2 => ?_⟩⟩⟩
        · obtain ⟨x, y, hx, hy, rfl⟩ := zip_get hd
          obtain ⟨q1, q2, s1, s2⟩ := at1 _ _ rc
          obtain ⟨v, hv, rv⟩ := r.get (show (m.v.l.map rep)[i]? = some (rep x) by rw [List.getElem?_map, hx]; rfl)
          obtain ⟨u, hu, ru⟩ := r'.get (show (n.v.l.map rep)[i]? = some (rep y) by rw [List.getElem?_map, hy]; rfl)
          refine ⟨⟨vs, us, v, u, q1, q2, hv, hu⟩, fun y' H3 yy => ?_⟩
          obtain ⟨T, z, z', rfl, hT, rfl, hz, hz'⟩ := yy
          have e2 := hz vs q1
          rw [hv] at e2
          cases e2
          have e3 := hz' us q2
          rw [hu] at e3
          cases e3
          exact newtup rc.1 hT (.cons (rv.mon s1) (.cons (ru.mon s2) .nil))
        · obtain ⟨q1, q2, s1, s2⟩ := at1 _ _ rc
          refine ⟨vs, us, q1, q2, ?_⟩
          have h1 := r.length
          have h2 := r'.length
          simp only [R.zip, R.o2, List.length_map, List.length_zip] at h1 h2 hd
          omega
end

/-! ### targets -/
def RdG (K : PySem.W.Frag) (M : Mm) (g : TG) (ix : List Nat) (d : D) (env : List Sl) (P : List Sl → Prop) : Prop :=
  ∀ S0 H0 σ S H v, St0 K M S0 H0 S H env σ → Den K S d v → ∀ Q : L2.St → Hp → Prop,
    (∀ env' σ' S' H', P env' → St0 K M S0 H0 S' H' env' σ' → Step M S H S' H' → σ'.length = σ.length → (∀ j, j ∉ ix → σ'[j]? = σ[j]?) → Q σ' H') → g v σ H Q
def starG (X : Cx) (tg : Expr) : TG := fun v σ H Q => ∀ pins s u, L2.Inv X pins σ H s → RelV v u → wpAny (model X.prog X.w) X.A (assign tg X.env u) (fun _ s' => ∃ σ' H', L2.Inv X pins σ' H' s' ∧ Q σ' H') X.xe s
theorem star_pg {X : Cx} {tg : Expr} : PG X tg (starG X tg) := ⟨fun pins s σ H v u Q I r h => h pins s u I r⟩
/-- a target takes a value: the slots it stores at, env ahead and behind -/
structure RG (X : Cx) (M : Mm) (tg : Expr) (ix : List Nat) (d : D) (env env' : List Sl) : Prop where
  run : RdG X.K M (starG X tg) ix d env (· = env')
instance {X : Cx} {M : Mm} {tg : Expr} {ix : List Nat} {d : D} {env env' : List Sl} : CoeFun (RG X M tg ix d env env') (fun _ => RdG X.K M (starG X tg) ix d env (· = env')) := ⟨RG.run⟩
section
variable {X : Cx} {M : Mm} {env env1 env2 env3 : List Sl} {pos : Pos}
theorem RdG.of {tg : Expr} {g : TG} {ix : List Nat} {d : D} {P : List Sl → Prop} (h : PG X tg g) (r : RdG X.K M g ix d env P) : RdG X.K M (starG X tg) ix d env P := fun S0 H0 σ S H v st dn Q q pins s u I rv => h.run pins s σ H v u Q I rv (r S0 H0 σ S H v st dn Q q)
theorem RG.name {d : D} (i : Nat) {nm : Str} (hN : X.N.Nodup) (hi : X.N[i]? = some nm) (hx : Loc X.env.scope nm) (hf : X.fn nm = true ∨ X.env.scope.names.lookup nm = some .local) (he : env.set i (.im d) = env1) : RG X M (.Name nm pos) [i] d env env1 := .mk <|
  RdG.of (pg_name hN hi hx hf) fun S0 H0 σ S H v st dn Q q => q env1 _ S H rfl (by rw [← he]; exact st.putIm i dn) (Step.refl st.gd.sub) (by simp) fun j hj => by rw [List.getElem?_set_ne (fun z => hj (by simp [z]))]
theorem RG.tup2 {t1 t2 : Expr} {k : Nat} {i1 i2 : List Nat} {d1 d2 : D} (hc : X.calm = true) (h1 : RG X M t1 i1 d1 env env1) (h2 : RG X M t2 i2 d2 env1 env2)
    (hn : (assignEach [t1, t2] X.env).length = 2 := by rfl) (hst : (assignEach [t1, t2] X.env).findIdx? (·.1) = none := by rfl) (hs : (assignEach [t1, t2] X.env).map (·.2) = assign t1 X.env :: (assignEach [t2] X.env).map (·.2) := by rfl) (hs2 : (assignEach [t2] X.env).map (·.2) = assign t2 X.env :: (assignEach [] X.env).map (·.2) := by rfl) :
    RG X M (.Tuple [t1, t2] k pos) (i1 ++ i2) (.tuple [d1, d2]) env env2 := .mk <|
  RdG.of (pg_tup hc (pgs_cons star_pg (pgs_cons star_pg pgs_nil hs2) hs) hn hst) fun S0 H0 σ S H v st dn Q q => by
    cases dn with
    | tup e r =>
      cases r with
      | cons r1 r =>
        cases r with
        | cons r2 r =>
          cases r
          rename_i a v1 v2
          refine ⟨a, _, rfl, sub_sqt st.gd.sub e, rfl, v1, [v2], rfl, h1 S0 H0 σ S H v1 st r1 _ fun env' σ' S1 H1 e1 st1 t1 l1 k1 => ?_⟩
          subst e1
          refine ⟨v2, [], rfl, h2 S0 H0 σ' S1 H1 v2 st1 (r2.mon t1.ss) _ fun env' σ2 S2 H2 e2 st2 t2 l2 k2 => ⟨rfl, ?_⟩⟩
          exact q env' σ2 S2 H2 e2 st2 (t1.trans t2) (l2.trans l1) fun j hj => (k2 j fun z => hj (List.mem_append_right _ z)).trans (k1 j fun z => hj (List.mem_append_left _ z))
theorem RG.tup3 {t1 t2 t3 : Expr} {k : Nat} {i1 i2 i3 : List Nat} {d1 d2 d3 : D} (hc : X.calm = true) (h1 : RG X M t1 i1 d1 env env1) (h2 : RG X M t2 i2 d2 env1 env2) (h3 : RG X M t3 i3 d3 env2 env3)
    (hn : (assignEach [t1, t2, t3] X.env).length = 3 := by rfl) (hst : (assignEach [t1, t2, t3] X.env).findIdx? (·.1) = none := by rfl) (hs : (assignEach [t1, t2, t3] X.env).map (·.2) = assign t1 X.env :: (assignEach [t2, t3] X.env).map (·.2) := by rfl)
    (hs2 : (assignEach [t2, t3] X.env).map (·.2) = assign t2 X.env :: (assignEach [t3] X.env).map (·.2) := by rfl) (hs3 : (assignEach [t3] X.env).map (·.2) = assign t3 X.env :: (assignEach [] X.env).map (·.2) := by rfl) :
    RG X M (.Tuple [t1, t2, t3] k pos) (i1 ++ (i2 ++ i3)) (.tuple [d1, d2, d3]) env env3 := .mk <|
  RdG.of (pg_tup hc (pgs_cons star_pg (pgs_cons star_pg (pgs_cons star_pg pgs_nil hs3) hs2) hs) hn hst) fun S0 H0 σ S H v st dn Q q => by
    cases dn with
    | tup e r =>
      cases r with
      | cons r1 r =>
        cases r with
        | cons r2 r =>
          cases r with
          | cons r3 r =>
            cases r
            rename_i a v1 v2 v3
            refine ⟨a, _, rfl, sub_sqt st.gd.sub e, rfl, v1, [v2, v3], rfl, h1 S0 H0 σ S H v1 st r1 _ fun env' σ' S1 H1 e1 st1 t1 l1 k1 => ?_⟩
            subst e1
            refine ⟨v2, [v3], rfl, h2 S0 H0 σ' S1 H1 v2 st1 (r2.mon t1.ss) _ fun env' σ2 S2 H2 e2 st2 t2 l2 k2 => ?_⟩
            subst e2
            refine ⟨v3, [], rfl, h3 S0 H0 σ2 S2 H2 v3 st2 ((r3.mon t1.ss).mon t2.ss) _ fun env' σ3 S3 H3 e3 st3 t3 l3 k3 => ⟨rfl, ?_⟩⟩
            exact q env' σ3 S3 H3 e3 st3 ((t1.trans t2).trans t3) ((l3.trans l2).trans l1) fun j hj => ((k3 j fun z => hj (List.mem_append_right _ (List.mem_append_right _ z))).trans (k2 j fun z => hj (List.mem_append_right _ (List.mem_append_left _ z)))).trans (k1 j fun z => hj (List.mem_append_left _ z))
end

/-! ### list comprehensions -/
def wipeE (env : List Sl) : List Nat → List Sl
  | [] => env
  | v :: vs => (wipeE env vs).set v .un
theorem St0.wipe {K : PySem.W.Frag} {M : Mm} {S0 H0 S H : Hp} {env : List Sl} {σ : L2.St} (h : St0 K M S0 H0 S H env σ) : ∀ vs : List Nat, St0 K M S0 H0 S H (wipeE env vs) (wipe σ vs)
  | [] => h
  | v :: vs => (St0.wipe h vs).putUn v none
theorem wipe_get (σ : L2.St) : ∀ (vs : List Nat) (j : Nat), (wipe σ vs)[j]? = if j ∈ vs ∧ j < σ.length then some none else σ[j]?
  | [], j => by simp [wipe]
  | v :: vs, j => by
    unfold wipe
    by_cases e : j = v
    · subst e
      by_cases l : j < σ.length
      · rw [List.getElem?_set_self (by rw [wipe_length]; exact l), if_pos ⟨List.mem_cons_self, l⟩]
      · rw [List.getElem?_eq_none (by rw [List.length_set, wipe_length]; omega), if_neg (by intro z; exact l z.2), List.getElem?_eq_none (by omega)]
    · rw [List.getElem?_set_ne (Ne.symm e), wipe_get σ vs j]
      simp [e]
theorem wipe_eq {σ σ' : L2.St} {vs : List Nat} (hl : σ'.length = (wipe σ vs).length) (h : ∀ j, j ∉ vs → σ'[j]? = (wipe σ vs)[j]?) : wipe σ' vs = wipe σ vs := by
  have hl' : σ'.length = σ.length := by rw [hl, wipe_length]
  refine List.ext_getElem? fun j => ?_
  rw [wipe_get, wipe_get, hl']
  by_cases e : j ∈ vs
  · by_cases l : j < σ.length
    · rw [if_pos ⟨e, l⟩, if_pos ⟨e, l⟩]
    · rw [if_neg (fun z => l z.2), if_neg (fun z => l z.2), List.getElem?_eq_none (by omega), List.getElem?_eq_none (by omega)]
  · rw [if_neg (fun z => e z.1), if_neg (fun z => e z.1), h j e, wipe_get, if_neg (fun z => e z.1)]
/-- a comprehension: its items, its targets, tests, elements -/
@[simp] def R.lc {α β : Type} (m : R (List α)) (t : α → R Bool) (f : α → R β) : R (List β) :=
  ⟨m.p ∧ m.v.length ≤ 100000 ∧ ∀ x ∈ m.v, (t x).p ∧ ((t x).v = true → (f x).p), (m.v.filter fun x => (t x).v).map fun x => (f x).v⟩
section
variable {K : PySem.W.Frag} {M : Mm} {env : List Sl} {α β : Type} [Rep α] [Rep β]
theorem RdF.lc {wi : TI} {g : TG} {tt : TT} {te : TE} {vs : List Nat} {m : R (List α)} {t : α → R Bool} {f : α → R β} {tE : α → List Sl} (hi : RdI K M false wi env (· = m.v.map rep)) {ix : List Nat} (hix : ∀ i ∈ ix, i ∈ vs)
    (hg : ∀ x ∈ m.v, RdG K M g ix (rep x) (wipeE env vs) (· = tE x)) (ht : ∀ x ∈ m.v, (t x).p → RdT K M tt (tE x) (· = (t x).v)) (hf : ∀ x ∈ m.v, (f x).p → RdE K M te (tE x) (· = rep (f x).v)) (hp : m.v.length ≤ 100000 ∧ ∀ x ∈ m.v, (t x).p ∧ ((t x).v = true → (f x).p)) :
    RdF K M (tLc wi g tt te vs) env (· = (R.lc m t f).v.map rep) := fun S0 H0 σ S H st Q q => by
  refine hi _ _ _ _ _ st _ fun ds J S1 H1 ed t1 it => ?_
  subst ed
  intro D hD
  have st1 := st.step t1
  have g1 := st1.gd
  have tN := Step.new g1 (.lst []) hD
  let got : Nat → List β := fun i => ((m.v.take i).filter fun x => (t x).v).map fun x => (f x).v
  refine ⟨fun i k H' => k = m.v.length - i ∧ i ≤ m.v.length ∧ ∃ S' us, Step M S1 H1 S' H' ∧ S' D = none ∧ H' D = some (.lst us) ∧ Dens K S' ((got i).map rep) us, ⟨m.v.length, by simp, Nat.zero_le _, S1, [], tN, g1.fresh hD, upd_same, by simp [got]; exact .nil⟩, ?_⟩
  rintro i k H' ⟨rfl, hil, S', us, t2, hn, hu, r⟩
  have st2 : St0 K M S0 H0 S' H' env σ := st1.step t2
  have rc : Rch K M false S0 H0 S1 H1 S' H' := ⟨st2.gd, t2.ss, t2⟩
  by_cases hlt : i < m.v.length
  · refine .inr ?_
    have hx : m.v[i]? = some m.v[i] := List.getElem?_eq_getElem hlt
    generalize m.v[i] = x at hx
    have hmem : x ∈ m.v := List.mem_of_getElem? hx
    obtain ⟨go, yl⟩ := it.go S' H' i (rep x) rc (by rw [List.getElem?_map, hx]; rfl)
    have hsucc : got (i + 1) = if (t x).v = true then got i ++ [(f x).v] else got i := by
      simp only [got]
      rw [List.take_add_one, hx, List.filter_append, List.map_append]
      simp only [Option.toList_some, List.filter_cons, List.filter_nil]
      split <;> simp
    refine ⟨go, fun H3 => ∃ S3 us3, Step M S1 H1 S3 H3 ∧ S3 D = none ∧ H3 D = some (.lst us3) ∧ Dens K S3 ((got (i + 1)).map rep) us3, fun H3 ⟨S3, us3, w1, w2, w3, w4⟩ => ⟨m.v.length - (i + 1), by omega, rfl, hlt, S3, us3, w1, w2, w3, w4⟩, fun v H3 hy => ?_⟩
    obtain ⟨S3, t3, dn⟩ := yl v H3 hy
    have st3 := (st2.step t3).wipe vs
    refine hg x hmem S0 H0 _ S3 H3 v st3 dn _ fun env4 σ4 S4 H4 e4 st4 t4 l4 k4 => ?_
    subst e4
    refine ⟨wipe_eq (by rw [l4]) fun j hj => k4 j fun z => hj (hix j z), ?_⟩
    refine ht x hmem (hp.2 x hmem).1 S0 H0 σ4 S4 H4 st4 _ fun b S5 H5 eb t5 => ?_
    have dkeep : ∀ {Sx Hx : Hp}, Step M S' H' Sx Hx → Sx D = none ∧ Hx D = some (.lst us) := fun {Sx Hx} tx =>
      ⟨tx.cap D hn (by rw [hu]; exact fun z => nomatch z), tx.ext D _ hu (fun m' => by
        have := st1.gd.vol D m'
        exact this.1 hD) lst_noT⟩
    cases b with
    | true =>
      rw [if_pos rfl]
      refine hf x hmem ((hp.2 x hmem).2 eb.symm) S0 H0 σ4 S5 H5 (st4.step t5) _ fun d v6 S6 H6 ed dn6 t6 => ?_
      subst ed
      have tt6 := ((t3.trans t4).trans t5).trans t6
      obtain ⟨n6, h6⟩ := dkeep tt6
      have hlen : us.length = (got i).length := by have := r.length; simpa using this.symm
      have hgl : (got i).length ≤ m.v.length := by
        simp only [got]
        rw [List.length_map]
        refine Nat.le_trans (List.length_filter_le _ _) ?_
        rw [List.length_take]
        omega
      refine ⟨us, h6, ?_, S6, us ++ [v6], ?_, n6, upd_same, ?_⟩
      · have : sizeLine = 16777216 := sizeLine_eq
        have := hp.1
        omega
      · have t7 := t2.trans tt6
        exact ⟨t7.ss, fun a o e => by rw [upd_ne (ne_of_none e n6)]; exact t7.sh a o e, fun a o e m' n' => by rw [upd_ne (ne_of_none e hD)]; exact t7.ext a o e m' n', fun a ps e tr => by
            rw [upd_ne (ne_of_none e hD)]; exact t7.tb a ps e tr, t7.cap, fun a m' vk => by
            have z : a ≠ D := fun z => by subst z; exact (st1.gd.vol _ m').1 hD
            rw [upd_ne z]; exact t7.vk a m' vk, fun a n' => by
            by_cases z : a = D
            · subst z; exact absurd hD n'
            · rw [upd_ne z]; exact t7.keep a n'⟩
      · rw [hsucc, if_pos eb.symm, List.map_append]
        exact (r.mon tt6.ss).append (.cons dn6 .nil)
    | false =>
      rw [if_neg (by decide)]
      have tt5 := (t3.trans t4).trans t5
      obtain ⟨n5, h5⟩ := dkeep tt5
      refine ⟨S5, us, t2.trans tt5, n5, h5, ?_⟩
      rw [hsucc, if_neg (by rw [← eb]; decide)]
      exact r.mon tt5.ss
  · refine .inl ⟨it.stop S' H' i rc (by rw [List.length_map]; omega) (by rw [List.length_map]; omega), ?_⟩
    have hfin : got i = (R.lc m t f).v := by
      simp only [got]
      rw [List.take_of_length_le (by omega)]
      rfl
    rw [hfin] at r
    refine q _ D us S' H' rfl ?_ hn hu r (t1.trans t2)
    cases z : H D with
    | none => rfl
    | some o => exact absurd hD (t1.keep D (by rw [z]; exact fun z => nomatch z))
end
section
variable {X : Cx} {M : Mm} {env : List Sl} {α β : Type} [Rep α] [Rep β]
/-- the block of a comprehension -/
abbrev Blk (X : Cx) (scope : Scope) (φ : Cx → Prop) : Prop := ∀ (s : Shared) (H : Hp) (C : Addr) (cl : List (Str × Addr)) (fp : List Addr), φ (X.blk s H scope (compEnvC scope cl C X.env) fp)
def bE (X : Cx) (scope : Scope) (e : Expr) : TE := fun σ H Q => ∀ (s : Shared) (H' : Hp) (C : Addr) (cl : List (Str × Addr)) (fp : List Addr), star (X.blk s H' scope (compEnvC scope cl C X.env) fp) e σ H Q
def bG (X : Cx) (scope : Scope) (e : Expr) : TG := fun v σ H Q => ∀ (s : Shared) (H' : Hp) (C : Addr) (cl : List (Str × Addr)) (fp : List Addr), starG (X.blk s H' scope (compEnvC scope cl C X.env) fp) e v σ H Q
def bT (X : Cx) (scope : Scope) (e : Expr) : TT := fun σ H Q => ∀ (s : Shared) (H' : Hp) (C : Addr) (cl : List (Str × Addr)) (fp : List Addr), starT (X.blk s H' scope (compEnvC scope cl C X.env) fp) e σ H Q
/-- the tests of a comprehension: none, one -/
def RTs (X : Cx) (scope : Scope) (M : Mm) (ifs : List Expr) (env : List Sl) (m : R Bool) : Prop := (ifs = [] ∧ m = R.pure true) ∨ ∃ c, ifs = [c] ∧ Blk X scope fun Y => RT Y M c env m
theorem lc_pts {scope : Scope} {ifs : List Expr} (h : ifs.length ≤ 1) : ∃ tt : TT, (∀ (s : Shared) (H : Hp) (C : Addr) (cl : List (Str × Addr)) (fp : List Addr), PTs (X.blk s H scope (compEnvC scope cl C X.env) fp) ifs tt) ∧
    ∀ (env : List Sl) (m : R Bool), RTs X scope M ifs env m → m.p → RdT X.K M tt env (· = m.v) := by
  cases ifs with
  | nil =>
    refine ⟨tYes, fun _ _ _ _ _ => pts_nil, fun env m hm _ S0 H0 σ S H st Q q => ?_⟩
    rcases hm with ⟨_, rfl⟩ | ⟨c, e, _⟩
    · exact q true S H rfl (Step.refl st.gd.sub)
    · cases e
  | cons c r =>
    cases r with
    | nil =>
      refine ⟨bT X scope c, fun s H C cl fp => pts_one ⟨fun pins s' σ H' Q I h => h s H C cl fp pins s' I⟩, fun env m hm hp S0 H0 σ S H st Q q s H' C cl fp => ?_⟩
      rcases hm with ⟨e, _⟩ | ⟨c', e, hm⟩
      · cases e
      · cases e
        exact hm s H' C cl fp hp S0 H0 σ S H st Q q
    | cons _ _ => simp at h
theorem RF.lc {elt tg iter : Expr} {ifs : List Expr} {scope : Scope} {own : List (Str × Nat)} {pos : Pos} {m : R (List α)} {t : α → R Bool} {f : α → R β} {tE : α → List Sl} {ix : List Nat} (hc : X.calm = true) (hN : X.N.Nodup) (ok : BlkOk X.N X.env.scope scope own) (hl : ifs.length ≤ 1) (hix : ∀ i ∈ ix, i ∈ own.map (·.2))
    (hi : RI X M false tg iter env m) (hg : ∀ x, Blk X scope fun Y => RG Y M tg ix (rep x) (wipeE env (own.map (·.2))) (tE x)) (ht : ∀ x, RTs X scope M ifs (tE x) (t x)) (he : ∀ x, Blk X scope fun Y => RE Y M elt (tE x) (f x)) (hs : ∀ x, foldedSetIterable iter X.env x = pure x) :
    RF X M (.ListComp elt [⟨tg, iter, ifs, 0⟩] scope pos) env (R.lc m t f) := .mk fun p => by
  obtain ⟨tt, pt, rt⟩ := lc_pts (X := X) (M := M) (scope := scope) hl
  exact EF.of (pe_lc (g := bG X scope tg) (te := bE X scope elt) hc hN star_pi ok (fun s H C cl fp => ⟨fun pins s' σ H' v u Q I r h => h s H C cl fp pins s' u I r⟩) pt (fun s H C cl fp => ⟨fun pins s' σ H' Q I h => h s H C cl fp pins s' I⟩) hs)
    (RdF.lc (hi p.1) hix (fun x _ S0 H0 σ S H v st dn Q q s H' C cl fp => hg x s H' C cl fp S0 H0 σ S H v st dn Q q) (fun x _ hp => rt _ _ (ht x) hp) (fun x _ hp S0 H0 σ S H st Q q s H' C cl fp => he x s H' C cl fp hp S0 H0 σ S H st Q q) p.2)
end
end FP
namespace FP
open PySem PySem.Spec PyProof.Rows L2
open Rep (rep)
/-! ### statements over data -/
structure Post where
  nx : List Sl → Prop
  rt : D → Prop
  bk : List Sl → Prop
  ct : List Sl → Prop
def RdS (K : PySem.W.Frag) (M : Mm) (ts : TS) (env : List Sl) (D : Post) : Prop :=
  ∀ S0 H0 σ S H, St0 K M S0 H0 S H env σ → ∀ Dl : Ends,
    (∀ env' σ' S' H', D.nx env' → St0 K M S0 H0 S' H' env' σ' → Sub S S' → Dl.nx σ' H') →
    (∀ d v S' H', D.rt d → Den K S' d v → Step M S0 H0 S' H' → Dl.rt v H') →
    (∀ env' σ' S' H', D.bk env' → St0 K M S0 H0 S' H' env' σ' → Sub S S' → Dl.bk σ' H') →
    (∀ env' σ' S' H', D.ct env' → St0 K M S0 H0 S' H' env' σ' → Sub S S' → Dl.ct σ' H') → ts Dl σ H
abbrev pN (P : List Sl → Prop) : Post := ⟨P, fun _ => False, fun _ => False, fun _ => False⟩
abbrev pR (P : D → Prop) : Post := ⟨fun _ => False, P, fun _ => False, fun _ => False⟩
/-- what a block comes to -/
inductive Fl (σT β L : Type) where
  | nx (s : σT) | rt (b : β) | bk (l : L) | ct (l : L)
abbrev pG {σT β L : Type} [Rep β] (E : σT → List Sl) (EL : L → List Sl) (v : Fl σT β L) : Post :=
  ⟨fun e => ∃ s, v = .nx s ∧ e = E s, fun d => ∃ b, v = .rt b ∧ d = rep b, fun e => ∃ l, v = .bk l ∧ e = EL l, fun e => ∃ l, v = .ct l ∧ e = EL l⟩
section
variable (X : Cx) (M : Mm) {σT β L : Type} [Rep β]
structure SN (st : Stmt) (env : List Sl) (E : σT → List Sl) (m : R σT) : Prop where
  run : m.p → RdS X.K M (starS X st) env (pN (· = E m.v))
structure BN (sts : List Stmt) (env : List Sl) (E : σT → List Sl) (m : R σT) : Prop where
  run : m.p → RdS X.K M (starB X sts) env (pN (· = E m.v))
structure BR (sts : List Stmt) (env : List Sl) (m : R β) : Prop where
  run : m.p → RdS X.K M (starB X sts) env (pR (· = rep m.v))
structure SG (st : Stmt) (env : List Sl) (E : σT → List Sl) (EL : L → List Sl) (m : R (Fl σT β L)) : Prop where
  run : m.p → RdS X.K M (starS X st) env (pG E EL m.v)
structure BG (sts : List Stmt) (env : List Sl) (E : σT → List Sl) (EL : L → List Sl) (m : R (Fl σT β L)) : Prop where
  run : m.p → RdS X.K M (starB X sts) env (pG E EL m.v)
end
section
variable {X : Cx} {M : Mm} {σT β L : Type} [Rep β] {st : Stmt} {sts : List Stmt} {env : List Sl} {E : σT → List Sl} {EL : L → List Sl}
instance {m : R σT} : CoeFun (SN X M st env E m) (fun _ => m.p → RdS X.K M (starS X st) env (pN (· = E m.v))) := ⟨SN.run⟩
instance {m : R σT} : CoeFun (BN X M sts env E m) (fun _ => m.p → RdS X.K M (starB X sts) env (pN (· = E m.v))) := ⟨BN.run⟩
instance {m : R β} : CoeFun (BR X M sts env m) (fun _ => m.p → RdS X.K M (starB X sts) env (pR (· = rep m.v))) := ⟨BR.run⟩
instance {m : R (Fl σT β L)} : CoeFun (SG X M st env E EL m) (fun _ => m.p → RdS X.K M (starS X st) env (pG E EL m.v)) := ⟨SG.run⟩
instance {m : R (Fl σT β L)} : CoeFun (BG X M sts env E EL m) (fun _ => m.p → RdS X.K M (starB X sts) env (pG E EL m.v)) := ⟨BG.run⟩
end
/-! less known slots -/
inductive LE : List Sl → List Sl → Prop
  | n : LE [] []
  | r {s : Sl} {l l' : List Sl} : LE l l' → LE (s :: l) (s :: l')
  | u {s : Sl} {l l' : List Sl} : LE l l' → LE (s :: l) (.un :: l')
  | f {ds : List D} {l l' : List Sl} : LE l l' → LE (.ow ds :: l) (.im (.list ds) :: l')
section
variable {K : PySem.W.Frag} {M : Mm} {S0 H0 S H : Hp} {σ : L2.St}
theorem LE.refl : ∀ l : List Sl, LE l l
  | [] => .n
  | _ :: l => .r (LE.refl l)
theorem St0.leAt : ∀ {l l' : List Sl}, LE l l' → ∀ (pre : List Sl) (S : Hp), St0 K M S0 H0 S H (pre ++ l) σ → ∃ S', St0 K M S0 H0 S' H (pre ++ l') σ ∧ Sub S S'
  | _, _, .n, pre, S, h => ⟨S, h, fun _ _ e => e⟩
  | _, _, .r (s := s) t, pre, S, h => by
    have e : ∀ x : List Sl, pre ++ s :: x = (pre ++ [s]) ++ x := fun x => by simp
    rw [e] at h
    rw [e]
    exact St0.leAt t (pre ++ [s]) S h
  | _, _, .u (s := s) (l := l) (l' := l') t, pre, S, h => by
    have h1 := h.drp pre.length
    have e : (pre ++ s :: l).set pre.length .un = (pre ++ [.un]) ++ l := by simp
    rw [e] at h1
    have e2 : pre ++ Sl.un :: l' = (pre ++ [.un]) ++ l' := by simp
    rw [e2]
    exact St0.leAt t (pre ++ [.un]) S h1
  | _, _, .f (ds := ds) (l := l) (l' := l') t, pre, S, h => by
    obtain ⟨a, vs, _, _, _, _, _, sb, h1⟩ := h.frz (i := pre.length) (ds := ds) (by simp)
    have e : (pre ++ Sl.ow ds :: l).set pre.length (.im (.list ds)) = (pre ++ [.im (.list ds)]) ++ l := by simp
    rw [e] at h1
    have e2 : pre ++ Sl.im (.list ds) :: l' = (pre ++ [.im (.list ds)]) ++ l' := by simp
    rw [e2]
    obtain ⟨S', h2, s2⟩ := St0.leAt t (pre ++ [.im (.list ds)]) _ h1
    exact ⟨S', h2, fun x o e => s2 x o (sb x o e)⟩
theorem St0.le {env env' : List Sl} (h : St0 K M S0 H0 S H env σ) (l : LE env env') : ∃ S', St0 K M S0 H0 S' H env' σ ∧ Sub S S' := St0.leAt l [] S h
end
section
variable {K : PySem.W.Frag} {M : Mm} {env env' : List Sl} {ts : TS} {Z Z' : Post}
theorem RdS.imp (h : RdS K M ts env Z) (h1 : ∀ e, Z.nx e → Z'.nx e) (h2 : ∀ d, Z.rt d → Z'.rt d) (h3 : ∀ e, Z.bk e → Z'.bk e) (h4 : ∀ e, Z.ct e → Z'.ct e) : RdS K M ts env Z' := fun S0 H0 σ S H st Dl q1 q2 q3 q4 =>
  h S0 H0 σ S H st Dl (fun e σ' S' H' p => q1 e σ' S' H' (h1 e p)) (fun d v S' H' p => q2 d v S' H' (h2 d p)) (fun e σ' S' H' p => q3 e σ' S' H' (h3 e p)) (fun e σ' S' H' p => q4 e σ' S' H' (h4 e p))
theorem RdS.weak (l : LE env env') (h : RdS K M ts env' Z) : RdS K M ts env Z := fun S0 H0 σ S H st Dl q1 q2 q3 q4 => by
  obtain ⟨S1, st1, sb⟩ := st.le l
  exact h S0 H0 σ S1 H st1 Dl (fun e σ' S' H' p s t => q1 e σ' S' H' p s fun x o z => t x o (sb x o z)) q2 (fun e σ' S' H' p s t => q3 e σ' S' H' p s fun x o z => t x o (sb x o z)) (fun e σ' S' H' p s t => q4 e σ' S' H' p s fun x o z => t x o (sb x o z))
theorem RdS.seq {t u : TS} {P : List Sl → Prop} (h1 : RdS K M t env ⟨P, Z.rt, Z.bk, Z.ct⟩) (h2 : ∀ e, P e → RdS K M u e Z) : RdS K M (tSeq t u) env Z := fun S0 H0 σ S H st Dl q1 q2 q3 q4 =>
  h1 S0 H0 σ S H st { Dl with nx := u Dl } (fun e σ' S' H' p s t => h2 e p S0 H0 σ' S' H' s Dl (fun e σ2 S2 H2 p2 s2 t2 => q1 e σ2 S2 H2 p2 s2 fun x o z => t2 x o (t x o z)) q2 (fun e σ2 S2 H2 p2 s2 t2 => q3 e σ2 S2 H2 p2 s2 fun x o z => t2 x o (t x o z)) (fun e σ2 S2 H2 p2 s2 t2 => q4 e σ2 S2 H2 p2 s2 fun x o z => t2 x o (t x o z))) q2 q3 q4
theorem RdS.next (h : Z.nx env) : RdS K M tNext env Z := fun S0 H0 σ S H st Dl q1 _ _ _ => q1 env σ S H h st fun _ _ e => e
theorem RdS.if {c : TT} {t u : TS} {P : Bool → Prop} (hc : RdT K M c env P) (h1 : P true → RdS K M t env Z) (h2 : P false → RdS K M u env Z) : RdS K M (tIfS c t u) env Z := fun S0 H0 σ S H st Dl q1 q2 q3 q4 =>
  hc S0 H0 σ S H st _ fun b S1 H1 pb t1 => by
    cases b with
    | true => exact h1 pb S0 H0 σ S1 H1 (st.step t1) Dl (fun e σ' S' H' p s t => q1 e σ' S' H' p s fun x o z => t x o (t1.ss x o z)) q2 (fun e σ' S' H' p s t => q3 e σ' S' H' p s fun x o z => t x o (t1.ss x o z)) (fun e σ' S' H' p s t => q4 e σ' S' H' p s fun x o z => t x o (t1.ss x o z))
    | false => exact h2 pb S0 H0 σ S1 H1 (st.step t1) Dl (fun e σ' S' H' p s t => q1 e σ' S' H' p s fun x o z => t x o (t1.ss x o z)) q2 (fun e σ' S' H' p s t => q3 e σ' S' H' p s fun x o z => t x o (t1.ss x o z)) (fun e σ' S' H' p s t => q4 e σ' S' H' p s fun x o z => t x o (t1.ss x o z))
theorem RdS.set {te : TE} {i : Nat} {P : D → Prop} (h : RdE K M te env P) (hD : ∀ d, P d → Z.nx (env.set i (.im d))) : RdS K M (tAsg te (gName i)) env Z := fun S0 H0 σ S H st Dl q1 _ _ _ =>
  h S0 H0 σ S H st _ fun d v S1 H1 pd r t => q1 _ _ S1 H1 (hD d pd) ((st.step t).putIm i r) t.ss
theorem RdS.setF {te : TE} {i : Nat} {P : List D → Prop} (h : RdF K M te env P) (hD : ∀ d, P d → Z.nx (env.set i (.ow d))) : RdS K M (tAsg te (gName i)) env Z := fun S0 H0 σ S H st Dl q1 _ _ _ =>
  h S0 H0 σ S H st _ fun ds p vs S1 H1 pd h1 h2 h3 r t => q1 _ _ S1 H1 (hD ds pd) (st.putOw t i h1 h2 h3 r) t.ss
theorem RdS.tgt {te : TE} {g : TG} {ix : List Nat} {P : D → Prop} {G : D → List Sl → Prop} (h : RdE K M te env P) (hg : ∀ d, P d → RdG K M g ix d env (G d)) (hD : ∀ d e, P d → G d e → Z.nx e) : RdS K M (tAsg te g) env Z := fun S0 H0 σ S H st Dl q1 _ _ _ =>
  h S0 H0 σ S H st _ fun d v S1 H1 pd r t => hg d pd S0 H0 σ S1 H1 v (st.step t) r _ fun e σ' S2 H2 ge st2 t2 _ _ => q1 e σ' S2 H2 (hD d e pd ge) st2 fun x o z => t2.ss x o (t.ss x o z)
theorem RdS.ret {te : TE} {P : D → Prop} (h : RdE K M te env P) (hD : ∀ d, P d → Z.rt d) : RdS K M (tRet te) env Z := fun S0 H0 σ S H st Dl _ q2 _ _ =>
  h S0 H0 σ S H st _ fun d v S1 H1 pd r t => q2 d v S1 H1 (hD d pd) r (st.stp.trans t)
theorem RdS.drop {te : TE} {P : D → Prop} (h : RdE K M te env P) (hD : Z.nx env) : RdS K M (tDrop te) env Z := fun S0 H0 σ S H st Dl q1 _ _ _ =>
  h S0 H0 σ S H st _ fun d v S1 H1 pd r t => q1 env σ S1 H1 hD (st.step t) t.ss
/-- a for: I what holds ahead of turn i -/
theorem RdS.for {wi : TI} {g : TG} {tb : TS} {ix : List Nat} {ds : List D} {I : Nat → List Sl → Prop} {tE : Nat → List Sl → List Sl} (hi : RdI K M true wi env (· = ds)) (h0 : I 0 env)
    (hg : ∀ i d e, ds[i]? = some d → I i e → RdG K M g ix d e (· = tE i e)) (hb : ∀ i d e, ds[i]? = some d → I i e → RdS K M tb (tE i e) ⟨I (i + 1), Z.rt, Z.nx, I (i + 1)⟩) (hd : ∀ e, I ds.length e → Z.nx e) :
    RdS K M (tFor wi g tb) env Z := fun S0 H0 σ S H st Dl q1 q2 _ _ => by
  refine hi S0 H0 σ S H st _ fun ds' J S1 H1 ed t1 it => ?_
  subst ed
  have st1 := st.step t1
  refine ⟨fun i m σ' H' => m = ds'.length - i ∧ i ≤ ds'.length ∧ ∃ S' e, St0 K M S0 H0 S' H' e σ' ∧ Sub S1 S' ∧ I i e, ⟨ds'.length, by simp, Nat.zero_le _, S1, env, st1, fun _ _ e => e, h0⟩, ?_⟩
  rintro i m σ' H' ⟨rfl, hil, S', e, st', sb, hI⟩
  have rc : Rch K M true S0 H0 S1 H1 S' H' := ⟨st'.gd, sb, st'.stp⟩
  by_cases hlt : i < ds'.length
  · have hx : ds'[i]? = some ds'[i] := List.getElem?_eq_getElem hlt
    generalize ds'[i] = d at hx
    obtain ⟨go, yl⟩ := it.go S' H' i d rc hx
    refine .inr ⟨go, fun σ2 H2 => ∃ S2 e2, St0 K M S0 H0 S2 H2 e2 σ2 ∧ Sub S1 S2 ∧ I (i + 1) e2, fun σ2 H2 ⟨S2, e2, w1, w2, w3⟩ => ⟨ds'.length - (i + 1), by omega, rfl, hlt, S2, e2, w1, w2, w3⟩, fun v H2 hy => ?_⟩
    obtain ⟨S2, t2, dn⟩ := yl v H2 hy
    refine hg i d e hx hI S0 H0 σ' S2 H2 v (st'.step t2) dn _ fun e3 σ3 S3 H3 ee st3 t3 _ _ => ?_
    subst ee
    have s3 : Sub S1 S3 := fun x o z => t3.ss x o (t2.ss x o (sb x o z))
    refine hb i d e hx hI S0 H0 σ3 S3 H3 st3 _ (fun e4 σ4 S4 H4 p s t => ⟨S4, e4, s, fun x o z => t x o (s3 x o z), p⟩) q2 (fun e4 σ4 S4 H4 p s t => q1 e4 σ4 S4 H4 p s fun x o z => t x o (s3 x o (t1.ss x o z))) (fun e4 σ4 S4 H4 p s t => ⟨S4, e4, s, fun x o z => t x o (s3 x o z), p⟩)
  · have hi' : i = ds'.length := by omega
    subst hi'
    exact .inl ⟨it.stop S' H' _ rc (Nat.le_refl _) (Nat.le_refl _), q1 e σ' S' H' (hd e hI) st' fun x o z => sb x o (t1.ss x o z)⟩
/-- a while: I what holds ahead of a turn, by a number that falls -/
theorem RdS.while {c : TT} {tb : TS} {I : Nat → List Sl → Prop} (n0 : Nat) (h0 : I n0 env)
    (hb : ∀ n e, I n e → ∃ P : Bool → Prop, RdT K M c e P ∧ (P true → RdS K M tb e ⟨fun e' => ∃ n', n' < n ∧ I n' e', Z.rt, Z.nx, fun e' => ∃ n', n' < n ∧ I n' e'⟩) ∧ (P false → Z.nx e)) : RdS K M (tWhile c tb) env Z := fun S0 H0 σ S H st Dl q1 q2 _ _ => by
  refine ⟨fun m σ' H' => ∃ S' e, St0 K M S0 H0 S' H' e σ' ∧ Sub S S' ∧ I m e, ⟨n0, S, env, st, fun _ _ e => e, h0⟩, ?_⟩
  rintro m σ' H' ⟨S', e, st', sb, hI⟩
  obtain ⟨P, hc, ht, hf⟩ := hb m e hI
  refine hc S0 H0 σ' S' H' st' _ fun b S1 H1 pb t1 => ?_
  cases b with
  | true =>
    rw [if_pos rfl]
    refine ⟨fun σ2 H2 => ∃ m', m' < m ∧ ∃ S2 e2, St0 K M S0 H0 S2 H2 e2 σ2 ∧ Sub S S2 ∧ I m' e2, fun σ2 H2 ⟨m', l, w⟩ => ⟨m', l, w⟩, ?_⟩
    exact ht pb S0 H0 σ' S1 H1 (st'.step t1) _ (fun e4 σ4 S4 H4 ⟨n', l, p⟩ s t => ⟨n', l, S4, e4, s, fun x o z => t x o (t1.ss x o (sb x o z)), p⟩) q2 (fun e4 σ4 S4 H4 p s t => q1 e4 σ4 S4 H4 p s fun x o z => t x o (t1.ss x o (sb x o z))) (fun e4 σ4 S4 H4 ⟨n', l, p⟩ s t => ⟨n', l, S4, e4, s, fun x o z => t x o (t1.ss x o (sb x o z)), p⟩)
  | false =>
    rw [if_neg (by decide)]
    exact q1 e σ' S1 H1 (hf pb) (st'.step t1) fun x o z => t1.ss x o (sb x o z)
end
section
variable {X : Cx} {M : Mm} {st : Stmt} {sts rest : List Stmt} {env env' : List Sl} {ts : TS} {Z : Post}
theorem RdS.ofS (h : PS X st ts) (r : RdS X.K M ts env Z) : RdS X.K M (starS X st) env Z := fun S0 H0 σ S H st' Dl q1 q2 q3 q4 pins s I => h.run pins s σ H Dl I (r S0 H0 σ S H st' Dl q1 q2 q3 q4)
theorem RdS.ofB (h : PSs X sts ts) (r : RdS X.K M ts env Z) : RdS X.K M (starB X sts) env Z := fun S0 H0 σ S H st' Dl q1 q2 q3 q4 pins s I => h.run pins s σ H Dl I (r S0 H0 σ S H st' Dl q1 q2 q3 q4)
theorem RdS.consB (h1 : RdS X.K M (starS X st) env ⟨P, Z.rt, Z.bk, Z.ct⟩) (h2 : ∀ e, P e → RdS X.K M (starB X rest) e Z) : RdS X.K M (starB X (st :: rest)) env Z := RdS.ofB (pss_cons star_ps star_pss) (RdS.seq h1 h2)
theorem RdS.oneB (h1 : RdS X.K M (starS X st) env Z) : RdS X.K M (starB X [st]) env Z := RdS.ofB (pss_one star_ps) h1

/-! ### blocks, typed -/
variable {α β σT σU L : Type} [Rep α] [Rep β] {E : σT → List Sl} {E1 : σU → List Sl} {EL : L → List Sl}
theorem BN.nil (s : σT) (h : LE env (E s)) : BN X M [] env E (R.pure s) := .mk fun _ => RdS.weak h (RdS.ofB pss_nil (RdS.next rfl))
theorem BN.cons {m : R σU} {f : σU → R σT} (h : SN X M st env E1 m) (k : ∀ s, BN X M rest (E1 s) E (f s)) : BN X M (st :: rest) env E (R.bind m f) := .mk fun p =>
  RdS.consB (h p.1) fun e he => by rw [he]; exact k _ p.2
theorem BR.cons {m : R σU} {f : σU → R β} (h : SN X M st env E1 m) (k : ∀ s, BR X M rest (E1 s) (f s)) : BR X M (st :: rest) env (R.bind m f) := .mk fun p =>
  RdS.consB (P := (· = E1 m.v)) ((h p.1).imp (fun _ e => e) (fun _ z => z.elim) (fun _ z => z.elim) fun _ z => z.elim) fun e he => by rw [he]; exact k _ p.2
theorem BG.cons {m : R σU} {f : σU → R (Fl σT β L)} (h : SN X M st env E1 m) (k : ∀ s, BG X M rest (E1 s) E EL (f s)) : BG X M (st :: rest) env E EL (R.bind m f) := .mk fun p =>
  RdS.consB (P := (· = E1 m.v)) ((h p.1).imp (fun _ e => e) (fun _ z => z.elim) (fun _ z => z.elim) fun _ z => z.elim) fun e he => by rw [he]; exact k _ p.2
theorem BN.weak {m : R σT} (l : LE env env') (h : BN X M sts env' E m) : BN X M sts env E m := .mk fun p => RdS.weak l (h p)
theorem BR.weak {m : R β} (l : LE env env') (h : BR X M sts env' m) : BR X M sts env m := .mk fun p => RdS.weak l (h p)
theorem BG.weak {m : R (Fl σT β L)} (l : LE env env') (h : BG X M sts env' E EL m) : BG X M sts env E EL m := .mk fun p => RdS.weak l (h p)
theorem BG.nil (s : σT) (h : LE env (E s)) : BG X M (β := β) [] env E EL (R.pure (.nx s)) := .mk fun _ => RdS.weak h (RdS.ofB pss_nil (RdS.next ⟨s, rfl, rfl⟩))
/-- what a statement with ways out comes to, then the rest -/
@[simp] def R.fl {σU σT β L : Type} (m : R (Fl σU β L)) (f : σU → R (Fl σT β L)) : R (Fl σT β L) :=
  ⟨m.p ∧ (match m.v with | .nx s => (f s).p | _ => True), match m.v with | .nx s => (f s).v | .rt b => .rt b | .bk l => .bk l | .ct l => .ct l⟩
@[simp] def R.flR {σU β : Type} (m : R (Fl σU β Empty)) (f : σU → R β) : R β :=
  ⟨m.p ∧ (match m.v with | .nx s => (f s).p | _ => True), match m.v with | .nx s => (f s).v | .rt b => b | .bk l => nomatch l | .ct l => nomatch l⟩
theorem BG.consG {m : R (Fl σU β L)} {f : σU → R (Fl σT β L)} (h : SG X M st env E1 EL m) (k : ∀ s, BG X M rest (E1 s) E EL (f s)) : BG X M (st :: rest) env E EL (R.fl m f) := .mk fun p => by
  have h1 := h p.1
  have p2 := p.2
  cases hv : m.v with
  | nx s =>
    rw [hv] at h1 p2
    refine RdS.consB (P := (· = E1 s)) (h1.imp (fun e ⟨s', e1, e2⟩ => by cases e1; exact e2) (fun _ ⟨_, e1, _⟩ => nomatch e1) (fun _ ⟨_, e1, _⟩ => nomatch e1) fun _ ⟨_, e1, _⟩ => nomatch e1) fun e he => ?_
    rw [he]
    have := k s p2
    simp only [R.fl, hv]
    exact this
  | rt b =>
    rw [hv] at h1
    simp only [R.fl, hv]
    exact RdS.consB (P := fun _ => False) (h1.imp (fun e ⟨s', e1, e2⟩ => nomatch e1) (fun _ ⟨b', e1, e2⟩ => ⟨b', by cases e1; rfl, e2⟩) (fun _ ⟨_, e1, _⟩ => nomatch e1) fun _ ⟨_, e1, _⟩ => nomatch e1) fun e he => he.elim
  | bk b =>
    rw [hv] at h1
    simp only [R.fl, hv]
    exact RdS.consB (P := fun _ => False) (h1.imp (fun e ⟨s', e1, e2⟩ => nomatch e1) (fun _ ⟨_, e1, _⟩ => nomatch e1) (fun _ ⟨b', e1, e2⟩ => ⟨b', by cases e1; rfl, e2⟩) fun _ ⟨_, e1, _⟩ => nomatch e1) fun e he => he.elim
  | ct b =>
    rw [hv] at h1
    simp only [R.fl, hv]
    exact RdS.consB (P := fun _ => False) (h1.imp (fun e ⟨s', e1, e2⟩ => nomatch e1) (fun _ ⟨_, e1, _⟩ => nomatch e1) (fun _ ⟨_, e1, _⟩ => nomatch e1) fun _ ⟨b', e1, e2⟩ => ⟨b', by cases e1; rfl, e2⟩) fun e he => he.elim
theorem BR.consG {EE : Empty → List Sl} {m : R (Fl σU β Empty)} {f : σU → R β} (h : SG X M st env E1 EE m) (k : ∀ s, BR X M rest (E1 s) (f s)) : BR X M (st :: rest) env (R.flR m f) := .mk fun p => by
  have h1 := h p.1
  have p2 := p.2
  cases hv : m.v with
  | nx s =>
    rw [hv] at h1 p2
    refine RdS.consB (P := (· = E1 s)) (h1.imp (fun e ⟨s', e1, e2⟩ => by cases e1; exact e2) (fun _ ⟨_, e1, _⟩ => nomatch e1) (fun _ ⟨_, e1, _⟩ => nomatch e1) fun _ ⟨_, e1, _⟩ => nomatch e1) fun e he => ?_
    rw [he]
    have := k s p2
    simp only [R.flR, hv]
    exact this
  | rt b =>
    rw [hv] at h1
    simp only [R.flR, hv]
    exact RdS.consB (P := fun _ => False) (h1.imp (fun e ⟨s', e1, e2⟩ => nomatch e1) (fun _ ⟨b', e1, e2⟩ => by cases e1; exact e2) (fun _ ⟨_, e1, _⟩ => nomatch e1) fun _ ⟨_, e1, _⟩ => nomatch e1) fun e he => he.elim
  | bk b => exact nomatch b
  | ct b => exact nomatch b
/-! the last statement -/
theorem BR.ret {e : Expr} {pos : Pos} {m : R β} (h : RE X M e env m) : BR X M [.Return (some e) pos] env m := .mk fun p => RdS.oneB (RdS.ofS (ps_ret star_pe) (RdS.ret (h p) fun _ e => e))
/-- a list of one's own is handed back -/
theorem BR.retO {pos pos' : Pos} {x : List α} (i : Nat) {nm : Str} (hi : env[i]? = some (.ow (x.map rep))) (h : RE X M (.Name nm pos') (env.set i (.im (rep x))) (R.pure x)) : BR X M [.Return (some (.Name nm pos')) pos] env (R.pure x) := .mk fun p =>
  RdS.oneB fun S0 H0 σ S H st Dl q1 q2 q3 q4 => by
    obtain ⟨a, vs, _, _, _, _, _, sb, h1⟩ := st.frz hi
    exact RdS.ofS (ps_ret star_pe) (RdS.ret (Z := pR (· = rep x)) (h trivial) fun _ e => e) S0 H0 σ _ H h1 Dl (fun _ _ _ _ z => z.elim) q2 (fun _ _ _ _ z => z.elim) (fun _ _ _ _ z => z.elim)
theorem BG.ret {e : Expr} {pos : Pos} {m : R β} (h : RE X M e env m) : BG X M [.Return (some e) pos] env E EL (R.map Fl.rt m) := .mk fun p => RdS.oneB (RdS.ofS (ps_ret star_pe) (RdS.ret (h p) fun _ e => ⟨_, rfl, e⟩))
theorem BG.brk {pos : Pos} (l : L) (h : LE env (EL l)) : BG X M (β := β) [.Break pos] env E EL (R.pure (.bk l)) := .mk fun _ => RdS.weak h (RdS.oneB (RdS.ofS ps_break fun S0 H0 σ S H st Dl _ _ q3 _ => q3 _ σ S H ⟨l, rfl, rfl⟩ st fun _ _ e => e))
theorem BG.cnt {pos : Pos} (l : L) (h : LE env (EL l)) : BG X M (β := β) [.Continue pos] env E EL (R.pure (.ct l)) := .mk fun _ => RdS.weak h (RdS.oneB (RdS.ofS ps_continue fun S0 H0 σ S H st Dl _ _ _ q4 => q4 _ σ S H ⟨l, rfl, rfl⟩ st fun _ _ e => e))
/-! ifs -/
theorem if_rd {c : Expr} {a b : List Stmt} {pos : Pos} {mc : R Bool} (hc : RT X M c env mc) (hp : mc.p) (h1 : mc.v = true → RdS X.K M (starB X a) env Z) (h2 : mc.v = false → RdS X.K M (starB X b) env Z) : RdS X.K M (starS X (.If c a b pos)) env Z :=
  RdS.ofS (ps_if star_pt star_pss star_pss) (RdS.if (hc hp) (fun e => h1 e.symm) fun e => h2 e.symm)
theorem SN.ite {c : Expr} {a b : List Stmt} {pos : Pos} {mc : R Bool} {m n : R σT} (hc : RT X M c env mc) (h1 : BN X M a env E m) (h2 : BN X M b env E n) : SN X M (.If c a b pos) env E (R.ite mc m n) := .mk fun p =>
  if_rd hc p.1 (fun e => by simp only [R.ite, e, if_true]; exact h1 (p.2.1 e)) fun e => by simp only [R.ite, e]; exact h2 (p.2.2 e)
theorem SG.ite {c : Expr} {a b : List Stmt} {pos : Pos} {mc : R Bool} {m n : R (Fl σT β L)} (hc : RT X M c env mc) (h1 : BG X M a env E EL m) (h2 : BG X M b env E EL n) : SG X M (.If c a b pos) env E EL (R.ite mc m n) := .mk fun p =>
  if_rd hc p.1 (fun e => by simp only [R.ite, e, if_true]; exact h1 (p.2.1 e)) fun e => by simp only [R.ite, e]; exact h2 (p.2.2 e)
theorem BR.ite {c : Expr} {a b : List Stmt} {pos : Pos} {mc : R Bool} {m n : R β} (hc : RT X M c env mc) (h1 : BR X M a env m) (h2 : BR X M b env n) : BR X M [.If c a b pos] env (R.ite mc m n) := .mk fun p =>
  RdS.oneB (if_rd hc p.1 (fun e => by simp only [R.ite, e, if_true]; exact h1 (p.2.1 e)) fun e => by simp only [R.ite, e]; exact h2 (p.2.2 e))
theorem BG.ite {c : Expr} {a b : List Stmt} {pos : Pos} {mc : R Bool} {m n : R (Fl σT β L)} (hc : RT X M c env mc) (h1 : BG X M a env E EL m) (h2 : BG X M b env E EL n) : BG X M [.If c a b pos] env E EL (R.ite mc m n) := .mk fun p =>
  RdS.oneB (if_rd hc p.1 (fun e => by simp only [R.ite, e, if_true]; exact h1 (p.2.1 e)) fun e => by simp only [R.ite, e]; exact h2 (p.2.2 e))
/-- if c: (returns); the rest -/
theorem BR.cut {c : Expr} {a : List Stmt} {pos : Pos} {mc : R Bool} {m n : R β} (hc : RT X M c env mc) (h1 : BR X M a env m) (h2 : BR X M rest env n) : BR X M (.If c a [] pos :: rest) env (R.ite mc m n) := .mk fun p => by
  cases e : mc.v with
  | true =>
    have := h1 (p.2.1 e)
    simp only [R.ite, e, if_true]
    exact RdS.consB (P := fun _ => False) (if_rd hc p.1 (fun _ => this.imp (fun _ z => z.elim) (fun _ z => z) (fun _ z => z.elim) fun _ z => z.elim) fun e2 => by rw [e] at e2; cases e2) fun _ z => z.elim
  | false =>
    have := h2 (p.2.2 e)
    simp only [R.ite, e]
    exact RdS.consB (P := (· = env)) (if_rd hc p.1 (fun e2 => by rw [e] at e2; cases e2) fun _ => RdS.ofB pss_nil (RdS.next rfl)) fun _ z => by rw [z]; exact this
theorem BG.cut {EE : Empty → List Sl} {c : Expr} {a : List Stmt} {pos : Pos} {mc : R Bool} {m : R (Fl Empty β L)} {n : R (Fl σT β L)} (hc : RT X M c env mc) (h1 : BG X M a env EE EL m) (h2 : BG X M rest env E EL n) :
    BG X M (.If c a [] pos :: rest) env E EL (R.ite mc (R.fl m fun z => nomatch z) n) := .mk fun p => by
  cases e : mc.v with
  | true =>
    have h1 := h1 (p.2.1 e).1
    simp only [R.ite, e, if_true]
    refine RdS.consB (P := fun _ => False) (if_rd hc p.1 (fun _ => h1.imp (fun _ ⟨z, _⟩ => nomatch z) (fun _ ⟨b, e1, e2⟩ => ⟨b, by simp [R.fl, e1], e2⟩) (fun _ ⟨b, e1, e2⟩ => ⟨b, by simp [R.fl, e1], e2⟩) fun _ ⟨b, e1, e2⟩ => ⟨b, by simp [R.fl, e1], e2⟩) fun e2 => by rw [e] at e2; cases e2) fun _ z => z.elim
  | false =>
    have := h2 (p.2.2 e)
    simp only [R.ite, e]
    exact RdS.consB (P := (· = env)) (if_rd hc p.1 (fun e2 => by rw [e] at e2; cases e2) fun _ => RdS.ofB pss_nil (RdS.next rfl)) fun _ z => by rw [z]; exact this
/-! stores -/
theorem SN.set {e : Expr} {pos pos' : Pos} {m : R α} (i : Nat) {nm : Str} (hN : X.N.Nodup) (hi : X.N[i]? = some nm) (hx : Loc X.env.scope nm) (hf : X.fn nm = true ∨ X.env.scope.names.lookup nm = some .local) {E : α → List Sl} (h : RE X M e env m) (hE : ∀ v, env.set i (.im (rep v)) = E v) (hs : swapsWith e (some (.Name nm pos')) pos.line X.env = pure false := by rfl) :
    SN X M (.Assign [.Name nm pos'] e pos) env E m := .mk fun p => RdS.ofS (ps_set hN hi hx star_pe hs hf) (RdS.set (h p) fun d ed => by rw [ed]; exact hE _)
theorem SN.setF {e : Expr} {pos pos' : Pos} {m : R (List α)} (i : Nat) {nm : Str} (hN : X.N.Nodup) (hi : X.N[i]? = some nm) (hx : Loc X.env.scope nm) (hf : X.fn nm = true ∨ X.env.scope.names.lookup nm = some .local) {E : List α → List Sl} (h : RF X M e env m) (hE : ∀ v : List α, env.set i (.ow (v.map rep)) = E v) (hs : swapsWith e (some (.Name nm pos')) pos.line X.env = pure false := by rfl) :
    SN X M (.Assign [.Name nm pos'] e pos) env E m := .mk fun p => RdS.ofS (ps_set hN hi hx star_pe hs hf) (RdS.setF (h p) fun d ed => by rw [ed]; exact hE _)
/-- y = [..]: own, or what stays -/
theorem lcset_rd {elt tg iter : Expr} {ifs : List Expr} {scope : Scope} {own : List (Str × Nat)} {pos spos py : Pos} {m : R (List α)} {t : α → R Bool} {f : α → R β} {tE : α → List Sl} {ix : List Nat} (i : Nat) {nm : Str} (hc : X.calm = true) (hN : X.N.Nodup) (hy : X.N[i]? = some nm) (hyl : X.env.scope.names.lookup nm = some .local)
    (hsw : swapsWith (.ListComp elt [⟨tg, iter, ifs, 0⟩] scope pos) (some (.Name nm py)) spos.line X.env = pure true) (ok : BlkOk X.N X.env.scope scope own) (hl : ifs.length ≤ 1) (hix : ∀ i ∈ ix, i ∈ own.map (·.2))
    (hi : RI X M false tg iter env m) (hg : ∀ x, Blk X scope fun Y => RG Y M tg ix (rep x) (wipeE env (own.map (·.2))) (tE x)) (ht : ∀ x, RTs X scope M ifs (tE x) (t x)) (he : ∀ x, Blk X scope fun Y => RE Y M elt (tE x) (f x)) (hs : ∀ x, foldedSetIterable iter X.env x = pure x) (p : (R.lc m t f).p) :
    ∃ te, PS X (.Assign [.Name nm py] (.ListComp elt [⟨tg, iter, ifs, 0⟩] scope pos) spos) (tAsg te (gName i)) ∧ RdF X.K M te env (· = (R.lc m t f).v.map rep) := by
  obtain ⟨tt, pt, rt⟩ := lc_pts (X := X) (M := M) (scope := scope) hl
  exact ⟨_, ps_setLc (g := bG X scope tg) (te := bE X scope elt) hc hN hy hyl hsw star_pi ok (fun s H C cl fp => ⟨fun pins s' σ H' v u Q I r h => h s H C cl fp pins s' u I r⟩) pt (fun s H C cl fp => ⟨fun pins s' σ H' Q I h => h s H C cl fp pins s' I⟩) hs,
    RdF.lc (hi p.1) hix (fun x _ S0 H0 σ S H v st dn Q q s H' C cl fp => hg x s H' C cl fp S0 H0 σ S H v st dn Q q) (fun x _ hp => rt _ _ (ht x) hp) (fun x _ hp S0 H0 σ S H st Q q s H' C cl fp => he x s H' C cl fp hp S0 H0 σ S H st Q q) p.2⟩
theorem SN.lcF {elt tg iter : Expr} {ifs : List Expr} {scope : Scope} {own : List (Str × Nat)} {pos spos py : Pos} {m : R (List α)} {t : α → R Bool} {f : α → R β} {tE : α → List Sl} {ix : List Nat} (i : Nat) {nm : Str} {E : List β → List Sl} (hE : ∀ v : List β, env.set i (.ow (v.map rep)) = E v) (hc : X.calm = true) (hN : X.N.Nodup) (hy : X.N[i]? = some nm) (hyl : X.env.scope.names.lookup nm = some .local)
    (hsw : swapsWith (.ListComp elt [⟨tg, iter, ifs, 0⟩] scope pos) (some (.Name nm py)) spos.line X.env = pure true) (ok : BlkOk X.N X.env.scope scope own) (hl : ifs.length ≤ 1) (hix : ∀ i ∈ ix, i ∈ own.map (·.2))
    (hi : RI X M false tg iter env m) (hg : ∀ x, Blk X scope fun Y => RG Y M tg ix (rep x) (wipeE env (own.map (·.2))) (tE x)) (ht : ∀ x, RTs X scope M ifs (tE x) (t x)) (he : ∀ x, Blk X scope fun Y => RE Y M elt (tE x) (f x)) (hs : ∀ x, foldedSetIterable iter X.env x = pure x) :
    SN X M (.Assign [.Name nm py] (.ListComp elt [⟨tg, iter, ifs, 0⟩] scope pos) spos) env E (R.lc m t f) := .mk fun p => by
  obtain ⟨te, h1, h2⟩ := lcset_rd i hc hN hy hyl hsw ok hl hix hi hg ht he hs p
  exact RdS.ofS h1 (RdS.setF h2 fun d ed => by rw [ed]; exact hE _)
theorem SN.lc {elt tg iter : Expr} {ifs : List Expr} {scope : Scope} {own : List (Str × Nat)} {pos spos py : Pos} {m : R (List α)} {t : α → R Bool} {f : α → R β} {tE : α → List Sl} {ix : List Nat} (i : Nat) {nm : Str} {E : List β → List Sl} (hE : ∀ v : List β, env.set i (.im (rep v)) = E v) (hc : X.calm = true) (hN : X.N.Nodup) (hy : X.N[i]? = some nm) (hyl : X.env.scope.names.lookup nm = some .local)
    (hsw : swapsWith (.ListComp elt [⟨tg, iter, ifs, 0⟩] scope pos) (some (.Name nm py)) spos.line X.env = pure true) (ok : BlkOk X.N X.env.scope scope own) (hl : ifs.length ≤ 1) (hix : ∀ i ∈ ix, i ∈ own.map (·.2))
    (hi : RI X M false tg iter env m) (hg : ∀ x, Blk X scope fun Y => RG Y M tg ix (rep x) (wipeE env (own.map (·.2))) (tE x)) (ht : ∀ x, RTs X scope M ifs (tE x) (t x)) (he : ∀ x, Blk X scope fun Y => RE Y M elt (tE x) (f x)) (hs : ∀ x, foldedSetIterable iter X.env x = pure x) :
    SN X M (.Assign [.Name nm py] (.ListComp elt [⟨tg, iter, ifs, 0⟩] scope pos) spos) env E (R.lc m t f) := .mk fun p => by
  obtain ⟨te, h1, h2⟩ := lcset_rd i hc hN hy hyl hsw ok hl hix hi hg ht he hs p
  exact RdS.ofS h1 (RdS.set h2.e fun d ⟨ds, e1, e2⟩ => by rw [e1, e2]; exact hE _)
/-- targets of any form -/
theorem SN.tgt {e tg : Expr} {pos : Pos} {m : R α} {ix : List Nat} {E : α → List Sl} (h : RE X M e env m) (hg : ∀ v : α, RG X M tg ix (rep v) env (E v)) (hs : swapsWithSole [tg] e pos.line X.env = pure false := by rfl) (hw : swappedStores [tg] e X.env = pure none := by rfl)
    (h1 : (assignEach [tg] X.env).map (·.2) = [assign tg X.env] := by rfl) : SN X M (.Assign [tg] e pos) env E m := .mk fun p =>
  RdS.ofS (ps_asg star_pe star_pg hs hw h1) (RdS.tgt (h p) (fun d ed => by rw [ed]; exact (hg m.v).run) fun d e' _ h => h)
/-- a, b = x, y -/
theorem SN.par {a b : Expr} {px py pt pos : Pos} {kt k2 : Nat} {pt2 : Pos} {m : R α} {n : R β} (i j : Nat) {x y : Str} {E : α × β → List Sl} (hE : ∀ v : α × β, (env.set i (.im (rep v.1))).set j (.im (rep v.2)) = E v) (hc : X.calm = true) (hN : X.N.Nodup) (hi : X.N[i]? = some x) (hj : X.N[j]? = some y) (hij : i ≠ j)
    (hx : X.env.scope.names.lookup x = some .local) (hy : X.env.scope.names.lookup y = some .local) (ha : RA X M [a, b] env [true, true] (R.cons m (R.cons n R.nil)))
    (hw : swappedStores [.Tuple [.Name x px, .Name y py] kt pt] (.Tuple [a, b] k2 pt2) X.env = pure (some [x, y])) (hs : swapsWithSole [.Tuple [.Name x px, .Name y py] kt pt] (.Tuple [a, b] k2 pt2) pos.line X.env = pure false := by rfl) :
    SN X M (.Assign [.Tuple [.Name x px, .Name y py] kt pt] (.Tuple [a, b] k2 pt2) pos) env E (R.tup2 m n) := .mk fun p =>
  RdS.ofS (ps_par hc hN hi hj hij hx hy star_pa hw hs) fun S0 H0 σ S H st Dl q1 _ _ _ => ha ⟨p.1, p.2, trivial⟩ S0 H0 σ S H st _ fun ds vs S1 H1 ed bs t => by
    subst ed
    cases bs with
    | im r1 bs =>
      cases bs with
      | im r2 bs =>
        cases bs
        exact ⟨_, _, rfl, q1 _ _ S1 H1 rfl (by rw [← hE]; exact ((st.step t).putIm i r1).putIm j r2) t.ss⟩
/-! a list of one's own is changed -/
theorem ixN_of {n : Nat} {k : Int} (h : 0 ≤ k ∧ k < n) : ixN n k = some k.toNat := by
  unfold ixN
  rw [if_pos h.1, if_pos h.2]
theorem SN.setIx {e ei : Expr} {pos pos' pn : Pos} {m : R α} {n : R Int} {xs : List α} (i : Nat) {nm : Str} {E : List α → List Sl} (hi : env[i]? = some (.ow (xs.map rep))) (hE : ∀ v : List α, env.set i (.ow (v.map rep)) = E v) (hN : X.N[i]? = some nm) (hv : Vis X.env.scope nm) (hk : OkN nm) (h : RE X M e env m) (h' : RB X M ei env n)
    (ha : ∀ v, assign (.Subscript (.Name nm pn) ei pos') X.env v = (do
      let ov ← holding [v] (eval (.Name nm pn) X.env)
      let iv ← holding [v, ov] (eval ei X.env)
      standAt pos'
      holding [v, ov, iv] (setItem ov iv v)
      release [v, ov, iv] []) := by intro _; rfl) (hs : swapsWithSole [.Subscript (.Name nm pn) ei pos'] e pos.line X.env = pure false := by rfl) (hw : swappedStores [.Subscript (.Name nm pn) ei pos'] e X.env = pure none := by rfl)
    (h1 : (assignEach [.Subscript (.Name nm pn) ei pos'] X.env).map (·.2) = [assign (.Subscript (.Name nm pn) ei pos') X.env] := by rfl) :
    SN X M (.Assign [.Subscript (.Name nm pn) ei pos'] e pos) env E (R.setIx xs m n) := .mk fun p =>
  RdS.ofS (ps_asg star_pe (pg_sub (pe_var hN hv hk.d hk.c) star_pe set_list ha) hs hw h1) fun S0 H0 σ S H st Dl q1 _ _ _ => by
    refine h p.1 S0 H0 σ S H st _ fun d v S1 H1 ed r t1 => ?_
    subst ed
    obtain ⟨a, vs, e1, _⟩ := (st.step t1).mut hi
    refine ⟨.ref a, e1, ?_⟩
    refine h' p.2.1 S0 H0 σ S1 H1 (st.step t1) _ fun d u S2 H2 ed r2 t2 => ?_
    subst ed
    have st2 := (st.step t1).step t2
    obtain ⟨a', vs', e1', e2', rd', nm', ns', up⟩ := st2.mut hi
    rw [e1] at e1'
    cases e1'
    refine ⟨a, vs', n.v, n.v.toNat, rfl, r2.int, e2', ixN_of ⟨p.2.2.1, ?_⟩, ?_⟩
    · have := rd'.length
      rw [List.length_map] at this
      rw [← this]
      exact p.2.2.2
    · refine q1 _ σ S2 _ rfl ?_ fun x o z => t2.ss x o (t1.ss x o z)
      have := up (vs'.set n.v.toNat v) ((xs.set n.v.toNat m.v).map rep) (by rw [List.map_set]; exact rd'.set (r.mon t2.ss) _)
      rw [hE] at this
      exact this
theorem SN.append {e : Expr} {pos apos cpos pn : Pos} {m : R α} {xs : List α} (i : Nat) {nm : Str} {E : List α → List Sl} (hi : env[i]? = some (.ow (xs.map rep))) (hE : ∀ v : List α, env.set i (.ow (v.map rep)) = E v) (hN : X.N[i]? = some nm) (hv : Vis X.env.scope nm) (hk : OkN nm) (h : RE X M e env m)
    (hbase : attributeBase (.Name nm pn) "append" X.env (eval (.Name nm pn) X.env) = eval (.Name nm pn) X.env := by rfl)
    (hfew : ((backTo cpos (starEach [e] X.env)).all (fun x => !x.1) && (backToKw cpos (keywordEach [] X.env)).all (fun x => x.1.isSome) && decide ([e].length + ([] : List Keyword).length + (if ([] : List Keyword).isEmpty then 0 else 1) < 30)) = true := by rfl)
    (hline : (apos.endLine == cpos.line) = true := by rfl) (hst : starEach [e] X.env = (false, eval e X.env) :: starEach [] X.env := by rfl) (hplain : (backTo cpos (starEach [] X.env)).any (·.1) = false := by rfl)
    (hs : swapsWith (.Call (.Attribute (.Name nm pn) "append" apos) [e] [] cpos) none pos.line X.env = pure false := by rfl) :
    SN X M (.Expr (.Call (.Attribute (.Name nm pn) "append" apos) [e] [] cpos) pos) env E (R.app xs m) := .mk fun p =>
  RdS.ofS (ps_expr (pe_bm PySem.F.plainAttrs_list PySem.F.slot_list_append PySem.F.type_list_append mt_append (pe_var hN hv hk.d hk.c) (pa_cons star_pe pa_nil hst) hbase hfew hline hst hplain) hs) fun S0 H0 σ S H st Dl q1 _ _ _ => by
    obtain ⟨a, vs, e1, e2, _⟩ := st.mut hi
    refine ⟨.ref a, e1, .inl ⟨rfl, vs, sql_of e2⟩, ?_⟩
    refine h p.1 S0 H0 σ S H st _ fun d v S1 H1 ed r t1 => ?_
    subst ed
    obtain ⟨a', vs', e1', e2', rd', nm', ns', up⟩ := (st.step t1).mut hi
    rw [e1] at e1'
    cases e1'
    refine ⟨a, vs', v, rfl, rfl, e2', ?_, ?_⟩
    · have := rd'.length
      rw [List.length_map] at this
      have h2 := p.2
      have : sizeLine = 16777216 := sizeLine_eq
      omega
    · refine q1 _ σ S1 _ rfl ?_ t1.ss
      have := up (vs' ++ [v]) ((xs ++ [m.v]).map rep) (by rw [List.map_append]; exact rd'.append (.cons r .nil))
      rw [hE] at this
      exact this
/-! loops -/
def foldP {σT α : Type} (f : σT → α → R σT) : σT → List α → Prop
  | _, [] => True
  | s, x :: xs => (f s x).p ∧ foldP f (f s x).v xs
def foldV {σT α : Type} (f : σT → α → R σT) (s : σT) (xs : List α) : σT := xs.foldl (fun s x => (f s x).v) s
@[simp] def R.fold {σT α : Type} (m : R (List α)) (s : σT) (f : σT → α → R σT) : R σT := ⟨m.p ∧ foldP f s m.v, foldV f s m.v⟩
theorem foldV_take {σT α : Type} {f : σT → α → R σT} {s : σT} {xs : List α} {i : Nat} {x : α} (h : xs[i]? = some x) : foldV f s (xs.take (i + 1)) = (f (foldV f s (xs.take i)) x).v := by
  unfold foldV
  rw [List.take_add_one, h, List.foldl_append]
  rfl
theorem foldP_at {σT α : Type} {f : σT → α → R σT} : ∀ {s : σT} {xs : List α} {i : Nat} {x : α}, foldP f s xs → xs[i]? = some x → (f (foldV f s (xs.take i)) x).p
  | s, [], _, _, _, h => by simp at h
  | s, y :: xs, 0, x, p, h => by simp at h; subst h; exact p.1
  | s, y :: xs, i + 1, x, p, h => by
    have := foldP_at (s := (f s y).v) (i := i) p.2 (by simpa using h)
    simpa [foldV] using this
theorem SN.for {tg iter : Expr} {body : List Stmt} {pos : Pos} {m : R (List α)} {f : σT → α → R σT} {ix : List Nat} {tE : σT → α → List Sl} (s0 : σT) (hp : PassesOwn (model X.prog X.w) X.A X.env X.xe) (hc : X.calm = true) (h0 : LE env (E s0)) (hi : RI X M true tg iter (E s0) m)
    (hg : ∀ s x, RG X M tg ix (rep x) (E s) (tE s x)) (hb : ∀ s x, BN X M body (tE s x) E (f s x)) (hs : ∀ x, foldedSetIterable iter X.env x = pure x) : SN X M (.For tg iter body [] pos) env E (R.fold m s0 f) := .mk fun p =>
  RdS.weak h0 (RdS.ofS (ps_for hp hc star_pi star_pg star_pss hs) (RdS.for (ds := m.v.map rep) (I := fun i e => e = E (foldV f s0 (m.v.take i)))
    (tE := fun i e => match m.v[i]? with | some x => tE (foldV f s0 (m.v.take i)) x | none => e) (hi p.1) (by simp [foldV])
    (fun i d e hd he => by
      rw [List.getElem?_map] at hd
      cases hx : m.v[i]? with
      | none => rw [hx] at hd; cases hd
      | some x =>
        rw [hx] at hd
        cases hd
        subst he
        exact (hg _ x).run)
    (fun i d e hd he => by
      rw [List.getElem?_map] at hd
      cases hx : m.v[i]? with
      | none => rw [hx] at hd; cases hd
      | some x =>
        rw [hx] at hd
        cases hd
        have := hb (foldV f s0 (m.v.take i)) x (foldP_at p.2 hx)
        refine this.imp (fun e h => ?_) (fun _ z => z.elim) (fun _ z => z.elim) fun _ z => z.elim
        show e = E (foldV f s0 (m.v.take (i + 1)))
        rw [foldV_take hx]
        exact h)
    (fun e he => by
      rw [List.length_map, List.take_length] at he
      exact he)))
/-- a loop with ways out -/
def loopV {σT α β L : Type} (f : σT → α → R (Fl σT β σT)) : σT → List α → Fl σT β L
  | s, [] => .nx s
  | s, x :: xs => match (f s x).v with
    | .nx s' => loopV f s' xs
    | .ct s' => loopV f s' xs
    | .bk s' => .nx s'
    | .rt b => .rt b
def loopP {σT α β : Type} (f : σT → α → R (Fl σT β σT)) : σT → List α → Prop
  | _, [] => True
  | s, x :: xs => (f s x).p ∧ match (f s x).v with
    | .nx s' => loopP f s' xs
    | .ct s' => loopP f s' xs
    | .bk _ => True
    | .rt _ => True
@[simp] def R.loop {σT α β L : Type} (m : R (List α)) (s : σT) (f : σT → α → R (Fl σT β σT)) : R (Fl σT β L) := ⟨m.p ∧ loopP f s m.v, loopV f s m.v⟩
theorem SG.for {tg iter : Expr} {body : List Stmt} {pos : Pos} {m : R (List α)} {f : σT → α → R (Fl σT β σT)} {ix : List Nat} {tE : σT → α → List Sl} (s0 : σT) (hp : PassesOwn (model X.prog X.w) X.A X.env X.xe) (hc : X.calm = true) (h0 : LE env (E s0)) (hi : RI X M true tg iter (E s0) m)
    (hg : ∀ s x, RG X M tg ix (rep x) (E s) (tE s x)) (hb : ∀ s x, BG X M body (tE s x) E E (f s x)) (hs : ∀ x, foldedSetIterable iter X.env x = pure x) : SG X M (.For tg iter body [] pos) env E EL (R.loop m s0 f) := .mk fun p =>
  RdS.weak h0 (RdS.ofS (ps_for hp hc star_pi star_pg star_pss hs) (RdS.for (ds := m.v.map rep) (I := fun i e => ∃ s, e = E s ∧ loopP f s (m.v.drop i) ∧ (loopV f s (m.v.drop i) : Fl σT β L) = loopV f s0 m.v)
    (tE := fun i e => match m.v[i]? with | some x => (open Classical in if h : ∃ s, e = E s ∧ loopP f s (m.v.drop i) ∧ (loopV f s (m.v.drop i) : Fl σT β L) = loopV f s0 m.v then tE h.choose x else e) | none => e) (hi p.1) ⟨s0, rfl, by simpa using p.2, by simp⟩
    (fun i d e hd he => by
      rw [List.getElem?_map] at hd
      cases hx : m.v[i]? with
      | none => rw [hx] at hd; cases hd
      | some x =>
        rw [hx] at hd
        cases hd
        have h1 := he.choose_spec
        simp only [dif_pos he]
        have := hg he.choose x
        rw [← h1.1] at this
        exact this.run)
    (fun i d e hd he => by
      rw [List.getElem?_map] at hd
      cases hx : m.v[i]? with
      | none => rw [hx] at hd; cases hd
      | some x =>
        rw [hx] at hd
        cases hd
        simp only [dif_pos he]
        have h1 := he.choose_spec
        generalize he.choose = s at h1
        obtain ⟨_, hP, hV⟩ := h1
        have hdr : m.v.drop i = x :: m.v.drop (i + 1) := by
          obtain ⟨hl, e1⟩ := List.getElem?_eq_some_iff.mp hx
          rw [List.drop_eq_getElem_cons hl, e1]
        rw [hdr] at hP hV
        refine (hb s x hP.1).imp (fun e ⟨s', e1, e2⟩ => ⟨s', e2, ?_, ?_⟩) (fun d ⟨b, e1, e2⟩ => ⟨b, ?_, e2⟩) (fun e ⟨s', e1, e2⟩ => ⟨s', ?_, e2⟩) fun e ⟨s', e1, e2⟩ => ⟨s', e2, ?_, ?_⟩
        · have := hP.2; rw [e1] at this; exact this
        · rw [← hV]; simp only [loopV, e1]
        · show (loopV f s0 m.v : Fl σT β L) = .rt b
          rw [← hV]; simp only [loopV, e1]
        · show (loopV f s0 m.v : Fl σT β L) = .nx s'
          rw [← hV]; simp only [loopV, e1]
        · have := hP.2; rw [e1] at this; exact this
        · rw [← hV]; simp only [loopV, e1])
    (fun e ⟨s, e1, _, hV⟩ => ⟨s, by rw [List.length_map, List.drop_length] at hV; exact hV.symm, e1⟩)))
/-- a while, its turns counted -/
def whileV {σT : Type} (c : σT → R Bool) (f : σT → R σT) : Nat → σT → σT
  | 0, s => s
  | n + 1, s => if (c s).v = true then whileV c f n (f s).v else s
def whileP {σT : Type} (c : σT → R Bool) (f : σT → R σT) : Nat → σT → Prop
  | 0, s => (c s).p ∧ (c s).v = false
  | n + 1, s => (c s).p ∧ ((c s).v = true → (f s).p ∧ whileP c f n (f s).v)
@[simp] def R.whl {σT : Type} (n : Nat) (s : σT) (c : σT → R Bool) (f : σT → R σT) : R σT := ⟨whileP c f n s, whileV c f n s⟩
theorem SN.while {c : Expr} {body : List Stmt} {pos : Pos} {mc : σT → R Bool} {f : σT → R σT} (n : Nat) (s0 : σT) (hp : PassesOwn (model X.prog X.w) X.A X.env X.xe) (h0 : LE env (E s0)) (hc : ∀ s, RT X M c (E s) (mc s)) (hb : ∀ s, BN X M body (E s) E (f s)) : SN X M (.While c body [] pos) env E (R.whl n s0 mc f) := .mk fun p =>
  RdS.weak h0 (RdS.ofS (ps_while hp star_pt star_pss) (RdS.while (I := fun k e => ∃ s, e = E s ∧ whileP mc f k s ∧ whileV mc f k s = whileV mc f n s0) n ⟨s0, rfl, p, rfl⟩ fun k e ⟨s, e1, hP, hV⟩ => by
    subst e1
    cases k with
    | zero =>
      refine ⟨_, hc s hP.1, fun e => ?_, fun e => ?_⟩
      · rw [hP.2] at e; cases e
      · show E s = E (whileV mc f n s0)
        rw [← hV]; rfl
    | succ k =>
      refine ⟨_, hc s hP.1, fun e => ?_, fun e => ?_⟩
      · obtain ⟨h1, h2⟩ := hP.2 e.symm
        refine (hb s h1).imp (fun e' h => ⟨k, Nat.lt_succ_self _, _, h, h2, ?_⟩) (fun _ z => z.elim) (fun _ z => z.elim) fun _ z => z.elim
        rw [← hV]
        show whileV mc f k (f s).v = if (mc s).v = true then whileV mc f k (f s).v else s
        rw [if_pos e.symm]
      · show E s = E (whileV mc f n s0)
        rw [← hV]
        show E s = E (if (mc s).v = true then whileV mc f k (f s).v else s)
        rw [if_neg (by rw [← e]; decide)]))
end
end FP
namespace FP
open PySem PySem.Spec PyProof.Rows L2
open Rep (rep)
/-! ### a def by its body -/
theorem visB {sc : Scope} {x : Str} (h : (match sc.names.lookup x with | some .local => true | some .cell => true | some .free => true | _ => false) = true) : Vis sc x := by
  unfold Vis
  cases e : sc.names.lookup x with
  | none => rw [e] at h; cases h
  | some k => rw [e] at h; cases k <;> first | exact .inl rfl | exact .inr (.inl rfl) | exact .inr (.inr rfl) | cases h
theorem locB {sc : Scope} {x : Str} (h : (match sc.names.lookup x with | some .local => true | some .cell => true | _ => false) = true) : L2.Loc sc x := by
  unfold L2.Loc
  cases e : sc.names.lookup x with
  | none => rw [e] at h; cases h
  | some k => rw [e] at h; cases k <;> first | exact .inl rfl | exact .inr rfl | cases h
/-- the slots at the entry -/
inductive Args : List Bool → List D → List Sl → Prop
  | nil : Args [] [] []
  | im {ms : List Bool} {d : D} {ds : List D} {l : List Sl} : Args ms ds l → Args (true :: ms) (d :: ds) (.im d :: l)
  | br {ms : List Bool} {es ds : List D} {l : List Sl} : Args ms ds l → Args (false :: ms) (.list es :: ds) (.br es :: l)
theorem Args.sl {M : Mm} {K : PySem.W.Frag} {S H : Hp} (g : Gd M S H) : ∀ {ms : List Bool} {ds : List D} {l : List Sl} {vs : List V}, Args ms ds l → Bors K M S H ms ds vs →
    l.length = vs.length ∧ ∀ (i : Nat) (s : Sl), l[i]? = some s → ∃ v, vs[i]? = some v ∧ SlOk K M S H H [] s (some (some v))
  | _, _, _, _, .nil, .nil => ⟨rfl, fun i s e => by simp at e⟩
  | _, _, _, _, .im a, .im r b => by
    obtain ⟨h1, h2⟩ := Args.sl g a b
    refine ⟨by simp [h1], fun i s e => ?_⟩
    cases i with
    | zero => simp at e; subst e; exact ⟨_, rfl, _, rfl, r⟩
    | succ i => simpa using h2 i s (by simpa using e)
  | _, _, _, _, .br a, .br r b => by
    obtain ⟨h1, h2⟩ := Args.sl g a b
    refine ⟨by simp [h1], fun i s e => ?_⟩
    cases i with
    | zero =>
      simp at e; subst e
      obtain ⟨p, us, rfl, e1, e2, e3⟩ := r.lst g
      exact ⟨_, rfl, p, us, rfl, e1, e2, e3⟩
    | succ i => simpa using h2 i s (by simpa using e)
theorem St0.start {T : Addr → Prop} {K : PySem.W.Frag} {S H : Hp} {ms : List Bool} {ds : List D} {l : List Sl} {vs : List V} (hs : Sub S H) (ht : ∀ p, T p → TbG H p ∧ S p = none) (a : Args ms ds l) (b : Bors K (noM T) S H ms ds vs) (n : Nat) : St0 K (noM T) S H S H (l ++ List.replicate n .un) (vs.map some ++ List.replicate n none) := by
  have g : Gd (noM T) S H := ⟨hs, fun _ z => z.elim, ht⟩
  obtain ⟨h1, h2⟩ := Args.sl g a b
  refine ⟨by simp [h1], Step.refl hs, g, fun _ => [], (fun _ _ _ z => nomatch z), (fun _ _ z => nomatch z), fun i s e => ?_⟩
  by_cases hi : i < l.length
  · rw [List.getElem?_append_left hi] at e
    obtain ⟨v, e1, e2⟩ := h2 i s e
    rw [List.getElem?_append_left (by simpa [h1] using hi), List.getElem?_map, e1]
    exact e2
  · rw [List.getElem?_append_right (by omega)] at e
    have := List.mem_of_getElem? e
    rw [List.mem_replicate] at this
    rw [this.2]
    trivial
theorem Bors.lens {K : PySem.W.Frag} {M : Mm} {S H : Hp} {ms : List Bool} {ds : List D} {vs : List V} (b : Bors K M S H ms ds vs) : vs.length = ms.length := b.length.2.symm
/-- the context of a def's body -/
abbrev cxF (P : Program) (w : World) (K : PySem.W.Frag) (mg : Str → Option Value) (base : Heap) (N : List Str) (qual : Str) (sc : Scope) (f : Addr) (cd : Value) (A : Around) (outer : List Env) (s : Shared) (H : Hp) (E : XK) : Cx :=
  (cxOf CX0 P w K mg base N qual sc f cd A outer s H E).nox
theorem fun_ok {P : Program} {w : World} {K : PySem.W.Frag} {mg : Str → Option Value} {base : Heap} {x qual : Str} {params : Arguments} {body : List Stmt} {scope : Scope} {f : Addr} {fd : FuncData} {CX : CXT} {N ps : List Str} {k : Nat} {sp : Sp} (F : FunD K x qual params body scope [] [] f fd) (S : FnScope N ps scope) (len : ∀ vs H Q E, sp vs H Q E → vs.length = ps.length)
    (hbody : ∀ (cdv : Value) (A : Around) (outer : List Env) (s : Shared) (H : Hp) (vs : List V) (Q : VK) (E : XK), fd.code = cdv → Room k (A.deeper (envOfC qual scope s.heap.objs.size f cdv)) → sp vs H Q E →
      ∃ t, PSs (cxOf CX P w K mg base N qual scope f cdv A outer s H E) body t ∧ t { nx := fun _ H' => Q .non H', rt := Q } (L2.start N vs) H) : FnOk P w K mg base CX (k + 1) f fd ps sp := by
  obtain ⟨oc, od, dV, kV, doc, pm, an, cdv, ct, osl, rfl, lk, hcd, _, _⟩ := F.ex
  exact fn_of lk hcd S len fun A outer s H vs Q E hr hsp => hbody cdv A outer s H vs Q E rfl hr hsp
theorem Fn.of {T : Addr → Prop} {P : Program} {w : World} {K : PySem.W.Frag} {mg : Str → Option Value} {base : Heap} {x qual : Str} {params : Arguments} {body : List Stmt} {scope : Scope} {f : Addr} {fd : FuncData} {N ps : List Str} {k : Nat} {ms : List Bool} {G : List D → (D → Prop) → Prop}
    (F : FunD K x qual params body scope [] [] f fd) (S : FnScope N ps scope) (hm : mg x = some (.ref f)) (hb : Binds K fd ps []) (hl : ms.length = ps.length)
    (h : ∀ ds P', G ds P' → ∃ l : List Sl, Args ms ds l ∧ ∀ (cd : Value) (A : Around) (outer : List Env) (s : Shared) (H : Hp) (E : XK), fd.code = cd → Room k (A.deeper (envOfC qual scope s.heap.objs.size f cd)) →
      RdS K (noM T) (starB (cxF P w K mg base N qual scope f cd A outer s H E) body) (l ++ List.replicate (N.length - ps.length) .un) (pR P')) : Fn P w K mg base (k + 1) x (SpD K T ms G) := by
  refine ⟨f, fd, ps, fun_ok F S (fun vs H Q E hsp => ?_) (fun cd A outer s H vs Q E hcd hr hsp => ?_), hm, F.kp, hb⟩
  · obtain ⟨S, ds, P', _, _, b, _⟩ := hsp
    rw [b.lens, hl]
  · obtain ⟨S', ds, P', sb, tb, b, g, q⟩ := hsp
    obtain ⟨l, ha, hbody⟩ := h ds P' g
    have hN : vs.length = ps.length := by rw [b.lens, hl]
    refine ⟨_, PSs.nox star_pss, ?_⟩
    unfold L2.start
    rw [hN]
    exact hbody cd A outer s H E hcd hr S' H _ S' H (St0.start sb tb ha b _) _ (fun _ _ _ _ z => z.elim) (fun d v S2 H2 p r t => q d v S2 H2 p r t) (fun _ _ _ _ z => z.elim) (fun _ _ _ _ z => z.elim)

/-! ### the operations -/
section
variable {X : Cx} {M : Mm} {α β γ : Type} [Rep α] [Rep β] [Rep γ]
theorem semI {C : Int → Int → Prop} {K : PySem.W.Frag} {g : Int → Int → V} {d : D} (i j : Int) (hc : C i j) (hg : ∀ S, Den K S d (g i j)) : Sem2 K M (rI C g) (.int i) (.int j) (· = d) := fun S H x y gd bx bY Q q =>
  ⟨i, j, bx.int, bY.int, hc, q d _ S H rfl (hg S) (Step.refl gd.sub)⟩
theorem semI0 {K : PySem.W.Frag} {g : Int → Int → V} {d : D} (i j : Int) (hg : ∀ S, Den K S d (g i j)) : Sem2 K M (rI0 g) (.int i) (.int j) (· = d) := fun S H x y gd bx bY Q q =>
  ⟨i, j, bx.int, bY.int, q d _ S H rfl (hg S) (Step.refl gd.sub)⟩
abbrev T2 {α β : Type} : α → β → Prop := fun _ _ => True
abbrev T1 {α : Type} : α → Prop := fun _ => True
theorem o_add : Op2 X M .Add T2 (fun i j : Int => i + j) := ⟨_, op_add, fun i j _ => semI0 i j fun _ => .int _⟩
theorem o_sub : Op2 X M .Sub T2 (fun i j : Int => i - j) := ⟨_, op_sub, fun i j _ => semI0 i j fun _ => .int _⟩
theorem o_mul : Op2 X M .Mult CMul (fun i j : Int => i * j) := ⟨_, op_mul, fun i j h => semI i j h fun _ => .int _⟩
theorem o_mulW : Op2 X M .Mult CMulW (fun i j : Int => i * j) := ⟨_, op_mulW, fun i j h => semI i j h fun _ => .int _⟩
theorem o_fdiv : Op2 X M .FloorDiv CDiv (fun i j : Int => i / j) := ⟨_, op_fdiv, fun i j h => semI i j h fun _ => .int _⟩
theorem o_fdivW : Op2 X M .FloorDiv CDivW (fun i j : Int => i / j) := ⟨_, op_fdivW, fun i j h => semI i j h fun _ => .int _⟩
theorem o_mod : Op2 X M .Mod (fun _ j => 0 < j) (fun i j : Int => i % j) := ⟨_, op_mod, fun i j h => semI i j h fun _ => .int _⟩
theorem o_pow : Op2 X M .Pow CPow (fun i j : Int => i ^ j.toNat) := ⟨_, op_pow, fun i j h => semI i j h fun _ => .int _⟩
theorem o_and : Op2 X M .BitAnd T2 (fun i j : Int => Builtin.bitAnd i j) := ⟨_, op_and, fun i j _ => semI0 i j fun _ => .int _⟩
theorem o_or : Op2 X M .BitOr T2 (fun i j : Int => Builtin.bitOr i j) := ⟨_, op_or, fun i j _ => semI0 i j fun _ => .int _⟩
theorem u_neg : Un1 X M .USub T1 (fun i : Int => -i) := ⟨_, un_neg, fun i _ S H x g b Q q => ⟨i, b.int, q _ _ S H rfl (.int _) (Step.refl g.sub)⟩⟩
theorem c_lt : Cm2 X M .Lt T2 (fun i j : Int => decide (i < j)) := ⟨_, op_lt, fun i j _ => semI0 i j fun _ => .bl _⟩
theorem c_le : Cm2 X M .LtE T2 (fun i j : Int => decide (i ≤ j)) := ⟨_, op_le, fun i j _ => semI0 i j fun _ => .bl _⟩
theorem c_gt : Cm2 X M .Gt T2 (fun i j : Int => decide (j < i)) := ⟨_, op_gt, fun i j _ => semI0 i j fun _ => .bl _⟩
theorem c_ge : Cm2 X M .GtE T2 (fun i j : Int => decide (j ≤ i)) := ⟨_, op_ge, fun i j _ => semI0 i j fun _ => .bl _⟩
theorem c_eqI : Cm2 X M .Eq T2 (fun i j : Int => decide (i = j)) := ⟨_, op_eq, fun i j _ S H x y g bx bY Q q => by
  rw [bx.int, bY.int]; exact ⟨rfl, q _ _ S H rfl (by simpa using Den.bl _) (Step.refl g.sub)⟩⟩
theorem c_neI : Cm2 X M .NotEq T2 (fun i j : Int => !decide (i = j)) := ⟨_, op_ne, fun i j _ S H x y g bx bY Q q => by
  rw [bx.int, bY.int]; exact ⟨rfl, q _ _ S H rfl (by simpa using Den.bl _) (Step.refl g.sub)⟩⟩
theorem c_eqB : Cm2 X M .Eq T2 (fun i j : Bool => decide (i = j)) := ⟨_, op_eq, fun i j _ S H x y g bx bY Q q => by
  rw [bx.bl, bY.bl]; exact ⟨rfl, q _ _ S H rfl (by simpa using Den.bl _) (Step.refl g.sub)⟩⟩
theorem c_neB : Cm2 X M .NotEq T2 (fun i j : Bool => !decide (i = j)) := ⟨_, op_ne, fun i j _ S H x y g bx bY Q q => by
  rw [bx.bl, bY.bl]; exact ⟨rfl, q _ _ S H rfl (by simpa using Den.bl _) (Step.refl g.sub)⟩⟩
theorem c_eqS : Cm2 X M .Eq T2 (fun i j : Str => decide (i = j)) := ⟨_, op_eq, fun i j _ S H x y g bx bY Q q => by
  rw [bx.str, bY.str]; exact ⟨rfl, q _ _ S H rfl (by simpa using Den.bl _) (Step.refl g.sub)⟩⟩
theorem c_neS : Cm2 X M .NotEq T2 (fun i j : Str => !decide (i = j)) := ⟨_, op_ne, fun i j _ S H x y g bx bY Q q => by
  rw [bx.str, bY.str]; exact ⟨rfl, q _ _ S H rfl (by simpa using Den.bl _) (Step.refl g.sub)⟩⟩
/-- deep == -/
class PEq (α : Type) [Rep α] [DecidableEq α] where
  eqv : ∀ x y : α, PyData.eqv (rep x) (rep y) = decide (x = y)
  lay : ∀ x : α, PyData.canLay0 (rep x) = true
  dp : Nat
  hdp : ∀ x : α, (rep x : D).depth ≤ dp
/-- never none -/
class NN (α : Type) [Rep α] where
  ne : ∀ x : α, (rep x : D) ≠ .none
theorem PEq.shp [DecidableEq α] [PEq α] (h : PEq.dp α ≤ 64) (x : α) : SeqAt.shaped (rep x) = true := by
  unfold SeqAt.shaped
  rw [PEq.lay x, Bool.true_and, decide_eq_true_eq]
  exact Nat.le_trans (PEq.hdp x) h
theorem c_eq [DecidableEq α] [PEq α] {k : Nat} (hr : Room k X.A) (h : PEq.dp α ≤ 64) : Cm2 X M .Eq T2 (fun x y : α => decide (x = y)) := ⟨_, op_eqD (Room.units hr), fun i j _ S H x y g bx bY Q q =>
  ⟨rep i, rep j, bx.dp g, bY.dp g, PEq.shp h i, PEq.shp h j, q _ _ S H rfl (by rw [PEq.eqv]; exact .bl _) (Step.refl g.sub)⟩⟩
theorem c_ne [DecidableEq α] [PEq α] {k : Nat} (hr : Room k X.A) (h : PEq.dp α ≤ 64) : Cm2 X M .NotEq T2 (fun x y : α => !decide (x = y)) := ⟨_, op_neD (Room.units hr), fun i j _ S H x y g bx bY Q q =>
  ⟨rep i, rep j, bx.dp g, bY.dp g, PEq.shp h i, PEq.shp h j, q _ _ S H rfl (by rw [PEq.eqv]; exact .bl _) (Step.refl g.sub)⟩⟩
theorem eqvAll_map {l k : List α} (h : ∀ x y : α, PyData.eqv (rep x) (rep y) = true ↔ x = y) : PyData.eqvAll (l.map rep) (k.map rep) = true ↔ l = k := by
  induction l generalizing k with
  | nil => cases k <;> simp [PyData.eqvAll]
  | cons x l ih => cases k with
    | nil => simp [PyData.eqvAll]
    | cons y k => simp [PyData.eqvAll, ih, h]
theorem layAll_map {l : List α} (h : ∀ x : α, PyData.canLay0 (rep x) = true) : PyData.canLayAll0 (l.map rep) = true := by
  induction l with
  | nil => rfl
  | cons x l ih => simp [PyData.canLayAll0, ih, h]
theorem depAll_map {l : List α} {k : Nat} (h : ∀ x : α, (rep x : D).depth ≤ k) : PyData.depthAll (l.map rep) ≤ k := by
  induction l with
  | nil => exact Nat.zero_le _
  | cons x l ih => have := h x; simp only [List.map_cons, PyData.depthAll]; omega
theorem PEq.iff [DecidableEq α] [PEq α] (x y : α) : PyData.eqv (rep x) (rep y) = true ↔ x = y := by rw [PEq.eqv, decide_eq_true_eq]
instance : PEq Int := ⟨fun x y => by show (x == y) = decide (x = y); exact Bool.beq_eq_decide_eq x y, fun _ => rfl, 0, fun _ => Nat.le_refl _⟩
instance : PEq Bool := ⟨fun x y => by show (x == y) = decide (x = y); exact Bool.beq_eq_decide_eq x y, fun _ => rfl, 0, fun _ => Nat.le_refl _⟩
instance [DecidableEq α] [PEq α] : PEq (List α) := ⟨fun x y => by
  rw [Bool.eq_iff_iff, decide_eq_true_eq]; exact eqvAll_map PEq.iff, fun x => layAll_map PEq.lay, PEq.dp α + 1, fun x => Nat.succ_le_succ (depAll_map PEq.hdp)⟩
instance [DecidableEq α] [PEq α] : PEq (Tu α) := ⟨fun x y => by
  rw [Bool.eq_iff_iff, decide_eq_true_eq]
  show PyData.eqvAll (x.l.map rep) (y.l.map rep) = true ↔ x = y
  rw [eqvAll_map PEq.iff]
  cases x; cases y; simp, fun x => layAll_map PEq.lay, PEq.dp α + 1, fun x => Nat.succ_le_succ (depAll_map PEq.hdp)⟩
instance [DecidableEq α] [DecidableEq β] [PEq α] [PEq β] : PEq (α × β) := ⟨fun x y => by
  rw [Bool.eq_iff_iff, decide_eq_true_eq]
  show PyData.eqvAll [rep x.1, rep x.2] [rep y.1, rep y.2] = true ↔ x = y
  simp [PyData.eqvAll, PEq.iff, Prod.ext_iff], fun x => by
  show PyData.canLayAll0 [rep x.1, rep x.2] = true
  simp [PyData.canLayAll0, PEq.lay], max (PEq.dp α) (PEq.dp β) + 1, fun x => by
  show PyData.depthAll [rep x.1, rep x.2] + 1 ≤ _
  have h1 := PEq.hdp x.1
  have h2 := PEq.hdp x.2
  simp only [PyData.depthAll]; omega⟩
instance [DecidableEq α] [DecidableEq β] [DecidableEq γ] [PEq α] [PEq β] [PEq γ] : PEq (T3 α β γ) := ⟨fun x y => by
  rw [Bool.eq_iff_iff, decide_eq_true_eq]
  show PyData.eqvAll [rep x.a, rep x.b, rep x.c] [rep y.a, rep y.b, rep y.c] = true ↔ x = y
  cases x; cases y
  simp [PyData.eqvAll, PEq.iff], fun x => by
  show PyData.canLayAll0 [rep x.a, rep x.b, rep x.c] = true
  simp [PyData.canLayAll0, PEq.lay], max (PEq.dp α) (max (PEq.dp β) (PEq.dp γ)) + 1, fun x => by
  show PyData.depthAll [rep x.a, rep x.b, rep x.c] + 1 ≤ _
  have h1 := PEq.hdp x.a
  have h2 := PEq.hdp x.b
  have h3 := PEq.hdp x.c
  simp only [PyData.depthAll]; omega⟩
instance : NN Int := ⟨fun _ z => nomatch z⟩
instance : NN Bool := ⟨fun _ z => nomatch z⟩
instance : NN Str := ⟨fun _ z => nomatch z⟩
instance : NN (List α) := ⟨fun _ z => nomatch z⟩
instance : NN (Tu α) := ⟨fun _ z => nomatch z⟩
instance : NN (α × β) := ⟨fun _ z => nomatch z⟩
instance : NN (T3 α β γ) := ⟨fun _ z => nomatch z⟩
theorem eqv_none_r {d : D} (h : d ≠ .none) : PyData.eqv d .none = false := by cases d <;> first | rfl | exact absurd rfl h
theorem eqv_none_l {d : D} (h : d ≠ .none) : PyData.eqv .none d = false := by cases d <;> first | rfl | exact absurd rfl h
instance [DecidableEq α] [PEq α] [NN α] : PEq (Option α) := ⟨fun x y => by
  cases x with
  | none => cases y with
    | none => rfl
    | some y => show PyData.eqv .none (rep y) = _; rw [eqv_none_l (NN.ne y)]; simp
  | some x => cases y with
    | none => show PyData.eqv (rep x) .none = _; rw [eqv_none_r (NN.ne x)]; simp
    | some y => show PyData.eqv (rep x) (rep y) = _; rw [PEq.eqv]; simp, fun x => by
  cases x with
  | none => rfl
  | some x => exact PEq.lay x, PEq.dp α, fun x => by
  cases x with
  | none => exact Nat.zero_le _
  | some x => exact PEq.hdp x⟩
/-- is None -/
theorem c_isN [NN α] : Cm2 X M .Is T2 (fun (x : Option α) (_ : Option Unit) => x.isNone) := ⟨_, op_isN, fun i j _ S H x y g bx bY Q q => by
  have ey : y = .non := by
    have bY' : Bor X.K M S H .none y := by cases j <;> exact bY
    rcases bY' with b | ⟨a, ds, vs, e1, _⟩
    · cases b; rfl
    · cases e1
  refine ⟨ey, ?_⟩
  cases i with
  | none =>
    have ex : x = .non := by
      rcases bx with b | ⟨a, ds, vs, e1, _⟩
      · cases b; rfl
      · cases e1
    subst ex
    exact q _ _ S H rfl (.bl true) (Step.refl g.sub)
  | some z =>
    have ex : x ≠ .non := fun e => by
      subst e
      rcases bx with b | ⟨a, ds, vs, _, e1, _⟩
      · have := NN.ne z
        cases hz : (rep z : D) with
        | none => exact this hz
        | _ =>
          have b' : Den X.K S (rep z) .non := b
          rw [hz] at b'
          cases b'
      · cases e1
    rw [decide_eq_false ex]
    exact q _ _ S H rfl (.bl false) (Step.refl g.sub)⟩
theorem c_isNot [NN α] : Cm2 X M .IsNot T2 (fun (x : Option α) (_ : Option Unit) => x.isSome) := ⟨_, op_notN, fun i j _ S H x y g bx bY Q q => by
  have ey : y = .non := by
    have bY' : Bor X.K M S H .none y := by cases j <;> exact bY
    rcases bY' with b | ⟨a, ds, vs, e1, _⟩
    · cases b; rfl
    · cases e1
  refine ⟨ey, ?_⟩
  cases i with
  | none =>
    have ex : x = .non := by
      rcases bx with b | ⟨a, ds, vs, e1, _⟩
      · cases b; rfl
      · cases e1
    subst ex
    exact q _ _ S H rfl (.bl false) (Step.refl g.sub)
  | some z =>
    have ex : x ≠ .non := fun e => by
      subst e
      rcases bx with b | ⟨a, ds, vs, _, e1, _⟩
      · have := NN.ne z
        cases hz : (rep z : D) with
        | none => exact this hz
        | _ =>
          have b' : Den X.K S (rep z) .non := b
          rw [hz] at b'
          cases b'
      · cases e1
    rw [decide_eq_false ex]
    exact q _ _ S H rfl (.bl true) (Step.refl g.sub)⟩
/-! lists, tuples -/
def ixOk (n : Nat) (i : Int) : Prop := -(n : Int) ≤ i ∧ i < n
def nth [Inhabited α] (xs : List α) (i : Int) : α := xs.getD (if 0 ≤ i then i.toNat else (i + xs.length).toNat) default
theorem nth_some [Inhabited α] {xs : List α} {i : Int} (h : ixOk xs.length i) : ∃ j, ixN xs.length i = some j ∧ xs[j]? = some (nth xs i) := by
  unfold ixOk at h
  unfold ixN nth
  by_cases h0 : 0 ≤ i
  · have hj : i.toNat < xs.length := by omega
    rw [if_pos h0, if_pos h.2, if_pos h0]
    exact ⟨_, rfl, by simp [List.getD, List.getElem?_eq_getElem hj]⟩
  · have hj : (i + xs.length).toNat < xs.length := by omega
    rw [if_neg h0, if_pos h.1, if_neg h0]
    exact ⟨_, rfl, by simp [List.getD, List.getElem?_eq_getElem hj]⟩
theorem x_list [Inhabited α] : Ix2 X M (fun (xs : List α) i => ixOk xs.length i) nth := ⟨_, ix_list, fun xs i h S H x y g bx bY Q q => by
  obtain ⟨a, vs, rfl, e1, _, r⟩ := bx.lst g
  obtain ⟨j, hj, hx⟩ := nth_some h
  obtain ⟨v, hv, rv⟩ := r.get (show (xs.map rep)[j]? = some (rep (nth xs i)) by rw [List.getElem?_map, hx]; rfl)
  refine ⟨a, vs, i, v, rfl, bY.int, sql_of e1, ?_, q _ v S H rfl rv (Step.refl g.sub)⟩
  unfold atI
  have hl := r.length
  rw [List.length_map] at hl
  rw [← hl, hj]
  exact hv⟩
theorem x_tu [Inhabited α] : Ix2 X M (fun (xs : Tu α) i => ixOk xs.l.length i) (fun xs i => nth xs.l i) := ⟨_, ix_tup, fun xs i h S H x y g bx bY Q q => by
  obtain ⟨a, vs, rfl, e1, r⟩ := bx.tup g
  obtain ⟨j, hj, hx⟩ := nth_some h
  obtain ⟨v, hv, rv⟩ := r.get (show (xs.l.map rep)[j]? = some (rep (nth xs.l i)) by rw [List.getElem?_map, hx]; rfl)
  refine ⟨a, vs, i, v, rfl, bY.int, sub_sqt g.sub e1, ?_, q _ v S H rfl rv (Step.refl g.sub)⟩
  unfold atI
  have hl := r.length
  rw [List.length_map] at hl
  rw [← hl, hj]
  exact hv⟩
/-- [..] * n, [..] + [..], (..) + (..) -/
theorem map_rep_flat (n : Nat) (xs : List α) : ((List.replicate n xs).flatten).map rep = (List.replicate n (xs.map rep)).flatten (α := D) := by
  induction n with
  | zero => rfl
  | succ n ih => simp [List.replicate_succ, ih]
theorem o_rep : Op2F X M .Mult (fun (xs : List α) (n : Int) => -1000000 ≤ n ∧ n ≤ 1000000 ∧ xs.length ≤ 10) (fun xs n => (List.replicate n.toNat xs).flatten) := ⟨_, op_rep, fun xs n h S H x y g bx bY Q q => by
  obtain ⟨a, vs, rfl, e1, _, r⟩ := bx.lst g
  have hl := r.length
  rw [List.length_map] at hl
  refine ⟨a, n, vs, rfl, bY.int, e1, by omega, by omega, ?_, fun p hp => ?_⟩
  · have : sizeLine = 16777216 := sizeLine_eq
    have h2 : vs.length * n.toNat ≤ 10 * 1000000 := Nat.mul_le_mul (by omega) (by omega)
    omega
  · exact q _ p _ S _ rfl hp (g.fresh hp) upd_same (by rw [map_rep_flat]; exact r.rep _) (Step.new g _ hp)⟩
theorem o_cat : Op2F X M .Add (fun (xs ys : List α) => xs.length + ys.length ≤ 1000000) (fun xs ys => xs ++ ys) := ⟨_, op_cat, fun xs ys h S H x y g bx bY Q q => by
  obtain ⟨a, vs, rfl, e1, _, r⟩ := bx.lst g
  obtain ⟨b, us, rfl, f1, _, r'⟩ := bY.lst g
  have hl := r.length
  have hl' := r'.length
  rw [List.length_map] at hl hl'
  refine ⟨a, b, vs, us, rfl, rfl, e1, f1, ?_, fun p hp => ?_⟩
  · have : sizeLine = 16777216 := sizeLine_eq
    omega
  · exact q _ p _ S _ rfl hp (g.fresh hp) upd_same (by rw [List.map_append]; exact r.append r') (Step.new g _ hp)⟩
theorem o_catT : Op2 X M .Add (fun (xs ys : Tu α) => xs.l.length + ys.l.length ≤ 1000000) (fun xs ys => Tu.mk (xs.l ++ ys.l)) := ⟨_, op_catA, fun xs ys h S H x y g bx bY Q q => by
  obtain ⟨a, vs, rfl, e1, r⟩ := bx.tup g
  obtain ⟨b, us, rfl, f1, r'⟩ := bY.tup g
  have hl := r.length
  have hl' := r'.length
  rw [List.length_map] at hl hl'
  refine ⟨a, b, vs, us, rfl, rfl, sub_sqt g.sub e1, sub_sqt g.sub f1, ?_, fun hx => ?_, fun hx hy => ?_, fun hx hy p hp => ?_⟩
  · have : sizeLine = 16777216 := sizeLine_eq
    omega
  · have e : xs.l = [] := by rw [hx] at hl; exact List.length_eq_zero_iff.mp hl
    refine q _ _ S H rfl ?_ (Step.refl g.sub)
    show Den X.K S (.tuple ((xs.l ++ ys.l).map rep)) _
    rw [e]
    exact .tup f1 r'
  · have e : ys.l = [] := by rw [hy] at hl'; exact List.length_eq_zero_iff.mp hl'
    refine q _ _ S H rfl ?_ (Step.refl g.sub)
    show Den X.K S (.tuple ((xs.l ++ ys.l).map rep)) _
    rw [e, List.append_nil]
    exact .tup e1 r
  · have t := Step.newS g (.tup (vs ++ us)) hp
    refine q _ _ _ _ rfl ?_ t
    show Den X.K _ (.tuple ((xs.l ++ ys.l).map rep)) _
    rw [List.map_append]
    exact .tup (.inl (.inl upd_same)) ((r.append r').mon t.ss)⟩
/-! built-ins -/
theorem one_of {K : PySem.W.Frag} {S H : Hp} {d : D} {xs : List V} (b : Bors K M S H [false] [d] xs) : ∃ v, xs = [v] ∧ Bor K M S H d v := by
  cases b with
  | br r b => cases b; exact ⟨_, rfl, r⟩
theorem two_of {K : PySem.W.Frag} {S H : Hp} {d e : D} {xs : List V} (b : Bors K M S H [false, false] [d, e] xs) : ∃ v u, xs = [v, u] ∧ Bor K M S H d v ∧ Bor K M S H e u := by
  cases b with
  | br r b => cases b with
    | br r' b => cases b; exact ⟨_, _, rfl, r, r'⟩
theorem b_lenL : Cb1 X M (.builtin "len") T1 (fun xs : List α => (xs.length : Int)) := ⟨_, call_len, fun xs _ S H vs g b Q q => by
  obtain ⟨v, rfl, c⟩ := one_of b
  obtain ⟨a, us, rfl, e1, _, r⟩ := c.lst g
  have hl := r.length
  rw [List.length_map] at hl
  exact ⟨_, us.length, rfl, .inl ⟨us, sql_of e1, rfl⟩, q _ _ S H rfl (by rw [hl]; exact .int _) (Step.refl g.sub)⟩⟩
theorem b_lenT : Cb1 X M (.builtin "len") T1 (fun xs : Tu α => (xs.l.length : Int)) := ⟨_, call_len, fun xs _ S H vs g b Q q => by
  obtain ⟨v, rfl, c⟩ := one_of b
  obtain ⟨a, us, rfl, e1, r⟩ := c.tup g
  have hl := r.length
  rw [List.length_map] at hl
  exact ⟨_, us.length, rfl, .inr ⟨us, sub_sqt g.sub e1, rfl⟩, q _ _ S H rfl (by rw [hl]; exact .int _) (Step.refl g.sub)⟩⟩
theorem b_sumL (hc : X.calm = true) : Cb1 X M (.builtin "sum") T1 (fun xs : List Int => xs.sum) := ⟨_, cr_sum hc, fun xs _ S H vs g b Q q => by
  obtain ⟨v, rfl, c⟩ := one_of b
  obtain ⟨a, us, rfl, e1, _, r⟩ := c.lst g
  have e2 : us = xs.map V.int := Dens.ints (is := xs) r
  subst e2
  exact ⟨a, xs, rfl, sql_of e1, q _ _ S H rfl (.int _) (Step.refl g.sub)⟩⟩
def lmax (xs : List Int) : Int := xs.foldl max (xs.headD 0)
def lmin (xs : List Int) : Int := xs.foldl min (xs.headD 0)
theorem foldl_max_ge (xs : List Int) : ∀ (a : Int), a ≤ xs.foldl max a ∧ (∀ x ∈ xs, x ≤ xs.foldl max a) ∧ (xs.foldl max a = a ∨ xs.foldl max a ∈ xs) := by
  induction xs with
  | nil => intro a; simp
  | cons x xs ih =>
    intro a
    obtain ⟨h1, h2, h3⟩ := ih (max a x)
    simp only [List.foldl_cons]
    refine ⟨by omega, fun y hy => ?_, ?_⟩
    · rcases List.mem_cons.mp hy with rfl | hy
      · omega
      · exact h2 y hy
    · rcases h3 with h3 | h3
      · rw [h3]
        by_cases h : a ≤ x
        · right; rw [show max a x = x by omega]; exact List.mem_cons_self
        · left; omega
      · right; exact List.mem_cons_of_mem _ h3
theorem foldl_min_le (xs : List Int) : ∀ (a : Int), xs.foldl min a ≤ a ∧ (∀ x ∈ xs, xs.foldl min a ≤ x) ∧ (xs.foldl min a = a ∨ xs.foldl min a ∈ xs) := by
  induction xs with
  | nil => intro a; simp
  | cons x xs ih =>
    intro a
    obtain ⟨h1, h2, h3⟩ := ih (min a x)
    simp only [List.foldl_cons]
    refine ⟨by omega, fun y hy => ?_, ?_⟩
    · rcases List.mem_cons.mp hy with rfl | hy
      · omega
      · exact h2 y hy
    · rcases h3 with h3 | h3
      · rw [h3]
        by_cases h : a ≤ x
        · left; omega
        · right; rw [show min a x = x by omega]; exact List.mem_cons_self
      · right; exact List.mem_cons_of_mem _ h3
theorem lmax_spec {xs : List Int} (h : xs ≠ []) : lmax xs ∈ xs ∧ ∀ x ∈ xs, x ≤ lmax xs := by
  unfold lmax
  obtain ⟨h1, h2, h3⟩ := foldl_max_ge xs (xs.headD 0)
  refine ⟨?_, h2⟩
  rcases h3 with h3 | h3
  · rw [h3]; cases xs with
    | nil => exact absurd rfl h
    | cons x xs => exact List.mem_cons_self
  · exact h3
theorem lmin_spec {xs : List Int} (h : xs ≠ []) : lmin xs ∈ xs ∧ ∀ x ∈ xs, lmin xs ≤ x := by
  unfold lmin
  obtain ⟨h1, h2, h3⟩ := foldl_min_le xs (xs.headD 0)
  refine ⟨?_, h2⟩
  rcases h3 with h3 | h3
  · rw [h3]; cases xs with
    | nil => exact absurd rfl h
    | cons x xs => exact List.mem_cons_self
  · exact h3
theorem lmax_eq {xs : List Int} {m : Int} (h : m ∈ xs) (h2 : ∀ x ∈ xs, x ≤ m) : m = lmax xs := by
  obtain ⟨a, b⟩ := lmax_spec (List.ne_nil_of_mem h)
  have := h2 _ a
  have := b _ h
  omega
theorem lmin_eq {xs : List Int} {m : Int} (h : m ∈ xs) (h2 : ∀ x ∈ xs, m ≤ x) : m = lmin xs := by
  obtain ⟨a, b⟩ := lmin_spec (List.ne_nil_of_mem h)
  have := h2 _ a
  have := b _ h
  omega
theorem b_maxL (hc : X.calm = true) : Cb1 X M (.builtin "max") (fun xs : List Int => xs ≠ []) lmax := ⟨_, cr_max hc, fun xs hne S H vs g b Q q => by
  obtain ⟨v, rfl, c⟩ := one_of b
  obtain ⟨a, us, rfl, e1, _, r⟩ := c.lst g
  have e2 : us = xs.map V.int := Dens.ints (is := xs) r
  subst e2
  exact ⟨a, xs, rfl, sql_of e1, List.length_pos_iff.mpr hne, fun m h1 h2 => q _ _ S H rfl (by rw [lmax_eq h1 h2]; exact .int _) (Step.refl g.sub)⟩⟩
theorem b_minL (hc : X.calm = true) : Cb1 X M (.builtin "min") (fun xs : List Int => xs ≠ []) lmin := ⟨_, cr_min hc, fun xs hne S H vs g b Q q => by
  obtain ⟨v, rfl, c⟩ := one_of b
  obtain ⟨a, us, rfl, e1, _, r⟩ := c.lst g
  have e2 : us = xs.map V.int := Dens.ints (is := xs) r
  subst e2
  exact ⟨a, xs, rfl, sql_of e1, List.length_pos_iff.mpr hne, fun m h1 h2 => q _ _ S H rfl (by rw [lmin_eq h1 h2]; exact .int _) (Step.refl g.sub)⟩⟩
theorem b_max2 (hc : X.calm = true) : Cb2 X M (.builtin "max") T2 (fun i j : Int => max i j) := ⟨_, call_max2 hc, fun i j _ S H vs g b Q q => by
  obtain ⟨v, u, rfl, c, c'⟩ := two_of b
  rw [c.int, c'.int]
  exact ⟨i, j, rfl, q _ _ S H rfl (by rw [show max i j = if j > i then j else i by split <;> omega]; exact .int _) (Step.refl g.sub)⟩⟩
theorem b_min2 (hc : X.calm = true) : Cb2 X M (.builtin "min") T2 (fun i j : Int => min i j) := ⟨_, call_min2 hc, fun i j _ S H vs g b Q q => by
  obtain ⟨v, u, rfl, c, c'⟩ := two_of b
  rw [c.int, c'.int]
  exact ⟨i, j, rfl, q _ _ S H rfl (by rw [show min i j = if j < i then j else i by split <;> omega]; exact .int _) (Step.refl g.sub)⟩⟩
theorem b_abs : Cb1 X M (.builtin "abs") T1 (fun i : Int => if i < 0 then -i else i) := ⟨_, call_abs, fun i _ S H vs g b Q q => by
  obtain ⟨v, rfl, c⟩ := one_of b
  rw [c.int]
  exact ⟨i, rfl, q _ _ S H rfl (.int _) (Step.refl g.sub)⟩⟩
theorem b_intI : Cb1 X M (.type "int") T1 (fun i : Int => i) := ⟨_, call_int1, fun i _ S H vs g b Q q => by
  obtain ⟨v, rfl, c⟩ := one_of b
  rw [c.int]
  exact .inl ⟨i, rfl, q _ _ S H rfl (.int _) (Step.refl g.sub)⟩⟩
theorem b_intB : Cb1 X M (.type "int") T1 (fun i : Bool => if i = true then (1 : Int) else 0) := ⟨_, call_int1, fun i _ S H vs g b Q q => by
  obtain ⟨v, rfl, c⟩ := one_of b
  rw [c.bl]
  exact .inr ⟨i, rfl, q _ _ S H rfl (.int _) (Step.refl g.sub)⟩⟩
theorem b_gcd : Cb2 X M (.builtin "math.gcd") T2 (fun i j : Int => ((Nat.gcd i.natAbs j.natAbs : Nat) : Int)) := ⟨_, cr_gcd, fun i j _ S H vs g b Q q => by
  obtain ⟨v, u, rfl, c, c'⟩ := two_of b
  rw [c.int, c'.int]
  exact ⟨i, j, rfl, q _ _ S H rfl (.int _) (Step.refl g.sub)⟩⟩
theorem b_all (hc : X.calm = true) : Cb1 X M (.builtin "all") T1 (fun xs : List Bool => xs.all id) := ⟨_, cr_all hc, fun xs _ S H vs g b Q q => by
  obtain ⟨v, rfl, c⟩ := one_of b
  obtain ⟨a, us, rfl, e1, _, r⟩ := c.lst g
  have e2 : us = xs.map V.bl := Dens.bools (is := xs) r
  subst e2
  exact ⟨a, xs, rfl, sql_of e1, q _ _ S H rfl (.bl _) (Step.refl g.sub)⟩⟩
theorem b_any (hc : X.calm = true) : Cb1 X M (.builtin "any") T1 (fun xs : List Bool => xs.any id) := ⟨_, cr_any hc, fun xs _ S H vs g b Q q => by
  obtain ⟨v, rfl, c⟩ := one_of b
  obtain ⟨a, us, rfl, e1, _, r⟩ := c.lst g
  have e2 : us = xs.map V.bl := Dens.bools (is := xs) r
  subst e2
  exact ⟨a, xs, rfl, sql_of e1, q _ _ S H rfl (.bl _) (Step.refl g.sub)⟩⟩
theorem b_tupL : Cb1 X M (.type "tuple") T1 (fun xs : List α => Tu.mk xs) := ⟨_, call_tuple_of, fun xs _ S H vs g b Q q => by
  obtain ⟨v, rfl, c⟩ := one_of b
  obtain ⟨a, us, rfl, e1, _, r⟩ := c.lst g
  refine ⟨a, us, rfl, .inl ⟨sql_of e1, fun p hp => ?_⟩⟩
  have t := Step.newS g (.tup us) hp
  exact q _ _ _ _ rfl (.tup (.inl (.inl upd_same)) (r.mon t.ss)) t⟩
theorem b_listL : Cb1F X M (.type "list") T1 (fun xs : List α => xs) := ⟨_, call_list_of, fun xs _ S H vs g b Q q => by
  obtain ⟨v, rfl, c⟩ := one_of b
  obtain ⟨a, us, rfl, e1, _, r⟩ := c.lst g
  exact ⟨a, us, rfl, .inl (sql_of e1), fun p hp => q _ p _ S _ rfl hp (g.fresh hp) upd_same r (Step.new g _ hp)⟩⟩
theorem b_listT : Cb1F X M (.type "list") T1 (fun xs : Tu α => xs.l) := ⟨_, call_list_of, fun xs _ S H vs g b Q q => by
  obtain ⟨v, rfl, c⟩ := one_of b
  obtain ⟨a, us, rfl, e1, r⟩ := c.tup g
  exact ⟨a, us, rfl, .inr (sub_sqt g.sub e1), fun p hp => q _ p _ S _ rfl hp (g.fresh hp) upd_same r (Step.new g _ hp)⟩⟩
/-! truth -/
theorem t_list : Tr1 X M T1 (fun xs : List α => !xs.isEmpty) := ⟨fun xs _ S H v g b => by
  obtain ⟨a, us, rfl, e1, _, r⟩ := b.lst g
  refine .inl ⟨us, sql_of e1, ?_⟩
  have hl := r.length
  rw [List.length_map] at hl
  cases xs <;> cases us <;> simp at hl <;> rfl⟩
theorem t_int : Tr1 X M T1 (fun i : Int => i != 0) := ⟨fun xs _ S H v g b => by rw [b.int]; rfl⟩
theorem t_bool : Tr1 X M T1 (fun i : Bool => i) := ⟨fun xs _ S H v g b => by rw [b.bl]; rfl⟩
end
/-! calls of built-ins -/
section
variable {X : Cx} {M : Mm} {env : List Sl} {pos p0 : Pos} {α β γ : Type} [Rep α] [Rep β] [Rep γ] {nm : Str} {a b : Expr}
theorem sema_ra {K : PySem.W.Frag} {r : List V → Hp → VK → Prop} {ms : List Bool} {l : R (List D)} {es : List Expr} {T : D → Prop} (ha : RA X M es env ms l) (hp : l.p) (h : SemA X.K M r ms l.v T) : RdE X.K M (tCB r (starA X es)) env T :=
  RdE.cb (ha hp) fun ds e => by rw [e]; exact h
theorem RE.b1 {fn : String} {C : α → Prop} {f : α → β} (o : Cb1 X M (.builtin fn) C f) {m : R α} (hg : Gl X nm) (hm : X.mg nm = none) (hv : bootBuiltins nm = Option.some (.builtin fn)) (h : RB X M a env m) (hs : starEach [a] X.env = (false, eval a X.env) :: starEach [] X.env := by rfl)
    (hn : OkN nm) (hpl : (backTo pos (starEach [] X.env)).any (·.1) = false := by rfl) : RE X M (.Call (.Name nm p0) [a] [] pos) env (R.o1 C f m) := .mk fun p => by
  obtain ⟨r, ho, hr⟩ := o.ex
  exact EV.of (pe_callB ho hg hm hv star_pa hn.n hn.d hs hpl) (RdE.cb (RA.br h RA.nil hs ⟨p.1, trivial⟩) fun ds e => by rw [e]; exact hr _ p.2)
theorem RE.b2 {fn : String} {C : α → β → Prop} {f : α → β → γ} (o : Cb2 X M (.builtin fn) C f) {m : R α} {n : R β} (hg : Gl X nm) (hm : X.mg nm = none) (hv : bootBuiltins nm = Option.some (.builtin fn)) (h : RB X M a env m) (h' : RB X M b env n) (hs : starEach [a, b] X.env = (false, eval a X.env) :: starEach [b] X.env := by rfl)
    (hs2 : starEach [b] X.env = (false, eval b X.env) :: starEach [] X.env := by rfl) (hn : OkN nm) (hpl : (backTo pos (starEach [b] X.env)).any (·.1) = false := by rfl) : RE X M (.Call (.Name nm p0) [a, b] [] pos) env (R.o2 C f m n) := .mk fun p => by
  obtain ⟨r, ho, hr⟩ := o.ex
  exact EV.of (pe_callB ho hg hm hv star_pa hn.n hn.d hs hpl) (RdE.cb (RA.br h (RA.br h' RA.nil hs2) hs ⟨p.1, p.2.1, trivial⟩) fun ds e => by rw [e]; exact hr _ _ p.2.2)
theorem RE.g2 {fn : String} {C : α → β → Prop} {f : α → β → γ} (o : Cb2 X M (.builtin fn) C f) {m : R α} {n : R β} (hg : Gl X nm) (hm : X.mg nm = Option.some (.builtin fn)) (h : RB X M a env m) (h' : RB X M b env n) (hs : starEach [a, b] X.env = (false, eval a X.env) :: starEach [b] X.env := by rfl)
    (hs2 : starEach [b] X.env = (false, eval b X.env) :: starEach [] X.env := by rfl) (hn : OkN nm) (hpl : (backTo pos (starEach [b] X.env)).any (·.1) = false := by rfl) : RE X M (.Call (.Name nm p0) [a, b] [] pos) env (R.o2 C f m n) := .mk fun p => by
  obtain ⟨r, ho, hr⟩ := o.ex
  exact EV.of (pe_callBfun ho hg hm star_pa hn.d hs hpl) (RdE.cb (RA.br h (RA.br h' RA.nil hs2) hs ⟨p.1, p.2.1, trivial⟩) fun ds e => by rw [e]; exact hr _ _ p.2.2)
theorem RE.ty1 {fn : String} {C : α → Prop} {f : α → β} (o : Cb1 X M (.type fn) C f) {m : R α} (hg : Gl X nm) (hm : X.mg nm = none) (hv : bootBuiltins nm = Option.some (.type fn)) (h : RB X M a env m) (hs : starEach [a] X.env = (false, eval a X.env) :: starEach [] X.env := by rfl)
    (hn : OkN nm) (hpl : (backTo pos (starEach [] X.env)).any (·.1) = false := by rfl) : RE X M (.Call (.Name nm p0) [a] [] pos) env (R.o1 C f m) := .mk fun p => by
  obtain ⟨r, ho, hr⟩ := o.ex
  exact EV.of (pe_callTy ho hg hm hv star_pa hn.n hn.d hs hpl) (RdE.cb (RA.br h RA.nil hs ⟨p.1, trivial⟩) fun ds e => by rw [e]; exact hr _ p.2)
theorem RF.ty1 {fn : String} {C : α → Prop} {f : α → List β} (o : Cb1F X M (.type fn) C f) {m : R α} (hg : Gl X nm) (hm : X.mg nm = none) (hv : bootBuiltins nm = Option.some (.type fn)) (h : RB X M a env m) (hs : starEach [a] X.env = (false, eval a X.env) :: starEach [] X.env := by rfl)
    (hn : OkN nm) (hpl : (backTo pos (starEach [] X.env)).any (·.1) = false := by rfl) : RF X M (.Call (.Name nm p0) [a] [] pos) env (R.o1 C f m) := .mk fun p => by
  obtain ⟨r, ho, hr⟩ := o.ex
  exact EF.of (pe_callTy ho hg hm hv star_pa hn.n hn.d hs hpl) (RdF.cb (RA.br h RA.nil hs ⟨p.1, trivial⟩) fun ds e => by rw [e]; exact hr _ p.2)
theorem RF.b1 {fn : String} {C : α → Prop} {f : α → List β} (o : Cb1F X M (.builtin fn) C f) {m : R α} (hg : Gl X nm) (hm : X.mg nm = none) (hv : bootBuiltins nm = Option.some (.builtin fn)) (h : RB X M a env m) (hs : starEach [a] X.env = (false, eval a X.env) :: starEach [] X.env := by rfl)
    (hn : OkN nm) (hpl : (backTo pos (starEach [] X.env)).any (·.1) = false := by rfl) : RF X M (.Call (.Name nm p0) [a] [] pos) env (R.o1 C f m) := .mk fun p => by
  obtain ⟨r, ho, hr⟩ := o.ex
  exact EF.of (pe_callB ho hg hm hv star_pa hn.n hn.d hs hpl) (RdF.cb (RA.br h RA.nil hs ⟨p.1, trivial⟩) fun ds e => by rw [e]; exact hr _ p.2)
end
end FP
namespace FP
open PySem PySem.Spec PyProof.Rows L2
open Rep (rep)
/-! ### short words for the printed terms -/
abbrev I {α : Type} [Rep α] (x : α) : Sl := .im (rep x)
abbrev Ow {α : Type} [Rep α] (x : List α) : Sl := .ow (x.map rep)
abbrev Br {α : Type} [Rep α] (x : List α) : Sl := .br (x.map rep)
abbrev U : Sl := .un
abbrev T3t {α β γ : Type} : α → β → γ → Prop := fun _ _ _ => True
end FP
namespace FP
open PySem PySem.Spec PyProof.Rows L2
open Rep (rep)
theorem nm_eq (b : Expr) : behindInMarks .Eq b = false := nomark b
theorem nm_ne (b : Expr) : behindInMarks .NotEq b = false := nomark b
theorem nm_lt (b : Expr) : behindInMarks .Lt b = false := nomark b
theorem nm_le (b : Expr) : behindInMarks .LtE b = false := nomark b
theorem nm_gt (b : Expr) : behindInMarks .Gt b = false := nomark b
theorem nm_ge (b : Expr) : behindInMarks .GtE b = false := nomark b
theorem nm_is (b : Expr) : behindInMarks .Is b = false := nomark b
theorem nm_isn (b : Expr) : behindInMarks .IsNot b = false := nomark b
theorem kb_len : OkN "len" := ⟨by decide +kernel, by decide +kernel, by decide +kernel⟩
theorem bb_len : bootBuiltins ("len" : Str) = some (.builtin "len") := by decide +kernel
theorem kb_sum : OkN "sum" := ⟨by decide +kernel, by decide +kernel, by decide +kernel⟩
theorem bb_sum : bootBuiltins ("sum" : Str) = some (.builtin "sum") := by decide +kernel
theorem kb_max : OkN "max" := ⟨by decide +kernel, by decide +kernel, by decide +kernel⟩
theorem bb_max : bootBuiltins ("max" : Str) = some (.builtin "max") := by decide +kernel
theorem kb_min : OkN "min" := ⟨by decide +kernel, by decide +kernel, by decide +kernel⟩
theorem bb_min : bootBuiltins ("min" : Str) = some (.builtin "min") := by decide +kernel
theorem kb_abs : OkN "abs" := ⟨by decide +kernel, by decide +kernel, by decide +kernel⟩
theorem bb_abs : bootBuiltins ("abs" : Str) = some (.builtin "abs") := by decide +kernel
theorem kb_all : OkN "all" := ⟨by decide +kernel, by decide +kernel, by decide +kernel⟩
theorem bb_all : bootBuiltins ("all" : Str) = some (.builtin "all") := by decide +kernel
theorem kb_any : OkN "any" := ⟨by decide +kernel, by decide +kernel, by decide +kernel⟩
theorem bb_any : bootBuiltins ("any" : Str) = some (.builtin "any") := by decide +kernel
theorem kb_sorted : OkN "sorted" := ⟨by decide +kernel, by decide +kernel, by decide +kernel⟩
theorem bb_sorted : bootBuiltins ("sorted" : Str) = some (.builtin "sorted") := by decide +kernel
theorem kb_int : OkN "int" := ⟨by decide +kernel, by decide +kernel, by decide +kernel⟩
theorem bb_int : bootBuiltins ("int" : Str) = some (.type "int") := by decide +kernel
theorem kb_list : OkN "list" := ⟨by decide +kernel, by decide +kernel, by decide +kernel⟩
theorem bb_list : bootBuiltins ("list" : Str) = some (.type "list") := by decide +kernel
theorem kb_tuple : OkN "tuple" := ⟨by decide +kernel, by decide +kernel, by decide +kernel⟩
theorem bb_tuple : bootBuiltins ("tuple" : Str) = some (.type "tuple") := by decide +kernel
theorem kb_set : OkN "set" := ⟨by decide +kernel, by decide +kernel, by decide +kernel⟩
theorem bb_set : bootBuiltins ("set" : Str) = some (.type "set") := by decide +kernel
theorem kb_str : OkN "str" := ⟨by decide +kernel, by decide +kernel, by decide +kernel⟩
theorem bb_str : bootBuiltins ("str" : Str) = some (.type "str") := by decide +kernel
end FP
namespace FP
open PySem PySem.Spec PyProof.Rows L2
open Rep (rep)
/-! ### more operations -/
section
variable {X : Cx} {M : Mm} {α β γ : Type} [Rep α] [Rep β] [Rep γ]
def lt2 (x y : Int × Int) : Bool := decide (x.1 < y.1 ∨ (x.1 = y.1 ∧ x.2 < y.2))
theorem lexLt_two (a b c d : Int) : HT.lexLt [a, b] [c, d] = lt2 (a, b) (c, d) := by
  simp only [HT.lexLt, lt2]
  by_cases h : a = c
  · subst h
    by_cases h2 : b = d
    · subst h2; simp
    · simp [h2]
  · simp [h]
theorem c_ltP {k : Nat} (hr : Room k X.A) : Cm2 X M .Lt T2 (fun x y : Int × Int => lt2 x y) := ⟨_, op_ltT (Room.units0 hr), fun i j _ S H x y g bx bY Q q => by
  obtain ⟨a, vs, rfl, e1, r⟩ := bx.tup (ds := [i.1, i.2].map .int) g
  obtain ⟨b, us, rfl, f1, r'⟩ := bY.tup (ds := [j.1, j.2].map .int) g
  have e2 : vs = [i.1, i.2].map V.int := r.ints
  have f2 : us = [j.1, j.2].map V.int := r'.ints
  subst e2 f2
  exact ⟨a, b, _, _, rfl, rfl, sub_sqt g.sub e1, sub_sqt g.sub f1, q _ _ S H rfl (by rw [lexLt_two]; exact .bl _) (Step.refl g.sub)⟩⟩
theorem inV_ints (i : Int) (l : List Int) : inV (.int i) (l.map .int) = decide (i ∈ l) := by
  unfold inV
  rw [Bool.eq_iff_iff, decide_eq_true_eq, List.any_map, List.any_eq_true]
  constructor
  · rintro ⟨x, hx, h⟩
    have : x = i := by simpa [eqV] using h
    rw [← this]; exact hx
  · intro h
    exact ⟨i, h, by simp [eqV]⟩
theorem flat_ints (l : List Int) : (l.map V.int).all flatV = true := by simp [flatV]
theorem c_inL : Cm2 X M .In T2 (fun (i : Int) (l : List Int) => decide (i ∈ l)) := ⟨_, op_in_seq, fun i l _ S H x y g bx bY Q q => by
  obtain ⟨a, vs, rfl, e1, _, r⟩ := bY.lst g
  have e2 : vs = l.map V.int := Dens.ints (is := l) r
  subst e2
  rw [bx.int]
  exact ⟨a, _, rfl, .inl (sql_of e1), rfl, flat_ints l, q _ _ S H rfl (by rw [inV_ints]; exact .bl _) (Step.refl g.sub)⟩⟩
theorem c_ninL : Cm2 X M .NotIn T2 (fun (i : Int) (l : List Int) => !decide (i ∈ l)) := ⟨_, op_notIn_seq, fun i l _ S H x y g bx bY Q q => by
  obtain ⟨a, vs, rfl, e1, _, r⟩ := bY.lst g
  have e2 : vs = l.map V.int := Dens.ints (is := l) r
  subst e2
  rw [bx.int]
  exact ⟨a, _, rfl, .inl (sql_of e1), rfl, flat_ints l, q _ _ S H rfl (by rw [inV_ints]; exact .bl _) (Step.refl g.sub)⟩⟩
theorem c_inT : Cm2 X M .In T2 (fun (i : Int) (l : Tu Int) => decide (i ∈ l.l)) := ⟨_, op_in_seq, fun i l _ S H x y g bx bY Q q => by
  obtain ⟨a, vs, rfl, e1, r⟩ := bY.tup g
  have e2 : vs = l.l.map V.int := Dens.ints (is := l.l) r
  subst e2
  rw [bx.int]
  exact ⟨a, _, rfl, .inr (sub_sqt g.sub e1), rfl, flat_ints l.l, q _ _ S H rfl (by rw [inV_ints]; exact .bl _) (Step.refl g.sub)⟩⟩
theorem c_ninT : Cm2 X M .NotIn T2 (fun (i : Int) (l : Tu Int) => !decide (i ∈ l.l)) := ⟨_, op_notIn_seq, fun i l _ S H x y g bx bY Q q => by
  obtain ⟨a, vs, rfl, e1, r⟩ := bY.tup g
  have e2 : vs = l.l.map V.int := Dens.ints (is := l.l) r
  subst e2
  rw [bx.int]
  exact ⟨a, _, rfl, .inr (sub_sqt g.sub e1), rfl, flat_ints l.l, q _ _ S H rfl (by rw [inV_ints]; exact .bl _) (Step.refl g.sub)⟩⟩
/-- sum of a tuple of ints -/
theorem sum_rawT {prog : Program} {w : World} {A : Around} {E : Value → Shared → Prop} {s : Shared} {l : Addr} {its : List Value} {ns : List Int} {Q : Value → Shared → Prop} (hh : A.handled = none) (hl : IsTup s.heap l its.toArray) (hi : IntsAre its ns)
    (h : ∀ h' tk t', (∀ b o, s.heap.get? b = some o → h'.get? b = some o) → Q (.int ns.sum t') { s with heap := h', toks := tk }) : wpAny (model prog w) A (call (.builtin "sum") [.ref l]) Q E s := by
  obtain ⟨xs, e⟩ := hi.allInts.items
  have hn : numsOf (intItems xs).toList = ns := by rw [← e]; exact hi.numsOf
  rw [nums_intItems] at hn
  rw [e] at hl
  have hT : s.heap.IsTuple l (intItems xs) := hl
  have hlt : l < s.heap.objs.size := by obtain ⟨_, e, _⟩ := hT; exact Heap.lt_size e
  have hne : l ≠ s.heap.objs.size := Nat.ne_of_lt hlt
  refine call_sum_walkG (wpAny_pyIter_tuple hT ?_)
  refine ⟨_, _, _, _, _, _, numAt xs, rfl, Walks.tuple (A := A.in1) hh _ l hne (intItems xs), ⟨⟨_, Heap.get?_push_size _ rfl, rfl, rfl⟩, hT.push _⟩, fun b hb => ?_, (fun _ _ => intItems_at), fun h' tk t' hk => ?_⟩
  · show b < (s.heap.push _).objs.size
    rw [Heap.size_push]
    rcases List.mem_cons.mp hb with rfl | hb
    · exact Nat.lt_succ_self _
    · have e : b = l := by simpa using hb
      rw [e]; exact Nat.lt_succ_of_lt hlt
  · have := h h' tk t' fun b o e => hk b o (fun z => absurd (Heap.lt_size e) (by rw [show b = s.heap.objs.size by simpa using z]; exact Nat.lt_irrefl _)) (Heap.get?_push_of_some _ e)
    rw [← hn] at this
    have e2 : (intItems xs).size = xs.size := by simp [intItems]
    rw [e2, preSum_eq, List.take_of_length_le (by simp)]
    exact this
def rSumT (K : PySem.W.Frag) : List V → Hp → VK → Prop := fun vs H Q => ∃ (a : Addr) (ns : List Int), vs = [V.ref a] ∧ SqT K H a (ns.map V.int) ∧ Q (.int ns.sum) H
theorem cr_sumT (hc : X.calm = true) : CallR X (.builtin "sum") (rSumT X.K) := by
  intro pins s σ H vs us Q I r h
  obtain ⟨a, ns, rfl, hs, q⟩ := h
  obtain ⟨its, rv, hl, _⟩ := I.tuple hs
  rw [Vals.ref1 r]
  exact sum_rawT (I.ok.hd hc) hl rv.ints fun h' tk t' hk => ⟨.int _, H, I.kept hk, ⟨_, rfl⟩, q⟩
theorem b_sumT (hc : X.calm = true) : Cb1 X M (.builtin "sum") T1 (fun xs : Tu Int => xs.l.sum) := ⟨_, cr_sumT hc, fun xs _ S H vs g b Q q => by
  obtain ⟨v, rfl, c⟩ := one_of b
  obtain ⟨a, us, rfl, e1, r⟩ := c.tup g
  have e2 : us = xs.l.map V.int := Dens.ints (is := xs.l) r
  subst e2
  exact ⟨a, xs.l, rfl, sub_sqt g.sub e1, q _ _ S H rfl (.int _) (Step.refl g.sub)⟩⟩
end
/-! ### slices -/
def cut {α : Type} (xs : List α) (lo hi : Option Int) : List α := (xs.drop (HT.sIx xs.length 0 lo)).take (HT.sIx xs.length xs.length hi - HT.sIx xs.length 0 lo)
def RdO (K : PySem.W.Frag) (M : Mm) (to : TO) (env : List Sl) (o : Option Int) : Prop :=
  ∀ S0 H0 σ S H, St0 K M S0 H0 S H env σ → ∀ Q : Option Int → Hp → Prop, (∀ S' H', Step M S H S' H' → Q o H') → to σ H Q
structure RO (X : Cx) (M : Mm) (e : Option Expr) (env : List Sl) (m : R (Option Int)) : Prop where
  run : m.p → ∃ to, PO X e to ∧ RdO X.K M to env m.v
section
variable {X : Cx} {M : Mm} {env : List Sl} {α : Type} [Rep α] {e : Expr} {lo hi : Option Expr} {pos p2 : Pos}
theorem RO.none : RO X M none env (R.pure none) := ⟨fun _ => ⟨_, po_none, fun S0 H0 σ S H st Q q => q S H (Step.refl st.gd.sub)⟩⟩
theorem RO.some {m : R Int} (h : RB X M e env m) : RO X M (some e) env (R.map some m) := ⟨fun p => ⟨_, po_some star_pe, fun S0 H0 σ S H st Q q => h p _ _ _ _ _ st _ fun d v S1 H1 ed r t => by
  subst ed
  exact ⟨_, r.int, q S1 H1 t⟩⟩⟩
theorem map_cut (xs : List α) (lo hi : Option Int) : (cut xs lo hi).map rep = cut (xs.map rep : List D) lo hi := by simp [cut]
theorem dens_cut {K : PySem.W.Frag} {S : Hp} {ds : List D} {vs : List V} (r : Dens K S ds vs) (lo hi : Option Int) : Dens K S (cut ds lo hi) (cutV vs lo hi) := by
  unfold cut cutV
  rw [r.length]
  exact (r.drop _).take _
theorem RF.slice {m : R (List α)} {l h : R (Option Int)} (ha : RB X M e env m) (hl : RO X M lo env l) (hh : RO X M hi env h) : RF X M (.Subscript e (.Slice lo hi none p2) pos) env (R.o3 T3t cut m l h) := .mk fun p => by
  obtain ⟨tl, pl, rl⟩ := hl.run p.2.1
  obtain ⟨th, ph, rh⟩ := hh.run p.2.2.1
  refine EF.of (pe_slice sl_list star_pe pl ph) fun S0 H0 σ S H st Q q => ?_
  refine ha p.1 _ _ _ _ _ st _ fun d v S1 H1 ed r t1 => ?_
  subst ed
  refine rl _ _ _ _ _ (st.step t1) _ fun S2 H2 t2 => ?_
  refine rh _ _ _ _ _ ((st.step t1).step t2) _ fun S3 H3 t3 => ?_
  have g := (((st.step t1).step t2).step t3).gd
  obtain ⟨a, vs, rfl, e1, _, r⟩ := ((r.step t2).step t3).lst g
  refine ⟨a, vs, rfl, sql_of e1, fun p hp => ?_⟩
  have tt := (t1.trans t2).trans t3
  refine q _ p _ S3 _ rfl ?_ (g.fresh hp) upd_same (by show Dens X.K S3 ((cut m.v l.v h.v).map rep) _; rw [map_cut]; exact dens_cut r _ _) (tt.trans (Step.new g _ hp))
  cases z : H p with
  | none => rfl
  | some o => exact absurd hp (tt.keep p (by rw [z]; exact fun z => nomatch z))
theorem RE.sliceT {m : R (Tu α)} {l h : R (Option Int)} (ha : RB X M e env m) (hl : RO X M lo env l) (hh : RO X M hi env h) : RE X M (.Subscript e (.Slice lo hi none p2) pos) env (R.o3 T3t (fun xs lo hi => Tu.mk (cut xs.l lo hi)) m l h) := .mk fun p => by
  obtain ⟨tl, pl, rl⟩ := hl.run p.2.1
  obtain ⟨th, ph, rh⟩ := hh.run p.2.2.1
  refine EV.of (pe_slice sl_tupA star_pe pl ph) fun S0 H0 σ S H st Q q => ?_
  refine ha p.1 _ _ _ _ _ st _ fun d v S1 H1 ed r t1 => ?_
  subst ed
  refine rl _ _ _ _ _ (st.step t1) _ fun S2 H2 t2 => ?_
  refine rh _ _ _ _ _ ((st.step t1).step t2) _ fun S3 H3 t3 => ?_
  have g := (((st.step t1).step t2).step t3).gd
  obtain ⟨a, vs, rfl, e1, r⟩ := ((r.step t2).step t3).tup g
  have tt := (t1.trans t2).trans t3
  refine ⟨a, vs, rfl, sub_sqt g.sub e1, fun hw => ?_, fun _ p hp => ?_⟩
  · refine q _ _ S3 H3 rfl ?_ tt
    have e2 : cut (m.v.l.map rep : List D) l.v h.v = m.v.l.map rep := by
      unfold cut
      rw [r.length, hw.1, hw.2, List.drop_zero, Nat.sub_zero, ← r.length, List.take_length]
    show Den X.K S3 (.tuple ((cut m.v.l l.v h.v).map rep)) _
    rw [map_cut, e2]
    exact .tup e1 r
  · have t := Step.newS g (.tup (cutV vs l.v h.v)) hp
    refine q _ _ _ _ rfl ?_ (tt.trans t)
    show Den X.K _ (.tuple ((cut m.v.l l.v h.v).map rep)) _
    rw [map_cut]
    exact .tup (.inl (.inl upd_same)) ((dens_cut r _ _).mon t.ss)
end
end FP
namespace FP
open PySem PySem.Spec PyProof.Rows L2 GenW
open Rep (rep)
/-! ### generator expressions -/
abbrev genv (X : Cx) (scope : Scope) (C : Addr) (code : Value) : Env := genEnv scope (cloFrom X.env.cells scope.names []) C code builtinsNs X.env
/-- the context of a generator expression that was made at s -/
abbrev gblk (X : Cx) (s : Shared) (H : Hp) (A : Around) (scope : Scope) (C : Addr) (code : Value) (fp : List Addr) : Cx :=
  { X with A := A, s_0 := s, H_0 := H, env := genv X scope C code, outer := X.stack, stack := genv X scope C code :: X.stack, ex := fp, fn := fun _ => false, calm := true, pn := [], xe := fun _ _ => False }
section
variable {X : Cx} {pins : List (Addr × Obj)} {σ : L2.St} {H : Hp} {s : Shared}
theorem gen_start {scope : Scope} {own : List (Str × Nat)} {fp : List Addr} {A : Around} {code : Value} (I : L2.Inv X pins σ H s) (ok : BlkOk X.N X.env.scope scope own) (hN : X.N.Nodup) (hcell : ∀ y ∈ scope.names, y.2 ≠ .cell)
    (hfp : ∀ b ∈ fp, FpOk X pins H b ∧ b < s.heap.objs.size) (hA : A.handled = none) (hfr : A.frames = some (genv X scope s.heap.objs.size code :: X.stack)) {h' : Heap} {m0 : Str → Option Value} (hn0 : h'.Ns s.heap.objs.size m0)
    (kp : ∀ b o, s.heap.get? b = some o → h'.get? b = some o) {g' : Array GenState} {t' : Nat} (hb : AllBare g') :
    L2.Inv (gblk X s H A scope s.heap.objs.size code fp) [] (wipe σ (own.map (·.2))) H { s with heap := h', gens := g', toks := t' } := by
  have hfree : ∀ y ∈ scope.names, y.2 = .free → ∃ c, X.env.cells.lookup y.1 = some c := fun y hy e => by
    rcases ok.free y hy e with k | k
    · exact I.ok.has _ (.inl k)
    · exact I.ok.has _ (.inr k)
  have cm : ∀ {y c}, (cloFrom X.env.cells scope.names []).lookup y = some c → (y, NameKind.free) ∈ scope.names ∧ X.env.cells.lookup y = some c ∧ c < s.heap.objs.size := fun {y c} e => by
    rcases cloFrom_mem (PySem.mem_of_lookup e) with hm | ⟨h1, rfl⟩
    · cases hm
    · obtain ⟨c, hc⟩ := hfree _ h1 rfl
      rw [hc]
      obtain ⟨w, z⟩ := I.cell _ _ hc
      exact ⟨h1, rfl, z.lt⟩
  have look : ∀ {y}, scope.names.lookup y = some .free → ∃ c, (cloFrom X.env.cells scope.names []).lookup y = some c ∧ X.env.cells.lookup y = some c := fun {y} hl => by
    have hy : (y, NameKind.free) ∈ scope.names := PySem.mem_of_lookup hl
    obtain ⟨c', e'⟩ := mem_lookup (cloFrom_has (cells := X.env.cells) (acc := []) hy)
    exact ⟨c', e', (cm e').2.1⟩
  have nocell : ∀ y, scope.names.lookup y ≠ some .cell := fun y e => hcell _ (PySem.mem_of_lookup e) rfl
  have okB : (gblk X s H A scope s.heap.objs.size code fp).Ok := by
    refine ⟨I.ok.mod, ok.kind, I.ok.glob, rfl, Nat.le_refl _, fun y z c e1 e2 => I.ok.inj y z c (cm e1).2.1 (cm e2).2.1, fun y hy => ?_, fun y c z _ => (nomatch z), fun _ => hA, hfr, .inr ⟨rfl, rfl⟩, fun b hb => ⟨Nat.ne_of_lt (hfp b hb).2, fun y c e z => ?_⟩,
      I.bs, Nat.le_trans I.ok.bsz I.sz, fun b o e hb => ?_, fun b hb z => ?_, I.stack, I.stkFree⟩
    · rcases hy with hy | hy
      · exact absurd hy (nocell y)
      · obtain ⟨c, h1, _⟩ := look hy
        exact ⟨c, h1⟩
    · exact (hfp b hb).1.2.2.2.2.1 y c (cm e).2.1 z
    · rcases (hfp b hb).1.2.2.2.1 with z | z
      · exact I.ok.noex b o e z
      · exact absurd (Nat.lt_of_lt_of_le (Heap.lt_size e) (Nat.le_trans I.ok.bsz z)) (Nat.lt_irrefl _)
    · rcases List.mem_cons.mp (I.stkSub b z) with z | z
      · exact (hfp b hb).1.2.1 z
      · exact (hfp b hb).1.2.2.1 z
  refine ⟨okB, rfl, hb, Un.kept kp, ⟨m0, hn0, fun i y av e1 e2 e3 => ?_⟩, fun y c e => ?_, I.hok.fresh (Nat.le_refl _), fun y c e => I.freeC y c (cm e).2.1, fun p hp => ?_, I.hok.kept kp, by rw [wipe_length]; exact I.len⟩
  · obtain ⟨e2, hne⟩ := wipe_some e2
    have hfr : scope.names.lookup y = some .free := by
      have no : ∀ k, scope.names.lookup y = some k → ¬ (k = .local ∨ k = .cell) := fun k e hh => by
        rcases ok.own _ (PySem.mem_of_lookup e) hh with e' | e'
        · obtain ⟨p, hp, hpy⟩ := List.mem_map.mp e'
          have e3 := ok.ix p hp
          have : p.1 = y := hpy
          rw [this] at e3
          exact hne (List.mem_map.mpr ⟨p, hp, nodup_ix hN e3 e1⟩)
        · exact e' (List.mem_of_getElem? e1)
      have e3 : Vis scope y := e3
      rcases e3 with e3 | e3 | e3
      · exact absurd (.inl rfl) (no _ e3)
      · exact absurd (.inr rfl) (no _ e3)
      · exact e3
    obtain ⟨m, hn, hl⟩ := I.loc
    have hvis : Vis X.env.scope y := (ok.free _ (PySem.mem_of_lookup hfr) rfl).elim (fun k => .inr (.inl k)) (fun k => .inr (.inr k))
    obtain ⟨w, r, q⟩ := hl i y av e1 e2 hvis
    obtain ⟨c, h1, h2⟩ := look hfr
    refine ⟨w, r, .inr ⟨.inr hfr, ?_⟩⟩
    rcases q with ⟨k, _⟩ | ⟨_, c', e', z⟩
    · have k : X.env.scope.names.lookup y = some .local := k
      rcases ok.free _ (PySem.mem_of_lookup hfr) rfl with k' | k' <;> rw [show X.env.scope.names.lookup y = _ from k'] at k <;> cases k
    · rw [h2] at e'; cases e'
      exact ⟨c, h1, z.keeps kp⟩
  · obtain ⟨w, z⟩ := I.cell y c (cm e).2.1
    exact ⟨w, z.keeps kp⟩
  · exact absurd (show p ∈ ([] : List (Addr × Obj)) ++ [] from hp) (by simp)
/-- the generators alone differ -/
theorem inv_gens (I : L2.Inv X pins σ H s) {s' : Shared} (h1 : s'.heap = s.heap) (h2 : s'.os = s.os) (h3 : AllBare s'.gens) : L2.Inv X pins σ H s' :=
  ⟨I.ok, h2.trans I.os, h3, by rw [h1]; exact I.base, by rw [h1]; exact I.loc, by rw [h1]; exact I.cell, I.free, I.freeC, by rw [h1]; exact I.pin, by rw [h1]; exact I.hok, I.len⟩
end
/-! the loops of all, any: stop at st -/
section
variable {P : Program} {w : World} {A : Around} {R : Result → Shared → Prop} {a : Addr} {G : Nat → Shared → Prop} {Fi : Bool → Shared → Prop}
abbrev PN (P : Program) (w : World) (A : Around) (st : Bool) (a : Addr) (G : Nat → Shared → Prop) (Fi : Bool → Shared → Prop) : Prop :=
  ∀ n s E, G n s → wpAny (model P w) A.in1 (pyNext (.ref a)) (fun r s' => match r with | none => Fi (!st) s' | some v => ∃ c : Bool, v = .bool c ∧ if c = st then Fi st s' else ∃ m, m < n ∧ G m s') E s
theorem all_loopG (h : PN P w A false a G Fi) (hR : ∀ c s', Fi c s' → R (.ok (.ret (.bool c))) s') : ∀ (n : Nat) (s : Shared), G n s → codeAny (model P w) A (.builtin "all.loop" ⟨[.ref a], []⟩) R s := by
  intro n
  induction n using Nat.strongRecOn with
  | _ n ih =>
    intro s hs
    refine codeAny_builtin F.entry_all_loop ?_
    rw [Around.under_plainId F.plain_all_loop _]
    show wpAny _ A.in1 (pyNext (.ref a) >>= _) _ _ s
    refine wpAny_bind (wpAny_mono (h n s _ hs) (fun r s' h' => ?_) fun _ _ e => e)
    cases r with
    | none => exact wpAny_bind (wpAny_rule (wpAny_pure (hR _ s' h')))
    | some v =>
      obtain ⟨c, rfl, h'⟩ := h'
      refine wpAny_bind (wpAny_holding (wpAny_truthy_bool ?_))
      refine wpAny_bind (wpAny_letGo ?_)
      cases c with
      | true =>
        simp only [if_true]
        rw [if_neg (by decide)] at h'
        obtain ⟨m, hm, g'⟩ := h'
        exact wpAny_pure ⟨plainId_quiet F.plain_all_loop _, ih m hm _ g'⟩
      | false =>
        simp only [Bool.false_eq_true, if_false]
        exact wpAny_bind (wpAny_rule (wpAny_pure (hR _ s' h')))
theorem any_loopG (h : PN P w A true a G Fi) (hR : ∀ c s', Fi c s' → R (.ok (.ret (.bool c))) s') : ∀ (n : Nat) (s : Shared), G n s → codeAny (model P w) A (.builtin "any.loop" ⟨[.ref a], []⟩) R s := by
  intro n
  induction n using Nat.strongRecOn with
  | _ n ih =>
    intro s hs
    refine codeAny_builtin F.entry_any_loop ?_
    rw [Around.under_plainId F.plain_any_loop _]
    show wpAny _ A.in1 (pyNext (.ref a) >>= _) _ _ s
    refine wpAny_bind (wpAny_mono (h n s _ hs) (fun r s' h' => ?_) fun _ _ e => e)
    cases r with
    | none => exact wpAny_bind (wpAny_rule (wpAny_pure (hR _ s' h')))
    | some v =>
      obtain ⟨c, rfl, h'⟩ := h'
      refine wpAny_bind (wpAny_holding (wpAny_truthy_bool ?_))
      refine wpAny_bind (wpAny_letGo ?_)
      cases c with
      | false =>
        simp only [Bool.false_eq_true, if_false]
        rw [if_neg (by decide)] at h'
        obtain ⟨m, hm, g'⟩ := h'
        exact wpAny_pure ⟨plainId_quiet F.plain_any_loop _, ih m hm _ g'⟩
      | true =>
        simp only [if_true]
        exact wpAny_bind (wpAny_rule (wpAny_pure (hR _ s' h')))
end
/-! the generator itself -/
/-- all (st = false), any (st = true) over a generator expression; P the def's table -/
def tGx (P : Addr) (st : Bool) (wi : TI) (g : TG) (tt : TT) (te : TE) (vs : List Nat) : TE := fun σ H Q => wi σ H fun J H1 => GxR.TabG H1 P ∧ ∀ H2, GxR.Tabbed P H1 H2 → ∃ W : Nat → Nat → Hp → Prop, (∃ m, W 0 m H2) ∧ ∀ i m H, W i m H →
  (J.stop i H ∧ Q (.bl (!st)) H) ∨ (J.go i H ∧ ∃ Nx : Hp → Prop, (∀ H', Nx H' → ∃ m', m' < m ∧ W (i + 1) m' H') ∧ ∀ x H', J.yld i H x H' → g x (wipe σ vs) H' fun σ2 H2 => wipe σ2 vs = wipe σ vs ∧ tt σ2 H2 fun b H3 =>
    if b = true then te σ2 H3 fun y H4 => ∃ c, y = .bl c ∧ if c = st then Q (.bl st) H4 else Nx H4 else Nx H3)
theorem over_gen {A : Around} {e elt : Expr} {gs : List Comprehension} {scope : Scope} {pos : Pos} {it acc : Value} {env : Env} (h : e = .GeneratorExp elt gs scope pos) : A.over (.compLoop e 0 it acc env) [] = A.deeper env := by
  subst h
  first
    | rfl
    | (obtain ⟨hd, d, fr, g, u⟩ := A; simp [Around.over, Around.deeper, marksOver, frameCount, unitsOf, envsOf, guardsOf, pushEnvs, pushGuards, Code.envs, Code.env?, Code.isFrame, Code.guards, Code.isGuard, Code.weight, Code.frames, Code.isCreation, Code.isCaller, Code.cUnits])
section
variable {X : Cx}
theorem gx_core {pins : List (Addr × Obj)} {s : Shared} {σ : L2.St} {H : Hp} {Q : VK} {elt tg iter : Expr} {ifs : List Expr} {scope : Scope} {own : List (Str × Nat)} {gpos : Pos} {wi : TI} {g : TG} {tt : TT} {te : TE} {c P : Addr} {k : Nat} {st : Bool}
    (hr : Room (k + 1) X.A) (hN : X.N.Nodup) (TB : GxR.TabB X.base X.mg c P) (hcode : X.env.code = .ref c) (co : scope.isCoroutine = false) (hcell : ∀ y ∈ scope.names, y.2 ≠ .cell) (hdot : scope.names.lookup (".0" : Str) = some NameKind.local)
    (I : L2.Inv X pins σ H s) (hi : PI X tg iter wi) (ok : BlkOk X.N X.env.scope scope own)
    (hg : ∀ (s : Shared) (H : Hp) (A : Around) (C : Addr) (code : Value) (fp : List Addr), Room k A → PG (gblk X s H A scope C code fp) tg g) (ht : ∀ (s : Shared) (H : Hp) (A : Around) (C : Addr) (code : Value) (fp : List Addr), Room k A → PTs (gblk X s H A scope C code fp) ifs tt)
    (he : ∀ (s : Shared) (H : Hp) (A : Around) (C : Addr) (code : Value) (fp : List Addr), Room k A → PE (gblk X s H A scope C code fp) elt te) (hs : ∀ v, genFold iter X.env v = pure v)
    (h : tGx P st wi g tt te (own.map (·.2)) σ H Q) :
    wpAny (model X.prog X.w) X.A (eval (.GeneratorExp elt [⟨tg, iter, ifs, 0⟩] scope gpos) X.env) (fun u s' => ∃ (a : Addr) (gi : Nat) (G : Nat → Shared → Prop) (Fi : Bool → Shared → Prop) (n : Nat), u = .ref a ∧ s'.heap.IsGen a gi ∧ PN X.prog X.w X.A st a G Fi ∧ G n s' ∧
      ∀ c s'', Fi c s'' → ∃ H', L2.Inv X pins σ H' s'' ∧ Q (.bl c) H') X.xe s := by
  have hfree : ∀ y ∈ scope.names, y.2 = .free → ∃ c, X.env.cells.lookup y.1 = some c := fun y hy e => by
    rcases ok.free y hy e with k | k
    · exact I.ok.has _ (.inl k)
    · exact I.ok.has _ (.inr k)
  refine wpAny_GeneratorExp_make co (closure_ok hfree) hcell hdot ok.kind hr.depth ?_ hs
  refine thn (hi.run pins s σ H _ I h) fun xv s1 hx => thn hx fun itv s2 h2 => ?_
  obtain ⟨it, fp, tn, J, H2, e, I2, T, st2, f2, ⟨ps, hP, htr⟩, q⟩ := h2
  subst e
  refine ⟨I2.nolimit, ?_⟩
  have hPs : s2.heap.get? P = some { cls := .none, data := .fields ps } := I2.hok P _ hP
  have cd : PySem.W.CodeHd s2.heap c P := TB.code.keeps fun b u e => I2.bk b u e
  have cont : ∀ (code : Value) (h3 : Heap) (tk : Nat) (more : Array Value), Heap.ExtBut P s2.heap h3 → s2.heap.objs.size ≤ h3.objs.size → h3.get? P = some { cls := .none, data := .fields (ps ++ more) } → TriplesOk (ps ++ more).toList →
      wpAny (model X.prog X.w) X.A (builtinsFor X.env.globals X.env.builtins) (fun bi s₄ =>
        ∀ h', h'.Ns s₄.heap.objs.size (fun y => if y = ".0" then some (.ref it) else none) → Heap.SameBut s₄.heap.objs.size (s₄.heap.push { cls := .type "frame", data := .dict #[] }) h' →
          (fun u s' => ∃ (a : Addr) (gi : Nat) (G : Nat → Shared → Prop) (Fi : Bool → Shared → Prop) (n : Nat), u = Value.ref a ∧ s'.heap.IsGen a gi ∧ PN X.prog X.w X.A st a G Fi ∧ G n s' ∧ ∀ c s'', Fi c s'' → ∃ H', L2.Inv X pins σ H' s'' ∧ Q (.bl c) H') (.ref h'.objs.size) { s₄ with
            gens := s₄.gens.push (.fresh (.compStart (.GeneratorExp elt [⟨tg, iter, ifs, 0⟩] scope gpos) 0 (.ref it) .none (genEnv scope (cloFrom X.env.cells scope.names []) s₄.heap.objs.size code bi X.env))),
            toks := s₄.toks + 1 + 1 + 1,
            heap := h'.push { cls := .type "generator", data := .fields #[.int s₄.gens.size 0, .str "<genexpr>" (s₄.toks + 1), .str (X.env.qual ++ "<genexpr>") (s₄.toks + 1 + 1)] } }) X.xe { s2 with heap := h3, toks := tk } := by
    intro code h3 tk more hx hsz hP3 ht3
    have I3 : L2.Inv X pins σ (upd H2 P (.tbl (ps ++ more))) { s2 with heap := h3, toks := tk } := GxR.inv_tab (more := more) (g' := s2.gens) (d' := s2.drawn) (t' := tk) I2 hP (fun b o hb e => hx b o hb e) hP3 I2.bare
    have nfP : ∀ b, H2 b = none → b ≠ P := fun b e z => by rw [z, hP] at e; cases e
    obtain ⟨W, ⟨m0, w0⟩, turn⟩ := q _ ⟨⟨ps ++ more, upd_same, ht3⟩, fun b hb => upd_ne hb⟩
    have hfl : ∀ b ∈ fp, b < s2.heap.objs.size := fun b hb => by
      obtain ⟨o, e, _⟩ := T.obj _ _ st2 b hb
      exact Heap.lt_size e
    have f3 : ∀ b ∈ fp, FpOk X pins (upd H2 P (.tbl (ps ++ more))) b ∧ b < h3.objs.size := fun b hb =>
      ⟨⟨by rw [upd_ne (nfP b (f2 b hb).1)]; exact (f2 b hb).1, (f2 b hb).2⟩, Nat.lt_of_lt_of_le (hfl b hb) hsz⟩
    have st3 : tn 0 h3 := T.keep _ _ _ st2 fun b hb o e => hx b o (nfP b (f2 b hb).1) e
    generalize hH3 : upd H2 P (.tbl (ps ++ more)) = H3 at I3 w0 f3
    generalize hs3 : ({ s2 with heap := h3, toks := tk } : Shared) = s3 at I3 ⊢
    have e3 : h3 = s3.heap := by rw [← hs3]
    rw [e3] at f3 st3
    obtain ⟨bm, ob, e1, e2, e3', e4, e5, e6, e7, e8⟩ := TB.bm
    refine wpAny_builtinsFor (m := X.mg) (by rw [I3.ok.glob]; exact I3.mod.glob.keeps I3.bk) e1 e2 (I3.bk _ _ e5) e6 e7 e8 ?_
    intro h' hn' hs'
    have hsz' : h'.objs.size = s3.heap.objs.size + 1 := by rw [hs'.1, Heap.size_push]
    have keep' : ∀ b o, s3.heap.get? b = some o → h'.get? b = some o := fun b o e => hs'.extBut b o (Nat.ne_of_lt (Heap.lt_size e)) (Heap.get?_push_of_some _ e)
    generalize hgo : ({ cls := .type "generator", data := .fields #[.int s3.gens.size 0, .str "<genexpr>" (s3.toks + 1), .str (X.env.qual ++ "<genexpr>") (s3.toks + 1 + 1)] } : Obj) = go
    generalize ha : h'.objs.size = a
    generalize hgi : s3.gens.size = gi
    have keep5 : ∀ b o, s3.heap.get? b = some o → (h'.push go).get? b = some o := fun b o e => Heap.get?_push_of_some _ (keep' b o e)
    have hga : (h'.push go).get? a = some go := by rw [← ha, ← hgo]; exact Heap.get?_push_size _ rfl
    have hgd : ∀ {h : Heap}, h.get? a = some go → h.IsGen a gi := fun {h} e => by
      refine ⟨go, .str "<genexpr>" (s3.toks + 1), .str (X.env.qual ++ "<genexpr>") (s3.toks + 1 + 1), e, ?_, ?_, ?_⟩ <;> rw [← hgo]
      rw [← hgi]
    show ∃ _, _
    generalize hcenv : genv X scope s3.heap.objs.size code = cenv
    have hce : genEnv scope (cloFrom X.env.cells scope.names []) s3.heap.objs.size code builtinsNs X.env = cenv := hcenv
    rw [hce]
    have hrA : Room k (X.A.in1.in1.deeper cenv) := ⟨hr.hd, by have := hr.dp; show X.A.depth + 1 + 3 * k + 5 < _; omega, by have := hr.un; show X.A.units + 1 + 1 + 3 + 16 * k + 200 < _; omega⟩
    have hfr : (X.A.in1.in1.deeper cenv).frames = some (cenv :: X.stack) := Around.frames_deeper (A := X.A.in1.in1) I3.ok.frames
    have I4 := gen_start (A := X.A.in1.in1.deeper cenv) (code := code) I3 ok hN hcell f3 hrA.hd (by rw [hcenv]; exact hfr) (hn'.push go) keep5 (g' := s3.gens.push (.fresh (.compStart (.GeneratorExp elt [⟨tg, iter, ifs, 0⟩] scope gpos) 0 (.ref it) .none cenv))) (t' := s3.toks + 1 + 1 + 1) (AllBare.push I3.bare rfl)
    have pg := hg s3 H3 (X.A.in1.in1.deeper cenv) s3.heap.objs.size code fp hrA
    have pt := ht s3 H3 (X.A.in1.in1.deeper cenv) s3.heap.objs.size code fp hrA
    have pe := he s3 H3 (X.A.in1.in1.deeper cenv) s3.heap.objs.size code fp hrA
    generalize hs5 : ({ s3 with heap := h'.push go, gens := s3.gens.push (.fresh (.compStart (.GeneratorExp elt [⟨tg, iter, ifs, 0⟩] scope gpos) 0 (.ref it) .none cenv)), toks := s3.toks + 1 + 1 + 1 } : Shared) = s5 at I4
    have h5 : s5.heap = h'.push go := by rw [← hs5]
    have g5 : s5.gens = s3.gens.push (.fresh (.compStart (.GeneratorExp elt [⟨tg, iter, ifs, 0⟩] scope gpos) 0 (.ref it) .none cenv)) := by rw [← hs5]
    have I5 : L2.Inv (gblk X s3 H3 (X.A.in1.in1.deeper cenv) scope s3.heap.objs.size code fp) [(a, go)] (wipe σ (own.map (·.2))) H3 s5 := I4.pins_of fun p hp => by
      rw [List.mem_singleton.mp hp]
      refine ⟨by rw [h5]; exact hga, I3.hok.fresh (by omega), by show a ≠ s3.heap.objs.size; omega, fun hb => ?_, fun v z => by rw [← hgo] at z; cases z⟩
      obtain ⟨_, o, ho, _⟩ := I4.ok.funs.mem hb
      have l1 : a < s3.heap.objs.size := Heap.lt_size ho
      omega
    have st5 : tn 0 s5.heap := T.keep _ _ _ st3 fun b _ o e => by rw [h5]; exact keep5 b o e
    -- back in the def's context
    have toX : ∀ {H' : Hp} {s' : Shared} {σ' : L2.St} {pl : List (Addr × Obj)}, L2.Inv (gblk X s3 H3 (X.A.in1.in1.deeper cenv) scope s3.heap.objs.size code fp) pl σ' H' s' → L2.Inv X pins σ H' s' := fun {H' s' σ' pl} K =>
      I3.call' (ch := fp) K.os K.base K.hok K.bare fun b hb => ⟨(f3 b hb).1.2.2.2.1, (f3 b hb).1.2.1, (f3 b hb).1.2.2.2.2.1, (f3 b hb).1.2.2.2.2.2⟩
    have stat : ∀ {σ' : L2.St} {H' : Hp} {s' : Shared}, L2.Inv (gblk X s3 H3 (X.A.in1.in1.deeper cenv) scope s3.heap.objs.size code fp) [(a, go)] σ' H' s' → (∀ b ∈ fp, H' b = none) → ∀ b ∈ fp, FpOk (gblk X s3 H3 (X.A.in1.in1.deeper cenv) scope s3.heap.objs.size code fp) [(a, go)] H' b := fun {σ' H' s'} I' hn b hb =>
      ⟨hn b hb, (I'.ok.exf b hb).1, I'.ok.exfs b hb, .inl hb, fun x c e => (I'.ok.exf b hb).2 x c e, fun p hp => by
        have hp' : p ∈ ([] : List (Addr × Obj)) ++ [(a, go)] := hp
        rw [List.nil_append] at hp'
        rw [List.mem_singleton.mp hp']
        have := (f3 b hb).2
        show a ≠ b
        intro z
        have h1 : s3.heap.objs.size < b := by rw [← z, ← ha, hsz']; exact Nat.lt_succ_self _
        exact absurd this (Nat.lt_asymm h1)⟩
    generalize hY : gblk X s3 H3 (X.A.in1.in1.deeper cenv) scope s3.heap.objs.size code fp = Y at I4 I5 toX stat pg pt pe
    have yA : Y.A = X.A.in1.in1.deeper cenv := by rw [← hY]
    have yP : Y.prog = X.prog := by rw [← hY]
    have yw : Y.w = X.w := by rw [← hY]
    have yK : Y.K = X.K := by rw [← hY]
    have yc : Y.calm = true := by rw [← hY]
    have yx : Y.xe = fun _ _ => False := by rw [← hY]
    have yenv : Y.env = cenv := by rw [← hY]; exact hcenv
    let vs := own.map (·.2)
    let Hd : Nat → Hp → Shared → Prop := fun i H' s' => L2.Inv Y [(a, go)] (wipe σ vs) H' s' ∧ tn i s'.heap ∧ ∀ b ∈ fp, H' b = none
    let YP : Protocol := fun n _ v s₁ K => gi + 1 ≤ s₁.gens.size ∧ ∃ (c : Bool) (i : Nat) (H' : Hp), v = .bool c ∧ Hd i H' s₁ ∧ (c = st → Q (.bl st) H') ∧
      (c ≠ st → ∀ s₂ : Shared, s₂.heap = s₁.heap → s₂.os = s₁.os → AllBare s₂.gens → gi + 1 ≤ s₂.gens.size → K (.send .none) s₂)
    let PE' : Nat → Shared → Shared → Prop := fun _ _ s₁ => ∃ H', L2.Inv Y [(a, go)] (wipe σ vs) H' s₁ ∧ Q (.bl (!st)) H'
    let GE : Expr := .GeneratorExp elt [⟨tg, iter, ifs, 0⟩] scope gpos
    have hd0 : Hd 0 H3 s5 := ⟨I5, st5, fun b hb => (f3 b hb).1.1⟩
    have loop : ∀ (m n i : Nat) (s₀ s' : Shared) (H' : Hp), m < n → Hd i H' s' → W i m H' → gi + 1 ≤ s'.gens.size →
        Seg (model X.prog X.w) X.A.in1.in1 (fun n s₀ r s₁ => r = .ok .next ∧ PE' n s₀ s₁) YP n s₀ (.compLoop GE 0 (.ref it) .none cenv) ((model X.prog X.w).den (.compLoop GE 0 (.ref it) .none cenv)) [] s' := by
      intro m
      induction m using Nat.strongRecOn with
      | _ m ih =>
        intro n i s₀ s' H' hmn ⟨J5, tn5, n5⟩ hw hgs
        have hov : X.A.in1.in1.over (.compLoop GE 0 (.ref it) .none cenv) [] = Y.A := by rw [yA]; exact over_gen rfl
        show Seg _ X.A.in1.in1 _ _ _ s₀ _ ((compTurn GE 0 (.ref it) .none cenv).onRaise (leaving cenv)) [] s'
        rw [show compTurn GE 0 (.ref it) .none cenv = _ from compTurn_gen elt tg iter ifs scope gpos (.ref it) .none cenv, Sem.onRaise_eq_wrap]
        refine seg_bind_wrap (wpAny_standAt ?_)
        rcases turn i m H' hw with ⟨stop, qq⟩ | ⟨goo, Nx, hNx, step⟩
        · refine seg_bind_wrap ?_
          rw [hov]
          refine wpAny_gsz hgs ?_
          have td := T.done Y yP yw yK yc i [(a, go)] s' _ H' (fun _ _ => False) J5 (stat J5 n5) tn5 stop
          refine thnF td fun r s6 ⟨hr6, I6⟩ hg6 => ?_
          subst hr6
          exact seg_end (.ok .next) ⟨rfl, H', I6, qq⟩
        · refine seg_bind_wrap ?_
          rw [hov]
          refine wpAny_gsz hgs ?_
          have ti := T.item Y yP yw yK yc i [(a, go)] s' _ H' (fun _ _ => False) J5 (stat J5 n5) tn5 goo
          refine thnF ti fun r s6 ⟨u, hr6, h6⟩ hg6 => ?_
          subst hr6
          refine seg_bind_wrap ?_
          rw [hov]
          refine wpAny_gsz hg6 ?_
          refine thnF h6 fun _ s7 ⟨x, H7, I7, r7, y7, st7, n7⟩ hg7 => ?_
          have I7' := I7.pinned (stat I7 n7) (T.obj _ _ st7)
          refine seg_bind_wrap ?_
          rw [hov]
          refine wpAny_gsz hg7 ?_
          have pgr := pg.run _ s7 _ H7 x u _ I7' r7 (step x H7 y7)
          rw [yx, yP, yw, yenv] at pgr
          refine thnF pgr fun _ s8 ⟨σ8, H8, I8, hw8, q8⟩ hg8 => ?_
          refine seg_bind_wrap ?_
          rw [hov]
          refine wpAny_gsz hg8 ?_
          have ptr := pt.run _ s8 σ8 H8 _ I8 q8
          rw [yx, yP, yw, yenv] at ptr
          refine thnF ptr fun b s9 ⟨H9, I9, q9⟩ hg9 => ?_
          have fin : ∀ {s' : Shared} {H' : Hp}, L2.Inv Y ([(a, go)] ++ pinsAt fp s7.heap) σ8 H' s' → Hd (i + 1) H' s' := fun {s' H'} I' => by
            have pin' : ∀ b ∈ fp, ∀ o, s7.heap.get? b = some o → s'.heap.get? b = some o ∧ H' b = none := fun b hb o e =>
              let z := I'.pin (b, o) (List.mem_append_right _ (List.mem_append_right _ (mem_pinsAt hb e)))
              ⟨z.1, z.2.1⟩
            have hl : (wipe σ vs).length = σ8.length := by rw [← hw8, wipe_length]
            refine ⟨(I'.unpinned).weak hl (fun j v e => ?_), T.keep _ _ _ st7 fun b hb o e => (pin' b hb o e).1, fun b hb => ?_⟩
            · rw [← hw8] at e
              exact (wipe_some e).1
            · obtain ⟨o, e, _⟩ := T.obj _ _ st7 b hb
              exact (pin' b hb o e).2
          cases b with
          | false =>
            simp only [Bool.false_eq_true, if_false] at q9 ⊢
            obtain ⟨m', hm', w'⟩ := hNx H9 q9
            exact seg_again rfl (ih m' hm' n (i + 1) s₀ s9 H9 (by omega) (fin I9) w' hg9)
          | true =>
            simp only [if_true] at q9 ⊢
            have hyo : ∀ v, yieldOut cenv v = yieldValue v := fun v => by
              have : cenv.scope.isCoroutine = false := by rw [← hcenv]; exact co
              simp only [yieldOut, this, Bool.false_eq_true, if_false]
            simp only [hyo]
            rw [Sem.bind_eq_wrap', Sem.bind_eq_wrap', Sem.wrap_wrap, Sem.wrap_wrap]
            refine seg_wrap ?_
            rw [hov]
            refine wpAny_gsz hg9 ?_
            have per := pe.run _ s9 σ8 H9 _ I9 q9
            rw [yx, yP, yw, yenv] at per
            refine thnF per fun z s10 ⟨yv, H10, I10, r10, cc, ey, hq⟩ hg10 => ?_
            subst ey
            obtain rfl : z = Value.bool cc := r10
            cases n with
            | zero => exact absurd hmn (Nat.not_lt_zero _)
            | succ n' =>
              refine seg_at (seg_yield rfl rfl rfl ⟨hg10, cc, i + 1, H10, rfl, fin I10, fun e => by rw [if_pos e] at hq; exact hq, fun hne s₂ e1 e2 e3 e4 => ?_⟩)
              rw [if_neg hne] at hq
              obtain ⟨m', hm', w'⟩ := hNx H10 hq
              obtain ⟨K10, tn10, n10⟩ := fin I10
              exact seg_again rfl (ih m' hm' n' (i + 1) s₂ s₂ H10 (by omega) ⟨inv_gens K10 e1 e2 e3, by rw [e1]; exact tn10, n10⟩ w' e4)
    have start : ∀ s₂ : Shared, Hd 0 H3 s₂ → gi + 1 ≤ s₂.gens.size → Seg (model X.prog X.w) X.A.in1.in1 (fun n s₀ r s₁ => r = .ok .next ∧ PE' n s₀ s₁) YP (m0 + 1) s₂ (.compStart GE 0 (.ref it) .none cenv) ((model X.prog X.w).den (.compStart GE 0 (.ref it) .none cenv)) [] s₂ := by
      intro s₂ hd hgs
      have lp := loop m0 (m0 + 1) 0 s₂ s₂ H3 (Nat.lt_succ_self _) hd w0 hgs
      show Seg _ X.A.in1.in1 _ _ _ s₂ _ ((compStart GE 0 (.ref it) .none cenv).onRaise (leaving cenv)) [] s₂
      unfold compStart
      rw [Sem.onRaise_eq_wrap]
      show Seg _ X.A.in1.in1 _ _ _ s₂ _ ((ask >>= _).wrap _ _ _ _) [] s₂
      refine seg_bind_wrap (wpAny_askSetting ?_)
      split
      · exact seg_again rfl lp
      · refine seg_bind_wrap (wpAny_rule ?_)
        show Seg _ X.A.in1.in1 _ _ _ s₂ _ ((standAt iter.pos >>= _).wrap _ _ _ _) [] s₂
        exact seg_bind_wrap (wpAny_standAt (seg_bind_wrap (T.self _ 0 s₂ _ _ hd.2.1 (seg_again rfl lp))))
    let G : Nat → Shared → Prop := fun n s' => (∃ i H', Hd i H' s') ∧ ∃ gs, s'.gens[gi]? = some gs ∧ ∀ s₂ : Shared, s₂.heap = s'.heap → s₂.os = s'.os → AllBare s₂.gens → gi + 1 ≤ s₂.gens.size → gs.Goes (model X.prog X.w) X.A.in1.in1 (fun n s₀ r s₁ => r = .ok .next ∧ PE' n s₀ s₁) YP n (.send .none) s₂
    let Fi : Bool → Shared → Prop := fun c s' => ∃ H', L2.Inv X pins σ H' s' ∧ Q (.bl c) H'
    have szg : ∀ {s' : Shared} {gs : GenState}, s'.gens[gi]? = some gs → gi + 1 ≤ s'.gens.size := fun {s' gs} e => (Array.getElem?_eq_some_iff.mp e).1
    have gen_at : ∀ {i : Nat} {H' : Hp} {s' : Shared}, Hd i H' s' → s'.heap.IsGen a gi := fun {i H' s'} h => hgd (h.1.pin (a, go) (List.mem_append_right _ (List.mem_singleton.mpr rfl))).1
    have pn : PN X.prog X.w X.A st a G Fi := by
      rintro n s' E ⟨⟨i, H', hd⟩, gs, hgs, hgoes⟩
      refine wpAny_pyNext_genexpQ (A := X.A.in1) (P := PE') hr.hd hd.1.nolimit hr.depth (gen_at hd) hgs (hgoes _ rfl rfl (allBare_setGen hd.1.bare rfl) (by rw [setGen_size]; exact szg hgs)) (fun v s₁ gs' hb hy => ?_) (fun s₁ hp h'' hk => ?_)
      · obtain ⟨hz, cc, i', H'', rfl, hd', hq, hK⟩ := hy
        refine ⟨cc, rfl, ?_⟩
        by_cases hc : cc = st
        · rw [if_pos hc]
          subst hc
          exact ⟨H'', toX (inv_gens hd'.1 rfl rfl (allBare_setGen hd'.1.bare hb)), hq rfl⟩
        · rw [if_neg hc]
          have hK' := hK hc
          cases n with
          | zero => exact absurd (hK' s₁ rfl rfl hd'.1.bare hz) (fun z => z)
          | succ n' =>
            exact ⟨n', Nat.lt_succ_self _, ⟨i', H'', inv_gens hd'.1 rfl rfl (allBare_setGen hd'.1.bare hb), hd'.2⟩, gs', setGen_at hz, fun s₂ e1 e2 e3 e4 => hK' s₂ e1 e2 e3 e4⟩
      · obtain ⟨H'', J, hq⟩ := hp
        have J2 : L2.Inv X pins σ H'' (s₁.setGen gi .finished) := toX (inv_gens J rfl rfl (allBare_setGen J.bare rfl))
        exact ⟨H'', J2.kept (t' := (s₁.setGen gi .finished).toks) hk, hq⟩
    have gg : gi + 1 ≤ s5.gens.size := by rw [g5, Array.size_push, hgi]; exact Nat.le_refl _
    refine ⟨a, gi, G, Fi, m0 + 1, rfl, hgd (by exact (I5.pin (a, go) (List.mem_append_right _ (List.mem_singleton.mpr rfl))).1), pn, ?_, fun c s'' z => z⟩
    have : G (m0 + 1) s5 := ⟨⟨0, H3, hd0⟩, .fresh (.compStart GE 0 (.ref it) .none cenv), by rw [g5, ← hgi]; exact Array.getElem?_push_size .., fun s₂ e1 e2 e3 e4 => ⟨rfl, start s₂ ⟨inv_gens I5 e1 e2 e3, by rw [e1]; exact st5, hd0.2.2⟩ e4⟩⟩
    exact this
  cases hf : codeAmong gpos ps.toList with
  | none =>
    refine wpAny_genexprCodeX hcode (cd.code hPs htr) (cd.tab hPs) hf fun c' h' tk hx hge hlt hco' _ htab' _ => ?_
    obtain ⟨o1, vs, f1, tf, fl, tg, inF, tx, tt, op, _, _, _, _, _, _, _, _, _, htr2, _⟩ := hco'
    exact cont _ h' tk _ hx (Nat.le_trans hge (Nat.le_of_lt hlt)) htab'.2 htr2
  | some cv =>
    refine wpAny_genexprCode_hit hcode (cd.code hPs htr) hf ?_
    exact cont cv s2.heap s2.toks #[] (Heap.ExtBut.refl _ _) (Nat.le_refl _) (by simpa using hPs) (by simpa using htr)
end

section
variable {X : Cx}
theorem pe_allG {elt tg iter : Expr} {ifs : List Expr} {scope : Scope} {own : List (Str × Nat)} {gpos pos p : Pos} {wi : TI} {g : TG} {tt : TT} {te : TE} {c P : Addr} {k : Nat}
    (hr : Room (k + 1) X.A) (hgl : Gl X "all") (hm : X.mg "all" = none) (hb : bootBuiltins "all" = some (.builtin "all")) (hN : X.N.Nodup) (TB : GxR.TabB X.base X.mg c P) (hcode : X.env.code = .ref c) (co : scope.isCoroutine = false) (hcell : ∀ y ∈ scope.names, y.2 ≠ .cell) (hdot : scope.names.lookup (".0" : Str) = some NameKind.local)
    (hi : PI X tg iter wi) (ok : BlkOk X.N X.env.scope scope own)
    (hg : ∀ (s : Shared) (H : Hp) (A : Around) (C : Addr) (code : Value) (fp : List Addr), Room k A → PG (gblk X s H A scope C code fp) tg g) (ht : ∀ (s : Shared) (H : Hp) (A : Around) (C : Addr) (code : Value) (fp : List Addr), Room k A → PTs (gblk X s H A scope C code fp) ifs tt)
    (he : ∀ (s : Shared) (H : Hp) (A : Around) (C : Addr) (code : Value) (fp : List Addr), Room k A → PE (gblk X s H A scope C code fp) elt te) (hs : ∀ v, genFold iter X.env v = pure v)
    (hst : starEach [.GeneratorExp elt [⟨tg, iter, ifs, 0⟩] scope gpos] X.env = (false, eval (.GeneratorExp elt [⟨tg, iter, ifs, 0⟩] scope gpos) X.env) :: starEach [] X.env := by rfl) :
    PE X (.Call (.Name "all" p) [.GeneratorExp elt [⟨tg, iter, ifs, 0⟩] scope gpos] [] pos) (tGx P false wi g tt te (own.map (·.2))) := by
  refine ⟨fun pins s σ H Q I h => ?_⟩
  refine wpAny_Call_Name_kw (ld_blt I hgl hm hb ?_)
  refine PyProof.Rows.callWith_builtin1 ?_ hst (by rfl)
  rw [hst]
  show wpAny _ _ (spliced ((false, eval (.GeneratorExp elt [⟨tg, iter, ifs, 0⟩] scope gpos) X.env) :: backTo pos (starEach [] X.env))) _ _ s
  refine Calls.spliced_cons (thn (gx_core hr hN TB hcode co hcell hdot I hi ok hg ht he hs h) fun u s5 ⟨a, gi, G, Fi, n, eu, hgen, pn, hG, hF⟩ => ?_)
  subst eu
  refine Calls.spliced_nil ?_
  refine call_function_tree F.kind_all F.plain_all F.entry_all (F.args_all1 _) ?_
  unfold Builtin.«all»
  refine wpAny_bind (m := oneArg "all" _) (wpAny_pure ?_)
  refine wpAny_bind (wpAny_pyIter_gen hgen ?_)
  exact wpAny_pure ⟨plainId_quiet F.plain_all_loop _, all_loopG pn (fun c s' hf => by
    obtain ⟨H', J, q⟩ := hF c s' hf
    exact ⟨.bl c, H', J, rfl, q⟩) n s5 hG⟩
theorem pe_anyG {elt tg iter : Expr} {ifs : List Expr} {scope : Scope} {own : List (Str × Nat)} {gpos pos p : Pos} {wi : TI} {g : TG} {tt : TT} {te : TE} {c P : Addr} {k : Nat}
    (hr : Room (k + 1) X.A) (hgl : Gl X "any") (hm : X.mg "any" = none) (hb : bootBuiltins "any" = some (.builtin "any")) (hN : X.N.Nodup) (TB : GxR.TabB X.base X.mg c P) (hcode : X.env.code = .ref c) (co : scope.isCoroutine = false) (hcell : ∀ y ∈ scope.names, y.2 ≠ .cell) (hdot : scope.names.lookup (".0" : Str) = some NameKind.local)
    (hi : PI X tg iter wi) (ok : BlkOk X.N X.env.scope scope own)
    (hg : ∀ (s : Shared) (H : Hp) (A : Around) (C : Addr) (code : Value) (fp : List Addr), Room k A → PG (gblk X s H A scope C code fp) tg g) (ht : ∀ (s : Shared) (H : Hp) (A : Around) (C : Addr) (code : Value) (fp : List Addr), Room k A → PTs (gblk X s H A scope C code fp) ifs tt)
    (he : ∀ (s : Shared) (H : Hp) (A : Around) (C : Addr) (code : Value) (fp : List Addr), Room k A → PE (gblk X s H A scope C code fp) elt te) (hs : ∀ v, genFold iter X.env v = pure v)
    (hst : starEach [.GeneratorExp elt [⟨tg, iter, ifs, 0⟩] scope gpos] X.env = (false, eval (.GeneratorExp elt [⟨tg, iter, ifs, 0⟩] scope gpos) X.env) :: starEach [] X.env := by rfl) :
    PE X (.Call (.Name "any" p) [.GeneratorExp elt [⟨tg, iter, ifs, 0⟩] scope gpos] [] pos) (tGx P true wi g tt te (own.map (·.2))) := by
  refine ⟨fun pins s σ H Q I h => ?_⟩
  refine wpAny_Call_Name_kw (ld_blt I hgl hm hb ?_)
  refine PyProof.Rows.callWith_builtin1 ?_ hst (by rfl)
  rw [hst]
  show wpAny _ _ (spliced ((false, eval (.GeneratorExp elt [⟨tg, iter, ifs, 0⟩] scope gpos) X.env) :: backTo pos (starEach [] X.env))) _ _ s
  refine Calls.spliced_cons (thn (gx_core hr hN TB hcode co hcell hdot I hi ok hg ht he hs h) fun u s5 ⟨a, gi, G, Fi, n, eu, hgen, pn, hG, hF⟩ => ?_)
  subst eu
  refine Calls.spliced_nil ?_
  refine call_function_tree F.kind_any F.plain_any F.entry_any (F.args_any1 _) ?_
  unfold Builtin.«any»
  refine wpAny_bind (m := oneArg "any" _) (wpAny_pure ?_)
  refine wpAny_bind (wpAny_pyIter_gen hgen ?_)
  exact wpAny_pure ⟨plainId_quiet F.plain_any_loop _, any_loopG pn (fun c s' hf => by
    obtain ⟨H', J, q⟩ := hF c s' hf
    exact ⟨.bl c, H', J, rfl, q⟩) n s5 hG⟩
end
/-! ### typed -/
def gxP {α : Type} (st : Bool) (t f : α → R Bool) : List α → Prop
  | [] => True
  | x :: xs => (t x).p ∧ ((t x).v = true → (f x).p ∧ ((f x).v ≠ st → gxP st t f xs)) ∧ ((t x).v = false → gxP st t f xs)
def gxV {α : Type} (st : Bool) (t f : α → R Bool) : List α → Bool
  | [] => !st
  | x :: xs => if (t x).v = true then (if (f x).v = st then st else gxV st t f xs) else gxV st t f xs
@[simp] def R.gx {α : Type} (st : Bool) (m : R (List α)) (t f : α → R Bool) : R Bool := ⟨m.p ∧ gxP st t f m.v, gxV st t f m.v⟩
theorem gxV_all {α : Type} {t f : α → R Bool} : ∀ xs : List α, gxV false t f xs = xs.all fun x => !(t x).v || (f x).v
  | [] => rfl
  | x :: xs => by
    unfold gxV
    rw [List.all_cons, gxV_all xs]
    cases (t x).v <;> cases (f x).v <;> rfl
theorem gxV_any {α : Type} {t f : α → R Bool} : ∀ xs : List α, gxV true t f xs = xs.any fun x => (t x).v && (f x).v
  | [] => rfl
  | x :: xs => by
    unfold gxV
    rw [List.any_cons, gxV_any xs]
    cases (t x).v <;> cases (f x).v <;> rfl
theorem gxP_of {α : Type} {st : Bool} {t f : α → R Bool} : ∀ {xs : List α}, (∀ x ∈ xs, (t x).p ∧ ((t x).v = true → (f x).p)) → gxP st t f xs
  | [], _ => trivial
  | x :: xs, h => ⟨(h x List.mem_cons_self).1, fun e => ⟨(h x List.mem_cons_self).2 e, fun _ => gxP_of fun y hy => h y (List.mem_cons_of_mem _ hy)⟩, fun _ => gxP_of fun y hy => h y (List.mem_cons_of_mem _ hy)⟩
section
variable {K : PySem.W.Frag} {M : Mm} {env : List Sl} {α : Type} [Rep α]
theorem RdE.gx {wi : TI} {g : TG} {tt : TT} {te : TE} {vs : List Nat} {P : Addr} {st : Bool} {m : R (List α)} {t f : α → R Bool} {tE : α → List Sl} (hT : M.t P) (hi : RdI K M false wi env (· = m.v.map rep)) {ix : List Nat} (hix : ∀ i ∈ ix, i ∈ vs)
    (hg : ∀ x ∈ m.v, RdG K M g ix (rep x) (wipeE env vs) (· = tE x)) (ht : ∀ x ∈ m.v, (t x).p → RdT K M tt (tE x) (· = (t x).v)) (hf : ∀ x ∈ m.v, (f x).p → RdE K M te (tE x) (· = rep (f x).v)) (hp : gxP st t f m.v) :
    RdE K M (tGx P st wi g tt te vs) env (· = rep (gxV st t f m.v)) := fun S0 H0 σ S H st0 Q q => by
  refine hi _ _ _ _ _ st0 _ fun ds J S1 H1 ed t1 it => ?_
  subst ed
  have st1 := st0.step t1
  have g1 := st1.gd
  refine ⟨(g1.tab P hT).1, fun H2 hTab => ?_⟩
  have tT : Step M S1 H1 S1 H2 := Step.tabd g1 hT hTab.1 hTab.2
  refine ⟨fun i k H' => k = m.v.length - i ∧ i ≤ m.v.length ∧ gxP st t f (m.v.drop i) ∧ gxV st t f (m.v.drop i) = gxV st t f m.v ∧ ∃ S', Step M S1 H1 S' H', ⟨m.v.length, by simp, Nat.zero_le _, by simpa using hp, by simp, S1, tT⟩, ?_⟩
  rintro i k H' ⟨rfl, hil, hP, hV, S', t2⟩
  have st2 : St0 K M S0 H0 S' H' env σ := st1.step t2
  have rc : Rch K M false S0 H0 S1 H1 S' H' := ⟨st2.gd, t2.ss, t2⟩
  by_cases hlt : i < m.v.length
  · refine .inr ?_
    have hx : m.v[i]? = some m.v[i] := List.getElem?_eq_getElem hlt
    have hdr : m.v.drop i = m.v[i] :: m.v.drop (i + 1) := List.drop_eq_getElem_cons hlt
    generalize m.v[i] = x at hx hdr
    rw [hdr] at hP hV
    have hmem : x ∈ m.v := List.mem_of_getElem? hx
    obtain ⟨go, yl⟩ := it.go S' H' i (rep x) rc (by rw [List.getElem?_map, hx]; rfl)
    refine ⟨go, fun H3 => ∃ S3, Step M S1 H1 S3 H3 ∧ gxP st t f (m.v.drop (i + 1)) ∧ gxV st t f (m.v.drop (i + 1)) = gxV st t f m.v, fun H3 ⟨S3, w1, w2, w3⟩ => ⟨m.v.length - (i + 1), by omega, rfl, hlt, w2, w3, S3, w1⟩, fun v H3 hy => ?_⟩
    obtain ⟨S3, t3, dn⟩ := yl v H3 hy
    have st3 := (st2.step t3).wipe vs
    refine hg x hmem S0 H0 _ S3 H3 v st3 dn _ fun env4 σ4 S4 H4 e4 st4 t4 l4 k4 => ?_
    subst e4
    refine ⟨wipe_eq (by rw [l4]) fun j hj => k4 j fun z => hj (hix j z), ?_⟩
    refine ht x hmem hP.1 S0 H0 σ4 S4 H4 st4 _ fun b S5 H5 eb t5 => ?_
    cases b with
    | true =>
      rw [if_pos rfl]
      obtain ⟨hp1, hp2⟩ := hP.2.1 eb.symm
      refine hf x hmem hp1 S0 H0 σ4 S5 H5 (st4.step t5) _ fun d v6 S6 H6 ed dn6 t6 => ?_
      subst ed
      have tt6 := t2.trans (((t3.trans t4).trans t5).trans t6)
      refine ⟨(f x).v, by cases dn6; rfl, ?_⟩
      by_cases hc : (f x).v = st
      · rw [if_pos hc]
        refine q _ _ S6 H6 ?_ (.bl st) (t1.trans tt6)
        rw [← hV]
        unfold gxV
        rw [if_pos eb.symm, if_pos hc]
        rfl
      · rw [if_neg hc]
        refine ⟨S6, tt6, hp2 hc, ?_⟩
        rw [← hV]
        conv => rhs; unfold gxV
        rw [if_pos eb.symm, if_neg hc]
    | false =>
      rw [if_neg (by decide)]
      refine ⟨S5, t2.trans ((t3.trans t4).trans t5), hP.2.2 eb.symm, ?_⟩
      rw [← hV]
      conv => rhs; unfold gxV
      rw [if_neg (by rw [← eb]; decide)]
  · refine .inl ⟨it.stop S' H' i rc (by rw [List.length_map]; omega) (by rw [List.length_map]; omega), ?_⟩
    refine q _ _ S' H' ?_ (.bl _) (t1.trans t2)
    rw [← hV, List.drop_of_length_le (by omega)]
    rfl
end
section
variable {X : Cx} {M : Mm} {env : List Sl} {α : Type} [Rep α]
/-- the block of a generator expression -/
abbrev GBlk (X : Cx) (scope : Scope) (k : Nat) (φ : Cx → Prop) : Prop := ∀ (s : Shared) (H : Hp) (A : Around) (C : Addr) (code : Value) (fp : List Addr), Room k A → φ (gblk X s H A scope C code fp)
def gE (X : Cx) (scope : Scope) (k : Nat) (e : Expr) : TE := fun σ H Q => ∀ (s : Shared) (H' : Hp) (A : Around) (C : Addr) (code : Value) (fp : List Addr), Room k A → star (gblk X s H' A scope C code fp) e σ H Q
def gG (X : Cx) (scope : Scope) (k : Nat) (e : Expr) : TG := fun v σ H Q => ∀ (s : Shared) (H' : Hp) (A : Around) (C : Addr) (code : Value) (fp : List Addr), Room k A → starG (gblk X s H' A scope C code fp) e v σ H Q
def gT (X : Cx) (scope : Scope) (k : Nat) (e : Expr) : TT := fun σ H Q => ∀ (s : Shared) (H' : Hp) (A : Around) (C : Addr) (code : Value) (fp : List Addr), Room k A → starT (gblk X s H' A scope C code fp) e σ H Q
def GTs (X : Cx) (scope : Scope) (k : Nat) (M : Mm) (ifs : List Expr) (env : List Sl) (m : R Bool) : Prop := (ifs = [] ∧ m = R.pure true) ∨ ∃ c, ifs = [c] ∧ GBlk X scope k fun Y => RT Y M c env m
theorem gx_pts {scope : Scope} {k : Nat} {ifs : List Expr} (h : ifs.length ≤ 1) : ∃ tt : TT, (∀ (s : Shared) (H : Hp) (A : Around) (C : Addr) (code : Value) (fp : List Addr), Room k A → PTs (gblk X s H A scope C code fp) ifs tt) ∧
    ∀ (env : List Sl) (m : R Bool), GTs X scope k M ifs env m → m.p → RdT X.K M tt env (· = m.v) := by
  cases ifs with
  | nil =>
    refine ⟨tYes, fun _ _ _ _ _ _ _ => pts_nil, fun env m hm _ S0 H0 σ S H st Q q => ?_⟩
    rcases hm with ⟨_, rfl⟩ | ⟨c, e, _⟩
    · exact q true S H rfl (Step.refl st.gd.sub)
    · cases e
  | cons c r =>
    cases r with
    | nil =>
      refine ⟨gT X scope k c, fun s H A C code fp hr => pts_one ⟨fun pins s' σ H' Q I h => h s H A C code fp hr pins s' I⟩, fun env m hm hp S0 H0 σ S H st Q q s H' A C code fp hr => ?_⟩
      rcases hm with ⟨e, _⟩ | ⟨c', e, hm⟩
      · cases e
      · cases e
        exact hm s H' A C code fp hr hp S0 H0 σ S H st Q q
    | cons _ _ => simp at h
theorem RE.allG {elt tg iter : Expr} {ifs : List Expr} {scope : Scope} {own : List (Str × Nat)} {gpos pos p0 : Pos} {m : R (List α)} {t f : α → R Bool} {tE : α → List Sl} {ix : List Nat} {c P : Addr} {k : Nat}
    (hr : Room (k + 1) X.A) (hgl : Gl X "all") (hm : X.mg "all" = none) (hN : X.N.Nodup) (TB : GxR.TabB X.base X.mg c P) (hT : M.t P) (hcode : X.env.code = .ref c) (co : scope.isCoroutine = false) (hcell : ∀ y ∈ scope.names, y.2 ≠ .cell) (hdot : scope.names.lookup (".0" : Str) = some NameKind.local)
    (ok : BlkOk X.N X.env.scope scope own) (hl : ifs.length ≤ 1) (hix : ∀ i ∈ ix, i ∈ own.map (·.2))
    (hi : RI X M false tg iter env m) (hg : ∀ x, GBlk X scope k fun Y => RG Y M tg ix (rep x) (wipeE env (own.map (·.2))) (tE x)) (ht : ∀ x, GTs X scope k M ifs (tE x) (t x)) (he : ∀ x, GBlk X scope k fun Y => RE Y M elt (tE x) (f x)) (hs : ∀ x, genFold iter X.env x = pure x)
    (hst : starEach [.GeneratorExp elt [⟨tg, iter, ifs, 0⟩] scope gpos] X.env = (false, eval (.GeneratorExp elt [⟨tg, iter, ifs, 0⟩] scope gpos) X.env) :: starEach [] X.env := by rfl) :
    RE X M (.Call (.Name "all" p0) [.GeneratorExp elt [⟨tg, iter, ifs, 0⟩] scope gpos] [] pos) env (R.gx false m t f) := .mk fun p => by
  obtain ⟨tt, pt, rt⟩ := gx_pts (X := X) (M := M) (scope := scope) (k := k) hl
  exact EV.of (pe_allG (g := gG X scope k tg) (te := gE X scope k elt) hr hgl hm bb_all hN TB hcode co hcell hdot star_pi ok (fun s H A C code fp hr => ⟨fun pins s' σ H' v u Q I r h => h s H A C code fp hr pins s' u I r⟩) pt (fun s H A C code fp hr => ⟨fun pins s' σ H' Q I h => h s H A C code fp hr pins s' I⟩) hs hst)
    (RdE.gx hT (hi p.1) hix (fun x _ S0 H0 σ S H v st dn Q q s H' A C code fp hr => hg x s H' A C code fp hr S0 H0 σ S H v st dn Q q) (fun x _ hp => rt _ _ (ht x) hp) (fun x _ hp S0 H0 σ S H st Q q s H' A C code fp hr => he x s H' A C code fp hr hp S0 H0 σ S H st Q q) p.2)
theorem RE.anyG {elt tg iter : Expr} {ifs : List Expr} {scope : Scope} {own : List (Str × Nat)} {gpos pos p0 : Pos} {m : R (List α)} {t f : α → R Bool} {tE : α → List Sl} {ix : List Nat} {c P : Addr} {k : Nat}
    (hr : Room (k + 1) X.A) (hgl : Gl X "any") (hm : X.mg "any" = none) (hN : X.N.Nodup) (TB : GxR.TabB X.base X.mg c P) (hT : M.t P) (hcode : X.env.code = .ref c) (co : scope.isCoroutine = false) (hcell : ∀ y ∈ scope.names, y.2 ≠ .cell) (hdot : scope.names.lookup (".0" : Str) = some NameKind.local)
    (ok : BlkOk X.N X.env.scope scope own) (hl : ifs.length ≤ 1) (hix : ∀ i ∈ ix, i ∈ own.map (·.2))
    (hi : RI X M false tg iter env m) (hg : ∀ x, GBlk X scope k fun Y => RG Y M tg ix (rep x) (wipeE env (own.map (·.2))) (tE x)) (ht : ∀ x, GTs X scope k M ifs (tE x) (t x)) (he : ∀ x, GBlk X scope k fun Y => RE Y M elt (tE x) (f x)) (hs : ∀ x, genFold iter X.env x = pure x)
    (hst : starEach [.GeneratorExp elt [⟨tg, iter, ifs, 0⟩] scope gpos] X.env = (false, eval (.GeneratorExp elt [⟨tg, iter, ifs, 0⟩] scope gpos) X.env) :: starEach [] X.env := by rfl) :
    RE X M (.Call (.Name "any" p0) [.GeneratorExp elt [⟨tg, iter, ifs, 0⟩] scope gpos] [] pos) env (R.gx true m t f) := .mk fun p => by
  obtain ⟨tt, pt, rt⟩ := gx_pts (X := X) (M := M) (scope := scope) (k := k) hl
  exact EV.of (pe_anyG (g := gG X scope k tg) (te := gE X scope k elt) hr hgl hm bb_any hN TB hcode co hcell hdot star_pi ok (fun s H A C code fp hr => ⟨fun pins s' σ H' v u Q I r h => h s H A C code fp hr pins s' u I r⟩) pt (fun s H A C code fp hr => ⟨fun pins s' σ H' Q I h => h s H A C code fp hr pins s' I⟩) hs hst)
    (RdE.gx hT (hi p.1) hix (fun x _ S0 H0 σ S H v st dn Q q s H' A C code fp hr => hg x s H' A C code fp hr S0 H0 σ S H v st dn Q q) (fun x _ hp => rt _ _ (ht x) hp) (fun x _ hp S0 H0 σ S H st Q q s H' A C code fp hr => he x s H' A C code fp hr hp S0 H0 σ S H st Q q) p.2)
end
end FP
namespace FP
open PySem PySem.Spec PyProof.Rows L2
open Rep (rep)
/-! ### enumerate, zip over lists (false) and tuples (true) -/
def SqB (b : Bool) (K : PySem.W.Frag) (H : Hp) (a : Addr) (xs : List V) : Prop := match b with
  | false => SqL K H a xs
  | true => SqT K H a xs
def AtB (b : Bool) (h : Heap) (a : Addr) (its : List Value) : Prop := match b with
  | false => h.IsList a its.toArray
  | true => h.IsTuple a its.toArray
def ItB (b : Bool) (h : Heap) (it a : Addr) (i : Nat) : Prop := match b with
  | false => h.IsListIter it a i
  | true => h.IsTupleIter it a i
def obB (b : Bool) (a : Addr) : Obj := match b with
  | false => { cls := .type "list_iterator", data := .fields #[.ref a, .int 0 0] }
  | true => { cls := .type "tuple_iterator", data := .fields #[.ref a, .int 0 0] }
theorem begB (b : Bool) (a : Addr) (its : List Value) : Begins (.ref a) (obB b a) (fun h => AtB b h a its) := by
  cases b with
  | false => exact begins_list a its.toArray
  | true => exact begins_tuple a its.toArray
theorem ItB.obj {b : Bool} {h : Heap} {it a : Addr} {i : Nat} (x : ItB b h it a i) : ∃ o, h.get? it = some o ∧ o.data = .fields #[.ref a, .int i 0] ∧ (o.cls = .type "list_iterator" ∨ o.cls = .type "tuple_iterator") := by
  cases b with
  | false => obtain ⟨o, e, c, d⟩ := x; exact ⟨o, e, d, .inl c⟩
  | true => obtain ⟨o, e, c, d⟩ := x; exact ⟨o, e, d, .inr c⟩
theorem ItB.at {b : Bool} {h h' : Heap} {it a : Addr} {i : Nat} (x : ItB b h it a i) (k : ∀ o, h.get? it = some o → h'.get? it = some o) : ItB b h' it a i := by
  cases b with
  | false => obtain ⟨o, e, r⟩ := x; exact ⟨o, k o e, r⟩
  | true => obtain ⟨o, e, r⟩ := x; exact ⟨o, k o e, r⟩
theorem ItB.new {b : Bool} {h : Heap} {it a : Addr} (e : h.get? it = some (obB b a)) : ItB b h it a 0 := by
  cases b with
  | false => exact ⟨_, e, rfl, rfl⟩
  | true => exact ⟨_, e, rfl, rfl⟩
theorem AtB.obj {b : Bool} {h : Heap} {a : Addr} {its : List Value} (x : AtB b h a its) : ∃ o n, h.get? a = some o ∧ o.data = .seq its.toArray n ∧ (o.cls = .type "list" ∨ o.cls = .type "tuple") := by
  cases b with
  | false => obtain ⟨o, e, c, n, d⟩ := x; exact ⟨o, n, e, d, .inl c⟩
  | true => obtain ⟨o, e, c, n, d⟩ := x; exact ⟨o, n, e, d, .inr c⟩
section
variable {X : Cx} {pins : List (Addr × Obj)} {σ : L2.St} {H : Hp} {s : Shared}
theorem sqB_at {b : Bool} {a : Addr} {xs : List V} (I : L2.Inv X pins σ H s) (q : SqB b X.K H a xs) : ∃ its : List Value, Vals xs its ∧ AtB b s.heap a its := by
  cases b with
  | false => obtain ⟨its, r, p, _⟩ := I.list q; exact ⟨its, r, p.isList⟩
  | true => obtain ⟨its, r, p, _⟩ := I.tuple q; exact ⟨its, r, p⟩
theorem sqB_inj {b : Bool} {a : Addr} {xs ys : List V} (I : L2.Inv X pins σ H s) (q : SqB b X.K H a xs) (q' : SqB b X.K H a ys) : xs = ys := by
  cases b with
  | false => exact I.list_inj q q'
  | true => exact I.tuple_inj q q'
end
theorem drawsB {prog : Program} {w : World} {A : Around} (b : Bool) (hh : A.handled = none) {h : Heap} {it a : Addr} {i : Nat} {its : List Value} (x : ItB b h it a i) (y : AtB b h a its) :
    Draws prog w A it [it, a] its.toArray.size (fun j v => its.toArray[j]? = some v) (fun j h => ItB b h it a j ∧ AtB b h a its) := by
  have ne : a ≠ it := fun z => by
    obtain ⟨o, e, _, c⟩ := x.obj
    obtain ⟨o', n, e', _, c'⟩ := y.obj
    rw [z, e] at e'
    cases e'
    rcases c with c | c <;> rcases c' with c' | c' <;> rw [c] at c' <;> exact absurd c' (by decide)
  cases b with
  | false => exact Draws.list hh it a ne its.toArray
  | true => exact Draws.tuple hh it a ne its.toArray
set_option maxHeartbeats 1000000 in
theorem meets_enum1 {v : Value} {o : Obj} {H : Heap → Prop} (B : Begins v o H) :
    Meets (Builtin.«enumerate.__new__» ⟨[.type "enumerate", v], []⟩) (fun _ R s => H s.heap ∧
      R (.ok (.ret (.ref (s.heap.push o).objs.size))) { s with heap := (s.heap.push o).push { cls := .type "enumerate", data := .fields #[.none, .bool false, .ref s.heap.objs.size, rawInt 0, .none, .none] } }) :=
  .of_wp fun prog w A R s h => by
    obtain ⟨hp, g, d, tk, os⟩ := s; obtain ⟨h1, h⟩ := h
    have hsub := sub_enumerate
    have q1 : ∀ {A' : Around} {E : Value → Shared → Prop} {Q : Value → Shared → Prop}, Q (.ref hp.objs.size) ⟨hp.push o, g, d, tk, os⟩ → wpAny (model prog w) A' (pyIter v) Q E ⟨hp, g, d, tk, os⟩ :=
      fun q => B.iter prog w _ _ ⟨hp, g, d, tk, os⟩ _ h1 q
    wp_walk using q1
    refine wpAny_stack_any fun st => wpAny_pure ?_
    split
    · rename_i c _ _ _ _ _
      cases (c == Value.type "enumerate")
      · wp_walk using q1
        exact ⟨_, rfl, h⟩
      · wp_walk using q1
        exact ⟨_, rfl, h⟩
    · wp_walk using q1
      exact ⟨_, rfl, h⟩
section
variable {prog : Program} {w : World} {A : Around} {E : Value → Shared → Prop} {s : Shared}
theorem call_enum1 {v : Value} {o : Obj} {H : Heap → Prop} {Q : Value → Shared → Prop} (B : Begins v o H) (h1 : H s.heap)
    (h : ∀ h', IsEnum h' (s.heap.objs.size + 1) s.heap.objs.size 0 .none → h'.get? s.heap.objs.size = some o → h'.objs.size = s.heap.objs.size + 2 →
      (∀ b o, s.heap.get? b = some o → h'.get? b = some o) → Q (.ref (s.heap.objs.size + 1)) { s with heap := h' }) :
    wpAny (model prog w) A (call (.type "enumerate") [v]) Q E s := by
  refine callType_new F.called_enumerate (by decide) (F.typeCall_enumerate_1 _) (F.newCall_enumerate_1 _) (fun obj => F.args_object_init_2 obj _) F.entry_enumerate_new
    (meets_enum1 B) ⟨h1, ?_⟩
  have hz : (s.heap.push o).objs.size = s.heap.objs.size + 1 := Heap.size_push ..
  show _ ∧ _
  rw [hz]
  have he : IsEnum ((s.heap.push o).push { cls := .type "enumerate", data := .fields #[.none, .bool false, .ref s.heap.objs.size, rawInt 0, .none, .none] }) (s.heap.objs.size + 1) s.heap.objs.size 0 .none := by
    have := Heap.get?_push_size (s.heap.push o) (o := { cls := .type "enumerate", data := .fields #[.none, .bool false, .ref s.heap.objs.size, rawInt 0, .none, .none] }) rfl
    rw [hz] at this; exact this
  refine ⟨⟨_, he, rfl⟩, h _ he (Heap.get?_push_of_some _ (Heap.get?_push_size _ B.free)) (by rw [Heap.size_push, hz]) fun b o x => Heap.get?_push_of_some _ (Heap.get?_push_of_some _ x)⟩
end
/-- the sequence at a as it stands at each turn, each item in a new pair -/
def IteB (b : Bool) (K : PySem.W.Frag) (a : Addr) : It :=
  ⟨fun i H => ∃ (xs : List V) (x : V), SqB b K H a xs ∧ xs[i]? = some x, fun i H v H' => ∃ T x, v = .ref T ∧ H T = none ∧ H' = upd H T (.tup [.int (i : Nat), x]) ∧ ∀ xs, SqB b K H a xs → xs[i]? = some x, fun i H => ∃ xs : List V, SqB b K H a xs ∧ xs.length ≤ i⟩
theorem turn_enumB {P : Program} {w : World} {K : PySem.W.Frag} {elts : List Expr} {kk : Nat} {tpos : Pos} (b : Bool) (a e it : Addr) :
    Turn P w K (.Tuple elts kk tpos) (IteB b K a) [e, it] e (fun i h => (∃ old, IsEnum h e it ((i : Nat) : Int) old) ∧ ItB b h it a i ∧ e ≠ it) where
  mem := by simp
  obj := fun i h st c hc => by
    obtain ⟨⟨old, he⟩, hi, _⟩ := st
    obtain ⟨o, ho, hd, _⟩ := hi.obj
    have e' : c = e ∨ c = it := by simpa using hc
    rcases e' with z | z
    · rw [z]; exact ⟨_, he, fun v q => nomatch q⟩
    · rw [z]; exact ⟨o, ho, fun v q => by rw [hd] at q; cases q⟩
  keep := fun i h h' st k => let ⟨⟨old, he⟩, hi, hne⟩ := st; ⟨⟨old, k e (by simp) _ he⟩, hi.at fun o q => k it (by simp) o q, hne⟩
  item := by
    intro X hP hw hK hc i pins s σ H E I hf st hg
    subst hP hw hK
    obtain ⟨⟨old, he⟩, hit, hne⟩ := st
    obtain ⟨xs, x, hq, hx⟩ := hg
    obtain ⟨its, rv, hat⟩ := sqB_at I hq
    obtain ⟨u, hu, ru⟩ := rv.get hx
    have hel : e < s.heap.objs.size := Heap.lt_size he
    have hil : it < s.heap.objs.size := by obtain ⟨_, q, _⟩ := hit.obj; exact Heap.lt_size q
    have hea : e ≠ a := fun z => by
      obtain ⟨o', n, e', _, c'⟩ := hat.obj
      rw [← z, he] at e'
      cases e'
      rcases c' with c' | c'
      · exact absurd (show Value.type "enumerate" = Value.type "list" from c') (by decide)
      · exact absurd (show Value.type "enumerate" = Value.type "tuple" from c') (by decide)
    refine wpAny_pyNext_enum_itemD (drawsB (A := X.A.in1) b (show X.A.in1.handled = none from I.ok.hd hc) hit hat) he ⟨hit, hat⟩ (by simpa using (List.getElem?_eq_some_iff.mp hu).1) hne (by simp [hne, hea]) fun x' h' tk hP ho hst' hT hsz hk => ?_
    obtain rfl : x' = u := by
      have hP' : its[i]? = some x' := by simpa using hP
      rw [hu] at hP'; exact (Option.some.inj hP').symm
    refine ⟨_, rfl, wpAny_letOwnedTupleGo_enum (s := { s with heap := h', toks := tk + 1 }) ho fun h'' he' sb => ?_⟩
    have hT2 : h''.get? s.heap.objs.size = some { cls := .type "tuple", data := .seq #[.int i tk, x'] } := (sb.2 _ (Nat.ne_of_gt hel)).trans hT
    have new : ObjOk X.prog X.w (upd H s.heap.objs.size (.tup [.int (i : Nat), x])) h'' s.heap.objs.size (.tup [.int (i : Nat), x]) :=
      ⟨by show 2 ≤ sizeLine; decide, [.int i tk, x'], .cons ⟨_, rfl⟩ (.cons ru .nil), ⟨_, hT2, rfl, _, rfl⟩⟩
    have I1 : L2.Inv X pins σ (upd H s.heap.objs.size (.tup [.int (i : Nat), x])) { s with heap := h'', toks := tk + 1 } :=
      I.turnedNew (ch := [e, it]) (fun b ob hb q => (sb.2 b (fun z => hb (by simp [z]))).trans (hk b ob (fun z => hb (by simp [z])) (fun z => hb (by simp [z])) q)) hf (Nat.le_refl _) new
    refine ⟨.ref s.heap.objs.size, _, I1, rfl, ⟨_, x, rfl, I.hok.fresh (Nat.le_refl _), rfl, fun ys hy => by rw [sqB_inj I hy hq]; exact hx⟩, ⟨⟨x', ?_⟩, hst'.1.at fun o q => (sb.2 it (Ne.symm hne)).trans q, hne⟩, fun c hb => ?_⟩
    · have e1 : ((i + 1 : Nat) : Int) = (i : Int) + 1 := by omega
      rw [e1]; exact he'
    · have hb' : c < s.heap.objs.size := by
        have e' : c = e ∨ c = it := by simpa using hb
        rcases e' with z | z
        · rw [z]; exact hel
        · rw [z]; exact hil
      rw [upd_ne (Nat.ne_of_lt hb')]
      exact (hf c hb).1
  done := by
    intro X hP hw hK hc i pins s σ H E I hf st hg
    subst hP hw hK
    obtain ⟨⟨old, he⟩, hit, hne⟩ := st
    obtain ⟨xs, hq, hx⟩ := hg
    obtain ⟨its, rv, hat⟩ := sqB_at I hq
    obtain ⟨f0, f1, f2, f3, f4, f5⟩ := hf it (by simp)
    have hl := rv.length
    cases b with
    | false =>
      exact wpAny_pyNext_enum_end (I.ok.hd hc) he hit hat (by simp; omega) fun h' eb => ⟨rfl, I.turned (t' := s.toks) (fun b o hb q => eb b o hb q) f0 f1 f3 f4 f5⟩
    | true =>
      have hT : s.TypeIs (.ref e) "enumerate" := ⟨_, he, rfl⟩
      unfold pyNext
      refine wpAny_bind (wpAny_attempt (wpAny_callSpecial?_slot (name := Str.ofString "__next__") hT F.slot_enumerate_next
        (wpAny_call_entry F.slot_enumerate_next hT F.entry_enumerate_next ?_ (F.args_enumerate_next_1 _))))
      show wpAny _ _ (field (.ref e) 2 >>= _) _ _ _
      refine wpAny_bind (wpAny_field he rfl (x := .ref it) rfl ?_)
      refine wpAny_bind (wpAny_nextOf_tuple_end (A := X.A.in1) (I.ok.hd hc) hit hat (by simp; omega) fun h' x he' hx' => ?_)
      obtain ⟨o, ho, hc⟩ := hx'
      refine wpAny_bind (wpAny_isInstance (T := "StopIteration") (b := true) ⟨o, ho, hc⟩ isSubtype_stop ?_)
      exact wpAny_pure ⟨rfl, I.turned (t' := s.toks) (fun b o hb q => he' b o hb q) f0 f1 f3 f4 f5⟩
  self := fun A i s Q E st h => let ⟨⟨_, he⟩, _⟩ := st; wpAny_pyIter_enum he h
def iEnumB (b : Bool) (K : PySem.W.Frag) (ta : TA) : TI := fun σ H R => ta σ H fun vs H1 => ∃ a xs, vs = [.ref a] ∧ SqB b K H1 a xs ∧ R (IteB b K a) H1
theorem pi_enumB (b : Bool) {X : Cx} {e : Expr} {ta : TA} {p pos tpos : Pos} {elts : List Expr} {kk : Nat} (hg : Gl X "enumerate") (hm : X.mg "enumerate" = none) (ha : PA X [e] ta) (hs : starEach [e] X.env = [(false, eval e X.env)] := by rfl) :
    PI X (.Tuple elts kk tpos) (.Call (.Name "enumerate" p) [e] [] pos) (iEnumB b X.K ta) := by
  refine ⟨fun pins s σ H R I h => ?_⟩
  refine Call_ (ld_blt I hg hm boot_enumerate (PyProof.Rows.callWith_type1 (thn (ha.run pos pins s σ H _ I h) fun us s1 ⟨vs, H1, I1, r1, q1⟩ => ?_) hs rfl))
  obtain ⟨a, xs, ex, hq, q⟩ := q1
  subst ex
  cases r1 with
  | cons r rr =>
    cases rr
    cases r
    obtain ⟨its, rv, hat⟩ := sqB_at I1 hq
    refine call_enum1 (begB b a its) hat fun h' he hit hsz hk => wpAny_pyIter_enum he ?_
    have I2 : L2.Inv X pins σ H1 { s1 with heap := h' } := I1.kept (t' := s1.toks) hk
    refine ⟨s1.heap.objs.size + 1, [s1.heap.objs.size + 1, s1.heap.objs.size], _, _, H1, rfl, I2, turn_enumB b a (s1.heap.objs.size + 1) s1.heap.objs.size, ⟨⟨.none, he⟩, ItB.new hit, Nat.succ_ne_self _⟩, fun c hb => ?_, q⟩
    have e' : c = s1.heap.objs.size + 1 ∨ c = s1.heap.objs.size := by simpa using hb
    have hle : s1.heap.objs.size ≤ c := by
      rcases e' with z | z
      · rw [z]; exact Nat.le_add_right _ _
      · rw [z]; exact Nat.le_refl _
    exact I1.fpOk hle (I1.hok.fresh hle)
/-- the sequences at a, b as they stand at each turn, the items in new pairs -/
def ItzB (b c : Bool) (K : PySem.W.Frag) (a d : Addr) : It :=
  ⟨fun i H => ∃ (xs ys : List V) (x y : V), SqB b K H a xs ∧ SqB c K H d ys ∧ xs[i]? = some x ∧ ys[i]? = some y,
    fun i H v H' => ∃ T x y, v = .ref T ∧ H T = none ∧ H' = upd H T (.tup [x, y]) ∧ (∀ xs, SqB b K H a xs → xs[i]? = some x) ∧ ∀ ys, SqB c K H d ys → ys[i]? = some y,
    fun i H => ∃ xs ys : List V, SqB b K H a xs ∧ SqB c K H d ys ∧ i ≤ xs.length ∧ i ≤ ys.length ∧ (i = xs.length ∨ i = ys.length)⟩
structure Apart5 (z TI TO i1 i2 : Addr) : Prop where
  TIz : TI ≠ z
  TOz : TO ≠ z
  TITO : TI ≠ TO
  TIi1 : TI ≠ i1
  TIi2 : TI ≠ i2
  zi1 : z ≠ i1
  zi2 : z ≠ i2
  Ti1 : TO ≠ i1
  Ti2 : TO ≠ i2
  i12 : i1 ≠ i2
theorem ne_seq {h : Heap} {b : Bool} {a c : Addr} {its : List Value} {o : Obj} (x : AtB b h a its) (e : h.get? c = some o) (h1 : o.cls ≠ .type "list") (h2 : o.cls ≠ .type "tuple") : c ≠ a := fun z => by
  obtain ⟨o', n, e', _, c'⟩ := x.obj
  rw [← z, e] at e'
  cases e'
  rcases c' with c' | c'
  · exact h1 c'
  · exact h2 c'
theorem ne_it {h : Heap} {b c : Bool} {a i1 d : Addr} {k : Nat} {its : List Value} (x : AtB b h a its) (y : ItB c h i1 d k) : i1 ≠ a := by
  obtain ⟨o, e, _, cl⟩ := y.obj
  rcases cl with cl | cl
  · exact ne_seq x e (by rw [cl]; decide) (by rw [cl]; decide)
  · exact ne_seq x e (by rw [cl]; decide) (by rw [cl]; decide)
theorem ne_of_fp {X : Cx} {pins : List (Addr × Obj)} {σ : L2.St} {H : Hp} {s : Shared} {b : Bool} {t a : Addr} {xs : List V} (I : L2.Inv X pins σ H s) (f : FpOk X pins H t) (q : SqB b X.K H a xs) : t ≠ a := fun z => by
  subst z
  have rd : ∀ u, Rd H t u → False := fun u r => by
    rcases r with r | ⟨o, r⟩ <;> rw [f.1] at r <;> cases r
  have kd : ∀ o, X.K.lookup t = some o → False := fun o e => by
    have e1 := I.ok.mod.kin t o e
    rcases f.2.2.2.1 with z | z
    · exact I.ok.noex t o e1 z
    · exact absurd (Nat.lt_of_lt_of_le (Heap.lt_size e1) (Nat.le_trans I.ok.bsz z)) (Nat.lt_irrefl _)
  cases b with
  | false =>
    rcases q with r | ⟨o, its, n, hk, _⟩
    · exact rd _ r
    · exact kd o hk
  | true =>
    rcases q with r | ⟨o, its, n, hk, _⟩
    · exact rd _ r
    · exact kd o hk
theorem turn_zipB {P : Program} {w : World} {K : PySem.W.Frag} {elts : List Expr} {kk : Nat} {tpos : Pos} (b c : Bool) {a d z TI TO i1 i2 : Addr} (D : Apart5 z TI TO i1 i2) :
    Turn P w K (.Tuple elts kk tpos) (ItzB b c K a d) [z, TI, TO, i1, i2] z (fun i h => IsZip h z TI TO .none ∧ IsPair h TI (.ref i1) (.ref i2) ∧ (∃ x y, IsPair h TO x y) ∧ ItB b h i1 a i ∧ ItB c h i2 d i) where
  mem := by simp
  obj := fun i h st e he => by
    obtain ⟨hz, hTI, ⟨x, y, hTO⟩, h1, h2⟩ := st
    obtain ⟨o1, e1, d1, _⟩ := h1.obj
    obtain ⟨o2, e2, d2, _⟩ := h2.obj
    have e' : e = z ∨ e = TI ∨ e = TO ∨ e = i1 ∨ e = i2 := by simpa using he
    rcases e' with q | q | q | q | q
    · rw [q]; exact ⟨_, hz, fun v q => nomatch q⟩
    · rw [q]; exact ⟨_, hTI, fun v q => nomatch q⟩
    · rw [q]; exact ⟨_, hTO, fun v q => nomatch q⟩
    · rw [q]; exact ⟨o1, e1, fun v q => by rw [d1] at q; cases q⟩
    · rw [q]; exact ⟨o2, e2, fun v q => by rw [d2] at q; cases q⟩
  keep := fun i h h' st k => by
    obtain ⟨hz, hTI, ⟨x, y, hTO⟩, h1, h2⟩ := st
    exact ⟨k z (by simp) _ hz, k TI (by simp) _ hTI, ⟨x, y, k TO (by simp) _ hTO⟩, h1.at fun o q => k i1 (by simp) o q, h2.at fun o q => k i2 (by simp) o q⟩
  item := by
    intro X hP hw hK hc i pins s σ H E I hf st hg
    subst hP hw hK
    obtain ⟨hz, hTI, ⟨x0, y0, hTO⟩, h1, h2⟩ := st
    obtain ⟨xs, ys, x, y, hqx, hqy, hx, hy⟩ := hg
    obtain ⟨its, rv, p⟩ := sqB_at I hqx
    obtain ⟨its2, rv2, p2⟩ := sqB_at I hqy
    obtain ⟨u, hu, ru⟩ := rv.get hx
    obtain ⟨u2, hu2, ru2⟩ := rv2.get hy
    have hzl : z < s.heap.objs.size := Heap.lt_size hz
    have na : ∀ t ∈ [z, TI, TO, i1, i2], t ≠ a ∧ t ≠ d := fun t ht => ⟨ne_of_fp I (hf t ht) hqx, ne_of_fp I (hf t ht) hqy⟩
    have S : ZipSep2 z TI TO i1 i2 [i1, a] [i2, d] := ⟨D.TIz, D.TOz, D.TITO, D.TIi1, by simp, by simp [D.zi1, (na z (by simp)).1], by simp [D.Ti1, (na TO (by simp)).1], D.TIi2, by simp, by simp [D.zi2, (na z (by simp)).2], by simp [D.Ti2, (na TO (by simp)).2], by simp [D.i12, (na i1 (by simp)).2], by simp [D.i12.symm, (na i2 (by simp)).1]⟩
    refine wpAny_pyNext_zipD2_item S (drawsB (A := X.A.in1) b (show X.A.in1.handled = none from I.ok.hd hc) h1 p) (drawsB (A := X.A.in1) c (show X.A.in1.handled = none from I.ok.hd hc) h2 p2) hz hTI hTO ⟨h1, p⟩ ⟨h2, p2⟩
      (by simpa using (List.getElem?_eq_some_iff.mp hu).1) (by simpa using (List.getElem?_eq_some_iff.mp hu2).1) fun v1 v2 h' tk P1 P2 z' TO' h1' h2' hT hsz hk => ?_
    obtain rfl : v1 = u := by
      have hP' : its[i]? = some v1 := by simpa using P1
      rw [hu] at hP'; exact (Option.some.inj hP').symm
    obtain rfl : v2 = u2 := by
      have hP' : its2[i]? = some v2 := by simpa using P2
      rw [hu2] at hP'; exact (Option.some.inj hP').symm
    refine ⟨_, rfl, wpAny_letOwnedTupleGo_zip (s := { s with heap := h', toks := tk }) z' fun h'' z'' sb => ?_⟩
    have hT2 : h''.get? s.heap.objs.size = some { cls := .type "tuple", data := .seq #[v1, v2] } := (sb.2 _ (Nat.ne_of_gt hzl)).trans hT
    have new : ObjOk X.prog X.w (upd H s.heap.objs.size (.tup [x, y])) h'' s.heap.objs.size (.tup [x, y]) :=
      ⟨by show 2 ≤ sizeLine; decide, [v1, v2], .cons ru (.cons ru2 .nil), ⟨_, hT2, rfl, _, rfl⟩⟩
    have I1 : L2.Inv X pins σ (upd H s.heap.objs.size (.tup [x, y])) { s with heap := h'', toks := tk } :=
      I.turnedNew (t' := tk) (ch := [z, TI, TO, i1, i2]) (fun c o hb q => (sb.2 c (fun q' => hb (by simp [q']))).trans (hk c o (fun q' => hb (by simp [q'])) (fun q' => hb (by simp [q'])) (fun q' => hb (by simp [q'])) (fun q' => hb (by simp [q'])) q)) hf (Nat.le_refl _) new
    refine ⟨.ref s.heap.objs.size, _, I1, rfl, ⟨_, x, y, rfl, I.hok.fresh (Nat.le_refl _), rfl, fun l hl => by rw [sqB_inj I hl hqx]; exact hx, fun l hl => by rw [sqB_inj I hl hqy]; exact hy⟩, ⟨z'', ?_, ⟨v1, v2, ?_⟩, ?_, ?_⟩, fun c hcm => ?_⟩
    · exact (sb.2 _ D.TIz).trans (hk _ _ D.TIz D.TITO D.TIi1 D.TIi2 hTI)
    · exact (sb.2 _ D.TOz).trans TO'
    · exact h1'.1.at fun o q => (sb.2 _ D.zi1.symm).trans q
    · exact h2'.1.at fun o q => (sb.2 _ D.zi2.symm).trans q
    · have hlt : c < s.heap.objs.size := by
        have e' : c = z ∨ c = TI ∨ c = TO ∨ c = i1 ∨ c = i2 := by simpa using hcm
        rcases e' with q | q | q | q | q
        · rw [q]; exact hzl
        · rw [q]; exact Heap.lt_size hTI
        · rw [q]; exact Heap.lt_size hTO
        · rw [q]; obtain ⟨_, e1, _⟩ := h1.obj; exact Heap.lt_size e1
        · rw [q]; obtain ⟨_, e2, _⟩ := h2.obj; exact Heap.lt_size e2
      rw [upd_ne (Nat.ne_of_lt hlt)]
      exact (hf c hcm).1
  done := by
    intro X hP hw hK hc i pins s σ H E I hf st hg
    subst hP hw hK
    obtain ⟨hz, hTI, ⟨x0, y0, hTO⟩, h1, h2⟩ := st
    obtain ⟨xs, ys, hqx, hqy, l1, l2, hend⟩ := hg
    obtain ⟨its, rv, p⟩ := sqB_at I hqx
    obtain ⟨its2, rv2, p2⟩ := sqB_at I hqy
    have e1 := rv.length
    have e2 := rv2.length
    have na : ∀ t ∈ [z, TI, TO, i1, i2], t ≠ a ∧ t ≠ d := fun t ht => ⟨ne_of_fp I (hf t ht) hqx, ne_of_fp I (hf t ht) hqy⟩
    have S : ZipSep2 z TI TO i1 i2 [i1, a] [i2, d] := ⟨D.TIz, D.TOz, D.TITO, D.TIi1, by simp, by simp [D.zi1, (na z (by simp)).1], by simp [D.Ti1, (na TO (by simp)).1], D.TIi2, by simp, by simp [D.zi2, (na z (by simp)).2], by simp [D.Ti2, (na TO (by simp)).2], by simp [D.i12, (na i1 (by simp)).2], by simp [D.i12.symm, (na i2 (by simp)).1]⟩
    exact wpAny_pyNext_zipD2_end S (drawsB (A := X.A.in1) b (show X.A.in1.handled = none from I.ok.hd hc) h1 p) (drawsB (A := X.A.in1) c (show X.A.in1.handled = none from I.ok.hd hc) h2 p2) hz hTI hTO ⟨h1, p⟩ ⟨h2, p2⟩
      (by simp; omega) (by simp; omega) (by simp; omega) fun h' tk hk => ⟨rfl, I.turnedL (t' := tk) (ch := [z, TI, TO, i1, i2]) (fun c o hb q =>
      hk c o (fun q' => hb (by simp [q'])) (fun q' => hb (by simp [q'])) (fun q' => hb (by simp [q'])) (fun q' => hb (by simp [q'])) q) hf⟩
  self := fun A i s Q E st h => wpAny_pyIter_zip st.1 h
def iZipB (b c : Bool) (K : PySem.W.Frag) (ta : TA) : TI := fun σ H R => ta σ H fun vs H1 => ∃ a d xs ys, vs = [.ref a, .ref d] ∧ SqB b K H1 a xs ∧ SqB c K H1 d ys ∧ R (ItzB b c K a d) H1
theorem pi_zipB (b c : Bool) {X : Cx} {e e2 : Expr} {ta : TA} {p pos tpos : Pos} {elts : List Expr} {kk : Nat} (hg : Gl X "zip") (hm : X.mg "zip" = none) (ha : PA X [e, e2] ta)
    (hs : starEach [e, e2] X.env = (false, eval e X.env) :: starEach [e2] X.env := by rfl) (hpl : (backTo pos (starEach [e2] X.env)).any (·.1) = false := by rfl) :
    PI X (.Tuple elts kk tpos) (.Call (.Name "zip" p) [e, e2] [] pos) (iZipB b c X.K ta) := by
  refine ⟨fun pins s σ H R I h => ?_⟩
  refine Call_ (ld_blt I hg hm PyProof.Rows.boot_zip (PyProof.Rows.callWith_type1 (thn (ha.run pos pins s σ H _ I h) fun us s1 ⟨vs, H1, I1, r1, q1⟩ => ?_) hs hpl))
  obtain ⟨a, d, xs, ys, ex, hqx, hqy, q⟩ := q1
  subst ex
  cases r1 with
  | cons r rr =>
    cases rr with
    | cons r' rr =>
      cases rr
      cases r
      cases r'
      obtain ⟨its, rv, p⟩ := sqB_at I1 hqx
      obtain ⟨its2, rv2, p2⟩ := sqB_at I1 hqy
      refine zip_begins2 (begB b a its) (begB c d its2) p p2 fun h' hz hTI hTO g1 g2 hsz hk => wpAny_pyIter_zip hz ?_
      have I2 : L2.Inv X pins σ H1 { s1 with heap := h' } := I1.kept (t' := s1.toks) hk
      refine ⟨s1.heap.objs.size + 4, [s1.heap.objs.size + 4, s1.heap.objs.size + 2, s1.heap.objs.size + 3, s1.heap.objs.size, s1.heap.objs.size + 1], _, _, H1, rfl, I2, turn_zipB b c (a := a) (d := d) ⟨?_, ?_, ?_, ?_, ?_, ?_, ?_, ?_, ?_, ?_⟩, ⟨hz, hTI, ⟨_, _, hTO⟩, ItB.new g1, ItB.new g2⟩, fun e he => ?_, q⟩
      case refine_11 =>
        have e' : e = s1.heap.objs.size + 4 ∨ e = s1.heap.objs.size + 2 ∨ e = s1.heap.objs.size + 3 ∨ e = s1.heap.objs.size ∨ e = s1.heap.objs.size + 1 := by simpa using he
        have hle : s1.heap.objs.size ≤ e := by
          rcases e' with z | z | z | z | z
          · rw [z]; exact Nat.le_add_right _ _
          · rw [z]; exact Nat.le_add_right _ _
          · rw [z]; exact Nat.le_add_right _ _
          · rw [z]; exact Nat.le_refl _
          · rw [z]; exact Nat.le_add_right _ _
        exact I1.fpOk hle (I1.hok.fresh hle)
      all_goals
        have e0 : ∀ (n i j : Nat), i ≠ j → n + i ≠ n + j := fun n i j h z => h (Nat.add_left_cancel z)
        first
          | exact e0 s1.heap.objs.size _ _ (by decide)
          | exact e0 s1.heap.objs.size _ 0 (by decide)
          | exact e0 s1.heap.objs.size 0 _ (by decide)

/-! ### typed -/
/-- a sequence that is walked -/
def RdQ (b : Bool) (K : PySem.W.Frag) (M : Mm) (lp : Bool) (te : TE) (env : List Sl) (P : List D → Prop) : Prop :=
  ∀ S0 H0 σ S H, St0 K M S0 H0 S H env σ → ∀ Q : VK, (∀ ds a S1 H1, P ds → Step M S H S1 H1 → (∀ S' H', Rch K M lp S0 H0 S1 H1 S' H' → ∃ vs, SqB b K H' a vs ∧ Dens K S' ds vs) → Q (.ref a) H1) → te σ H Q
structure RQ (b : Bool) (X : Cx) (M : Mm) (lp : Bool) {α : Type} [Rep α] (e : Expr) (env : List Sl) (m : R (List α)) : Prop where
  run : m.p → RdQ b X.K M lp (star X e) env (· = m.v.map rep)
instance {b : Bool} {X : Cx} {M : Mm} {lp : Bool} {α : Type} [Rep α] {e : Expr} {env : List Sl} {m : R (List α)} : CoeFun (RQ b X M lp e env m) (fun _ => m.p → RdQ b X.K M lp (star X e) env (· = m.v.map rep)) := ⟨RQ.run⟩
section
variable {X : Cx} {M : Mm} {env : List Sl} {pos : Pos} {lp : Bool} {α β : Type} [Rep α] [Rep β] {tg iter e a b c : Expr} {wi : TI}
theorem RQ.ofP {m : R (List α)} (h : RP X M lp e env m) : RQ false X M lp e env m := .mk fun p S0 H0 σ S H st Q q => h p S0 H0 σ S H st Q fun ds a S1 H1 ed t hp => q ds a S1 H1 ed t fun S' H' rc => by
  obtain ⟨vs, e1, r⟩ := hp S' H' rc
  exact ⟨vs, sql_of e1, r⟩
theorem RQ.ofT {m : R (Tu α)} (h : RE X M e env m) : RQ true X M lp e env (R.map Tu.l m) := .mk fun p S0 H0 σ S H st Q q => h p _ _ _ _ _ st _ fun d v S1 H1 ed r t => by
  subst ed
  cases r with
  | tup e' r => exact q _ _ S1 H1 rfl t fun S' H' rc => ⟨_, sub_sqt rc.1.sub (sub_sqt rc.2.1 e'), r.mon rc.2.1⟩
theorem Rch.init {K : PySem.W.Frag} {S0 H0 S1 H1 : Hp} {σ : L2.St} (st : St0 K M S0 H0 S1 H1 env σ) : Rch K M lp S0 H0 S1 H1 S1 H1 := ⟨st.gd, fun _ _ e => e, by
  cases lp with
  | true => exact st.stp
  | false => exact Step.refl st.gd.sub⟩
theorem RI.enumQ {bb : Bool} {elts : List Expr} {kk : Nat} {tpos p0 : Pos} {m : R (List α)} (hg : Gl X "enumerate") (hm : X.mg "enumerate" = none) (h : RQ bb X M lp e env m) (hs : starEach [e] X.env = (false, eval e X.env) :: starEach [] X.env := by rfl)
    (hs1 : starEach [e] X.env = [(false, eval e X.env)] := by rfl) :
    RI X M lp (.Tuple elts kk tpos) (.Call (.Name "enumerate" p0) [e] [] pos) env (R.enum m) := .mk fun p => RdI.of (pi_enumB bb hg hm (pa_cons star_pe pa_nil hs) hs1) fun S0 H0 σ S H st Rr q =>
  h p _ _ _ _ _ st _ fun ds a S1 H1 ed t hp => by
    subst ed
    obtain ⟨vs0, e0, _⟩ := hp S1 H1 (Rch.init (st.step t))
    refine ⟨a, vs0, rfl, e0, q _ _ S1 H1 rfl t ⟨fun S' H' i d rc hd => ?_, fun S' H' i rc hd hd2 => ?_⟩⟩
    · obtain ⟨x, hx, rfl⟩ := enum_get hd
      obtain ⟨vs, e1, r⟩ := hp S' H' rc
      obtain ⟨v, hv, rv⟩ := r.get (show (m.v.map rep)[i]? = some (rep x) by rw [List.getElem?_map, hx]; rfl)
      refine ⟨⟨vs, v, e1, hv⟩, fun y H2 yy => ?_⟩
      obtain ⟨T, z, rfl, hT, rfl, hz⟩ := yy
      have e2 := hz vs e1
      rw [hv] at e2
      cases e2
      exact newtup rc.1 hT (.cons (.int _) (.cons rv .nil))
    · obtain ⟨vs, e1, r⟩ := hp S' H' rc
      refine ⟨vs, e1, ?_⟩
      rw [← r.length]
      have : (FP.enum m.v).length ≤ i := by simpa [R.enum, R.map] using hd
      rw [enum_len] at this
      simpa using this
theorem RI.zipQ {b1 b2 : Bool} {elts : List Expr} {kk : Nat} {tpos p0 : Pos} {m : R (List α)} {n : R (List β)} (hg : Gl X "zip") (hm : X.mg "zip" = none) (h : RQ b1 X M lp a env m) (h' : RQ b2 X M lp b env n)
    (hs : starEach [a, b] X.env = (false, eval a X.env) :: starEach [b] X.env := by rfl) (hs2 : starEach [b] X.env = (false, eval b X.env) :: starEach [] X.env := by rfl) (hpl : (backTo pos (starEach [b] X.env)).any (·.1) = false := by rfl) :
    RI X M lp (.Tuple elts kk tpos) (.Call (.Name "zip" p0) [a, b] [] pos) env (R.zip m n) := .mk fun p => RdI.of (pi_zipB b1 b2 hg hm (pa_cons star_pe (pa_cons star_pe pa_nil hs2) hs) hs hpl) fun S0 H0 σ S H st Rr q =>
  h p.1 _ _ _ _ _ st _ fun ds a S1 H1 ed t hp => by
    subst ed
    refine h' p.2.1 _ _ _ _ _ (st.step t) _ fun ds b S2 H2 ed t2 hp2 => ?_
    subst ed
    have back : ∀ S' H', Rch X.K M lp S0 H0 S2 H2 S' H' → Rch X.K M lp S0 H0 S1 H1 S' H' := fun S' H' rc => ⟨rc.1, fun x o e => rc.2.1 x o (t2.ss x o e), by
      have z := rc.2.2
      cases lp with
      | true => exact z
      | false => exact t2.trans z⟩
    have now : Rch X.K M lp S0 H0 S2 H2 S2 H2 := Rch.init ((st.step t).step t2)
    obtain ⟨vs0, e0, _⟩ := hp S2 H2 (back _ _ now)
    obtain ⟨us0, f0, _⟩ := hp2 S2 H2 now
    refine ⟨a, b, vs0, us0, rfl, e0, f0, q _ _ S2 H2 rfl (t.trans t2) ⟨fun S' H' i d rc hd => ?_, fun S' H' i rc hd hd2 => ?_⟩⟩
    · obtain ⟨x, y, hx, hy, rfl⟩ := zip_get hd
      obtain ⟨vs, e1, r⟩ := hp S' H' (back _ _ rc)
      obtain ⟨us, f1, r'⟩ := hp2 S' H' rc
      obtain ⟨v, hv, rv⟩ := r.get (show (m.v.map rep)[i]? = some (rep x) by rw [List.getElem?_map, hx]; rfl)
      obtain ⟨u, hu, ru⟩ := r'.get (show (n.v.map rep)[i]? = some (rep y) by rw [List.getElem?_map, hy]; rfl)
      refine ⟨⟨vs, us, v, u, e1, f1, hv, hu⟩, fun y' H3 yy => ?_⟩
      obtain ⟨T, z, z', rfl, hT, rfl, hz, hz'⟩ := yy
      have e2 := hz vs e1
      rw [hv] at e2
      cases e2
      have e3 := hz' us f1
      rw [hu] at e3
      cases e3
      exact newtup rc.1 hT (.cons rv (.cons ru .nil))
    · obtain ⟨vs, e1, r⟩ := hp S' H' (back _ _ rc)
      obtain ⟨us, f1, r'⟩ := hp2 S' H' rc
      have h1 := r.length
      have h2 := r'.length
      simp only [R.zip, R.o2, List.length_map, List.length_zip] at h1 h2 hd hd2
      exact ⟨vs, us, e1, f1, by omega, by omega, by omega⟩
end
end FP
namespace FP
open PySem PySem.Spec PyProof.Rows L2
open Rep (rep)
theorem cell_by {scope : Scope} (h : (scope.names.all fun y => match y.2 with | .cell => false | _ => true) = true) : ∀ y ∈ scope.names, y.2 ≠ .cell := fun y hy e => by
  have := List.all_eq_true.mp h y hy
  rw [e] at this
  cases this
end FP
namespace FP
open PySem PySem.Spec PyProof.Rows L2
open Rep (rep)
/-! ### values that are drawn: what must hold for all, what may come -/
structure N (α : Type) where
  p : Prop
  S : α → Prop
@[simp] def N.of {α : Type} (m : R α) : N α := ⟨m.p, fun x => x = m.v⟩
@[simp] def N.any : N Int := ⟨True, fun _ => True⟩
@[simp] def N.map {α β : Type} (f : α → β) (m : N α) : N β := ⟨m.p, fun z => ∃ x, m.S x ∧ z = f x⟩
@[simp] def N.o1 {α β : Type} (C : α → Prop) (f : α → β) (m : N α) : N β := ⟨m.p ∧ ∀ x, m.S x → C x, fun z => ∃ x, m.S x ∧ z = f x⟩
@[simp] def N.o2 {α β γ : Type} (C : α → β → Prop) (f : α → β → γ) (m : N α) (n : N β) : N γ := ⟨m.p ∧ n.p ∧ ∀ x y, m.S x → n.S y → C x y, fun z => ∃ x y, m.S x ∧ n.S y ∧ z = f x y⟩
@[simp] def N.ite {α : Type} (c : R Bool) (a b : N α) : N α := ⟨c.p ∧ (c.v = true → a.p) ∧ (c.v = false → b.p), fun z => (c.v = true ∧ a.S z) ∨ (c.v = false ∧ b.S z)⟩
@[simp] def N.nil : N (List D) := ⟨True, fun l => l = []⟩
@[simp] def N.cons {α : Type} [Rep α] (m : N α) (l : N (List D)) : N (List D) := ⟨m.p ∧ l.p, fun ds => ∃ x r, m.S x ∧ l.S r ∧ ds = rep x :: r⟩
@[simp] def N.lnil {α : Type} : N (List α) := ⟨True, fun l => l = []⟩
@[simp] def N.lcons {α : Type} (m : N α) (l : N (List α)) : N (List α) := ⟨m.p ∧ l.p, fun ds => ∃ x r, m.S x ∧ l.S r ∧ ds = x :: r⟩
@[simp] def N.sz {α : Type} (m : N (List α)) : N (List α) := ⟨m.p ∧ ∀ x, m.S x → x.length ≤ 100000, m.S⟩
@[simp] def N.tup2 {α β : Type} (m : N α) (n : N β) : N (α × β) := ⟨m.p ∧ n.p, fun z => ∃ x y, m.S x ∧ n.S y ∧ z = (x, y)⟩
@[simp] def N.tup3 {α β γ : Type} (m : N α) (n : N β) (o : N γ) : N (T3 α β γ) := ⟨m.p ∧ n.p ∧ o.p, fun z => ∃ x y w, m.S x ∧ n.S y ∧ o.S w ∧ z = ⟨x, y, w⟩⟩
@[simp] def N.draw (m : N Int) : N Int := ⟨m.p ∧ ∀ n, m.S n → 0 < n ∧ n < 1073741824, fun i => ∃ n, m.S n ∧ 0 ≤ i ∧ i < n⟩
@[simp] def N.c1 {α0 β : Type} (f : α0 → R β) (m0 : N α0) : N β := ⟨m0.p ∧ ∀ x, m0.S x → (f x).p, fun z => ∃ x, m0.S x ∧ z = (f x).v⟩
@[simp] def N.c2 {α0 α1 β : Type} (f : α0 → α1 → R β) (m0 : N α0) (m1 : N α1) : N β := ⟨m0.p ∧ m1.p ∧ ∀ x y, m0.S x → m1.S y → (f x y).p, fun z => ∃ x y, m0.S x ∧ m1.S y ∧ z = (f x y).v⟩
@[simp] def N.rng1 (m : N Int) : N (List Int) := N.o1 (fun n : Int => -1000000 ≤ n ∧ n ≤ 1000000) (fun n => rng 0 n) m
@[simp] def N.rng2 (m n : N Int) : N (List Int) := N.o2 (fun i j : Int => (-1000000 ≤ i ∧ i ≤ 1000000) ∧ -1000000 ≤ j ∧ j ≤ 1000000) rng m n
/-- each of ys may come of its x -/
def Each {α β : Type} (f : α → N β) (xs : List α) (ys : List β) : Prop := ys.length = xs.length ∧ ∀ (i : Nat) x y, xs[i]? = some x → ys[i]? = some y → (f x).S y
@[simp] def N.lc {α β : Type} (m : N (List α)) (t : α → R Bool) (f : α → N β) : N (List β) :=
  ⟨m.p ∧ ∀ xs, m.S xs → xs.length ≤ 100000 ∧ ∀ x ∈ xs, (t x).p ∧ ((t x).v = true → (f x).p), fun ys => ∃ xs, m.S xs ∧ Each f (xs.filter fun x => (t x).v) ys⟩
@[simp] def N.setIx {α : Type} (xs : List α) (m : N α) (n : N Int) : N (List α) := ⟨m.p ∧ n.p ∧ ∀ i, n.S i → 0 ≤ i ∧ i < xs.length, fun z => ∃ x i, m.S x ∧ n.S i ∧ z = xs.set i.toNat x⟩
@[simp] def N.app {α : Type} (xs : List α) (m : N α) : N (List α) := ⟨m.p ∧ xs.length < 100000, fun z => ∃ x, m.S x ∧ z = xs ++ [x]⟩
section
variable (X : Cx) (M : Mm) {α : Type} [Rep α]
structure NE (e : Expr) (env : List Sl) (m : N α) : Prop where
  run : m.p → EV X M e env (fun d => ∃ x, m.S x ∧ d = rep x)
structure NB (e : Expr) (env : List Sl) (m : N α) : Prop where
  run : m.p → EB X M e env (fun d => ∃ x, m.S x ∧ d = rep x)
structure NF (e : Expr) (env : List Sl) (m : N (List α)) : Prop where
  run : m.p → EF X M e env (fun ds => ∃ x, m.S x ∧ ds = x.map rep)
structure NA (es : List Expr) (env : List Sl) (ms : List Bool) (m : N (List D)) : Prop where
  run : m.p → EA X M es env ms m.S
structure NL (es : List Expr) (env : List Sl) (m : N (List α)) : Prop where
  run : m.p → EA X M es env (List.replicate es.length true) (fun ds => ∃ x, m.S x ∧ ds = x.map rep)
structure NT (e : Expr) (env : List Sl) (m : N Bool) : Prop where
  run : m.p → ET X M e env m.S
structure NI (lp : Bool) (tg iter : Expr) (env : List Sl) (m : N (List α)) : Prop where
  run : m.p → RdI X.K M lp (starI X tg iter) env (fun ds => ∃ x, m.S x ∧ ds = x.map rep)
end
section
variable {X : Cx} {M : Mm} {env : List Sl} {a b c e : Expr} {es : List Expr} {pos : Pos} {α β γ : Type} [Rep α] [Rep β] [Rep γ]
theorem NE.of {m : R α} (h : RE X M e env m) : NE X M e env (N.of m) := .mk fun p => RdE.imp (h p) fun d ed => ⟨_, rfl, ed⟩
theorem NB.of {m : R α} (h : RB X M e env m) : NB X M e env (N.of m) := .mk fun p S0 H0 σ S H st Q q => h p S0 H0 σ S H st Q fun d v S' H' ed => q d v S' H' ⟨_, rfl, ed⟩
theorem NF.of {m : R (List α)} (h : RF X M e env m) : NF X M e env (N.of m) := .mk fun p => RdF.imp (h p) fun d ed => ⟨_, rfl, ed⟩
theorem NT.of {m : R Bool} (h : RT X M e env m) : NT X M e env (N.of m) := .mk fun p => h p
theorem NI.of {lp : Bool} {tg iter : Expr} {m : R (List α)} (h : RI X M lp tg iter env m) : NI X M lp tg iter env (N.of m) := .mk fun p S0 H0 σ S H st Rr q => h p S0 H0 σ S H st Rr fun ds J S1 H1 ed => q ds J S1 H1 ⟨_, rfl, ed⟩
theorem NE.nb {m : N α} (h : NE X M e env m) : NB X M e env m := .mk fun p => RdE.b (h.run p)
theorem NF.ne {m : N (List α)} (h : NF X M e env m) : NE X M e env m := .mk fun p => (RdF.e (h.run p)).imp fun d ⟨ds, e1, x, sx, e2⟩ => ⟨x, sx, by rw [e1, e2]; rfl⟩
theorem Sem2.imp {K : PySem.W.Frag} {r : R2} {d e : D} {T T' : D → Prop} (h : Sem2 K M r d e T) (i : ∀ t, T t → T' t) : Sem2 K M r d e T' := fun S H x y g bx bY Q q => h S H x y g bx bY Q fun t v S' H' tt => q t v S' H' (i t tt)
theorem NE.bin {op : Operator} {C : α → β → Prop} {f : α → β → γ} (o : Op2 X M op C f) {m : N α} {n : N β} (ha : NB X M a env m) (hb : NB X M b env n) : NE X M (.BinOp a op b pos) env (N.o2 C f m n) := .mk fun hp => by
  obtain ⟨r, ho, hs⟩ := o.ex
  exact EV.of (pe_op ho star_pe star_pe) (RdE.op (ha.run hp.1) (fun _ _ => hb.run hp.2.1) fun d e' ⟨x, sx, ed⟩ ⟨y, sy, ee⟩ => by rw [ed, ee]; exact (hs _ _ (hp.2.2 x y sx sy)).imp fun t et => ⟨_, ⟨x, y, sx, sy, rfl⟩, et⟩)
theorem NE.ix {C : α → β → Prop} {f : α → β → γ} (o : Ix2 X M C f) {m : N α} {n : N β} (ha : NB X M a env m) (hb : NB X M b env n) (hs : PlainIx b) : NE X M (.Subscript a b pos) env (N.o2 C f m n) := .mk fun hp => by
  obtain ⟨r, ho, hr⟩ := o.ex
  exact EV.of (pe_ix ho star_pe star_pe hs) (RdE.op (ha.run hp.1) (fun _ _ => hb.run hp.2.1) fun d e' ⟨x, sx, ed⟩ ⟨y, sy, ee⟩ => by rw [ed, ee]; exact (hr _ _ (hp.2.2 x y sx sy)).imp fun t et => ⟨_, ⟨x, y, sx, sy, rfl⟩, et⟩)
theorem NE.cmp {op : CmpOp} {C : α → β → Prop} {f : α → β → Bool} (o : Cm2 X M op C f) {m : N α} {n : N β} (ha : NB X M a env m) (hb : NB X M b env n) (hm : behindInMarks op b = false) : NE X M (.Compare a [op] [b] pos) env (N.o2 C f m n) := .mk fun hp => by
  obtain ⟨r, ho, hs⟩ := o.ex
  exact EV.of (pe_cmpR ho star_pe star_pe hm) (RdE.op (ha.run hp.1) (fun _ _ => hb.run hp.2.1) fun d e' ⟨x, sx, ed⟩ ⟨y, sy, ee⟩ => by rw [ed, ee]; exact (hs _ _ (hp.2.2 x y sx sy)).imp fun t et => ⟨_, ⟨x, y, sx, sy, rfl⟩, et⟩)
theorem NT.cmp {op : CmpOp} {C : α → β → Prop} {f : α → β → Bool} (o : Cm2 X M op C f) {m : N α} {n : N β} (ha : NB X M a env m) (hb : NB X M b env n) (hm : behindInMarks op b = false) : NT X M (.Compare a [op] [b] pos) env (N.o2 C f m n) := .mk fun hp => by
  obtain ⟨r, ho, hs⟩ := o.ex
  exact ET.of (pt_cmpR ho star_pe star_pe hm) (RdT.tst (RdE.b (RdE.op (T := fun d => ∃ b, d = .bool b ∧ (N.o2 C f m n).S b) (ha.run hp.1) (fun _ _ => hb.run hp.2.1) fun d e' ⟨x, sx, ed⟩ ⟨y, sy, ee⟩ => by rw [ed, ee]; exact (hs _ _ (hp.2.2 x y sx sy)).imp fun t et => ⟨_, et, ⟨x, y, sx, sy, rfl⟩⟩)))
theorem NT.not {m : N Bool} (h : NT X M a env m) : NT X M (.UnaryOp .Not a pos) env (N.map (fun b => !b) m) := .mk fun p =>
  ET.of (pt_not star_pt) fun S0 H0 σ S H st Q q => h.run p _ _ _ _ _ st _ fun c S1 H1 ec t1 => q (!c) S1 H1 ⟨c, ec, rfl⟩ t1
theorem NT.tru {C : α → Prop} {f : α → Bool} (o : Tr1 X M C f) {m : N α} (h : NB X M a env m) (he : ∀ whole, isTrue a X.env whole = (do let v ← whole; standAt a.pos; holding [v] (truthy v))) : NT X M a env (N.o1 C f m) := .mk fun p =>
  ET.of (pt_truth star_pe he) fun S0 H0 σ S H st Q q => by
    refine h.run p.1 _ _ _ _ _ st _ fun d v S1 H1 ⟨x, sx, ed⟩ r t1 => ?_
    subst ed
    exact ⟨_, o.ex _ (p.2 x sx) S1 H1 v (st.step t1).gd r, q _ S1 H1 ⟨x, sx, rfl⟩ t1⟩
theorem NE.ite {c : R Bool} {m n : N α} {ce : Expr} (hc : RT X M ce env c) (ha : NE X M a env m) (hb : NE X M b env n) : NE X M (.IfExp ce a b pos) env (N.ite c m n) := .mk fun p =>
  EV.of (pe_ifExp star_pt star_pe star_pe) (RdE.if (hc p.1) (fun h => RdE.imp (ha.run (p.2.1 h.symm)) fun d ⟨x, sx, e'⟩ => ⟨x, .inl ⟨h.symm, sx⟩, e'⟩) fun h => RdE.imp (hb.run (p.2.2 h.symm)) fun d ⟨x, sx, e'⟩ => ⟨x, .inr ⟨h.symm, sx⟩, e'⟩)
/-! argument lists, displays -/
theorem NA.nil : NA X M [] env [] N.nil := .mk fun _ => EA.of pa_nil RdA.nil
theorem NA.im {ms : List Bool} {m : N α} {l : N (List D)} (h : NE X M e env m) (hr : NA X M es env ms l) (hs : starEach (e :: es) X.env = (false, eval e X.env) :: starEach es X.env := by rfl) : NA X M (e :: es) env (true :: ms) (N.cons m l) := .mk fun p =>
  EA.of (pa_cons star_pe star_pa hs) fun S0 H0 σ S H st Q q => RdA.im (h.run p.1) (fun _ _ => hr.run p.2) _ _ _ _ _ st Q fun ds vs S' H' ⟨d, ds', ⟨x, sx, e1⟩, e2, e3⟩ => q ds vs S' H' ⟨x, ds', sx, e2, by rw [e3, e1]⟩
theorem NA.br {ms : List Bool} {m : N α} {l : N (List D)} (h : NB X M e env m) (hr : NA X M es env ms l) (hs : starEach (e :: es) X.env = (false, eval e X.env) :: starEach es X.env := by rfl) : NA X M (e :: es) env (false :: ms) (N.cons m l) := .mk fun p =>
  EA.of (pa_cons star_pe star_pa hs) fun S0 H0 σ S H st Q q => RdA.br (h.run p.1) (fun _ _ => hr.run p.2) _ _ _ _ _ st Q fun ds vs S' H' ⟨d, ds', ⟨x, sx, e1⟩, e2, e3⟩ => q ds vs S' H' ⟨x, ds', sx, e2, by rw [e3, e1]⟩
theorem NL.nil : NL X M (α := α) [] env N.lnil := .mk fun _ => EA.of pa_nil fun S0 H0 σ S H st Q q => RdA.nil S0 H0 σ S H st Q fun ds vs S' H' ed => q ds vs S' H' ⟨[], rfl, ed⟩
theorem NL.cons {m : N α} {l : N (List α)} (h : NE X M e env m) (hr : NL X M es env l) (hs : starEach (e :: es) X.env = (false, eval e X.env) :: starEach es X.env := by rfl) : NL X M (e :: es) env (N.lcons m l) := .mk fun p =>
  EA.of (pa_cons star_pe star_pa hs) fun S0 H0 σ S H st Q q => RdA.im (h.run p.1) (fun _ _ => hr.run p.2) _ _ _ _ _ st Q fun ds vs S' H' ⟨d, ds', ⟨x, sx, e1⟩, ⟨r, sr, e2⟩, e3⟩ => q ds vs S' H' ⟨x :: r, ⟨x, r, sx, sr, rfl⟩, by rw [e3, e1, e2]; rfl⟩
theorem NF.lst {m : N (List α)} (h : NL X M es env m) : NF X M (.List es pos) env (N.sz m) := .mk fun p =>
  EF.of (pe_lst star_pa) (RdF.lst (h.run p.1) (all_rep _) fun ds ⟨x, sx, e⟩ => by rw [e, List.length_map]; exact sz_of (p.2 x sx))
theorem NE.tu {m : N (List α)} {k : Nat} (h : NL X M es env m) : NE X M (.Tuple es k pos) env (N.map Tu.mk (N.sz m)) := .mk fun p =>
  EV.of (pe_tup star_pa) (RdE.imp (RdE.tup (h.run p.1) (all_rep _) fun ds ⟨x, sx, e⟩ => by rw [e, List.length_map]; exact sz_of (p.2 x sx)) fun d ⟨ds, ⟨x, sx, e1⟩, e2⟩ => ⟨_, ⟨x, sx, rfl⟩, by rw [e2, e1]; rfl⟩)
theorem NE.tup2 {m : N α} {n : N β} {k : Nat} (h : NA X M es env [true, true] (N.cons m (N.cons n N.nil))) : NE X M (.Tuple es k pos) env (N.tup2 m n) := .mk fun p =>
  EV.of (pe_tup star_pa) (RdE.imp (RdE.tup (h.run ⟨p.1, p.2, trivial⟩) rfl fun ds ⟨x, r, _, ⟨y, r', _, e2, e3⟩, e⟩ => by
    have e2 : r' = [] := e2
    rw [e, e3, e2]; exact sz_of (by simp)) fun d ⟨ds, ⟨x, r, sx, ⟨y, r', sy, e2, e3⟩, e⟩, e4⟩ => ⟨(x, y), ⟨x, y, sx, sy, rfl⟩, by
    have e2 : r' = [] := e2
    rw [e4, e, e3, e2]; rfl⟩)
theorem NE.tup3 {m : N α} {n : N β} {o : N γ} {k : Nat} (h : NA X M es env [true, true, true] (N.cons m (N.cons n (N.cons o N.nil)))) : NE X M (.Tuple es k pos) env (N.tup3 m n o) := .mk fun p =>
  EV.of (pe_tup star_pa) (RdE.imp (RdE.tup (h.run ⟨p.1, p.2.1, p.2.2, trivial⟩) rfl fun ds ⟨x, r, _, ⟨y, r', _, ⟨z, r2, _, e2, e5⟩, e3⟩, e⟩ => by
    have e2 : r2 = [] := e2
    rw [e, e3, e5, e2]; exact sz_of (by simp)) fun d ⟨ds, ⟨x, r, sx, ⟨y, r', sy, ⟨z, r2, sz, e2, e5⟩, e3⟩, e⟩, e4⟩ => ⟨⟨x, y, z⟩, ⟨x, y, z, sx, sy, sz, rfl⟩, by
    have e2 : r2 = [] := e2
    rw [e4, e, e3, e5, e2]; rfl⟩)
theorem NE.fst {p2 : Pos} {j : Nat} {m : N (α × β)} (h : NB X M a env m) (hs : PlainIx (.Constant (.int 0) j p2)) : NE X M (.Subscript a (.Constant (.int 0) j p2) pos) env (N.map Prod.fst m) := .mk fun p => by
  refine EV.of (pe_ix ix_tup star_pe pe_int hs) (RdE.op (h.run p) (Q := fun _ e => e = .int 0) (fun _ _ => RdB.con fun _ => .int 0) fun d e' ⟨x, sx, hd⟩ he S H v y g bx by' Q q => ?_)
  subst he
  subst hd
  obtain ⟨pp, vs, rfl, sq, r⟩ := bx.tup (ds := [rep x.1, rep x.2]) g
  obtain ⟨v, hv, rv⟩ := r.get (i := 0) (d := rep x.1) rfl
  have hl : 0 < vs.length := (List.getElem?_eq_some_iff.mp hv).1
  refine ⟨pp, vs, 0, v, rfl, by'.int, sub_sqt g.sub sq, ?_, q (rep x.1) v S H ⟨_, ⟨x, sx, rfl⟩, rfl⟩ rv (Step.refl g.sub)⟩
  unfold atI ixN
  rw [if_pos (by decide), if_pos (by omega)]
  exact hv
/-! built-ins of one -/
section
variable {nm : Str} {p0 : Pos}
theorem NE.b1 {fn : String} {C : α → Prop} {f : α → β} (o : Cb1 X M (.builtin fn) C f) {m : N α} (hg : Gl X nm) (hm : X.mg nm = none) (hv : bootBuiltins nm = Option.some (.builtin fn)) (h : NB X M a env m) (hs : starEach [a] X.env = (false, eval a X.env) :: starEach [] X.env := by rfl)
    (hn : OkN nm) (hpl : (backTo pos (starEach [] X.env)).any (·.1) = false := by rfl) : NE X M (.Call (.Name nm p0) [a] [] pos) env (N.o1 C f m) := .mk fun p => by
  obtain ⟨r, ho, hr⟩ := o.ex
  refine EV.of (pe_callB ho hg hm hv star_pa hn.n hn.d hs hpl) (RdE.cb ((NA.br h NA.nil hs).run ⟨p.1, trivial⟩) fun ds ⟨x, r, sx, er, e⟩ => ?_)
  have er : r = [] := er
  rw [e, er]
  exact fun S H xs g bb Q q => hr x (p.2 x sx) S H xs g bb Q fun t v S' H' et => q t v S' H' ⟨_, ⟨x, sx, rfl⟩, et⟩
theorem NE.ty1 {fn : String} {C : α → Prop} {f : α → β} (o : Cb1 X M (.type fn) C f) {m : N α} (hg : Gl X nm) (hm : X.mg nm = none) (hv : bootBuiltins nm = Option.some (.type fn)) (h : NB X M a env m) (hs : starEach [a] X.env = (false, eval a X.env) :: starEach [] X.env := by rfl)
    (hn : OkN nm) (hpl : (backTo pos (starEach [] X.env)).any (·.1) = false := by rfl) : NE X M (.Call (.Name nm p0) [a] [] pos) env (N.o1 C f m) := .mk fun p => by
  obtain ⟨r, ho, hr⟩ := o.ex
  refine EV.of (pe_callTy ho hg hm hv star_pa hn.n hn.d hs hpl) (RdE.cb ((NA.br h NA.nil hs).run ⟨p.1, trivial⟩) fun ds ⟨x, r, sx, er, e⟩ => ?_)
  have er : r = [] := er
  rw [e, er]
  exact fun S H xs g bb Q q => hr x (p.2 x sx) S H xs g bb Q fun t v S' H' et => q t v S' H' ⟨_, ⟨x, sx, rfl⟩, et⟩
theorem NF.ty1 {fn : String} {C : α → Prop} {f : α → List β} (o : Cb1F X M (.type fn) C f) {m : N α} (hg : Gl X nm) (hm : X.mg nm = none) (hv : bootBuiltins nm = Option.some (.type fn)) (h : NB X M a env m) (hs : starEach [a] X.env = (false, eval a X.env) :: starEach [] X.env := by rfl)
    (hn : OkN nm) (hpl : (backTo pos (starEach [] X.env)).any (·.1) = false := by rfl) : NF X M (.Call (.Name nm p0) [a] [] pos) env (N.o1 C f m) := .mk fun p => by
  obtain ⟨r, ho, hr⟩ := o.ex
  refine EF.of (pe_callTy ho hg hm hv star_pa hn.n hn.d hs hpl) (RdF.cb ((NA.br h NA.nil hs).run ⟨p.1, trivial⟩) fun ds ⟨x, r, sx, er, e⟩ => ?_)
  have er : r = [] := er
  rw [e, er]
  exact fun S H xs g bb Q q => hr x (p.2 x sx) S H xs g bb Q fun es p vs S' H' et => q es p vs S' H' ⟨_, ⟨x, sx, rfl⟩, et⟩
theorem NF.b1 {fn : String} {C : α → Prop} {f : α → List β} (o : Cb1F X M (.builtin fn) C f) {m : N α} (hg : Gl X nm) (hm : X.mg nm = none) (hv : bootBuiltins nm = Option.some (.builtin fn)) (h : NB X M a env m) (hs : starEach [a] X.env = (false, eval a X.env) :: starEach [] X.env := by rfl)
    (hn : OkN nm) (hpl : (backTo pos (starEach [] X.env)).any (·.1) = false := by rfl) : NF X M (.Call (.Name nm p0) [a] [] pos) env (N.o1 C f m) := .mk fun p => by
  obtain ⟨r, ho, hr⟩ := o.ex
  refine EF.of (pe_callB ho hg hm hv star_pa hn.n hn.d hs hpl) (RdF.cb ((NA.br h NA.nil hs).run ⟨p.1, trivial⟩) fun ds ⟨x, r, sx, er, e⟩ => ?_)
  have er : r = [] := er
  rw [e, er]
  exact fun S H xs g bb Q q => hr x (p.2 x sx) S H xs g bb Q fun es p vs S' H' et => q es p vs S' H' ⟨_, ⟨x, sx, rfl⟩, et⟩
/-! calls of what draws nothing -/
theorem NE.call1 {α0 : Type} [Rep α0] {f : α0 → R β} {k j : Nat} {ms : List Bool} {e0 : Expr} {m0 : N α0} (c : Fn X.prog X.w X.K X.mg X.base k nm (SpD X.K M.t ms (G1 f))) (hr : Room j X.A) (hk : k ≤ j) (hg : Gl X nm) (ha : NA X M [e0] env ms (N.cons m0 N.nil))
    (hn : OkN nm) (he : starEach (e0 :: []) X.env = (false, eval e0 X.env) :: starEach [] X.env := by rfl) (hpl : (backTo pos (starEach [] X.env)).any (·.1) = false := by rfl) :
    NE X M (.Call (.Name nm p0) [e0] [] pos) env (N.c1 f m0) := .mk fun p =>
  EV.call c hr hk hg (ha.run ⟨p.1, trivial⟩) (fun ds ⟨x, r, sx, er, e⟩ => ⟨x, by have er : r = [] := er; rw [e, er], p.2 x sx, _, ⟨x, sx, rfl⟩, rfl⟩) hn he hpl
theorem NE.call2 {α0 α1 : Type} [Rep α0] [Rep α1] {f : α0 → α1 → R β} {k j : Nat} {ms : List Bool} {e0 e1 : Expr} {m0 : N α0} {m1 : N α1} (c : Fn X.prog X.w X.K X.mg X.base k nm (SpD X.K M.t ms (G2 f))) (hr : Room j X.A) (hk : k ≤ j) (hg : Gl X nm) (ha : NA X M [e0, e1] env ms (N.cons m0 (N.cons m1 N.nil)))
    (hn : OkN nm) (he : starEach (e0 :: [e1]) X.env = (false, eval e0 X.env) :: starEach [e1] X.env := by rfl) (hpl : (backTo pos (starEach [e1] X.env)).any (·.1) = false := by rfl) :
    NE X M (.Call (.Name nm p0) [e0, e1] [] pos) env (N.c2 f m0 m1) := .mk fun p =>
  EV.call c hr hk hg (ha.run ⟨p.1, p.2.1, trivial⟩) (fun ds ⟨x, r, sx, ⟨y, r', sy, er, e'⟩, e⟩ => ⟨x, y, by have er : r' = [] := er; rw [e, e', er], p.2.2 x y sx sy, _, ⟨x, y, sx, sy, rfl⟩, rfl⟩) hn he hpl
end
/-! what is walked -/
theorem NI.range1 {lp : Bool} {tg : Expr} {m : N Int} {p0 : Pos} (hg : Gl X "range") (hm : X.mg "range" = none) (h : NB X M a env m) (hs : starEach [a] X.env = [(false, eval a X.env)] := by rfl) :
    NI X M lp tg (.Call (.Name "range" p0) [a] [] pos) env (N.rng1 m) := .mk fun p => RdI.of (pi_range1 hg hm (pa_cons star_pe pa_nil (by rw [hs]; rfl)) hs) fun S0 H0 σ S H st Rr q =>
  h.run p.1 _ _ _ _ _ st _ fun d v S1 H1 ⟨x, sx, ed⟩ r t => by
    subst ed
    rw [r.int]
    have h1 := p.2 x sx
    have e : (x - 0).toNat = x.toNat := by rw [Int.sub_zero]
    refine ⟨x, rfl, by omega, by omega, ?_⟩
    rw [← e]
    exact q _ _ S1 H1 ⟨_, ⟨x, sx, rfl⟩, rfl⟩ t (rng_it fun S H rc => rc.1)
theorem NI.range2 {lp : Bool} {tg : Expr} {m n : N Int} {p0 : Pos} (hg : Gl X "range") (hm : X.mg "range" = none) (h : NB X M a env m) (h' : NB X M b env n) (hs : starEach [a, b] X.env = [(false, eval a X.env), (false, eval b X.env)] := by rfl) (hs2 : starEach [b] X.env = [(false, eval b X.env)] := by rfl) :
    NI X M lp tg (.Call (.Name "range" p0) [a, b] [] pos) env (N.rng2 m n) := .mk fun p => RdI.of (pi_range2 hg hm (pa_cons star_pe (pa_cons star_pe pa_nil (by rw [hs2]; rfl)) (by rw [hs, hs2])) hs hs2) fun S0 H0 σ S H st Rr q =>
  h.run p.1 _ _ _ _ _ st _ fun d v S1 H1 ⟨x, sx, ed⟩ r t => by
    subst ed
    refine h'.run p.2.1 _ _ _ _ _ (st.step t) _ fun d v S2 H2 ⟨y, sy, ed⟩ r2 t2 => ?_
    subst ed
    rw [r.int, r2.int]
    have h1 := p.2.2 x y sx sy
    exact ⟨x, y, rfl, ⟨by omega, by omega, by omega, by omega⟩, q _ _ S2 H2 ⟨_, ⟨x, y, sx, sy, rfl⟩, rfl⟩ (t.trans t2) (rng_it fun S H rc => rc.1)⟩
end
/-! comprehensions of what is drawn -/
theorem Each.nil {α β : Type} {f : α → N β} : Each f ([] : List α) [] := ⟨rfl, fun i x y h => by simp at h⟩
theorem Each.snoc {α β : Type} {f : α → N β} {xs : List α} {ys : List β} {x : α} {y : β} (h : Each f xs ys) (hy : (f x).S y) : Each f (xs ++ [x]) (ys ++ [y]) := by
  obtain ⟨hl, hh⟩ := h
  refine ⟨by simp [hl], fun i a b ha hb => ?_⟩
  by_cases hi : i < xs.length
  · rw [List.getElem?_append_left hi] at ha
    rw [List.getElem?_append_left (by omega)] at hb
    exact hh i a b ha hb
  · rw [List.getElem?_append_right (by omega)] at ha
    rw [List.getElem?_append_right (by omega)] at hb
    have e1 : i - xs.length = 0 := by
      have := (List.getElem?_eq_some_iff.mp ha).1
      simp at this
      omega
    rw [e1] at ha
    rw [hl, e1] at hb
    simp at ha hb
    rw [← ha, ← hb]; exact hy
section
variable {K : PySem.W.Frag} {M : Mm} {env : List Sl} {α β : Type} [Rep α] [Rep β]
theorem RdF.lcN {wi : TI} {g : TG} {tt : TT} {te : TE} {vs : List Nat} {m : N (List α)} {t : α → R Bool} {f : α → N β} {tE : α → List Sl} (hi : RdI K M false wi env (fun ds => ∃ x, m.S x ∧ ds = x.map rep)) {ix : List Nat} (hix : ∀ i ∈ ix, i ∈ vs)
    (hg : ∀ x, RdG K M g ix (rep x) (wipeE env vs) (· = tE x)) (ht : ∀ x, (t x).p → RdT K M tt (tE x) (· = (t x).v)) (hf : ∀ x, (f x).p → RdE K M te (tE x) (fun d => ∃ y, (f x).S y ∧ d = rep y)) (hp : ∀ xs, m.S xs → xs.length ≤ 100000 ∧ ∀ x ∈ xs, (t x).p ∧ ((t x).v = true → (f x).p)) :
    RdF K M (tLc wi g tt te vs) env (fun ds => ∃ ys, (N.lc m t f).S ys ∧ ds = ys.map rep) := fun S0 H0 σ S H st Q q => by
  refine hi _ _ _ _ _ st _ fun ds J S1 H1 ⟨xs, sxs, ed⟩ t1 it => ?_
  subst ed
  have hp := hp xs sxs
  intro D hD
  have st1 := st.step t1
  have g1 := st1.gd
  have tN := Step.new g1 (.lst []) hD
  refine ⟨fun i k H' => k = xs.length - i ∧ i ≤ xs.length ∧ ∃ S' us ys, Step M S1 H1 S' H' ∧ S' D = none ∧ H' D = some (.lst us) ∧ Dens K S' (ys.map rep) us ∧ Each f ((xs.take i).filter fun x => (t x).v) ys ∧ ys.length ≤ i, ⟨xs.length, by simp, Nat.zero_le _, S1, [], [], tN, g1.fresh hD, upd_same, .nil, by simpa using Each.nil, Nat.le_refl _⟩, ?_⟩
  rintro i k H' ⟨rfl, hil, S', us, ys, t2, hn, hu, r, hE, hyl⟩
  have st2 : St0 K M S0 H0 S' H' env σ := st1.step t2
  have rc : Rch K M false S0 H0 S1 H1 S' H' := ⟨st2.gd, t2.ss, t2⟩
  by_cases hlt : i < xs.length
  · refine .inr ?_
    have hx : xs[i]? = some xs[i] := List.getElem?_eq_getElem hlt
    generalize xs[i] = x at hx
    have hmem : x ∈ xs := List.mem_of_getElem? hx
    obtain ⟨go, yl⟩ := it.go S' H' i (rep x) rc (by rw [List.getElem?_map, hx]; rfl)
    have htk : (xs.take (i + 1)).filter (fun x => (t x).v) = if (t x).v = true then (xs.take i).filter (fun x => (t x).v) ++ [x] else (xs.take i).filter (fun x => (t x).v) := by
      rw [List.take_add_one, hx, List.filter_append]
      simp only [Option.toList_some, List.filter_cons, List.filter_nil]
      split <;> simp
    refine ⟨go, fun H3 => ∃ S3 us3 ys3, Step M S1 H1 S3 H3 ∧ S3 D = none ∧ H3 D = some (.lst us3) ∧ Dens K S3 (ys3.map rep) us3 ∧ Each f ((xs.take (i + 1)).filter fun x => (t x).v) ys3 ∧ ys3.length ≤ i + 1, fun H3 ⟨S3, us3, ys3, w1, w2, w3, w4, w5, w6⟩ => ⟨xs.length - (i + 1), by omega, rfl, hlt, S3, us3, ys3, w1, w2, w3, w4, w5, w6⟩, fun v H3 hy => ?_⟩
    obtain ⟨S3, t3, dn⟩ := yl v H3 hy
    have st3 := (st2.step t3).wipe vs
    refine hg x S0 H0 _ S3 H3 v st3 dn _ fun env4 σ4 S4 H4 e4 st4 t4 l4 k4 => ?_
    subst e4
    refine ⟨wipe_eq (by rw [l4]) fun j hj => k4 j fun z => hj (hix j z), ?_⟩
    refine ht x (hp.2 x hmem).1 S0 H0 σ4 S4 H4 st4 _ fun b S5 H5 eb t5 => ?_
    have dkeep : ∀ {Sx Hx : Hp}, Step M S' H' Sx Hx → Sx D = none ∧ Hx D = some (.lst us) := fun {Sx Hx} tx =>
      ⟨tx.cap D hn (by rw [hu]; exact fun z => nomatch z), tx.ext D _ hu (fun m' => by
        have := st1.gd.vol D m'
        exact this.1 hD) lst_noT⟩
    cases b with
    | true =>
      rw [if_pos rfl]
      refine hf x ((hp.2 x hmem).2 eb.symm) S0 H0 σ4 S5 H5 (st4.step t5) _ fun d v6 S6 H6 ⟨y6, sy6, ed⟩ dn6 t6 => ?_
      subst ed
      have tt6 := ((t3.trans t4).trans t5).trans t6
      obtain ⟨n6, h6⟩ := dkeep tt6
      have hlen : us.length = ys.length := by have := r.length; simpa using this.symm
      refine ⟨us, h6, ?_, S6, us ++ [v6], ys ++ [y6], ?_, n6, upd_same, ?_, ?_, by simp; omega⟩
      · have : sizeLine = 16777216 := sizeLine_eq
        have := hp.1
        omega
      · have t7 := t2.trans tt6
        exact ⟨t7.ss, fun a o e => by rw [upd_ne (ne_of_none e n6)]; exact t7.sh a o e, fun a o e m' n' => by rw [upd_ne (ne_of_none e hD)]; exact t7.ext a o e m' n', fun a ps e tr => by
            rw [upd_ne (ne_of_none e hD)]; exact t7.tb a ps e tr, t7.cap, fun a m' vk => by
            have z : a ≠ D := fun z => by subst z; exact (st1.gd.vol _ m').1 hD
            rw [upd_ne z]; exact t7.vk a m' vk, fun a n' => by
            by_cases z : a = D
            · subst z; exact absurd hD n'
            · rw [upd_ne z]; exact t7.keep a n'⟩
      · rw [List.map_append]
        exact (r.mon tt6.ss).append (.cons dn6 .nil)
      · rw [htk, if_pos eb.symm]
        exact hE.snoc sy6
    | false =>
      rw [if_neg (by decide)]
      have tt5 := (t3.trans t4).trans t5
      obtain ⟨n5, h5⟩ := dkeep tt5
      refine ⟨S5, us, ys, t2.trans tt5, n5, h5, r.mon tt5.ss, ?_, by omega⟩
      rw [htk, if_neg (by rw [← eb]; decide)]
      exact hE
  · refine .inl ⟨it.stop S' H' i rc (by rw [List.length_map]; omega) (by rw [List.length_map]; omega), ?_⟩
    rw [List.take_of_length_le (by omega)] at hE
    refine q _ D us S' H' ⟨ys, ⟨xs, sxs, hE⟩, rfl⟩ ?_ hn hu r (t1.trans t2)
    cases z : H D with
    | none => rfl
    | some o => exact absurd hD (t1.keep D (by rw [z]; exact fun z => nomatch z))
end
end FP
namespace FP
open PySem PySem.Spec PyProof.Rows L2
open Rep (rep)
/-! ### statements that draw: what must hold that all ends as wanted -/
section
variable (X : Cx) (M : Mm) {σT σU β : Type} [Rep β]
abbrev pW (E : σT → List Sl) (K : σT → Prop) (Kr : β → Prop) : Post := ⟨fun e => ∃ s, K s ∧ e = E s, fun d => ∃ b, Kr b ∧ d = rep b, fun _ => False, fun _ => False⟩
structure NS (st : Stmt) (env : List Sl) (E : σT → List Sl) (m : N σT) : Prop where
  run : m.p → RdS X.K M (starS X st) env (pN (fun e => ∃ s, m.S s ∧ e = E s))
structure WS (st : Stmt) (env : List Sl) (E : σT → List Sl) (W : (σT → Prop) → (β → Prop) → Prop) : Prop where
  run : ∀ (K : σT → Prop) (Kr : β → Prop), W K Kr → RdS X.K M (starS X st) env (pW E K Kr)
structure WB (sts : List Stmt) (env : List Sl) (E : σT → List Sl) (W : (σT → Prop) → (β → Prop) → Prop) : Prop where
  run : ∀ (K : σT → Prop) (Kr : β → Prop), W K Kr → RdS X.K M (starB X sts) env (pW E K Kr)
end
@[simp] def W.of {σT β : Type} (m : N σT) : (σT → Prop) → (β → Prop) → Prop := fun K _ => m.p ∧ ∀ s, m.S s → K s
@[simp] def W.seq {σT σU β : Type} (a : (σU → Prop) → (β → Prop) → Prop) (b : σU → (σT → Prop) → (β → Prop) → Prop) : (σT → Prop) → (β → Prop) → Prop := fun K Kr => a (fun s => b s K Kr) Kr
@[simp] def W.nil {σT β : Type} (s : σT) : (σT → Prop) → (β → Prop) → Prop := fun K _ => K s
@[simp] def W.ret {σT β : Type} (m : N β) : (σT → Prop) → (β → Prop) → Prop := fun _ Kr => m.p ∧ ∀ b, m.S b → Kr b
@[simp] def W.ite {σT β : Type} (c : N Bool) (a b : (σT → Prop) → (β → Prop) → Prop) : (σT → Prop) → (β → Prop) → Prop := fun K Kr => c.p ∧ (c.S true → a K Kr) ∧ (c.S false → b K Kr)
def W.for {σT β α : Type} (m : N (List α)) (s0 : σT) (b : σT → α → (σT → Prop) → (β → Prop) → Prop) : (σT → Prop) → (β → Prop) → Prop := fun K Kr =>
  m.p ∧ ∀ xs, m.S xs → ∃ I : Nat → σT → Prop, I 0 s0 ∧ (∀ (i : Nat) x s, xs[i]? = some x → I i s → b s x (fun s' => I (i + 1) s') Kr) ∧ ∀ s, I xs.length s → K s
def W.while {σT β : Type} (s0 : σT) (c : σT → N Bool) (b : σT → (σT → Prop) → (β → Prop) → Prop) : (σT → Prop) → (β → Prop) → Prop := fun K Kr =>
  ∃ (I : Nat → σT → Prop) (n : Nat), I n s0 ∧ ∀ n s, I n s → (c s).p ∧ ((c s).S true → b s (fun s' => ∃ n', n' < n ∧ I n' s') Kr) ∧ ((c s).S false → K s)
section
variable {X : Cx} {M : Mm} {σT σU β : Type} [Rep β] {st : Stmt} {sts rest : List Stmt} {env env' : List Sl} {E : σT → List Sl} {E1 : σU → List Sl} {α γ : Type} [Rep α] [Rep γ]
theorem NS.of {m : R σT} (h : SN X M st env E m) : NS X M st env E (N.of m) := .mk fun p => (h.run p).imp (fun e ee => ⟨_, rfl, ee⟩) (fun _ z => z) (fun _ z => z) fun _ z => z
theorem WS.of {m : N σT} (h : NS X M st env E m) : WS X M (β := β) st env E (W.of m) := .mk fun K Kr ⟨p, k⟩ => (h.run p).imp (fun e ⟨s, ss, ee⟩ => ⟨s, k s ss, ee⟩) (fun _ z => z.elim) (fun _ z => z.elim) fun _ z => z.elim
theorem WB.nil (s : σT) (h : LE env (E s)) : WB X M (β := β) [] env E (W.nil s) := .mk fun K Kr k => RdS.weak h (RdS.ofB pss_nil (RdS.next ⟨s, k, rfl⟩))
theorem WB.cons {a : (σU → Prop) → (β → Prop) → Prop} {b : σU → (σT → Prop) → (β → Prop) → Prop} (h : WS X M st env E1 a) (k : ∀ s, WB X M rest (E1 s) E (b s)) : WB X M (st :: rest) env E (W.seq a b) := .mk fun K Kr w =>
  RdS.consB (h.run _ Kr w) fun e ⟨s, ks, ee⟩ => by rw [ee]; exact (k s).run K Kr ks
theorem WB.weak {W : (σT → Prop) → (β → Prop) → Prop} (l : LE env env') (h : WB X M sts env' E W) : WB X M sts env E W := .mk fun K Kr w => RdS.weak l (h.run K Kr w)
theorem WB.ret {e : Expr} {pos : Pos} {m : N β} (h : NE X M e env m) : WB X M [.Return (some e) pos] env E (W.ret m) := .mk fun K Kr ⟨p, k⟩ => RdS.oneB (RdS.ofS (ps_ret star_pe) (RdS.ret (h.run p) fun _ ⟨b, sb, e⟩ => ⟨b, k b sb, e⟩))
theorem WB.retO {pos pos' : Pos} {x : List α} (i : Nat) {nm : Str} (hi : env[i]? = some (.ow (x.map rep))) (h : RE X M (.Name nm pos') (env.set i (.im (rep x))) (R.pure x)) : WB X M (β := List α) [.Return (some (.Name nm pos')) pos] env E (W.ret (N.of (R.pure x))) := .mk fun K Kr ⟨p, k⟩ =>
  RdS.oneB fun S0 H0 σ S H st Dl q1 q2 q3 q4 => by
    obtain ⟨a, vs, _, _, _, _, _, sb, h1⟩ := st.frz hi
    exact RdS.ofS (ps_ret star_pe) (RdS.ret (Z := pR (· = rep x)) (h trivial) fun _ e => e) S0 H0 σ _ H h1 Dl (fun _ _ _ _ z => z.elim) (fun d v S' H' ed => q2 d v S' H' ⟨x, k x rfl, ed⟩) (fun _ _ _ _ z => z.elim) (fun _ _ _ _ z => z.elim)
theorem WS.ite {c : Expr} {a b : List Stmt} {pos : Pos} {mc : N Bool} {wa wb : (σT → Prop) → (β → Prop) → Prop} (hc : NT X M c env mc) (h1 : WB X M a env E wa) (h2 : WB X M b env E wb) : WS X M (.If c a b pos) env E (W.ite mc wa wb) := .mk fun K Kr ⟨p, w1, w2⟩ =>
  RdS.ofS (ps_if star_pt star_pss star_pss) (RdS.if (hc.run p) (fun e => h1.run K Kr (w1 e)) fun e => h2.run K Kr (w2 e))
theorem WS.for {tg iter : Expr} {body : List Stmt} {pos : Pos} {m : N (List α)} {w : σT → α → (σT → Prop) → (β → Prop) → Prop} {ix : List Nat} {tE : σT → α → List Sl} (s0 : σT) (hp : PassesOwn (model X.prog X.w) X.A X.env X.xe) (hc : X.calm = true) (h0 : LE env (E s0)) (hi : NI X M true tg iter (E s0) m)
    (hg : ∀ s x, RG X M tg ix (rep x) (E s) (tE s x)) (hb : ∀ s x, WB X M body (tE s x) E (w s x)) (hs : ∀ x, foldedSetIterable iter X.env x = pure x) : WS X M (.For tg iter body [] pos) env E (W.for m s0 w) := .mk fun K Kr ⟨p, hw⟩ =>
  RdS.weak h0 (RdS.ofS (ps_for hp hc star_pi star_pg star_pss hs) fun S0 H0 σ S H st Dl q1 q2 q3 q4 => by
    -- the items first
    refine hi.run p S0 H0 σ S H st _ fun ds J S1 H1 ⟨xs, sxs, ed⟩ t1 it => ?_
    obtain ⟨I, i0, ib, ie⟩ := hw xs sxs
    subst ed
    have st1 := st.step t1
    refine ⟨fun i m σ' H' => m = xs.length - i ∧ i ≤ xs.length ∧ ∃ S' s, St0 X.K M S0 H0 S' H' (E s) σ' ∧ Sub S1 S' ∧ I i s, ⟨xs.length, by simp, Nat.zero_le _, S1, s0, st1, fun _ _ e => e, i0⟩, ?_⟩
    rintro i m σ' H' ⟨rfl, hil, S', s, st', sb, hI⟩
    have rc : Rch X.K M true S0 H0 S1 H1 S' H' := ⟨st'.gd, sb, st'.stp⟩
    by_cases hlt : i < xs.length
    · have hx : xs[i]? = some xs[i] := List.getElem?_eq_getElem hlt
      generalize xs[i] = x at hx
      obtain ⟨go, yl⟩ := it.go S' H' i (rep x) rc (by rw [List.getElem?_map, hx]; rfl)
      refine .inr ⟨go, fun σ2 H2 => ∃ S2 s2, St0 X.K M S0 H0 S2 H2 (E s2) σ2 ∧ Sub S1 S2 ∧ I (i + 1) s2, fun σ2 H2 ⟨S2, e2, w1, w2, w3⟩ => ⟨xs.length - (i + 1), by omega, rfl, hlt, S2, e2, w1, w2, w3⟩, fun v H2 hy => ?_⟩
      obtain ⟨S2, t2, dn⟩ := yl v H2 hy
      refine (hg s x).run S0 H0 σ' S2 H2 v (st'.step t2) dn _ fun e3 σ3 S3 H3 ee st3 t3 _ _ => ?_
      subst ee
      have s3 : Sub S1 S3 := fun x o z => t3.ss x o (t2.ss x o (sb x o z))
      exact (hb s x).run _ Kr (ib i x s hx hI) S0 H0 σ3 S3 H3 st3 _ (fun e4 σ4 S4 H4 ⟨s4, p4, ee⟩ s t => by subst ee; exact ⟨S4, s4, s, fun x o z => t x o (s3 x o z), p4⟩) q2 (fun e4 σ4 S4 H4 p s t => p.elim) (fun e4 σ4 S4 H4 p s t => p.elim)
    · have hi' : i = xs.length := by omega
      subst hi'
      exact .inl ⟨it.stop S' H' _ rc (by rw [List.length_map]; exact Nat.le_refl _) (by rw [List.length_map]; exact Nat.le_refl _), q1 _ σ' S' H' ⟨s, ie s hI, rfl⟩ st' fun x o z => sb x o (t1.ss x o z)⟩)
theorem WS.while {c : Expr} {body : List Stmt} {pos : Pos} {mc : σT → N Bool} {w : σT → (σT → Prop) → (β → Prop) → Prop} (s0 : σT) (hp : PassesOwn (model X.prog X.w) X.A X.env X.xe) (h0 : LE env (E s0)) (hc : ∀ s, NT X M c (E s) (mc s)) (hb : ∀ s, WB X M body (E s) E (w s)) : WS X M (.While c body [] pos) env E (W.while s0 mc w) := .mk fun K Kr ⟨I, n, i0, ib⟩ =>
  RdS.weak h0 (RdS.ofS (ps_while hp star_pt star_pss) (RdS.while (I := fun k e => ∃ s, e = E s ∧ I k s) n ⟨s0, rfl, i0⟩ fun k e ⟨s, e1, hI⟩ => by
    subst e1
    obtain ⟨h1, h2, h3⟩ := ib k s hI
    refine ⟨_, (hc s).run h1, fun e => ?_, fun e => ⟨s, h3 e, rfl⟩⟩
    exact ((hb s).run _ Kr (h2 e)).imp (fun e' ⟨s', ⟨n', l, i'⟩, ee⟩ => ⟨n', l, s', ee, i'⟩) (fun _ z => z) (fun _ z => z.elim) fun _ z => z.elim))
/-! stores of what is drawn -/
theorem NS.set {e : Expr} {pos pos' : Pos} {m : N α} (i : Nat) {nm : Str} (hN : X.N.Nodup) (hi : X.N[i]? = some nm) (hx : Loc X.env.scope nm) (hf : X.fn nm = true ∨ X.env.scope.names.lookup nm = some .local) {E : α → List Sl} (h : NE X M e env m) (hE : ∀ v, env.set i (.im (rep v)) = E v) (hs : swapsWith e (some (.Name nm pos')) pos.line X.env = pure false := by rfl) :
    NS X M (.Assign [.Name nm pos'] e pos) env E m := .mk fun p => RdS.ofS (ps_set hN hi hx star_pe hs hf) (RdS.set (h.run p) fun d ⟨x, sx, ed⟩ => ⟨x, sx, by rw [ed]; exact hE _⟩)
theorem NS.setF {e : Expr} {pos pos' : Pos} {m : N (List α)} (i : Nat) {nm : Str} (hN : X.N.Nodup) (hi : X.N[i]? = some nm) (hx : Loc X.env.scope nm) (hf : X.fn nm = true ∨ X.env.scope.names.lookup nm = some .local) {E : List α → List Sl} (h : NF X M e env m) (hE : ∀ v : List α, env.set i (.ow (v.map rep)) = E v) (hs : swapsWith e (some (.Name nm pos')) pos.line X.env = pure false := by rfl) :
    NS X M (.Assign [.Name nm pos'] e pos) env E m := .mk fun p => RdS.ofS (ps_set hN hi hx star_pe hs hf) (RdS.setF (h.run p) fun d ⟨x, sx, ed⟩ => ⟨x, sx, by rw [ed]; exact hE _⟩)
theorem NS.tgt {e tg : Expr} {pos : Pos} {m : N α} {ix : List Nat} {E : α → List Sl} (h : NE X M e env m) (hg : ∀ v : α, RG X M tg ix (rep v) env (E v)) (hs : swapsWithSole [tg] e pos.line X.env = pure false := by rfl) (hw : swappedStores [tg] e X.env = pure none := by rfl)
    (h1 : (assignEach [tg] X.env).map (·.2) = [assign tg X.env] := by rfl) : NS X M (.Assign [tg] e pos) env E m := .mk fun p =>
  RdS.ofS (ps_asg star_pe star_pg hs hw h1) (RdS.tgt (G := fun d e => ∃ s, m.S s ∧ d = rep s ∧ e = E s) (P := fun d => ∃ x, m.S x ∧ d = rep x) (h.run p) (fun d ⟨x, sx, ed⟩ => by
    subst ed
    intro S0 H0 σ S H v st dn Q q
    exact (hg x).run S0 H0 σ S H v st dn Q fun e σ' S' H' ee => q e σ' S' H' ⟨x, sx, rfl, ee⟩) fun d e' _ ⟨s, ss, _, h⟩ => ⟨s, ss, h⟩)
theorem NS.par {a b : Expr} {px py pt pos : Pos} {kt k2 : Nat} {pt2 : Pos} {m : N α} {n : N γ} (i j : Nat) {x y : Str} {E : α × γ → List Sl} (hE : ∀ v : α × γ, (env.set i (.im (rep v.1))).set j (.im (rep v.2)) = E v) (hc : X.calm = true) (hN : X.N.Nodup) (hi : X.N[i]? = some x) (hj : X.N[j]? = some y) (hij : i ≠ j)
    (hx : X.env.scope.names.lookup x = some .local) (hy : X.env.scope.names.lookup y = some .local) (ha : NA X M [a, b] env [true, true] (N.cons m (N.cons n N.nil)))
    (hw : swappedStores [.Tuple [.Name x px, .Name y py] kt pt] (.Tuple [a, b] k2 pt2) X.env = pure (some [x, y])) (hs : swapsWithSole [.Tuple [.Name x px, .Name y py] kt pt] (.Tuple [a, b] k2 pt2) pos.line X.env = pure false := by rfl) :
    NS X M (.Assign [.Tuple [.Name x px, .Name y py] kt pt] (.Tuple [a, b] k2 pt2) pos) env E (N.tup2 m n) := .mk fun p =>
  RdS.ofS (ps_par hc hN hi hj hij hx hy star_pa hw hs) fun S0 H0 σ S H st Dl q1 _ _ _ => ha.run ⟨p.1, p.2, trivial⟩ S0 H0 σ S H st _ fun ds vs S1 H1 ⟨x1, r1, sx, ⟨y1, r2, sy, er, e2⟩, e1⟩ bs t => by
    have er : r2 = [] := er
    subst e1 e2 er
    cases bs with
    | im r1 bs =>
      cases bs with
      | im r2 bs =>
        cases bs
        exact ⟨_, _, rfl, q1 _ _ S1 H1 ⟨(x1, y1), ⟨x1, y1, sx, sy, rfl⟩, rfl⟩ (by rw [← hE]; exact ((st.step t).putIm i r1).putIm j r2) t.ss⟩
theorem NS.setIx {e ei : Expr} {pos pos' pn : Pos} {m : N α} {n : N Int} {xs : List α} (i : Nat) {nm : Str} {E : List α → List Sl} (hi : env[i]? = some (.ow (xs.map rep))) (hE : ∀ v : List α, env.set i (.ow (v.map rep)) = E v) (hN : X.N[i]? = some nm) (hv : Vis X.env.scope nm) (hk : OkN nm) (h : NE X M e env m) (h' : NB X M ei env n)
    (ha : ∀ v, assign (.Subscript (.Name nm pn) ei pos') X.env v = (do
      let ov ← holding [v] (eval (.Name nm pn) X.env)
      let iv ← holding [v, ov] (eval ei X.env)
      standAt pos'
      holding [v, ov, iv] (setItem ov iv v)
      release [v, ov, iv] []) := by intro _; rfl) (hs : swapsWithSole [.Subscript (.Name nm pn) ei pos'] e pos.line X.env = pure false := by rfl) (hw : swappedStores [.Subscript (.Name nm pn) ei pos'] e X.env = pure none := by rfl)
    (h1 : (assignEach [.Subscript (.Name nm pn) ei pos'] X.env).map (·.2) = [assign (.Subscript (.Name nm pn) ei pos') X.env] := by rfl) :
    NS X M (.Assign [.Subscript (.Name nm pn) ei pos'] e pos) env E (N.setIx xs m n) := .mk fun p =>
  RdS.ofS (ps_asg star_pe (pg_sub (pe_var hN hv hk.d hk.c) star_pe set_list ha) hs hw h1) fun S0 H0 σ S H st Dl q1 _ _ _ => by
    refine h.run p.1 S0 H0 σ S H st _ fun d v S1 H1 ⟨x, sx, ed⟩ r t1 => ?_
    subst ed
    obtain ⟨a, vs, e1, _⟩ := (st.step t1).mut hi
    refine ⟨.ref a, e1, ?_⟩
    refine h'.run p.2.1 S0 H0 σ S1 H1 (st.step t1) _ fun d u S2 H2 ⟨j, sj, ed⟩ r2 t2 => ?_
    subst ed
    have st2 := (st.step t1).step t2
    obtain ⟨a', vs', e1', e2', rd', nm', ns', up⟩ := st2.mut hi
    rw [e1] at e1'
    cases e1'
    have hj := p.2.2 j sj
    refine ⟨a, vs', j, j.toNat, rfl, r2.int, e2', ixN_of ⟨hj.1, ?_⟩, ?_⟩
    · have := rd'.length
      rw [List.length_map] at this
      rw [← this]
      exact hj.2
    · refine q1 _ σ S2 _ ⟨xs.set j.toNat x, ⟨x, j, sx, sj, rfl⟩, rfl⟩ ?_ fun x o z => t2.ss x o (t1.ss x o z)
      have := up (vs'.set j.toNat v) ((xs.set j.toNat x).map rep) (by rw [List.map_set]; exact rd'.set (r.mon t2.ss) _)
      rw [hE] at this
      exact this
theorem NS.append {e : Expr} {pos apos cpos pn : Pos} {m : N α} {xs : List α} (i : Nat) {nm : Str} {E : List α → List Sl} (hi : env[i]? = some (.ow (xs.map rep))) (hE : ∀ v : List α, env.set i (.ow (v.map rep)) = E v) (hN : X.N[i]? = some nm) (hv : Vis X.env.scope nm) (hk : OkN nm) (h : NE X M e env m)
    (hbase : attributeBase (.Name nm pn) "append" X.env (eval (.Name nm pn) X.env) = eval (.Name nm pn) X.env := by rfl)
    (hfew : ((backTo cpos (starEach [e] X.env)).all (fun x => !x.1) && (backToKw cpos (keywordEach [] X.env)).all (fun x => x.1.isSome) && decide ([e].length + ([] : List Keyword).length + (if ([] : List Keyword).isEmpty then 0 else 1) < 30)) = true := by rfl)
    (hline : (apos.endLine == cpos.line) = true := by rfl) (hst : starEach [e] X.env = (false, eval e X.env) :: starEach [] X.env := by rfl) (hplain : (backTo cpos (starEach [] X.env)).any (·.1) = false := by rfl)
    (hs : swapsWith (.Call (.Attribute (.Name nm pn) "append" apos) [e] [] cpos) none pos.line X.env = pure false := by rfl) :
    NS X M (.Expr (.Call (.Attribute (.Name nm pn) "append" apos) [e] [] cpos) pos) env E (N.app xs m) := .mk fun p =>
  RdS.ofS (ps_expr (pe_bm PySem.F.plainAttrs_list PySem.F.slot_list_append PySem.F.type_list_append mt_append (pe_var hN hv hk.d hk.c) (pa_cons star_pe pa_nil hst) hbase hfew hline hst hplain) hs) fun S0 H0 σ S H st Dl q1 _ _ _ => by
    obtain ⟨a, vs, e1, e2, _⟩ := st.mut hi
    refine ⟨.ref a, e1, .inl ⟨rfl, vs, sql_of e2⟩, ?_⟩
    refine h.run p.1 S0 H0 σ S H st _ fun d v S1 H1 ⟨x, sx, ed⟩ r t1 => ?_
    subst ed
    obtain ⟨a', vs', e1', e2', rd', nm', ns', up⟩ := (st.step t1).mut hi
    rw [e1] at e1'
    cases e1'
    refine ⟨a, vs', v, rfl, rfl, e2', ?_, ?_⟩
    · have := rd'.length
      rw [List.length_map] at this
      have h2 := p.2
      have : sizeLine = 16777216 := sizeLine_eq
      omega
    · refine q1 _ σ S1 _ ⟨xs ++ [x], ⟨x, sx, rfl⟩, rfl⟩ ?_ t1.ss
      have := up (vs' ++ [v]) ((xs ++ [x]).map rep) (by rw [List.map_append]; exact rd'.append (.cons r .nil))
      rw [hE] at this
      exact this
/-! comprehensions -/
theorem NF.lc {elt tg iter : Expr} {ifs : List Expr} {scope : Scope} {own : List (Str × Nat)} {pos : Pos} {m : N (List α)} {t : α → R Bool} {f : α → N γ} {tE : α → List Sl} {ix : List Nat} (hc : X.calm = true) (hN : X.N.Nodup) (ok : BlkOk X.N X.env.scope scope own) (hl : ifs.length ≤ 1) (hix : ∀ i ∈ ix, i ∈ own.map (·.2))
    (hi : NI X M false tg iter env m) (hg : ∀ x, Blk X scope fun Y => RG Y M tg ix (rep x) (wipeE env (own.map (·.2))) (tE x)) (ht : ∀ x, RTs X scope M ifs (tE x) (t x)) (he : ∀ x, Blk X scope fun Y => NE Y M elt (tE x) (f x)) (hs : ∀ x, foldedSetIterable iter X.env x = pure x) :
    NF X M (.ListComp elt [⟨tg, iter, ifs, 0⟩] scope pos) env (N.lc m t f) := .mk fun p => by
  obtain ⟨tt, pt, rt⟩ := lc_pts (X := X) (M := M) (scope := scope) hl
  exact EF.of (pe_lc (g := bG X scope tg) (te := bE X scope elt) hc hN star_pi ok (fun s H C cl fp => ⟨fun pins s' σ H' v u Q I r h => h s H C cl fp pins s' u I r⟩) pt (fun s H C cl fp => ⟨fun pins s' σ H' Q I h => h s H C cl fp pins s' I⟩) hs)
    (RdF.lcN (hi.run p.1) hix (fun x S0 H0 σ S H v st dn Q q s H' C cl fp => (hg x s H' C cl fp).run S0 H0 σ S H v st dn Q q) (fun x hp => rt _ _ (ht x) hp) (fun x hp S0 H0 σ S H st Q q s H' C cl fp => (he x s H' C cl fp).run hp S0 H0 σ S H st Q q) p.2)
theorem lcset_rdN {elt tg iter : Expr} {ifs : List Expr} {scope : Scope} {own : List (Str × Nat)} {pos spos py : Pos} {m : N (List α)} {t : α → R Bool} {f : α → N γ} {tE : α → List Sl} {ix : List Nat} (i : Nat) {nm : Str} (hc : X.calm = true) (hN : X.N.Nodup) (hy : X.N[i]? = some nm) (hyl : X.env.scope.names.lookup nm = some .local)
    (hsw : swapsWith (.ListComp elt [⟨tg, iter, ifs, 0⟩] scope pos) (some (.Name nm py)) spos.line X.env = pure true) (ok : BlkOk X.N X.env.scope scope own) (hl : ifs.length ≤ 1) (hix : ∀ i ∈ ix, i ∈ own.map (·.2))
    (hi : NI X M false tg iter env m) (hg : ∀ x, Blk X scope fun Y => RG Y M tg ix (rep x) (wipeE env (own.map (·.2))) (tE x)) (ht : ∀ x, RTs X scope M ifs (tE x) (t x)) (he : ∀ x, Blk X scope fun Y => NE Y M elt (tE x) (f x)) (hs : ∀ x, foldedSetIterable iter X.env x = pure x) (p : (N.lc m t f).p) :
    ∃ te, PS X (.Assign [.Name nm py] (.ListComp elt [⟨tg, iter, ifs, 0⟩] scope pos) spos) (tAsg te (gName i)) ∧ RdF X.K M te env (fun ds => ∃ ys, (N.lc m t f).S ys ∧ ds = ys.map rep) := by
  obtain ⟨tt, pt, rt⟩ := lc_pts (X := X) (M := M) (scope := scope) hl
  exact ⟨_, ps_setLc (g := bG X scope tg) (te := bE X scope elt) hc hN hy hyl hsw star_pi ok (fun s H C cl fp => ⟨fun pins s' σ H' v u Q I r h => h s H C cl fp pins s' u I r⟩) pt (fun s H C cl fp => ⟨fun pins s' σ H' Q I h => h s H C cl fp pins s' I⟩) hs,
    RdF.lcN (hi.run p.1) hix (fun x S0 H0 σ S H v st dn Q q s H' C cl fp => (hg x s H' C cl fp).run S0 H0 σ S H v st dn Q q) (fun x hp => rt _ _ (ht x) hp) (fun x hp S0 H0 σ S H st Q q s H' C cl fp => (he x s H' C cl fp).run hp S0 H0 σ S H st Q q) p.2⟩
theorem NS.lcF {elt tg iter : Expr} {ifs : List Expr} {scope : Scope} {own : List (Str × Nat)} {pos spos py : Pos} {m : N (List α)} {t : α → R Bool} {f : α → N γ} {tE : α → List Sl} {ix : List Nat} (i : Nat) {nm : Str} {E : List γ → List Sl} (hE : ∀ v : List γ, env.set i (.ow (v.map rep)) = E v) (hc : X.calm = true) (hN : X.N.Nodup) (hy : X.N[i]? = some nm) (hyl : X.env.scope.names.lookup nm = some .local)
    (hsw : swapsWith (.ListComp elt [⟨tg, iter, ifs, 0⟩] scope pos) (some (.Name nm py)) spos.line X.env = pure true) (ok : BlkOk X.N X.env.scope scope own) (hl : ifs.length ≤ 1) (hix : ∀ i ∈ ix, i ∈ own.map (·.2))
    (hi : NI X M false tg iter env m) (hg : ∀ x, Blk X scope fun Y => RG Y M tg ix (rep x) (wipeE env (own.map (·.2))) (tE x)) (ht : ∀ x, RTs X scope M ifs (tE x) (t x)) (he : ∀ x, Blk X scope fun Y => NE Y M elt (tE x) (f x)) (hs : ∀ x, foldedSetIterable iter X.env x = pure x) :
    NS X M (.Assign [.Name nm py] (.ListComp elt [⟨tg, iter, ifs, 0⟩] scope pos) spos) env E (N.lc m t f) := .mk fun p => by
  obtain ⟨te, h1, h2⟩ := lcset_rdN i hc hN hy hyl hsw ok hl hix hi hg ht he hs p
  exact RdS.ofS h1 (RdS.setF h2 fun d ⟨ys, sy, ed⟩ => ⟨ys, sy, by rw [ed]; exact hE _⟩)
theorem NS.lc {elt tg iter : Expr} {ifs : List Expr} {scope : Scope} {own : List (Str × Nat)} {pos spos py : Pos} {m : N (List α)} {t : α → R Bool} {f : α → N γ} {tE : α → List Sl} {ix : List Nat} (i : Nat) {nm : Str} {E : List γ → List Sl} (hE : ∀ v : List γ, env.set i (.im (rep v)) = E v) (hc : X.calm = true) (hN : X.N.Nodup) (hy : X.N[i]? = some nm) (hyl : X.env.scope.names.lookup nm = some .local)
    (hsw : swapsWith (.ListComp elt [⟨tg, iter, ifs, 0⟩] scope pos) (some (.Name nm py)) spos.line X.env = pure true) (ok : BlkOk X.N X.env.scope scope own) (hl : ifs.length ≤ 1) (hix : ∀ i ∈ ix, i ∈ own.map (·.2))
    (hi : NI X M false tg iter env m) (hg : ∀ x, Blk X scope fun Y => RG Y M tg ix (rep x) (wipeE env (own.map (·.2))) (tE x)) (ht : ∀ x, RTs X scope M ifs (tE x) (t x)) (he : ∀ x, Blk X scope fun Y => NE Y M elt (tE x) (f x)) (hs : ∀ x, foldedSetIterable iter X.env x = pure x) :
    NS X M (.Assign [.Name nm py] (.ListComp elt [⟨tg, iter, ifs, 0⟩] scope pos) spos) env E (N.lc m t f) := .mk fun p => by
  obtain ⟨te, h1, h2⟩ := lcset_rdN i hc hN hy hyl hsw ok hl hix hi hg ht he hs p
  exact RdS.ofS h1 (RdS.set h2.e fun d ⟨ds, e1, ys, sy, e2⟩ => ⟨ys, sy, by rw [e1, e2]; exact hE _⟩)
end
/-! ### what draws: its promise -/
def SpM (K : PySem.W.Frag) (T : Addr → Prop) (ms : List Bool) (G : List D → (D → Prop) → Prop) : Sp := fun vs H Q _ =>
  ∃ (M : Mm) (S : Hp) (sa sc : Addr) (is : List Int) (rest : List V) (ds : List D) (P : D → Prop), M.t = T ∧ Gd M S H ∧ vs = .ref sa :: .ref sc :: rest ∧ rest.length = ms.length ∧ M sa ∧ Vk (H sa) ∧ ScOk K M H sc is ∧ Bors K M S H ms ds rest ∧ G ds P ∧
    ∀ d v S' H', P d → Den K S' d v → Step M S H S' H' → Q v H'
def D0 {β : Type} [Rep β] (f : N β) : List D → (D → Prop) → Prop := fun ds P => ds = [] ∧ f.p ∧ ∀ x, f.S x → P (rep x)
def D1 {α0 β : Type} [Rep α0] [Rep β] (f : α0 → N β) : List D → (D → Prop) → Prop := fun ds P => ∃ x0, ds = [rep x0] ∧ (f x0).p ∧ ∀ x, (f x0).S x → P (rep x)
def D2 {α0 α1 β : Type} [Rep α0] [Rep α1] [Rep β] (f : α0 → α1 → N β) : List D → (D → Prop) → Prop := fun ds P => ∃ x0 x1, ds = [rep x0, rep x1] ∧ (f x0 x1).p ∧ ∀ x, (f x0 x1).S x → P (rep x)
def D3 {α0 α1 α2 β : Type} [Rep α0] [Rep α1] [Rep α2] [Rep β] (f : α0 → α1 → α2 → N β) : List D → (D → Prop) → Prop := fun ds P => ∃ x0 x1 x2, ds = [rep x0, rep x1, rep x2] ∧ (f x0 x1 x2).p ∧ ∀ x, (f x0 x1 x2).S x → P (rep x)
@[simp] def N.d0 {β : Type} (f : N β) : N β := f
@[simp] def N.d1 {α0 β : Type} (f : α0 → N β) (m0 : N α0) : N β := ⟨m0.p ∧ ∀ x, m0.S x → (f x).p, fun z => ∃ x, m0.S x ∧ (f x).S z⟩
@[simp] def N.d2 {α0 α1 β : Type} (f : α0 → α1 → N β) (m0 : N α0) (m1 : N α1) : N β := ⟨m0.p ∧ m1.p ∧ ∀ x y, m0.S x → m1.S y → (f x y).p, fun z => ∃ x y, m0.S x ∧ m1.S y ∧ (f x y).S z⟩
@[simp] def N.d3 {α0 α1 α2 β : Type} (f : α0 → α1 → α2 → N β) (m0 : N α0) (m1 : N α1) (m2 : N α2) : N β := ⟨m0.p ∧ m1.p ∧ m2.p ∧ ∀ x y w, m0.S x → m1.S y → m2.S w → (f x y w).p, fun z => ∃ x y w, m0.S x ∧ m1.S y ∧ m2.S w ∧ (f x y w).S z⟩
section
variable {X : Cx} {M : Mm} {env : List Sl} {pos p p1 p2 : Pos} {nm na nb : Str}
theorem EV.callM {ms : List Bool} {G : List D → (D → Prop) → Prop} {A : List D → Prop} {P : D → Prop} {k j : Nat} {is : List Int} {es : List Expr} (i1 i2 : Nat) (c : Fn X.prog X.w X.K X.mg X.base k nm (SpM X.K M.t ms G)) (hr : Room j X.A) (hk : k ≤ j) (hg : Gl X nm)
    (h1 : env[i1]? = some .st) (hN1 : X.N[i1]? = some na) (hv1 : Vis X.env.scope na) (hk1 : OkN na) (h2 : env[i2]? = some (.sc is)) (hN2 : X.N[i2]? = some nb) (hv2 : Vis X.env.scope nb) (hk2 : OkN nb)
    (ha : EA X M es env ms A) (h : ∀ ds, A ds → G ds P)
    (hn : OkN nm) (he : starEach (.Name na p1 :: .Name nb p2 :: es) X.env = (false, eval (.Name na p1) X.env) :: starEach (.Name nb p2 :: es) X.env := by rfl) (he2 : starEach (.Name nb p2 :: es) X.env = (false, eval (.Name nb p2) X.env) :: starEach es X.env := by rfl) (hpl : (backTo pos (starEach (.Name nb p2 :: es) X.env)).any (·.1) = false := by rfl) :
    EV X M (.Call (.Name nm p) (.Name na p1 :: .Name nb p2 :: es) [] pos) env P :=
  EV.of (pe_fn c hr hk hg (pa_cons (pe_var hN1 hv1 hk1.d hk1.c) (pa_cons (pe_var hN2 hv2 hk2.d hk2.c) star_pa he2) he) hn he hpl) fun S0 H0 σ S H st Q q => by
    obtain ⟨O, _, _, sl⟩ := st.own
    obtain ⟨sa, e1, m1, v1⟩ := sl i1 _ h1
    obtain ⟨sc, e2, q2⟩ := sl i2 _ h2
    refine ⟨.ref sa, e1, .ref sc, e2, ?_⟩
    refine ha _ _ _ _ _ st _ fun ds vs S1 H1 ad bs t1 => ?_
    show SpM X.K M.t ms G ((.ref sa :: .ref sc :: vs) ++ []) H1 Q E0
    rw [List.append_nil]
    exact ⟨M, S1, sa, sc, is, vs, ds, P, rfl, (st.step t1).gd, rfl, bs.length.2.symm, m1, t1.vk sa m1 v1, (q2.step st.stp).step t1, bs, h ds ad, fun d v S' H' pd r t => q d v S' H' pd r (t1.trans t)⟩
theorem NE.drw0 {β : Type} [Rep β] {f : N β} {k j : Nat} {is : List Int} (i1 i2 : Nat) (c : Fn X.prog X.w X.K X.mg X.base k nm (SpM X.K M.t [] (D0 f))) (hr : Room j X.A) (hk : k ≤ j) (hg : Gl X nm)
    (h1 : env[i1]? = some .st) (hN1 : X.N[i1]? = some na) (hv1 : Vis X.env.scope na) (hk1 : OkN na) (h2 : env[i2]? = some (.sc is)) (hN2 : X.N[i2]? = some nb) (hv2 : Vis X.env.scope nb) (hk2 : OkN nb)
    (hn : OkN nm) (he : starEach (.Name na p1 :: .Name nb p2 :: []) X.env = (false, eval (.Name na p1) X.env) :: starEach (.Name nb p2 :: []) X.env := by rfl) (he2 : starEach (.Name nb p2 :: []) X.env = (false, eval (.Name nb p2) X.env) :: starEach [] X.env := by rfl) (hpl : (backTo pos (starEach (.Name nb p2 :: []) X.env)).any (·.1) = false := by rfl) :
    NE X M (.Call (.Name nm p) [.Name na p1, .Name nb p2] [] pos) env (N.d0 f) := .mk fun p =>
  EV.callM i1 i2 c hr hk hg h1 hN1 hv1 hk1 h2 hN2 hv2 hk2 (NA.nil.run trivial) (fun ds e => ⟨e, p, fun z sz => ⟨z, sz, rfl⟩⟩) hn he he2 hpl
theorem NE.drw1 {α0 β : Type} [Rep α0] [Rep β] {f : α0 → N β} {k j : Nat} {is : List Int} {ms : List Bool} {e0 : Expr} {m0 : N α0} (i1 i2 : Nat) (c : Fn X.prog X.w X.K X.mg X.base k nm (SpM X.K M.t ms (D1 f))) (hr : Room j X.A) (hk : k ≤ j) (hg : Gl X nm)
    (h1 : env[i1]? = some .st) (hN1 : X.N[i1]? = some na) (hv1 : Vis X.env.scope na) (hk1 : OkN na) (h2 : env[i2]? = some (.sc is)) (hN2 : X.N[i2]? = some nb) (hv2 : Vis X.env.scope nb) (hk2 : OkN nb) (ha : NA X M [e0] env ms (N.cons m0 N.nil))
    (hn : OkN nm) (he : starEach (.Name na p1 :: .Name nb p2 :: [e0]) X.env = (false, eval (.Name na p1) X.env) :: starEach (.Name nb p2 :: [e0]) X.env := by rfl) (he2 : starEach (.Name nb p2 :: [e0]) X.env = (false, eval (.Name nb p2) X.env) :: starEach [e0] X.env := by rfl) (hpl : (backTo pos (starEach (.Name nb p2 :: [e0]) X.env)).any (·.1) = false := by rfl) :
    NE X M (.Call (.Name nm p) [.Name na p1, .Name nb p2, e0] [] pos) env (N.d1 f m0) := .mk fun p =>
  EV.callM i1 i2 c hr hk hg h1 hN1 hv1 hk1 h2 hN2 hv2 hk2 (ha.run ⟨p.1, trivial⟩) (fun ds ⟨x, r, sx, er, e⟩ => ⟨x, by have er : r = [] := er; rw [e, er], p.2 x sx, fun z sz => ⟨z, ⟨x, sx, sz⟩, rfl⟩⟩) hn he he2 hpl
theorem NE.drw2 {α0 α1 β : Type} [Rep α0] [Rep α1] [Rep β] {f : α0 → α1 → N β} {k j : Nat} {is : List Int} {ms : List Bool} {e0 e1 : Expr} {m0 : N α0} {m1 : N α1} (i1 i2 : Nat) (c : Fn X.prog X.w X.K X.mg X.base k nm (SpM X.K M.t ms (D2 f))) (hr : Room j X.A) (hk : k ≤ j) (hg : Gl X nm)
    (h1 : env[i1]? = some .st) (hN1 : X.N[i1]? = some na) (hv1 : Vis X.env.scope na) (hk1 : OkN na) (h2 : env[i2]? = some (.sc is)) (hN2 : X.N[i2]? = some nb) (hv2 : Vis X.env.scope nb) (hk2 : OkN nb) (ha : NA X M [e0, e1] env ms (N.cons m0 (N.cons m1 N.nil)))
    (hn : OkN nm) (he : starEach (.Name na p1 :: .Name nb p2 :: [e0, e1]) X.env = (false, eval (.Name na p1) X.env) :: starEach (.Name nb p2 :: [e0, e1]) X.env := by rfl) (he2 : starEach (.Name nb p2 :: [e0, e1]) X.env = (false, eval (.Name nb p2) X.env) :: starEach [e0, e1] X.env := by rfl) (hpl : (backTo pos (starEach (.Name nb p2 :: [e0, e1]) X.env)).any (·.1) = false := by rfl) :
    NE X M (.Call (.Name nm p) [.Name na p1, .Name nb p2, e0, e1] [] pos) env (N.d2 f m0 m1) := .mk fun p =>
  EV.callM i1 i2 c hr hk hg h1 hN1 hv1 hk1 h2 hN2 hv2 hk2 (ha.run ⟨p.1, p.2.1, trivial⟩) (fun ds ⟨x, r, sx, ⟨y, r', sy, er, e'⟩, e⟩ => ⟨x, y, by have er : r' = [] := er; rw [e, e', er], p.2.2 x y sx sy, fun z sz => ⟨z, ⟨x, y, sx, sy, sz⟩, rfl⟩⟩) hn he he2 hpl
end
end FP
namespace FP
open PySem PySem.Spec PyProof.Rows L2
open Rep (rep)
/-! ### defs that draw, by their body -/
theorem St0.startM {M : Mm} {K : PySem.W.Frag} {S H : Hp} {ms : List Bool} {ds : List D} {l : List Sl} {vs : List V} {sa sc : Addr} {is : List Int} (g : Gd M S H) (ma : M sa) (va : Vk (H sa)) (qc : ScOk K M H sc is) (a : Args ms ds l) (b : Bors K M S H ms ds vs) (n : Nat) :
    St0 K M S H S H ((.st :: .sc is :: l) ++ List.replicate n .un) ((.ref sa :: .ref sc :: vs).map some ++ List.replicate n none) := by
  obtain ⟨h1, h2⟩ := Args.sl g a b
  refine ⟨by simp [h1], Step.refl g.sub, g, fun _ => [], (fun _ _ _ z => nomatch z), (fun _ _ z => nomatch z), fun i s e => ?_⟩
  match i with
  | 0 => simp at e; subst e; exact ⟨sa, rfl, ma, va⟩
  | 1 => simp at e; subst e; exact ⟨sc, rfl, qc⟩
  | i + 2 =>
    have e' : (l ++ List.replicate n Sl.un)[i]? = some s := by simpa using e
    have goal : SlOk K M S H H [] s ((vs.map some ++ List.replicate n none)[i]?) := by
      by_cases hi : i < l.length
      · rw [List.getElem?_append_left hi] at e'
        obtain ⟨v, e1, e2⟩ := h2 i s e'
        rw [List.getElem?_append_left (by simpa [h1] using hi), List.getElem?_map, e1]
        exact e2
      · rw [List.getElem?_append_right (by omega)] at e'
        have := List.mem_of_getElem? e'
        rw [List.mem_replicate] at this
        rw [this.2]
        trivial
    simpa using goal
theorem Fn.ofM {T : Addr → Prop} {P : Program} {w : World} {K : PySem.W.Frag} {mg : Str → Option Value} {base : Heap} {x qual : Str} {params : Arguments} {body : List Stmt} {scope : Scope} {f : Addr} {fd : FuncData} {N ps : List Str} {k : Nat} {ms : List Bool} {G : List D → (D → Prop) → Prop}
    (F : FunD K x qual params body scope [] [] f fd) (S : FnScope N ps scope) (hm : mg x = some (.ref f)) (hb : Binds K fd ps []) (hl : ms.length + 2 = ps.length)
    (h : ∀ ds P', G ds P' → ∃ l : List Sl, Args ms ds l ∧ ∀ (cd : Value) (A : Around) (outer : List Env) (s : Shared) (H : Hp) (E : XK) (M : Mm) (is : List Int), fd.code = cd → Room k (A.deeper (envOfC qual scope s.heap.objs.size f cd)) → M.t = T →
      RdS K M (starB (cxF P w K mg base N qual scope f cd A outer s H E) body) ((.st :: .sc is :: l) ++ List.replicate (N.length - ps.length) .un) (pR P')) : Fn P w K mg base (k + 1) x (SpM K T ms G) := by
  refine ⟨f, fd, ps, fun_ok F S (fun vs H Q E hsp => ?_) (fun cd A outer s H vs Q E hcd hr hsp => ?_), hm, F.kp, hb⟩
  · obtain ⟨M, S, sa, sc, is, rest, ds, P', _, _, e, hl', _⟩ := hsp
    rw [e, List.length_cons, List.length_cons, hl', hl]
  · obtain ⟨M, S', sa, sc, is, rest, ds, P', eT, g, e, hl', ma, va, qc, b, gg, q⟩ := hsp
    subst e
    obtain ⟨l, ha, hbody⟩ := h ds P' gg
    have hN : (V.ref sa :: .ref sc :: rest).length = ps.length := by rw [List.length_cons, List.length_cons, hl', hl]
    refine ⟨_, PSs.nox star_pss, ?_⟩
    unfold L2.start
    rw [hN]
    exact hbody cd A outer s H E M is hcd hr eT S' H _ S' H (St0.startM g ma va qc ha b _) _ (fun _ _ _ _ z => z.elim) (fun d v S2 H2 p r t => q d v S2 H2 p r t) (fun _ _ _ _ z => z.elim) (fun _ _ _ _ z => z.elim)
/-! ### the state, the script -/
theorem Step.vol {M : Mm} {S H : Hp} (g : Gd M S H) {a : Addr} (m : M a) (v : Vk (H a)) (i j : Int) : Step M S H S (upd H a (.lst [.int i, .int j])) where
  ss := fun _ _ e => e
  sh := fun b o e => by rw [upd_ne (ne_of_none e (g.vol a m).2)]; exact g.sub b o e
  ext := fun b o e n _ => by
    have z : b ≠ a := fun z => by subst z; exact n m
    rw [upd_ne z]; exact e
  tb := fun b ps e t => by
    obtain ⟨x, y, e2⟩ := v
    have z : b ≠ a := fun z => by subst z; rw [e] at e2; cases e2
    exact ⟨ps, by rw [upd_ne z]; exact e, t⟩
  cap := fun _ e _ => e
  vk := fun b _ vb => by
    by_cases z : b = a
    · subst z; exact ⟨i, j, upd_same⟩
    · rw [upd_ne z]; exact vb
  keep := fun b n => by
    by_cases z : b = a
    · subst z; rw [upd_same]; exact fun q => nomatch q
    · rw [upd_ne z]; exact n
section
variable {X : Cx} {M : Mm} {env : List Sl} {pos pn : Pos} {nm : Str} {e : Expr}
theorem NE.stIx {k : Int} {j : Nat} {p2 : Pos} (i : Nat) (hi : env[i]? = some .st) (hk2 : k = 0 ∨ k = 1) (hN : X.N[i]? = some nm) (hv : Vis X.env.scope nm) (hk : OkN nm) (hs : PlainIx (.Constant (.int k) j p2)) : NE X M (.Subscript (.Name nm pn) (.Constant (.int k) j p2) pos) env N.any := .mk fun _ =>
  EV.of (pe_ix ix_list (pe_var hN hv hk.d hk.c) pe_int hs) fun S0 H0 σ S H st Q q => by
    obtain ⟨O, _, _, sl⟩ := st.own
    obtain ⟨sa, e1, m1, x, y, hx⟩ := sl i _ hi
    refine ⟨.ref sa, e1, ?_⟩
    rcases hk2 with rfl | rfl
    · exact ⟨sa, _, 0, .int x, rfl, rfl, sql_of hx, rfl, q _ _ S H ⟨x, trivial, rfl⟩ (.int x) (Step.refl st.gd.sub)⟩
    · exact ⟨sa, _, 1, .int y, rfl, rfl, sql_of hx, rfl, q _ _ S H ⟨y, trivial, rfl⟩ (.int y) (Step.refl st.gd.sub)⟩
theorem NS.stSet {k : Int} {j : Nat} {p2 pos' : Pos} {m : N Int} (i : Nat) {E : Unit → List Sl} (hi : env[i]? = some .st) (hk2 : k = 0 ∨ k = 1) (hN : X.N[i]? = some nm) (hv : Vis X.env.scope nm) (hk : OkN nm) (h : NE X M e env m) (hE : E () = env)
    (ha : ∀ v, assign (.Subscript (.Name nm pn) (.Constant (.int k) j p2) pos') X.env v = (do
      let ov ← holding [v] (eval (.Name nm pn) X.env)
      let iv ← holding [v, ov] (eval (.Constant (.int k) j p2) X.env)
      standAt pos'
      holding [v, ov, iv] (setItem ov iv v)
      release [v, ov, iv] []) := by intro _; rfl) (hs : swapsWithSole [.Subscript (.Name nm pn) (.Constant (.int k) j p2) pos'] e pos.line X.env = pure false := by rfl) (hw : swappedStores [.Subscript (.Name nm pn) (.Constant (.int k) j p2) pos'] e X.env = pure none := by rfl)
    (h1 : (assignEach [.Subscript (.Name nm pn) (.Constant (.int k) j p2) pos'] X.env).map (·.2) = [assign (.Subscript (.Name nm pn) (.Constant (.int k) j p2) pos') X.env] := by rfl) :
    NS X M (.Assign [.Subscript (.Name nm pn) (.Constant (.int k) j p2) pos'] e pos) env E (⟨m.p, fun _ => True⟩ : N Unit) := .mk fun p =>
  RdS.ofS (ps_asg star_pe (pg_sub (pe_var hN hv hk.d hk.c) pe_int set_list ha) hs hw h1) fun S0 H0 σ S H st Dl q1 _ _ _ => by
    refine h.run p S0 H0 σ S H st _ fun d v S1 H1 ⟨x, sx, ed⟩ r t1 => ?_
    subst ed
    cases r
    obtain ⟨O, _, _, sl⟩ := (st.step t1).own
    obtain ⟨sa, e1, m1, v1⟩ := sl i _ hi
    obtain ⟨y, z, hy⟩ := id v1
    refine ⟨.ref sa, e1, ?_⟩
    rcases hk2 with rfl | rfl
    · refine ⟨sa, _, 0, 0, rfl, rfl, hy, rfl, q1 env σ S1 _ ⟨(), trivial, hE.symm⟩ ((st.step t1).step (Step.vol (st.step t1).gd m1 v1 x z)) t1.ss⟩
    · refine ⟨sa, _, 1, 1, rfl, rfl, hy, rfl, q1 env σ S1 _ ⟨(), trivial, hE.symm⟩ ((st.step t1).step (Step.vol (st.step t1).gd m1 v1 y x)) t1.ss⟩
theorem scVar {K : PySem.W.Frag} {S0 H0 S H : Hp} {σ : L2.St} {i : Nat} {is : List Int} (st : St0 K M S0 H0 S H env σ) (hi : env[i]? = some (.sc is)) : ∃ a, σ[i]? = some (some (.ref a)) ∧ ScOk K M H a is := by
  obtain ⟨O, _, _, sl⟩ := st.own
  obtain ⟨a, e1, q⟩ := sl i _ hi
  exact ⟨a, e1, q.step st.stp⟩
theorem RT.truSc {is : List Int} (i : Nat) (hi : env[i]? = some (.sc is)) (hN : X.N[i]? = some nm) (hv : Vis X.env.scope nm) (hk : OkN nm) (he : ∀ whole, isTrue (.Name nm pn) X.env whole = (do let v ← whole; standAt (Expr.Name nm pn).pos; holding [v] (truthy v))) : RT X M (.Name nm pn) env (R.pure (!is.isEmpty)) := .mk fun _ =>
  ET.of (pt_truth (pe_var hN hv hk.d hk.c) he) fun S0 H0 σ S H st Q q => by
    obtain ⟨a, e1, qa⟩ := scVar st hi
    refine ⟨.ref a, e1, !is.isEmpty, .inl ⟨_, qa.sql, ?_⟩, q _ S H rfl (Step.refl st.gd.sub)⟩
    cases is <;> rfl
theorem RE.lenSc {is : List Int} {p0 : Pos} (i : Nat) (hi : env[i]? = some (.sc is)) (hN : X.N[i]? = some nm) (hv : Vis X.env.scope nm) (hk : OkN nm) (hg : Gl X "len") (hm : X.mg "len" = none) (hs : starEach [.Name nm pn] X.env = (false, eval (.Name nm pn) X.env) :: starEach [] X.env := by rfl) (hpl : (backTo pos (starEach [] X.env)).any (·.1) = false := by rfl) :
    RE X M (.Call (.Name "len" p0) [.Name nm pn] [] pos) env (R.pure (is.length : Int)) := .mk fun _ =>
  EV.of (pe_callB call_len hg hm boot_len (pa_cons (pe_var hN hv hk.d hk.c) pa_nil hs) kb_len.n kb_len.d hs hpl) fun S0 H0 σ S H st Q q => by
    obtain ⟨a, e1, qa⟩ := scVar st hi
    exact ⟨.ref a, e1, _, is.length, rfl, .inl ⟨_, qa.sql, by simp⟩, q _ _ S H rfl (.int _) (Step.refl st.gd.sub)⟩
theorem NE.ixSc {is : List Int} {ei : Expr} {m : N Int} (i : Nat) (hi : env[i]? = some (.sc is)) (hN : X.N[i]? = some nm) (hv : Vis X.env.scope nm) (hk : OkN nm) (h : NB X M ei env m) (hs : PlainIx ei) : NE X M (.Subscript (.Name nm pn) ei pos) env (⟨m.p ∧ ∀ k, m.S k → 0 ≤ k ∧ k < is.length, fun _ => True⟩ : N Int) := .mk fun p =>
  EV.of (pe_ix ix_list (pe_var hN hv hk.d hk.c) star_pe hs) fun S0 H0 σ S H st Q q => by
    obtain ⟨a, e1, qa⟩ := scVar st hi
    refine ⟨.ref a, e1, ?_⟩
    refine h.run p.1 S0 H0 σ S H st _ fun d v S1 H1 ⟨k, sk, ed⟩ r t1 => ?_
    subst ed
    obtain ⟨h0, h1⟩ := p.2 k sk
    have hl : k.toNat < is.length := by omega
    refine ⟨a, _, k, .int is[k.toNat], rfl, r.int, (qa.step t1).sql, ?_, q _ _ S1 H1 ⟨_, trivial, rfl⟩ (.int _) t1⟩
    unfold atI ixN
    rw [if_pos h0, if_pos (by simp; omega)]
    simp [hl]
end
/-! ### _law_refill -/
def SpR (K : PySem.W.Frag) (T : Addr → Prop) : Sp := fun vs H Q _ =>
  ∃ (M : Mm) (S : Hp) (sc : Addr) (is : List Int) (k : Int), M.t = T ∧ Gd M S H ∧ vs = [.ref sc, .int k] ∧ ScOk K M H sc is ∧ ∀ (i : Int) S' H', Step M S H S' H' → Q (.int i) H'
theorem Fn.ofR {T : Addr → Prop} {P : Program} {w : World} {K : PySem.W.Frag} {mg : Str → Option Value} {base : Heap} {x qual : Str} {params : Arguments} {body : List Stmt} {scope : Scope} {f : Addr} {fd : FuncData} {N ps : List Str} {k : Nat}
    (F : FunD K x qual params body scope [] [] f fd) (S : FnScope N ps scope) (hm : mg x = some (.ref f)) (hb : Binds K fd ps []) (hl : ps.length = 2)
    (h : ∀ (cd : Value) (A : Around) (outer : List Env) (s : Shared) (H : Hp) (E : XK) (M : Mm) (is : List Int) (k0 : Int), Room k (A.deeper (envOfC qual scope s.heap.objs.size f cd)) →
      RdS K M (starB (cxF P w K mg base N qual scope f cd A outer s H E) body) ([.sc is, .im (.int k0)] ++ List.replicate (N.length - ps.length) .un) (pR fun d => ∃ i, d = .int i)) : Fn P w K mg base (k + 1) x (SpR K T) := by
  refine ⟨f, fd, ps, fun_ok F S (fun vs H Q E hsp => ?_) (fun cd A outer s H vs Q E hcd hr hsp => ?_), hm, F.kp, hb⟩
  · obtain ⟨M, S, sc, is, k0, _, _, e, _⟩ := hsp
    rw [e, hl]; rfl
  · obtain ⟨M, S', sc, is, k0, eT, g, e, qc, q⟩ := hsp
    subst e
    refine ⟨_, PSs.nox star_pss, ?_⟩
    unfold L2.start
    have hN : ([V.ref sc, .int k0] : List V).length = ps.length := by rw [hl]; rfl
    rw [hN]
    refine h cd A outer s H E M is k0 hr S' H _ S' H ⟨by simp, Step.refl g.sub, g, fun _ => [], (fun _ _ _ z => nomatch z), (fun _ _ z => nomatch z), fun i s e => ?_⟩ _ (fun _ _ _ _ z => z.elim) (fun d v S2 H2 ⟨i, ei⟩ r t => by subst ei; cases r; exact q i S2 H2 t) (fun _ _ _ _ z => z.elim) (fun _ _ _ _ z => z.elim)
    match i with
    | 0 => simp at e; subst e; exact ⟨sc, rfl, qc⟩
    | 1 => simp at e; subst e; exact ⟨.int k0, rfl, .int k0⟩
    | i + 2 =>
      have e' : (List.replicate (N.length - ps.length) Sl.un)[i]? = some s := by simpa using e
      have := List.mem_of_getElem? e'
      rw [List.mem_replicate] at this
      rw [this.2]
      trivial
theorem NE.refill {X : Cx} {M : Mm} {env : List Sl} {pos p p1 : Pos} {nm na : Str} {is : List Int} {k j : Nat} {e0 : Expr} {m0 : N Int} (i1 : Nat) (c : Fn X.prog X.w X.K X.mg X.base k nm (SpR X.K M.t)) (hr : Room j X.A) (hk : k ≤ j) (hg : Gl X nm)
    (h1 : env[i1]? = some (.sc is)) (hN1 : X.N[i1]? = some na) (hv1 : Vis X.env.scope na) (hk1 : OkN na) (h : NE X M e0 env m0)
    (hn : OkN nm) (he : starEach (.Name na p1 :: [e0]) X.env = (false, eval (.Name na p1) X.env) :: starEach [e0] X.env := by rfl) (he2 : starEach (e0 :: []) X.env = (false, eval e0 X.env) :: starEach [] X.env := by rfl) (hpl : (backTo pos (starEach [e0] X.env)).any (·.1) = false := by rfl) :
    NE X M (.Call (.Name nm p) [.Name na p1, e0] [] pos) env (⟨m0.p, fun _ => True⟩ : N Int) := .mk fun p =>
  EV.of (pe_fn c hr hk hg (pa_cons (pe_var hN1 hv1 hk1.d hk1.c) (pa_cons star_pe pa_nil he2) he) hn he hpl) fun S0 H0 σ S H st Q q => by
    obtain ⟨a, e1, qa⟩ := scVar st h1
    refine ⟨.ref a, e1, ?_⟩
    refine h.run p S0 H0 σ S H st _ fun d v S1 H1 ⟨x, sx, ed⟩ r t1 => ?_
    subst ed
    cases r
    exact ⟨M, S1, a, is, x, rfl, (st.step t1).gd, rfl, qa.step t1, fun i S' H' t => q (rep i) _ S' H' ⟨i, trivial, rfl⟩ (.int i) (t1.trans t)⟩
/-! ### the law -/
def SpL (K : PySem.W.Frag) (T : Addr → Prop) : Sp := fun vs H Q _ => ∃ (a : Addr) (is : List Int), vs = [.ref a] ∧ SqL K H a (is.map V.int) ∧ (∀ p, T p → TbG H p) ∧ ∀ H', Q (.bl true) H'
theorem Fn.law {T : Addr → Prop} {P : Program} {w : World} {K : PySem.W.Frag} {mg : Str → Option Value} {base : Heap} {x qual : Str} {params : Arguments} {rest : List Stmt} {scope : Scope} {f : Addr} {fd : FuncData} {N ps : List Str} {k : Nat} {p1 p2 p3 p4 p5 : Pos} {j1 j2 : Nat}
    (F : FunD K x qual params (.Assign [.Name "state" p1] (.List [.Constant (.int 0) j1 p2, .Constant (.int 0) j2 p3] p4) p5 :: rest) scope [] [] f fd) (S : FnScope N ps scope) (hl : ps.length = 1) (hN : N[1]? = some (Str.ofString "state")) (hx : Loc scope "state") (hln : 2 ≤ N.length)
    (hs : ∀ env : Env, env.scope = scope → swapsWith (.List [.Constant (.int 0) j1 p2, .Constant (.int 0) j2 p3] p4) (some (.Name "state" p1)) p5.line env = pure false)
    (hst : ∀ env : Env, starEach [.Constant (.int 0) j1 p2, .Constant (.int 0) j2 p3] env = (false, eval (.Constant (.int 0) j1 p2) env) :: starEach [.Constant (.int 0) j2 p3] env) (hst2 : ∀ env : Env, starEach [.Constant (.int 0) j2 p3] env = (false, eval (.Constant (.int 0) j2 p3) env) :: starEach [] env)
    (h : ∀ (cd : Value) (A : Around) (outer : List Env) (s : Shared) (H : Hp) (E : XK) (M : Mm) (is : List Int), fd.code = cd → Room k (A.deeper (envOfC qual scope s.heap.objs.size f cd)) → M.t = T →
      RdS K M (starB (cxF P w K mg base N qual scope f cd A outer s H E) rest) (.sc is :: .st :: List.replicate (N.length - 2) .un) (pR (· = .bool true))) : FnOk P w K mg base CX0 (k + 1) f fd ps (SpL K T) := by
  refine fun_ok F S (fun vs H Q E hsp => ?_) (fun cd A outer s H vs Q E hcd hr hsp => ?_)
  · obtain ⟨a, is, e, _⟩ := hsp
    rw [e, hl]; rfl
  · obtain ⟨a, is, e, qa, hT, q⟩ := hsp
    subst e
    refine ⟨_, PSs.nox (pss_cons (ps_set (i := 1) (X := cxF P w K mg base N qual scope f cd A outer s H E) S.nd hN hx (pe_lst (pa_cons pe_int (pa_cons pe_int pa_nil (hst2 _)) (hst _))) (hs _ rfl) (.inl rfl)) star_pss), ?_⟩
    refine ⟨by show 2 ≤ sizeLine; decide, fun p hp => ?_⟩
    have tn : ∀ P, T P → P ≠ p := fun P t => by
      obtain ⟨ps, e, _⟩ := hT P t
      exact ne_of_none e hp
    have e1 : (L2.start N [V.ref a]).set 1 (some (.ref p)) = some (.ref a) :: some (.ref p) :: List.replicate (N.length - 2) none := by
      unfold L2.start
      obtain ⟨n, hn⟩ : ∃ n, N.length = n + 2 := ⟨N.length - 2, by omega⟩
      have e2 : N.length - [V.ref a].length = n + 1 := by rw [hn]; rfl
      have e3 : N.length - 2 = n := by omega
      rw [e2, e3]
      rfl
    show starB _ rest _ ((L2.start N [V.ref a]).set 1 (some (.ref p))) _
    rw [e1]
    refine h cd A outer s H E ⟨(· = p), T⟩ is hcd hr rfl (fun _ => none) (upd H p (.lst [.int 0, .int 0])) _ (fun _ => none) _ ⟨by simp, Step.refl (fun _ _ z => nomatch z), ⟨(fun _ _ z => nomatch z), fun b hb => ?_, fun P t => ?_⟩, fun _ => [], (fun _ _ _ z => nomatch z), (fun _ _ z => nomatch z), fun i s e => ?_⟩ _ (fun _ _ _ _ z => z.elim) (fun d v S2 H2 ed r t => by subst ed; cases r; exact q H2) (fun _ _ _ _ z => z.elim) (fun _ _ _ _ z => z.elim)
    · have hb : b = p := hb
      subst hb
      exact ⟨by rw [upd_same]; exact (fun z => nomatch z), rfl⟩
    · obtain ⟨ps, e, ok⟩ := hT P t
      exact ⟨⟨ps, by rw [upd_ne (tn P t)]; exact e, ok⟩, rfl⟩
    · match i with
      | 0 =>
        simp at e; subst e
        refine ⟨a, rfl, ?_⟩
        rcases qa with r | qa
        · refine .inl ⟨?_, ?_⟩
          · rcases r with r | ⟨o, r⟩
            · exact .inl (by rw [upd_ne (ne_of_none r hp)]; exact r)
            · exact .inr ⟨o, by rw [upd_ne (ne_of_none r hp)]; exact r⟩
          · intro z
            have z : a = p := z
            subst z
            rcases r with r | ⟨o, r⟩ <;> rw [hp] at r <;> cases r
        · exact .inr fun H' => .inr qa
      | 1 => simp at e; subst e; exact ⟨p, rfl, rfl, 0, 0, upd_same⟩
      | i + 2 =>
        have e' : (List.replicate (N.length - 2) Sl.un)[i]? = some s := by simpa using e
        have := List.mem_of_getElem? e'
        rw [List.mem_replicate] at this
        rw [this.2]
        trivial
end FP
namespace FP
open PySem PySem.Spec PyProof.Rows L2
open Rep (rep)
/-! ### data as such: for _law_exact -/
def tyD : D → String
  | .none => "NoneType"
  | .bool _ => "bool"
  | .int _ => "int"
  | .str _ => "str"
  | .list _ => "list"
  | .tuple _ => "tuple"
  | .dict _ => "dict"
def isi1 (d : D) (n : String) : Bool := match d, n with
  | .bool _, "bool" => true
  | .bool _, "int" => true
  | .int _, "int" => true
  | .str _, "str" => true
  | .list _, "list" => true
  | .tuple _, "tuple" => true
  | _, _ => false
def isSq (d : D) : Bool := match d with
  | .list _ => true
  | .tuple _ => true
  | _ => false
def itemsD : D → List D
  | .list ds => ds
  | .tuple ds => ds
  | _ => []
theorem Den.tyx {K : PySem.W.Frag} {S H : Hp} (sb : Sub S H) {d : D} {v : V} (b : Den K S d v) : TyX K H v (.type (tyD d)) ∧ ∀ kvs, d ≠ .dict kvs := by
  cases b with
  | non => exact ⟨.base .non, fun _ z => nomatch z⟩
  | bl b => exact ⟨.base (.bl b), fun _ z => nomatch z⟩
  | int i => exact ⟨.base (.int i), fun _ z => nomatch z⟩
  | str s => exact ⟨.base (.str s), fun _ z => nomatch z⟩
  | lst e r => exact ⟨.base (.lst (sb _ _ e)), fun _ z => nomatch z⟩
  | tup e r =>
    refine ⟨?_, fun _ z => nomatch z⟩
    rcases sub_sqt sb e with (e | ⟨o, e⟩) | ⟨o, its, n, hk, hc, _⟩
    · exact .base (.tup e)
    · exact .fTuple e
    · exact .kTuple hk hc
section
variable {X : Cx} {M : Mm} {env : List Sl} {pos p0 p1 tp : Pos} {e a : Expr} {es : List Expr} {nm : Str}
theorem isi_kit (K : PySem.W.Frag) (d : D) (hd : ∀ kvs, d ≠ .dict kvs) {n : String} (hn : n = "list" ∨ n = "tuple" ∨ n = "str" ∨ n = "bool" ∨ n = "int") : PySem.W.kitOne K (.type (tyD d)) (.type n) = some (isi1 d n) := by
  rcases hn with rfl | rfl | rfl | rfl | rfl <;> cases d <;> first | rfl | exact absurd rfl (hd _)
/-- isinstance(e, T) -/
theorem RE.isi1 {n : String} {m : R D} (hn : n = "list" ∨ n = "tuple" ∨ n = "str" ∨ n = "bool" ∨ n = "int") (hg : Gl X "isinstance") (hm : X.mg "isinstance" = none) (hgn : Gl X nm) (hmn : X.mg nm = none) (hv : bootBuiltins nm = some (.type n)) (hk : OkN nm) (h : RE X M e env m)
    (hs : starEach [e, .Name nm p1] X.env = (false, eval e X.env) :: starEach [.Name nm p1] X.env := by rfl) (hs2 : starEach [.Name nm p1] X.env = (false, eval (.Name nm p1) X.env) :: starEach [] X.env := by rfl) (hpl : (backTo pos (starEach [.Name nm p1] X.env)).any (·.1) = false := by rfl) :
    RE X M (.Call (.Name "isinstance" p0) [e, .Name nm p1] [] pos) env (R.o1 T1 (fun d => FP.isi1 d n) m) := .mk fun p =>
  EV.of (pe_callB call_isi hg hm PyProof.Rows.boot_isinstance (pa_cons star_pe (pa_cons (pe_bltn hgn hmn hv (v := .ty n) rfl hk.n hk.d) pa_nil hs2) hs) (by decide) (by decide) hs hpl) fun S0 H0 σ S H st Q q => by
    refine h.run p.1 S0 H0 σ S H st _ fun d v S1 H1 ed r t1 => ?_
    subst ed
    obtain ⟨ty, nd⟩ := Den.tyx (st.step t1).gd.sub r
    exact ⟨v, .ty n, _, _, _, rfl, .ty n, ty, isi_kit X.K m.v nd hn, q _ _ S1 H1 rfl (.bl _) t1⟩
/-- isinstance(e, (list, tuple)) -/
theorem RE.isi2 {m : R D} {k : Nat} {p2 : Pos} (hg : Gl X "isinstance") (hm : X.mg "isinstance" = none) (hg1 : Gl X "list") (hm1 : X.mg "list" = none) (hg2 : Gl X "tuple") (hm2 : X.mg "tuple" = none) (h : RE X M e env m)
    (hs : starEach [e, .Tuple [.Name "list" p1, .Name "tuple" p2] k tp] X.env = (false, eval e X.env) :: starEach [.Tuple [.Name "list" p1, .Name "tuple" p2] k tp] X.env := by rfl) (hs2 : starEach [.Tuple [.Name "list" p1, .Name "tuple" p2] k tp] X.env = (false, eval (.Tuple [.Name "list" p1, .Name "tuple" p2] k tp) X.env) :: starEach [] X.env := by rfl)
    (hs3 : starEach [.Name "list" p1, .Name "tuple" p2] X.env = (false, eval (.Name "list" p1) X.env) :: starEach [.Name "tuple" p2] X.env := by rfl) (hs4 : starEach [.Name "tuple" p2] X.env = (false, eval (.Name "tuple" p2) X.env) :: starEach [] X.env := by rfl) (hpl : (backTo pos (starEach [.Tuple [.Name "list" p1, .Name "tuple" p2] k tp] X.env)).any (·.1) = false := by rfl) :
    RE X M (.Call (.Name "isinstance" p0) [e, .Tuple [.Name "list" p1, .Name "tuple" p2] k tp] [] pos) env (R.o1 T1 isSq m) := .mk fun p =>
  EV.of (pe_callB call_isiT hg hm PyProof.Rows.boot_isinstance (pa_cons star_pe (pa_cons (pe_tup (pa_cons (pe_bltn hg1 hm1 bb_list (v := .ty "list") rfl kb_list.n kb_list.d) (pa_cons (pe_bltn hg2 hm2 bb_tuple (v := .ty "tuple") rfl kb_tuple.n kb_tuple.d) pa_nil hs4) hs3)) pa_nil hs2) hs) (by decide) (by decide) hs hpl) fun S0 H0 σ S H st Q q => by
    refine h.run p.1 S0 H0 σ S H st _ fun d v S1 H1 ed r t1 => ?_
    subst ed
    refine ⟨by show 2 ≤ sizeLine; decide, fun tp htp => ?_⟩
    have g1 := (st.step t1).gd
    have t2 := Step.new g1 (.tup [.ty "list", .ty "tuple"]) htp
    obtain ⟨ty, nd⟩ := Den.tyx ((st.step t1).step t2).gd.sub r
    refine ⟨v, tp, _, _, [.type "list", .type "tuple"], isSq m.v, rfl, upd_same, .cons (.ty "list") (.cons (.ty "tuple") .nil), ty, ?_, q _ _ _ _ rfl (.bl _) (t1.trans t2)⟩
    unfold PySem.W.kitAny
    rw [isi_kit X.K (rep m.v) nd (.inl rfl)]
    have nd : ∀ kvs, m.v ≠ .dict kvs := nd
    show (match some (FP.isi1 m.v "list") with | some true => some true | some false => PySem.W.kitAny X.K (.type (tyD m.v)) [.type "tuple"] | none => none) = some (isSq m.v)
    cases hd : m.v <;> first | rfl | exact absurd hd (nd _)
/-- len, x[k] -/
theorem b_lenD : Cb1 X M (.builtin "len") (fun d : D => isSq d = true) (fun d : D => ((itemsD d).length : Int)) := ⟨_, call_len, fun d hd S H vs g b Q q => by
  obtain ⟨v, rfl, c⟩ := one_of b
  cases d with
  | list ds =>
    obtain ⟨a, us, rfl, e1, _, r⟩ := Bor.lst (ds := ds) g c
    have hl := r.length
    exact ⟨_, us.length, rfl, .inl ⟨us, sql_of e1, rfl⟩, q _ _ S H rfl (by rw [← hl]; exact .int _) (Step.refl g.sub)⟩
  | tuple ds =>
    obtain ⟨a, us, rfl, e1, r⟩ := Bor.tup (ds := ds) g c
    have hl := r.length
    exact ⟨_, us.length, rfl, .inr ⟨us, sub_sqt g.sub e1, rfl⟩, q _ _ S H rfl (by rw [← hl]; exact .int _) (Step.refl g.sub)⟩
  | _ => cases hd⟩
theorem ix_or : IxR X (fun x y H Q => rIxL X.K x y H Q ∨ rIxT X.K x y H Q) := by
  intro va sl pins s σ H x y v u Q I rx ry h hs
  rcases h with h | h
  · exact ix_list va sl pins s σ H x y v u Q I rx ry h hs
  · exact ix_tup va sl pins s σ H x y v u Q I rx ry h hs
instance : Inhabited D := ⟨.none⟩
theorem x_D : Ix2 X M (fun (d : D) (i : Int) => isSq d = true ∧ 0 ≤ i ∧ i < (itemsD d).length) (fun d i => nth (itemsD d) i) := ⟨_, ix_or, fun d i h S H x y g bx bY Q q => by
  obtain ⟨hd, h0, h1⟩ := h
  have hN : ∀ n : Nat, i < (n : Int) → ixN n i = some i.toNat := fun n hn => by unfold ixN; rw [if_pos h0, if_pos hn]
  cases d with
  | list ds =>
    obtain ⟨a, vs, rfl, e1, _, r⟩ := Bor.lst (ds := ds) g bx
    have h1 : i < (ds.length : Int) := h1
    have hj : i.toNat < ds.length := by omega
    obtain ⟨v, hv, rv⟩ := r.get (i := i.toNat) (d := nth ds i) (by unfold nth; rw [if_pos h0]; simp [List.getD, List.getElem?_eq_getElem hj])
    refine .inl ⟨a, vs, i, v, rfl, bY.int, sql_of e1, ?_, q _ v S H rfl rv (Step.refl g.sub)⟩
    unfold atI
    rw [hN _ (by rw [← r.length]; exact h1)]
    exact hv
  | tuple ds =>
    obtain ⟨a, vs, rfl, e1, r⟩ := Bor.tup (ds := ds) g bx
    have h1 : i < (ds.length : Int) := h1
    have hj : i.toNat < ds.length := by omega
    obtain ⟨v, hv, rv⟩ := r.get (i := i.toNat) (d := nth ds i) (by unfold nth; rw [if_pos h0]; simp [List.getD, List.getElem?_eq_getElem hj])
    refine .inr ⟨a, vs, i, v, rfl, bY.int, sub_sqt g.sub e1, ?_, q _ v S H rfl rv (Step.refl g.sub)⟩
    unfold atI
    rw [hN _ (by rw [← r.length]; exact h1)]
    exact hv
  | _ => cases hd⟩
def isNn (d : D) : Bool := match d with
  | .none => true
  | _ => false
theorem c_isND : Cm2 X M .Is T2 (fun (x : D) (_ : Option Unit) => isNn x) := ⟨_, op_isN, fun i j _ S H x y g bx bY Q q => by
  have ey : y = .non := by
    have bY' : Bor X.K M S H .none y := by cases j <;> exact bY
    rcases bY' with b | ⟨a, ds, vs, e1, _⟩
    · cases b; rfl
    · cases e1
  refine ⟨ey, ?_⟩
  have bx : Bor X.K M S H i x := bx
  have e : decide (x = .non) = isNn i := by
    rcases bx with b | ⟨a, ds, vs, rfl, e1, _⟩
    · cases b <;> first | rfl | exact decide_eq_false (fun z => nomatch z)
    · rw [e1]; rfl
  rw [e]
  exact q _ _ S H rfl (.bl _) (Step.refl g.sub)⟩
theorem c_eqD {k : Nat} (hr : Room k X.A) : Cm2 X M .Eq (fun x y : D => SeqAt.shaped x = true ∧ SeqAt.shaped y = true) (fun x y : D => PyData.eqv x y) := ⟨_, op_eqD (Room.units hr), fun i j h S H x y g bx bY Q q =>
  ⟨i, j, bx.dp g, bY.dp g, h.1, h.2, q _ _ S H rfl (.bl _) (Step.refl g.sub)⟩⟩
end
/-! ### its promise -/
open Classical in
noncomputable def exB (x y : D) : Bool := decide (x = y)
mutual
def smD : PyData → Bool
  | .list xs => decide (xs.length ≤ 100000) && smAll xs
  | .tuple xs => decide (xs.length ≤ 100000) && smAll xs
  | _ => true
def smAll : List PyData → Bool
  | [] => true
  | x :: xs => smD x && smAll xs
end
theorem smAll_iff (l : List PyData) : smAll l = true ↔ ∀ x ∈ l, smD x = true := by
  induction l with
  | nil => simp [smAll]
  | cons a l ih => simp [smAll, ih]
noncomputable def exF (k : Nat) (x y : D) : R Bool := ⟨x.depth < k ∧ SeqAt.shaped x = true ∧ SeqAt.shaped y = true ∧ smD x = true, exB x y⟩
theorem Fn.bot {T : Addr → Prop} {P : Program} {w : World} {K : PySem.W.Frag} {mg : Str → Option Value} {base : Heap} {x : Str} {f : Addr} {fd : FuncData} {ps : List Str} (hm : mg x = some (.ref f)) (kp : PySem.W.keepIn K (.ref f) = true) (hb : Binds K fd ps []) : Fn P w K mg base 0 x (SpD K T [true, true] (G2 (exF 0))) :=
  ⟨f, fd, ps, ⟨fun vs H Q E ⟨S, ds, P', _, _, _, ⟨x0, x1, _, h, _⟩, _⟩ => absurd h.1 (Nat.not_lt_zero _), fun A outer s H args us vs Q E hr e0 hb r ⟨S, ds, P', _, _, _, ⟨x0, x1, _, h, _⟩, _⟩ => absurd h.1 (Nat.not_lt_zero _)⟩, hm, kp, hb⟩
theorem Fn.mono {P : Program} {w : World} {K : PySem.W.Frag} {mg : Str → Option Value} {base : Heap} {k : Nat} {x : Str} {T : Addr → Prop} {ms : List Bool} {G G' : List D → (D → Prop) → Prop} (h : Fn P w K mg base k x (SpD K T ms G)) (i : ∀ ds P', G' ds P' → G ds P') : Fn P w K mg base k x (SpD K T ms G') := by
  obtain ⟨f, fd, ps, F, hm, kp, hb⟩ := h.ex
  refine ⟨f, fd, ps, ⟨fun vs H Q E ⟨S, ds, P', a, b, c, g, d⟩ => F.len vs H Q E ⟨S, ds, P', a, b, c, i _ _ g, d⟩, fun A outer s H args us vs Q E hr e0 hb r ⟨S, ds, P', a, b, c, g, d⟩ => F.run A outer s H args us vs Q E hr e0 hb r ⟨S, ds, P', a, b, c, i _ _ g, d⟩⟩, hm, kp, hb⟩
/-- what tells its values apart -/
class PX (α : Type) [Rep α] where
  inj : ∀ x y : α, rep x = rep y → x = y
  lay : ∀ x : α, PyData.canLay0 (rep x) = true
  dp : Nat
  hdp : ∀ x : α, (rep x : D).depth ≤ dp
section
variable {α β γ δ : Type} [Rep α] [Rep β] [Rep γ] [Rep δ]
theorem injAll {l k : List α} (h : ∀ x y : α, rep x = rep y → x = y) (e : l.map rep = k.map rep) : l = k := by
  induction l generalizing k with
  | nil => cases k with
    | nil => rfl
    | cons y k => cases e
  | cons x l ih => cases k with
    | nil => cases e
    | cons y k =>
      simp only [List.map_cons, List.cons.injEq] at e
      rw [h x y e.1, ih e.2]
instance : PX Int := ⟨fun x y e => by cases e; rfl, fun _ => rfl, 0, fun _ => Nat.le_refl _⟩
instance : PX Bool := ⟨fun x y e => by cases e; rfl, fun _ => rfl, 0, fun _ => Nat.le_refl _⟩
instance [PX α] : PX (List α) := ⟨fun x y e => by
  have e' : PyData.list (x.map rep) = PyData.list (y.map rep) := e
  injection e' with e'
  exact injAll PX.inj e', fun x => layAll_map PX.lay, PX.dp α + 1, fun x => Nat.succ_le_succ (depAll_map PX.hdp)⟩
instance [PX α] : PX (Tu α) := ⟨fun x y e => by
  have e' : PyData.tuple (x.l.map rep) = PyData.tuple (y.l.map rep) := e
  injection e' with e'
  obtain ⟨a⟩ := x
  obtain ⟨a'⟩ := y
  exact congrArg Tu.mk (injAll PX.inj e'), fun x => layAll_map PX.lay, PX.dp α + 1, fun x => Nat.succ_le_succ (depAll_map PX.hdp)⟩
instance [PX α] [PX β] : PX (α × β) := ⟨fun x y e => by
  have e' : PyData.tuple [rep x.1, rep x.2] = PyData.tuple [rep y.1, rep y.2] := e
  injection e' with e'
  injection e' with e1 e2
  injection e2 with e2 _
  exact Prod.ext (PX.inj _ _ e1) (PX.inj _ _ e2), fun x => by
  show PyData.canLayAll0 [rep x.1, rep x.2] = true
  simp [PyData.canLayAll0, PX.lay], max (PX.dp α) (PX.dp β) + 1, fun x => by
  show PyData.depthAll [rep x.1, rep x.2] + 1 ≤ _
  have h1 := PX.hdp x.1
  have h2 := PX.hdp x.2
  simp only [PyData.depthAll]; omega⟩
instance [PX α] [PX β] [PX γ] : PX (T3 α β γ) := ⟨fun x y e => by
  have e' : PyData.tuple [rep x.a, rep x.b, rep x.c] = PyData.tuple [rep y.a, rep y.b, rep y.c] := e
  injection e' with e'
  injection e' with e1 e2
  injection e2 with e2 e3
  injection e3 with e3 _
  exact congr (congr (congrArg T3.mk (PX.inj _ _ e1)) (PX.inj _ _ e2)) (PX.inj _ _ e3), fun x => by
  show PyData.canLayAll0 [rep x.a, rep x.b, rep x.c] = true
  simp [PyData.canLayAll0, PX.lay], max (PX.dp α) (max (PX.dp β) (PX.dp γ)) + 1, fun x => by
  show PyData.depthAll [rep x.a, rep x.b, rep x.c] + 1 ≤ _
  have h1 := PX.hdp x.a
  have h2 := PX.hdp x.b
  have h3 := PX.hdp x.c
  simp only [PyData.depthAll]; omega⟩
instance [PX α] [NN α] : PX (Option α) := ⟨fun x y e => by
  cases x with
  | none => cases y with
    | none => rfl
    | some y => exact absurd (show rep y = PyData.none from e.symm) (NN.ne y)
  | some x => cases y with
    | none => exact absurd (show rep x = PyData.none from e) (NN.ne x)
    | some y => rw [PX.inj x y e], fun x => by
  cases x with
  | none => rfl
  | some x => exact PX.lay x, PX.dp α, fun x => by
  cases x with
  | none => exact Nat.zero_le _
  | some x => exact PX.hdp x⟩
/-- [x, y], [x, y, z] of unlike kinds -/
structure H2 (α β : Type) where
  a : α
  b : β
deriving DecidableEq, Inhabited
structure H3 (α β γ : Type) where
  a : α
  b : β
  c : γ
deriving DecidableEq, Inhabited
instance : Rep (H2 α β) := ⟨fun t => .list [rep t.a, rep t.b]⟩
instance : Rep (H3 α β γ) := ⟨fun t => .list [rep t.a, rep t.b, rep t.c]⟩
instance [PX α] [PX β] : PX (H2 α β) := ⟨fun x y e => by
  have e' : PyData.list [rep x.a, rep x.b] = PyData.list [rep y.a, rep y.b] := e
  injection e' with e'
  injection e' with e1 e2
  injection e2 with e2 _
  exact congr (congrArg H2.mk (PX.inj _ _ e1)) (PX.inj _ _ e2), fun x => by
  show PyData.canLayAll0 [rep x.a, rep x.b] = true
  simp [PyData.canLayAll0, PX.lay], max (PX.dp α) (PX.dp β) + 1, fun x => by
  show PyData.depthAll [rep x.a, rep x.b] + 1 ≤ _
  have h1 := PX.hdp x.a
  have h2 := PX.hdp x.b
  simp only [PyData.depthAll]; omega⟩
instance [PX α] [PX β] [PX γ] : PX (H3 α β γ) := ⟨fun x y e => by
  have e' : PyData.list [rep x.a, rep x.b, rep x.c] = PyData.list [rep y.a, rep y.b, rep y.c] := e
  injection e' with e'
  injection e' with e1 e2
  injection e2 with e2 e3
  injection e3 with e3 _
  exact congr (congr (congrArg H3.mk (PX.inj _ _ e1)) (PX.inj _ _ e2)) (PX.inj _ _ e3), fun x => by
  show PyData.canLayAll0 [rep x.a, rep x.b, rep x.c] = true
  simp [PyData.canLayAll0, PX.lay], max (PX.dp α) (max (PX.dp β) (PX.dp γ)) + 1, fun x => by
  show PyData.depthAll [rep x.a, rep x.b, rep x.c] + 1 ≤ _
  have h1 := PX.hdp x.a
  have h2 := PX.hdp x.b
  have h3 := PX.hdp x.c
  simp only [PyData.depthAll]; omega⟩
def Sm {α : Type} [Rep α] (x : α) : Prop := smD (rep x) = true
@[simp] theorem sm_int (i : Int) : Sm i := rfl
@[simp] theorem sm_bool (i : Bool) : Sm i := rfl
@[simp] theorem sm_str (i : Str) : Sm i := rfl
theorem smAll_map (l : List α) : smAll (l.map rep) = true ↔ ∀ x ∈ l, Sm x := by
  rw [smAll_iff]
  constructor
  · exact fun h x hx => h _ (List.mem_map_of_mem hx)
  · intro h x hx
    obtain ⟨y, hy, rfl⟩ := List.mem_map.mp hx
    exact h y hy
@[simp] theorem sm_list (l : List α) : Sm l ↔ l.length ≤ 100000 ∧ ∀ x ∈ l, Sm x := by
  rw [← smAll_map]
  show smD (.list (l.map rep)) = true ↔ _
  simp [smD]
@[simp] theorem sm_tu (l : Tu α) : Sm l ↔ l.l.length ≤ 100000 ∧ ∀ x ∈ l.l, Sm x := by
  rw [← smAll_map]
  show smD (.tuple (l.l.map rep)) = true ↔ _
  simp [smD]
@[simp] theorem sm_pair (x : α × β) : Sm x ↔ Sm x.1 ∧ Sm x.2 := by
  show smD (.tuple [rep x.1, rep x.2]) = true ↔ _
  simp [smD, smAll, Sm]
@[simp] theorem sm_t3 (x : T3 α β γ) : Sm x ↔ Sm x.a ∧ Sm x.b ∧ Sm x.c := by
  show smD (.tuple [rep x.a, rep x.b, rep x.c]) = true ↔ _
  simp [smD, smAll, Sm]
@[simp] theorem sm_h2 (x : H2 α β) : Sm x ↔ Sm x.a ∧ Sm x.b := by
  show smD (.list [rep x.a, rep x.b]) = true ↔ _
  simp [smD, smAll, Sm]
@[simp] theorem sm_h3 (x : H3 α β γ) : Sm x ↔ Sm x.a ∧ Sm x.b ∧ Sm x.c := by
  show smD (.list [rep x.a, rep x.b, rep x.c]) = true ↔ _
  simp [smD, smAll, Sm]
@[simp] theorem sm_none [NN α] : Sm (none : Option α) := rfl
@[simp] theorem sm_some [NN α] (x : α) : Sm (some x) ↔ Sm x := Iff.rfl
@[simp] def exact {α : Type} [Rep α] [DecidableEq α] (x y : α) : R Bool := ⟨Sm x, decide (x = y)⟩
theorem Fn.exact [DecidableEq α] [PX α] {P : Program} {w : World} {K : PySem.W.Frag} {mg : Str → Option Value} {base : Heap} {k j : Nat} {x : Str} {T : Addr → Prop} (h : Fn P w K mg base k x (SpD K T [true, true] (G2 (exF j)))) (hj : PX.dp α < j) (h64 : PX.dp α ≤ 64) : Fn P w K mg base k x (SpD K T [true, true] (G2 (FP.exact (α := α)))) :=
  h.mono fun ds P' ⟨x, y, e, sm, p⟩ => ⟨rep x, rep y, e, ⟨Nat.lt_of_le_of_lt (PX.hdp x) hj, by
    unfold SeqAt.shaped
    rw [PX.lay x, Bool.true_and, decide_eq_true_eq]
    exact Nat.le_trans (PX.hdp x) h64, by
    unfold SeqAt.shaped
    rw [PX.lay y, Bool.true_and, decide_eq_true_eq]
    exact Nat.le_trans (PX.hdp y) h64, sm⟩, by
    have : exB (rep x) (rep y) = decide (x = y) := by
      unfold exB
      by_cases hxy : x = y
      · subst hxy; simp
      · rw [decide_eq_false hxy]
        exact @decide_eq_false _ (Classical.propDecidable _) (fun z => hxy (PX.inj x y z))
    show P' (.bool (exB (rep x) (rep y)))
    rw [this]
    exact p⟩
end
/-! ### what _law_exact needs -/
theorem canAll_iff (l : List PyData) : PyData.canLayAll0 l = true ↔ ∀ x ∈ l, PyData.canLay0 x = true := by
  induction l with
  | nil => simp [PyData.canLayAll0]
  | cons a l ih => simp [PyData.canLayAll0, ih]
theorem depAll_iff (l : List PyData) (k : Nat) : PyData.depthAll l ≤ k ↔ ∀ x ∈ l, x.depth ≤ k := by
  induction l with
  | nil => simp [PyData.depthAll]
  | cons a l ih => simp [PyData.depthAll, Nat.max_le, ih]
theorem nthD (l : List PyData) (i : Nat) (h : i < l.length) : nth l (i : Int) = l[i] := by
  unfold nth
  rw [if_pos (by omega)]
  simp [List.getD, List.getElem?_eq_getElem h]
open Classical in
theorem all_exB (xs ys : List PyData) (h : xs.length = ys.length) : (((rng 0 (xs.length : Int)).map fun i => exB (nth xs i) (nth ys i)).all id) = decide (xs = ys) := by
  rw [Bool.eq_iff_iff, decide_eq_true_eq, List.all_eq_true]
  constructor
  · intro hh
    apply List.ext_getElem h
    intro i h1 h2
    have := hh (exB (nth xs (i : Int)) (nth ys (i : Int))) (List.mem_map.mpr ⟨(i : Int), List.mem_map.mpr ⟨i, by simp [h1], by simp⟩, rfl⟩)
    rw [nthD _ _ h1, nthD _ _ h2] at this
    simpa [exB] using this
  · rintro rfl b hb
    obtain ⟨i, hi, rfl⟩ := List.mem_map.mp hb
    simp [exB]
section
variable {X : Cx} {M : Mm} {env : List Sl} {es : List Expr} {pos : Pos} {α β γ : Type} [Rep α] [Rep β] [Rep γ]
@[simp] def R.h2 {α β : Type} (m : R α) (n : R β) : R (H2 α β) := ⟨m.p ∧ n.p, ⟨m.v, n.v⟩⟩
@[simp] def R.h3 {α β γ : Type} (m : R α) (n : R β) (o : R γ) : R (H3 α β γ) := ⟨m.p ∧ n.p ∧ o.p, ⟨m.v, n.v, o.v⟩⟩
theorem RE.h2 {m : R α} {n : R β} (h : RA X M es env [true, true] (R.cons m (R.cons n R.nil))) : RE X M (.List es pos) env (R.h2 m n) := .mk fun p =>
  RdE.imp (RdF.e (EF.of (pe_lst star_pa) (RdF.lst (h ⟨p.1, p.2, trivial⟩) rfl fun ds e => by rw [e]; exact sz_of (by simp)))) fun d ⟨ds, e1, e2⟩ => by rw [e1, e2]; rfl
theorem RE.h3 {m : R α} {n : R β} {o : R γ} (h : RA X M es env [true, true, true] (R.cons m (R.cons n (R.cons o R.nil)))) : RE X M (.List es pos) env (R.h3 m n o) := .mk fun p =>
  RdE.imp (RdF.e (EF.of (pe_lst star_pa) (RdF.lst (h ⟨p.1, p.2.1, p.2.2, trivial⟩) rfl fun ds e => by rw [e]; exact sz_of (by simp)))) fun d ⟨ds, e1, e2⟩ => by rw [e1, e2]; rfl
end
end FP
namespace FP
open PySem PySem.Spec PyProof.Rows L2
open Rep (rep)
theorem kb_bool : OkN "bool" := ⟨by decide +kernel, by decide +kernel, by decide +kernel⟩
theorem bb_bool : bootBuiltins ("bool" : Str) = some (.type "bool") := by decide +kernel
@[simp] def m_draw (n : Int) : N Int := ⟨0 < n ∧ n < 1073741824, fun i => 0 ≤ i ∧ i < n⟩
end FP
namespace FP
open PySem PySem.Spec PyProof.Rows L2
open Rep (rep)
/-! ### x[i], x[j] = a, b -/
def RdGs (K : PySem.W.Frag) (M : Mm) (g : TG) (d : D) (env : List Sl) (P : List Sl → Prop) : Prop :=
  ∀ S0 H0 σ S H v, St0 K M S0 H0 S H env σ → Den K S d v → ∀ Q : L2.St → Hp → Prop,
    (∀ env' σ' S' H', P env' → St0 K M S0 H0 S' H' env' σ' → Sub S S' → Q σ' H') → g v σ H Q
section
variable {X : Cx} {M : Mm} {env : List Sl} {pos pn pos' : Pos} {nm : Str} {α : Type} [Rep α] {ei : Expr}
theorem RdGs.sub {n : R Int} {xs : List α} {y : α} (i : Nat) (hi : env[i]? = some (.ow (xs.map rep))) (hN : X.N[i]? = some nm) (hv : Vis X.env.scope nm) (hk : OkN nm) (h' : RB X M ei env n) (hp : n.p ∧ 0 ≤ n.v ∧ n.v < xs.length) :
    RdGs X.K M (gSub (tVar i) (star X ei) rSetL) (rep y) env (fun e => e = env.set i (.ow ((xs.set n.v.toNat y).map rep))) := fun S0 H0 σ S H v st dn Q q => by
  obtain ⟨a, vs, e1, _⟩ := st.mut hi
  refine ⟨.ref a, e1, ?_⟩
  refine h' hp.1 S0 H0 σ S H st _ fun d u S2 H2 ed r2 t2 => ?_
  subst ed
  have st2 := st.step t2
  obtain ⟨a', vs', e1', e2', rd', nm', ns', up⟩ := st2.mut hi
  rw [e1] at e1'
  cases e1'
  refine ⟨a, vs', n.v, n.v.toNat, rfl, r2.int, e2', ixN_of ⟨hp.2.1, ?_⟩, ?_⟩
  · have := rd'.length
    rw [List.length_map] at this
    rw [← this]
    exact hp.2.2
  · exact q _ σ S2 _ rfl (up (vs'.set n.v.toNat v) ((xs.set n.v.toNat y).map rep) (by rw [List.map_set]; exact rd'.set (dn.mon t2.ss) _)) t2.ss
@[simp] def R.set2 {α : Type} (xs : List α) (m : R (α × α)) (n1 : R Int) (n2 : List α → R Int) : R (List α) :=
  ⟨m.p ∧ (n1.p ∧ 0 ≤ n1.v ∧ n1.v < xs.length) ∧ ((n2 (xs.set n1.v.toNat m.v.1)).p ∧ 0 ≤ (n2 (xs.set n1.v.toNat m.v.1)).v ∧ (n2 (xs.set n1.v.toNat m.v.1)).v < xs.length), (xs.set n1.v.toNat m.v.1).set (n2 (xs.set n1.v.toNat m.v.1)).v.toNat m.v.2⟩
theorem SN.set2 {e e1 e2 : Expr} {k : Nat} {p1 p2 q1 q2 tp : Pos} {m : R (α × α)} {n1 : R Int} {n2 : List α → R Int} {xs : List α} (i : Nat) {E : List α → List Sl} (hi : env[i]? = some (.ow (xs.map rep))) (hE : ∀ v : List α, env.set i (.ow (v.map rep)) = E v) (hi2 : ∀ v : List α, (E v)[i]? = some (.ow (v.map rep))) (hE2 : ∀ v w : List α, (E v).set i (.ow (w.map rep)) = E w)
    (hc : X.calm = true) (hN : X.N[i]? = some nm) (hv : Vis X.env.scope nm) (hk : OkN nm) (h : RE X M e env m) (h1 : RB X M e1 env n1) (h2 : ∀ ys, RB X M e2 (E ys) (n2 ys))
    (ha : ∀ v, assign (.Subscript (.Name nm p1) e1 q1) X.env v = (do
      let ov ← holding [v] (eval (.Name nm p1) X.env)
      let iv ← holding [v, ov] (eval e1 X.env)
      standAt q1
      holding [v, ov, iv] (setItem ov iv v)
      release [v, ov, iv] []) := by intro _; rfl) (ha2 : ∀ v, assign (.Subscript (.Name nm p2) e2 q2) X.env v = (do
      let ov ← holding [v] (eval (.Name nm p2) X.env)
      let iv ← holding [v, ov] (eval e2 X.env)
      standAt q2
      holding [v, ov, iv] (setItem ov iv v)
      release [v, ov, iv] []) := by intro _; rfl)
    (hs : swapsWithSole [.Tuple [.Subscript (.Name nm p1) e1 q1, .Subscript (.Name nm p2) e2 q2] k tp] e pos.line X.env = pure false := by rfl) (hw : swappedStores [.Tuple [.Subscript (.Name nm p1) e1 q1, .Subscript (.Name nm p2) e2 q2] k tp] e X.env = pure none := by rfl)
    (hh : (assignEach [.Tuple [.Subscript (.Name nm p1) e1 q1, .Subscript (.Name nm p2) e2 q2] k tp] X.env).map (·.2) = [assign (.Tuple [.Subscript (.Name nm p1) e1 q1, .Subscript (.Name nm p2) e2 q2] k tp) X.env] := by rfl)
    (hn : (assignEach [.Subscript (.Name nm p1) e1 q1, .Subscript (.Name nm p2) e2 q2] X.env).length = 2 := by rfl) (hst : (assignEach [.Subscript (.Name nm p1) e1 q1, .Subscript (.Name nm p2) e2 q2] X.env).findIdx? (·.1) = none := by rfl)
    (hs1 : (assignEach [.Subscript (.Name nm p1) e1 q1, .Subscript (.Name nm p2) e2 q2] X.env).map (·.2) = assign (.Subscript (.Name nm p1) e1 q1) X.env :: (assignEach [.Subscript (.Name nm p2) e2 q2] X.env).map (·.2) := by rfl) (hs2 : (assignEach [.Subscript (.Name nm p2) e2 q2] X.env).map (·.2) = assign (.Subscript (.Name nm p2) e2 q2) X.env :: (assignEach [] X.env).map (·.2) := by rfl) :
    SN X M (.Assign [.Tuple [.Subscript (.Name nm p1) e1 q1, .Subscript (.Name nm p2) e2 q2] k tp] e pos) env E (R.set2 xs m n1 n2) := .mk fun p =>
  RdS.ofS (ps_asg star_pe (pg_tup hc (pgs_cons (pg_sub (pe_var hN hv hk.d hk.c) star_pe set_list ha) (pgs_cons (pg_sub (pe_var hN hv hk.d hk.c) star_pe set_list ha2) pgs_nil hs2) hs1) hn hst) hs hw hh) fun S0 H0 σ S H st Dl q1' _ _ _ => by
    refine h p.1 S0 H0 σ S H st _ fun d v S1 H1 ed r t1 => ?_
    subst ed
    have st1 := st.step t1
    have rx : Den X.K S1 (.tuple [rep m.v.1, rep m.v.2]) v := r
    cases rx with
    | tup e' ra =>
      cases ra with
      | cons r1 rb =>
        cases rb with
        | cons r2 rc =>
          cases rc
          rename_i a v1 v2
          refine ⟨a, _, rfl, sub_sqt st1.gd.sub e', rfl, v1, [v2], rfl, ?_⟩
          refine RdGs.sub (xs := xs) i hi hN hv hk h1 p.2.1 S0 H0 σ S1 H1 v1 st1 r1 _ fun env' σ' S2 H2 ee st2 sb => ?_
          subst ee
          rw [hE] at st2
          refine ⟨v2, [], rfl, ?_⟩
          have p2 := p.2.2
          refine RdGs.sub (env := E (xs.set n1.v.toNat m.v.1)) (xs := xs.set n1.v.toNat m.v.1) i (hi2 _) hN hv hk (h2 _) ⟨p2.1, p2.2.1, by rw [List.length_set]; exact p2.2.2⟩ S0 H0 σ' S2 H2 v2 st2 (r2.mon sb) _ fun env'' σ'' S3 H3 ee st3 sb2 => ?_
          subst ee
          rw [hE2] at st3
          exact ⟨rfl, q1' _ σ'' S3 H3 rfl st3 fun x o z => sb2 x o (sb x o (t1.ss x o z))⟩
end
end FP
namespace FP
open PySem PySem.Spec PyProof.Rows L2
open Rep (rep)
/-! ### data with an order: compared, sorted -/
class POrd (α : Type) [Rep α] [DecidableEq α] extends PEq α where
  lt : α → α → Bool
  alk : ∀ a b : α, PySem.W.alike (rep a) (rep b) = true
  nn : ∀ a : α, (rep a : D) ≠ .none
  lt_eq : ∀ a b : α, PySem.W.dataLt (rep a) (rep b) = lt a b
instance : POrd Int where
  lt a b := decide (a < b)
  alk a b := by show PySem.W.alike (.int a) (.int b) = true; simp only [PySem.W.alike]
  nn a := fun e => by cases e
  lt_eq a b := PySem.W.dataLt_int a b
instance : POrd Bool where
  lt a b := !a && b
  alk a b := by show PySem.W.alike (.bool a) (.bool b) = true; simp only [PySem.W.alike]
  nn a := fun e => by cases e
  lt_eq a b := by
    refine (PySem.W.dataLt_bool a b).trans ?_
    cases a <;> cases b <;> rfl
section
variable {α β γ : Type} [Rep α] [DecidableEq α] [POrd α] [Rep β] [DecidableEq β] [POrd β] [Rep γ] [DecidableEq γ] [POrd γ]
/-- the first difference decides, else the shorter is the less -/
def lLt : List α → List α → Bool
  | [], [] => false
  | [], _ :: _ => true
  | _ :: _, [] => false
  | x :: xs, y :: ys => if x = y then lLt xs ys else POrd.lt x y
theorem alkAll : ∀ xs ys : List α, PySem.W.alikeAll (xs.map rep) (ys.map rep) = true
  | [], _ => by rw [List.map_nil, PySem.W.alikeAll]
  | _ :: _, [] => by rw [List.map_nil, List.map_cons, PySem.W.alikeAll]
  | x :: xs, y :: ys => by
    rw [List.map_cons, List.map_cons, PySem.W.alikeAll, POrd.alk x y, alkAll xs ys]
    rfl
theorem eqv_yes {x y : α} (h : x = y) : PyData.eqv (rep x) (rep y) = true := by rw [PEq.eqv, decide_eq_true_eq]; exact h
theorem eqv_no {x y : α} (h : ¬ x = y) : PyData.eqv (rep x) (rep y) = false := by rw [PEq.eqv, decide_eq_false_iff_not]; exact h
theorem lexAll : ∀ xs ys : List α, PyProof.Rows.lexLt PyProof.Rows.itemOrd (PySem.W.keyToksAll (xs.map rep)) (PySem.W.keyToksAll (ys.map rep)) = lLt xs ys
  | [], [] => PyProof.Rows.lex_irrefl _
  | [], y :: ys => by
    rw [List.map_nil, List.map_cons, PySem.W.toks_all_cons]
    simp only [PySem.W.keyToksAll]
    rw [PyProof.Rows.lex_diff (O := PyProof.Rows.itemOrd) (by simp)]
    rfl
  | x :: xs, [] => by
    rw [List.map_nil, List.map_cons, PySem.W.toks_all_cons]
    simp only [PySem.W.keyToksAll]
    rw [PyProof.Rows.lex_diff (O := PyProof.Rows.itemOrd) (by simp)]
    rfl
  | x :: xs, y :: ys => by
    rw [List.map_cons, List.map_cons, lLt]
    by_cases h : x = y
    · rw [if_pos h, PySem.W.dataLt_all_yes (POrd.alk x y) (eqv_yes h), lexAll xs ys]
    · rw [if_neg h, PySem.W.dataLt_all_no (POrd.alk x y) (eqv_no h)]
      exact POrd.lt_eq x y
instance : POrd (List α) where
  lt := lLt
  alk xs ys := by show PySem.W.alike (.list _) (.list _) = true; simp only [PySem.W.alike]; exact alkAll xs ys
  nn a := fun e => by cases e
  lt_eq xs ys := (PySem.W.dataLt_list _ _).trans (lexAll xs ys)
instance : POrd (Tu α) where
  lt t u := lLt t.l u.l
  alk t u := by show PySem.W.alike (.tuple _) (.tuple _) = true; simp only [PySem.W.alike]; exact alkAll t.l u.l
  nn a := fun e => by cases e
  lt_eq t u := (PySem.W.dataLt_tuple _ _).trans (lexAll t.l u.l)
theorem lt_self (x : α) : POrd.lt x x = false := (POrd.lt_eq x x).symm.trans (PySem.W.dataLt_self _)
instance : POrd (α × β) where
  lt p q := if p.1 = q.1 then POrd.lt p.2 q.2 else POrd.lt p.1 q.1
  alk p q := by
    show PySem.W.alike (.tuple [_, _]) (.tuple [_, _]) = true
    simp only [PySem.W.alike, PySem.W.alikeAll, POrd.alk, Bool.and_self]
  nn a := fun e => by cases e
  lt_eq p q := by
    refine (PySem.W.dataLt_tuple _ _).trans ?_
    by_cases h : p.1 = q.1
    · rw [if_pos h, PySem.W.dataLt_all_yes (POrd.alk p.1 q.1) (eqv_yes h)]
      by_cases h2 : p.2 = q.2
      · rw [PySem.W.dataLt_all_yes (POrd.alk p.2 q.2) (eqv_yes h2), PyProof.Rows.lex_irrefl, h2, lt_self]
      · rw [PySem.W.dataLt_all_no (POrd.alk p.2 q.2) (eqv_no h2)]
        exact POrd.lt_eq p.2 q.2
    · rw [if_neg h, PySem.W.dataLt_all_no (POrd.alk p.1 q.1) (eqv_no h)]
      exact POrd.lt_eq p.1 q.1
instance : POrd (T3 α β γ) where
  lt p q := if p.a = q.a then (if p.b = q.b then POrd.lt p.c q.c else POrd.lt p.b q.b) else POrd.lt p.a q.a
  alk p q := by
    show PySem.W.alike (.tuple [_, _, _]) (.tuple [_, _, _]) = true
    simp only [PySem.W.alike, PySem.W.alikeAll, POrd.alk, Bool.and_self]
  nn a := fun e => by cases e
  lt_eq p q := by
    refine (PySem.W.dataLt_tuple _ _).trans ?_
    by_cases h : p.a = q.a
    · rw [if_pos h, PySem.W.dataLt_all_yes (POrd.alk p.a q.a) (eqv_yes h)]
      by_cases h2 : p.b = q.b
      · rw [if_pos h2, PySem.W.dataLt_all_yes (POrd.alk p.b q.b) (eqv_yes h2)]
        by_cases h3 : p.c = q.c
        · rw [PySem.W.dataLt_all_yes (POrd.alk p.c q.c) (eqv_yes h3), PyProof.Rows.lex_irrefl, h3, lt_self]
        · rw [PySem.W.dataLt_all_no (POrd.alk p.c q.c) (eqv_no h3)]
          exact POrd.lt_eq p.c q.c
      · rw [if_neg h2, PySem.W.dataLt_all_no (POrd.alk p.b q.b) (eqv_no h2)]
        exact POrd.lt_eq p.b q.b
    · rw [if_neg h, PySem.W.dataLt_all_no (POrd.alk p.a q.a) (eqv_no h)]
      exact POrd.lt_eq p.a q.a
end
/-! comparing -/
def rCmpD (K : PySem.W.Frag) (f : D → D → Bool) : R2 := fun x y H Q => ∃ d e, Dp K H x d ∧ Dp K H y e ∧ PySem.W.alike d e = true ∧ d ≠ .none ∧ d.depth ≤ 60 ∧ Q (.bl (f d e)) H
section
variable {X : Cx}
theorem op_ltD (hu : X.A.units + 64 < cLine) : OpR X (compareOp .Lt) (rCmpD X.K fun d e => PySem.W.dataLt d e) := by
  intro pins s σ H x y v u Q I rx ry h
  obtain ⟨d, e, hd, he, ha, hn, hp, q⟩ := h
  obtain ⟨as, r1⟩ := Dp.reads I d x v hd rx
  obtain ⟨bs, r2⟩ := Dp.reads I e y u he ry
  exact PySem.W.lt_data r1 r2 ha hn (by omega) ⟨.bl _, H, I, rfl, q⟩
theorem op_gtD (hu : X.A.units + 64 < cLine) : OpR X (compareOp .Gt) (rCmpD X.K fun d e => PySem.W.dataLt e d) := by
  intro pins s σ H x y v u Q I rx ry h
  obtain ⟨d, e, hd, he, ha, hn, hp, q⟩ := h
  obtain ⟨as, r1⟩ := Dp.reads I d x v hd rx
  obtain ⟨bs, r2⟩ := Dp.reads I e y u he ry
  exact PySem.W.gt_data r1 r2 ha hn (by omega) ⟨.bl _, H, I, rfl, q⟩
theorem op_leD (hu : X.A.units + 64 < cLine) : OpR X (compareOp .LtE) (rCmpD X.K fun d e => !PySem.W.dataLt e d) := by
  intro pins s σ H x y v u Q I rx ry h
  obtain ⟨d, e, hd, he, ha, hn, hp, q⟩ := h
  obtain ⟨as, r1⟩ := Dp.reads I d x v hd rx
  obtain ⟨bs, r2⟩ := Dp.reads I e y u he ry
  exact PySem.W.le_data r1 r2 ha hn (by omega) ⟨.bl _, H, I, rfl, q⟩
theorem op_geD (hu : X.A.units + 64 < cLine) : OpR X (compareOp .GtE) (rCmpD X.K fun d e => !PySem.W.dataLt d e) := by
  intro pins s σ H x y v u Q I rx ry h
  obtain ⟨d, e, hd, he, ha, hn, hp, q⟩ := h
  obtain ⟨as, r1⟩ := Dp.reads I d x v hd rx
  obtain ⟨bs, r2⟩ := Dp.reads I e y u he ry
  exact PySem.W.ge_data r1 r2 ha hn (by omega) ⟨.bl _, H, I, rfl, q⟩
end
section
variable {X : Cx} {M : Mm} {α : Type} [Rep α] [DecidableEq α] [POrd α] {k : Nat}
theorem c_ltD (hr : Room k X.A) (h : PEq.dp α ≤ 60) : Cm2 X M .Lt T2 (fun x y : α => POrd.lt x y) := ⟨_, op_ltD (Room.units hr), fun i j _ S H x y g bx bY Q q =>
  ⟨rep i, rep j, bx.dp g, bY.dp g, POrd.alk i j, POrd.nn i, Nat.le_trans (PEq.hdp i) h, q _ _ S H rfl (by show Den _ _ _ (.bl (PySem.W.dataLt (rep i) (rep j))); rw [POrd.lt_eq]; exact .bl _) (Step.refl g.sub)⟩⟩
theorem c_gtD (hr : Room k X.A) (h : PEq.dp α ≤ 60) : Cm2 X M .Gt T2 (fun x y : α => POrd.lt y x) := ⟨_, op_gtD (Room.units hr), fun i j _ S H x y g bx bY Q q =>
  ⟨rep i, rep j, bx.dp g, bY.dp g, POrd.alk i j, POrd.nn i, Nat.le_trans (PEq.hdp i) h, q _ _ S H rfl (by show Den _ _ _ (.bl (PySem.W.dataLt (rep j) (rep i))); rw [POrd.lt_eq]; exact .bl _) (Step.refl g.sub)⟩⟩
theorem c_leD (hr : Room k X.A) (h : PEq.dp α ≤ 60) : Cm2 X M .LtE T2 (fun x y : α => !POrd.lt y x) := ⟨_, op_leD (Room.units hr), fun i j _ S H x y g bx bY Q q =>
  ⟨rep i, rep j, bx.dp g, bY.dp g, POrd.alk i j, POrd.nn i, Nat.le_trans (PEq.hdp i) h, q _ _ S H rfl (by show Den _ _ _ (.bl (!PySem.W.dataLt (rep j) (rep i))); rw [POrd.lt_eq]; exact .bl _) (Step.refl g.sub)⟩⟩
theorem c_geD (hr : Room k X.A) (h : PEq.dp α ≤ 60) : Cm2 X M .GtE T2 (fun x y : α => !POrd.lt x y) := ⟨_, op_geD (Room.units hr), fun i j _ S H x y g bx bY Q q =>
  ⟨rep i, rep j, bx.dp g, bY.dp g, POrd.alk i j, POrd.nn i, Nat.le_trans (PEq.hdp i) h, q _ _ S H rfl (by show Den _ _ _ (.bl (!PySem.W.dataLt (rep i) (rep j))); rw [POrd.lt_eq]; exact .bl _) (Step.refl g.sub)⟩⟩
end
/-! sorting -/
def rSortD (K : PySem.W.Frag) {β : Type} (enc : β → D) : List V → Hp → VK → Prop := fun vs H Q => ∃ (a : Addr) (xs : List V) (bs : List β) (Rx : V → β → Prop), vs = [V.ref a] ∧ SqL K H a xs ∧ PySem.W.EachIs Rx xs bs ∧ (∀ x b, Rx x b → Dp K H x (enc b)) ∧ PySem.W.AllAlike (bs.map enc) ∧ PySem.W.Sortable (bs.map enc) ∧ (∀ b ∈ bs, (enc b).depth ≤ 60) ∧
  ∀ ys p, PySem.W.EachIs Rx ys (bs.mergeSort (PySem.W.dataLe false enc)) → H p = none → Q (.ref p) (upd H p (.lst ys))
theorem each_vals {β : Type} {Rx : V → β → Prop} : ∀ {xs : List V} {us : List Value} {bs : List β}, Vals xs us → PySem.W.EachIs Rx xs bs → PySem.W.EachIs (fun u b => ∃ x, RelV x u ∧ Rx x b) us bs
  | _, _, _, .nil, h => by cases h; exact .nil
  | _, _, _, .cons r t, h => by
    cases h with
    | cons a s => exact .cons ⟨_, r, a⟩ (each_vals t s)
theorem vals_each {β : Type} {Rx : V → β → Prop} : ∀ {us : List Value} {bs : List β}, PySem.W.EachIs (fun u b => ∃ x, RelV x u ∧ Rx x b) us bs → ∃ xs : List V, Vals xs us ∧ PySem.W.EachIs Rx xs bs
  | _, _, .nil => ⟨[], .nil, .nil⟩
  | _, _, .cons ⟨x, r, a⟩ t => by
    obtain ⟨xs, h1, h2⟩ := vals_each t
    exact ⟨x :: xs, .cons r h1, .cons a h2⟩
theorem cr_sortD {X : Cx} {β : Type} {enc : β → D} (hu : X.A.units + 64 < cLine) : CallR X (.builtin "sorted") (rSortD X.K enc) := by
  intro pins s σ H vs us Q I r h
  obtain ⟨a, xs, bs, Rx, rfl, hs, he, hd, hal, hk, hdp, q⟩ := h
  obtain ⟨its, rv, hl, hz⟩ := I.list hs
  rw [Vals.ref1 r]
  have e := each_vals rv he
  have er : PySem.W.EachIs (fun v b => ∃ as, PySem.Reads s.heap v (enc b) as) its bs := e.mono fun u b ⟨x, r, hx⟩ => Dp.reads I (enc b) x u (hd x b hx) r
  refine PySem.W.sorted_data hl.isList e er hal hk (by rw [← e.length, ← rv.length]; exact hz) (fun b hb => by have := hdp b hb; omega) fun out ho eo => ?_
  obtain ⟨ys, h1, h2⟩ := vals_each eo
  obtain ⟨ep, he'⟩ := PyProof.Rows.sortedAll_at s.heap its out.toArray
  have hlen : ys.length ≤ sizeLine := by
    rw [h1.length, ho, ← e.length, ← rv.length]
    exact hz
  exact ⟨.ref _, upd H (s.heap.objs.size + 1) (.lst ys), I.laid (t' := s.toks) (fun _ _ => PyProof.Rows.sortedAll_old) (Nat.le_succ _) ⟨hlen, out, ep, h1, he'⟩, rfl, q _ _ h2 (I.hok.fresh (Nat.le_succ _))⟩
section
variable {X : Cx} {M : Mm} {α : Type} [Rep α] [DecidableEq α] [POrd α] {k : Nat}
def srtD (xs : List α) : List α := xs.mergeSort fun a b => !POrd.lt b a
theorem dens_each {K : PySem.W.Frag} {S : Hp} : ∀ {xs : List α} {us : List V}, Dens K S (xs.map rep) us → PySem.W.EachIs (fun v (b : α) => Den K S (rep b) v) us xs
  | [], _, h => by cases h; exact .nil
  | x :: xs, _, h => by
    cases h with
    | cons a t => exact .cons a (dens_each t)
theorem each_dens {K : PySem.W.Frag} {S : Hp} : ∀ {xs : List α} {us : List V}, PySem.W.EachIs (fun v (b : α) => Den K S (rep b) v) us xs → Dens K S (xs.map rep) us
  | _, _, .nil => .nil
  | _, _, .cons a t => .cons a (each_dens t)
theorem b_sortD (hr : Room k X.A) (h : PEq.dp α ≤ 60) : Cb1F X M (.builtin "sorted") (fun xs : List α => PySem.W.Sortable (xs.map rep)) srtD := ⟨_, cr_sortD (enc := fun x : α => (rep x : D)) (Room.units hr), fun xs hs S H vs g b Q q => by
  obtain ⟨v, rfl, c⟩ := one_of b
  obtain ⟨a, us, rfl, e1, _, r⟩ := c.lst g
  refine ⟨a, us, xs, fun v b => Den X.K S (rep b) v, rfl, sql_of e1, dens_each r, fun x b d => Den.dp _ _ (d.mon g.sub), PySem.W.AllAlike.of POrd.alk, hs, fun b _ => Nat.le_trans (PEq.hdp b) h, fun ys p hy hp => ?_⟩
  have e : PySem.W.dataLe false (fun x : α => (rep x : D)) = fun a b => !POrd.lt b a := by
    rw [PySem.W.dataLe_eq]
    funext a b
    show (!PySem.W.dataLt (rep b) (rep a)) = _
    rw [POrd.lt_eq]
  rw [e] at hy
  exact q _ p _ S _ rfl hp (g.fresh hp) upd_same (each_dens hy) (Step.new g _ hp)⟩
end
theorem srtb_int (xs : List Int) : PySem.W.Sortable (xs.map rep) := .inr fun d hd => by
  obtain ⟨b, hb, rfl⟩ := List.mem_map.mp hd
  exact ⟨fun z => (by cases z), fun _ z => (by cases z)⟩
theorem srtb_pair {α β : Type} [Rep α] [Rep β] (xs : List (α × β)) : PySem.W.Sortable (xs.map rep) := PySem.W.Sortable.tuples fun b => ⟨_, _, rfl⟩
theorem srtb_t3 {α β γ : Type} [Rep α] [Rep β] [Rep γ] (xs : List (T3 α β γ)) : PySem.W.Sortable (xs.map rep) := PySem.W.Sortable.tuples fun b => ⟨_, _, rfl⟩
theorem srtb_tu {α : Type} [Rep α] (xs : List (Tu α)) (h : ∀ x ∈ xs, x.l ≠ []) : PySem.W.Sortable (xs.map rep) := .inl fun d hd => by
  obtain ⟨b, hb, rfl⟩ := List.mem_map.mp hd
  have := h b hb
  cases b with
  | mk l =>
    cases l with
    | nil => exact (this rfl).elim
    | cons x l => exact ⟨rep x, l.map rep, rfl⟩
end FP
/-! ### a set made of a list of ints -/
namespace FPset
open PySem PySem.Spec PySem.Calls PyProof.Rows L2
abbrev sOb (w : World) : Obj := { cls := .type "set", dict := none, data := .set #[] 0 (.fresh 0 0 (!w.params.followText "set-order")) }
abbrev sPu (w : World) (s : Shared) : Shared := { s with heap := s.heap.push (sOb w) }
section
variable {P : Program} {w : World} {A : Around} {E : Value → Shared → Prop} {s : Shared}
set_option maxRecDepth 100000 in
set_option maxHeartbeats 3200000 in
theorem made {l : Addr} {xs : Array Value} (ns : List Int) {Q : Value → Shared → Prop} (hh : A.handled = none) (hl : s.heap.IsList l xs) (hi : IntsAre xs.toList ns) (hb : ns.length + 1 < scanBound)
    (k : ∀ (g : Heap) (tk c : Nat), SetR w g s.heap.objs.size (fun j => decide (j ∈ ns)) c → c ≤ ns.length → (∀ b o, s.heap.get? b = some o → g.get? b = some o) → Q (.ref s.heap.objs.size) { s with heap := g, toks := tk }) :
    wpAny (model P w) A (call (.type "set") [.ref l]) Q E s := by
  have hsz : xs.size = ns.length := by simpa using IntsAre.length hi
  obtain ⟨_, _, mro⟩ := F.called_set.mro
  have a1 := F.called_set.made
  have a2 := F.called_set.sub
  have a3 := F.called_set.notType
  have a4 := F.called_set.canCreate
  have a5 := F.typeCall_set_1 (.ref l)
  refine wpAny_call (codeAny_of_tree (?_ : wpAny _ _ (callAny (.type "set") _) _ _ _))
  refine wpAny_pure ⟨Code.quiet_builtin _ (by decide +kernel), codeAny_builtin F.entry_type_call (by
    rw [Around.under_plain (weight_type_call_type "set" [.ref l] []) rfl]
    repeat (any_goals (first | assumption | wp_step))
    refine codeAny_mono (code_set_led1 (w := w) (.ref l) (E := E) (Q₁ := fun o t => o = .ref s.heap.objs.size ∧ t = sPu w s) ⟨rfl, rfl⟩) fun r t hr => ?_
    cases r with
    | error e => exact hr
    | ok fl =>
      cases fl with
      | ret o =>
        obtain ⟨rfl, rfl⟩ := hr
        have g0 : (s.heap.push (sOb w)).get? s.heap.objs.size = some (sOb w) := Heap.get?_push_size _ rfl
        have g1 : Shared.TypeIs (sPu w s) (.ref s.heap.objs.size) "set" := ⟨_, g0, rfl⟩
        have a6 := F.called_set.init.lookup
        have a7 := F.called_set.init.bind (.ref s.heap.objs.size)
        repeat (any_goals (first | assumption | wp_step))
        refine codeAny_mono (codeAny_call_builtin (R := wants (fun r t => r = .none ∧ ∃ g tk c, t = { s with heap := g, toks := tk } ∧ SetR w g s.heap.objs.size (fun j => decide (j ∈ ns)) c ∧ c ≤ ns.length ∧ ∀ b o, s.heap.get? b = some o → g.get? b = some o) E) F.called_set.init.plain F.entry_set_init (check_set_init_1 g1 ?_)) fun r2 t2 h2 => ?_
        · obtain ⟨⟨c1, c2, c3, c4⟩, e1, e2, n, e3⟩ := hl
          simp only at e2 e3
          subst e2 e3
          have g2 : (s.heap.push (sOb w)).get? l = some { cls := .type "list", dict := c2, data := .seq xs n, slots := c4 } := Heap.get?_push_of_some _ e1
          have b1 := F.sub_list_set
          have b2 := F.sub_list_frozenset
          have b3 : (Value.type "list" == Value.type "dict") = false := by decide
          have g3 : (s.heap.push (sOb w)).IsList l xs := ⟨_, g2, rfl, n, rfl⟩
          have lt : l < s.heap.objs.size := Heap.lt_size e1
          have ps : (s.heap.push (sOb w)).objs.size = s.heap.objs.size + 1 := Heap.size_push ..
          unfold Builtin.«set.__init__» noKeywords Builtin.Frozenset.updateFrom
          generalize hI : pyIter = I
          wp_walk
          subst hI
          refine wpAny_pyIter_list g3 (wpAny_bind (wpAny_runValue ?_))
          have hd : A.in1.in1.in1.handled = none := by simp [hh]
          refine set_update_ints ((Walks.list hd _ l (by show l ≠ (s.heap.push (sOb w)).objs.size; rw [ps]; exact Nat.ne_of_lt (Nat.lt_succ_of_lt lt)) xs).toS) s.heap.objs.size (by show s.heap.objs.size ∉ [(s.heap.push (sOb w)).objs.size, l]; rw [ps]; simp; exact Nat.ne_of_gt lt) ns hsz hb (fun i v hv => ?_) (xs.size - 0) 0 _ (by omega) (Nat.zero_le _) ⟨⟨_, Heap.get?_push_size _ rfl, rfl, rfl⟩, g3.push _⟩ ⟨0, Nat.le_refl 0, setR_new_at (Heap.get?_push_of_some _ g0)⟩ fun t c hm hc hR => ?_
          · have il : i < ns.length := by rw [← hsz]; exact (Array.getElem?_eq_some_iff.mp hv).1
            obtain ⟨z, ez⟩ := IntsAre.int_at hi i v (by rw [Array.getElem?_toList]; exact hv)
            exact ⟨ns[i], z, List.getElem?_eq_getElem il, by rw [ez]; simp [List.getD, List.getElem?_eq_getElem il]⟩
          · obtain ⟨h1, h2, h3, h4, h5⟩ := t
            cases (show h2 = s.gens from hm.gens)
            cases (show h3 = s.drawn from hm.drawn)
            cases (show h5 = s.os from hm.os)
            refine wpAny_pure (?_ : wpAny _ _ (ret Value.none) _ _ _)
            refine wpAny_pure ⟨rfl, h1, h4, c, rfl, hR, by omega, fun b o e => hm.heap b o ?_ (Heap.get?_push_of_some _ (Heap.get?_push_of_some _ e))⟩
            have bl : b < s.heap.objs.size := Heap.lt_size e
            simp only [List.mem_cons, List.not_mem_nil, or_false, not_or]
            refine ⟨Nat.ne_of_lt bl, ?_⟩
            rw [ps]
            exact Nat.ne_of_lt (Nat.lt_succ_of_lt bl)
        · cases r2 with
          | error e => exact h2
          | ok f2 =>
            cases f2 with
            | ret r =>
              obtain ⟨rfl, g, tk, c, rfl, q1, q2, q3⟩ := h2
              repeat (any_goals (first | assumption | wp_step))
              exact k _ _ _ q1 q2 q3
            | _ => exact h2.elim
      | _ => exact hr.elim)⟩
end
end FPset
namespace FP
open PySem PySem.Spec PyProof.Rows L2
open Rep (rep)
/-! ### sets of ints, sorted at once -/
def rSetI (K : PySem.W.Frag) (w : World) : List V → Hp → VK → Prop := fun vs H Q => ∃ (a : Addr) (ns : List Int), vs = [V.ref a] ∧ (SqL K H a (ns.map V.int) ∨ SqT K H a (ns.map V.int)) ∧ ns.length ≤ 60 ∧
  ∀ p n, H p = none → n ≤ 60 → Q (.ref p) (upd H p (SetO w p (fun j => decide (j ∈ ns)) n))
theorem cr_setI {X : Cx} (hc : X.calm = true) : CallR X (.type "set") (rSetI X.K X.w) := by
  intro pins s σ H vs us Q I r h
  obtain ⟨a, ns, rfl, hs, hl, q⟩ := h
  rw [Vals.ref1 r]
  have fin : ∀ (g : Heap) (tk c : Nat), SetR X.w g s.heap.objs.size (fun j => decide (j ∈ ns)) c → c ≤ ns.length → (∀ b o, s.heap.get? b = some o → g.get? b = some o) → EP X pins σ Q (.ref s.heap.objs.size) { s with heap := g, toks := tk } := fun g tk c R hcn k =>
    ⟨.ref _, upd H s.heap.objs.size (SetO X.w s.heap.objs.size (fun j => decide (j ∈ ns)) c), I.laid (t' := tk) k (Nat.le_refl _) (setO_new R), rfl, q _ _ (I.hok.fresh (Nat.le_refl _)) (by omega)⟩
  rcases hs with hs | hs
  · obtain ⟨its, rv, pl, hz⟩ := I.list hs
    exact FPset.made ns (I.ok.hd hc) pl.isList (by simpa using ints_of_vals rv) (by unfold scanBound; omega) fin
  · obtain ⟨its, rv, pt, hz⟩ := I.tuple hs
    have hi : IntsAre its.toArray.toList ns := ints_of_vals rv
    exact call_set_tupI ns (I.ok.hd hc) (show s.heap.IsTuple a its.toArray from pt) hi (by unfold scanBound; omega) fin
/-- the members, ascending -/
def sset (l : List Int) : List Int := srtD l.eraseDups
theorem eraseDups_nodup : ∀ (n : Nat) (l : List Int), l.length ≤ n → l.eraseDups.Nodup
  | 0, l, h => by
    have : l = [] := List.length_eq_zero_iff.mp (by omega)
    subst this
    simp
  | n + 1, [], _ => by simp
  | n + 1, x :: l, h => by
    rw [List.eraseDups_cons, List.nodup_cons]
    constructor
    · intro z
      rw [List.mem_eraseDups] at z
      simp at z
    · apply eraseDups_nodup n
      have := List.length_filter_le (fun b => !b == x) l
      simp at h
      omega
theorem int_srt (xs : List Int) : (srtD xs).Pairwise (· ≤ ·) := by
  have := List.pairwise_mergeSort (le := fun a b : Int => !POrd.lt b a) (fun a b c h1 h2 => by
    show (!decide (c < a)) = true
    have h1 : (!decide (b < a)) = true := h1
    have h2 : (!decide (c < b)) = true := h2
    simp at *; omega) (fun a b => by
    show (!decide (b < a) || !decide (a < b)) = true
    simp; omega) xs
  refine this.imp fun {p q} h => ?_
  have h : (!decide (q < p)) = true := h
  simp at h
  omega
theorem sset_mem {l : List Int} {x : Int} : x ∈ sset l ↔ x ∈ l := by
  unfold sset
  have h : (srtD l.eraseDups).Perm l.eraseDups := List.mergeSort_perm ..
  rw [h.mem_iff, List.mem_eraseDups]
theorem sset_asc (l : List Int) : (sset l).Pairwise (· < ·) := by
  unfold sset
  have h : (srtD l.eraseDups).Perm l.eraseDups := List.mergeSort_perm ..
  have hn : (srtD l.eraseDups).Nodup := h.nodup_iff.mpr (eraseDups_nodup _ l (Nat.le_refl _))
  refine ((int_srt l.eraseDups).and hn).imp fun {a b} hh => ?_
  have := hh.1
  have := hh.2
  omega
theorem asc_uniq : ∀ {a b : List Int}, a.Pairwise (· < ·) → b.Pairwise (· < ·) → (∀ x, x ∈ a ↔ x ∈ b) → a = b
  | [], [], _, _, _ => rfl
  | [], y :: b, _, _, h => by have := (h y).mpr List.mem_cons_self; cases this
  | x :: a, [], _, _, h => by have := (h x).mp List.mem_cons_self; cases this
  | x :: a, y :: b, ha, hb, h => by
    have a1 := List.pairwise_cons.mp ha
    have b1 := List.pairwise_cons.mp hb
    have hx := (h x).mp List.mem_cons_self
    have hy := (h y).mpr List.mem_cons_self
    have e : x = y := by
      rcases List.mem_cons.mp hx with z | z
      · exact z
      · rcases List.mem_cons.mp hy with q | q
        · exact q.symm
        · have := b1.1 x z
          have := a1.1 y q
          omega
    subst e
    rw [asc_uniq a1.2 b1.2 fun z => ?_]
    constructor
    · intro hz
      have := a1.1 z hz
      rcases List.mem_cons.mp ((h z).mp (List.mem_cons_of_mem _ hz)) with q | q
      · omega
      · exact q
    · intro hz
      have := b1.1 z hz
      rcases List.mem_cons.mp ((h z).mpr (List.mem_cons_of_mem _ hz)) with q | q
      · omega
      · exact q
section
variable {X : Cx} {M : Mm} {env : List Sl} {a b c e : Expr} {α β γ : Type} [Rep α] [Rep β] [Rep γ] {pos p0 p1 q0 : Pos} {lp : Bool} {tg : Expr}
theorem sset_core {ns : List Int} {H : Hp} {S : Hp} (g : Gd M S H) {x : V} {aa : Addr} (ex : x = .ref aa) (hs : SqL X.K H aa (ns.map V.int) ∨ SqT X.K H aa (ns.map V.int)) (hl : ns.length ≤ 60) (Q : VK)
    (q : ∀ p vs S' H', H p = none → S' p = none → H' p = some (.lst vs) → Dens X.K S' ((sset ns).map rep) vs → Step M S H S' H' → Q (.ref p) H') : rSetI X.K X.w [x] H fun v H1 => rSortedSet X.w [v] H1 Q := by
  subst ex
  refine ⟨aa, ns, rfl, hs, hl, fun p n hp hn => ⟨p, _, n, rfl, upd_same, by omega, fun ms r ha hm hml hr => ?_⟩⟩
  have e : ms = sset ns := asc_uniq ha (sset_asc ns) fun k => by rw [hm, sset_mem]; simp
  subst e
  have hrp : r ≠ p := fun z => by subst z; rw [upd_same] at hr; cases hr
  have hr0 : H r = none := by rw [upd_ne hrp] at hr; exact hr
  have t1 := Step.new g (SetO X.w p (fun j => decide (j ∈ ns)) n) hp
  have g1 := g.step t1
  exact q r _ S _ hr0 (g.fresh hr0) upd_same (Dens.ofInts (sset ns)) (t1.trans (Step.new g1 _ hr))
theorem RF.sortSetT {m : R (Tu Int)} {nm nm2 : Str} (hc : X.calm = true) (hg : Gl X nm) (hm : X.mg nm = none) (hv : bootBuiltins nm = some (.builtin "sorted")) (hn : OkN nm) (hg2 : Gl X nm2) (hm2 : X.mg nm2 = none) (hv2 : bootBuiltins nm2 = some (.type "set")) (hn2 : OkN nm2) (h : RB X M a env m)
    (hs : starEach [a] X.env = (false, eval a X.env) :: starEach [] X.env := by rfl) (hpl : (backTo q0 (starEach [] X.env)).any (·.1) = false := by rfl)
    (hs2 : starEach [.Call (.Name nm2 p1) [a] [] q0] X.env = (false, eval (.Call (.Name nm2 p1) [a] [] q0) X.env) :: starEach [] X.env := by rfl) (hpl2 : (backTo pos (starEach [] X.env)).any (·.1) = false := by rfl) :
    RF X M (.Call (.Name nm p0) [.Call (.Name nm2 p1) [a] [] q0] [] pos) env (R.o1 (fun t : Tu Int => t.l.length ≤ 60) (fun t => sset t.l) m) := .mk fun p =>
  EF.of (pe_callB (cr_sortedSet hc) hg hm hv (pa_cons (pe_callTy (cr_setI hc) hg2 hm2 hv2 star_pa hn2.n hn2.d hs hpl) pa_nil hs2) hn.n hn.d hs2 hpl2) fun S0 H0 σ S H st Q q =>
    RA.br h RA.nil hs ⟨p.1, trivial⟩ S0 H0 σ S H st _ fun ds vs S1 H1 ed bx t1 => by
      subst ed
      obtain ⟨v, rfl, c⟩ := one_of bx
      have g1 := (st.step t1).gd
      obtain ⟨aa, us, ex, e1, r⟩ := c.tup g1
      have e2 : us = m.v.l.map V.int := Dens.ints (is := m.v.l) r
      subst e2
      refine sset_core g1 ex (.inr (sub_sqt g1.sub e1)) p.2 Q fun p1 vs S2 H2 h1 h2 h3 h4 t2 => q _ p1 vs S2 H2 rfl ?_ h2 h3 h4 (t1.trans t2)
      cases z : H p1 with
      | none => rfl
      | some o => exact absurd h1 (t1.keep p1 (by rw [z]; exact fun z => nomatch z))
theorem RF.sortSetL {m : R (List Int)} {nm nm2 : Str} (hc : X.calm = true) (hg : Gl X nm) (hm : X.mg nm = none) (hv : bootBuiltins nm = some (.builtin "sorted")) (hn : OkN nm) (hg2 : Gl X nm2) (hm2 : X.mg nm2 = none) (hv2 : bootBuiltins nm2 = some (.type "set")) (hn2 : OkN nm2) (h : RB X M a env m)
    (hs : starEach [a] X.env = (false, eval a X.env) :: starEach [] X.env := by rfl) (hpl : (backTo q0 (starEach [] X.env)).any (·.1) = false := by rfl)
    (hs2 : starEach [.Call (.Name nm2 p1) [a] [] q0] X.env = (false, eval (.Call (.Name nm2 p1) [a] [] q0) X.env) :: starEach [] X.env := by rfl) (hpl2 : (backTo pos (starEach [] X.env)).any (·.1) = false := by rfl) :
    RF X M (.Call (.Name nm p0) [.Call (.Name nm2 p1) [a] [] q0] [] pos) env (R.o1 (fun t : List Int => t.length ≤ 60) (fun t => sset t) m) := .mk fun p =>
  EF.of (pe_callB (cr_sortedSet hc) hg hm hv (pa_cons (pe_callTy (cr_setI hc) hg2 hm2 hv2 star_pa hn2.n hn2.d hs hpl) pa_nil hs2) hn.n hn.d hs2 hpl2) fun S0 H0 σ S H st Q q =>
    RA.br h RA.nil hs ⟨p.1, trivial⟩ S0 H0 σ S H st _ fun ds vs S1 H1 ed bx t1 => by
      subst ed
      obtain ⟨v, rfl, c⟩ := one_of bx
      have g1 := (st.step t1).gd
      obtain ⟨aa, us, ex, e1, _, r⟩ := c.lst g1
      have e2 : us = m.v.map V.int := Dens.ints (is := m.v) r
      subst e2
      refine sset_core g1 ex (.inl (sql_of e1)) p.2 Q fun p1 vs S2 H2 h1 h2 h3 h4 t2 => q _ p1 vs S2 H2 rfl ?_ h2 h3 h4 (t1.trans t2)
      cases z : H p1 with
      | none => rfl
      | some o => exact absurd h1 (t1.keep p1 (by rw [z]; exact fun z => nomatch z))
/-! gcd, list(range ..), range down -/
theorem rgV_dens {K : PySem.W.Frag} {S : Hp} (lo hi : Int) : Dens K S ((rng lo hi).map rep) (rgV lo hi) := by
  have e : rgV lo hi = (rng lo hi).map V.int := by
    unfold rgV rng
    rw [List.map_map]
    rfl
  rw [e]
  exact Dens.ofInts (rng lo hi)
theorem RF.listRng1 {m : R Int} (hc : X.calm = true) (hg : Gl X "list") (hm : X.mg "list" = none) (hg2 : Gl X "range") (hm2 : X.mg "range" = none) (h : RB X M a env m)
    (na : starEach [a] X.env = (false, eval a X.env) :: starEach [] X.env := by rfl) (na2 : starEach [.Call (.Name "range" p1) [a] [] q0] X.env = (false, eval (.Call (.Name "range" p1) [a] [] q0) X.env) :: starEach [] X.env := by rfl) :
    RF X M (.Call (.Name "list" p0) [.Call (.Name "range" p1) [a] [] q0] [] pos) env (R.rng1 m) := .mk fun p =>
  EF.of (pe_listRg hc hg hm (prg_1 hg2 hm2 star_pe na) na2) fun S0 H0 σ S H st Q q =>
    h p.1.1 S0 H0 σ S H st _ fun d v S1 H1 ed r t1 => by
      subst ed
      have h1 : -1000000 ≤ m.v := p.1.2
      have h2 : m.v ≤ 1000000 := p.2
      refine ⟨m.v, r.int, ⟨by omega, by omega, by omega, by omega, by omega⟩, fun p1 hp => ?_⟩
      have g1 := (st.step t1).gd
      refine q _ p1 _ S1 _ rfl ?_ (g1.fresh hp) upd_same (rgV_dens 0 m.v) (t1.trans (Step.new g1 _ hp))
      cases z : H p1 with
      | none => rfl
      | some o => exact absurd hp (t1.keep p1 (by rw [z]; exact fun z => nomatch z))
/-- lo, lo - 1, .. above hi -/
def rngD (lo hi : Int) : List Int := (List.range (lo - hi).toNat).map fun (i : Nat) => lo + (i : Int) * -1
@[simp] def R.rngD (m n : R Int) : R (List Int) := R.o2 (fun i j : Int => (-1000000 ≤ i ∧ i ≤ 1000000) ∧ -1000000 ≤ j ∧ j ≤ 1000000) FP.rngD m n
theorem rngD_it {K : PySem.W.Frag} {rch : Hp → Hp → Prop} {lo hi : Int} (hr : ∀ S H, rch S H → Gd M S H) : ItOk K M rch ((rngD lo hi).map rep) (Itc lo (-1) (lo - hi).toNat) where
  go := fun S H i d rc hd => by
    have hl : i < (lo - hi).toNat := by
      have := (List.getElem?_eq_some_iff.mp hd).1
      simpa [FP.rngD] using this
    unfold FP.rngD at hd
    rw [List.map_map, List.getElem?_map, List.getElem?_range hl] at hd
    have hd := (Option.some.inj hd).symm
    subst hd
    exact ⟨hl, fun x H' ⟨e1, e2⟩ => ⟨S, by rw [e1]; exact Step.refl (hr S H rc).sub, by rw [e2]; exact .int _⟩⟩
  stop := fun S H i rc hd _ => by
    have : ((FP.rngD lo hi).map (rep : Int → D)).length = (lo - hi).toNat := by simp [FP.rngD]
    rw [this] at hd
    exact hd
theorem RI.rangeD {m n o : R Int} {p0 : Pos} (hg : Gl X "range") (hm : X.mg "range" = none) (h : RB X M a env m) (h' : RB X M b env n) (h'' : RB X M c env o) (ho : o.p ∧ o.v = -1) (hs : starEach [a, b, c] X.env = (false, eval a X.env) :: starEach [b, c] X.env := by rfl) (hs2 : starEach [b, c] X.env = (false, eval b X.env) :: starEach [c] X.env := by rfl) (hs3 : starEach [c] X.env = (false, eval c X.env) :: starEach [] X.env := by rfl) (hpl : (backTo pos (starEach [b, c] X.env)).any (·.1) = false := by rfl) :
    RI X M lp tg (.Call (.Name "range" p0) [a, b, c] [] pos) env (R.rngD m n) := .mk fun p => RdI.of (pi_range3 hg hm (pa_cons star_pe (pa_cons star_pe (pa_cons star_pe pa_nil hs3) hs2) hs) hs hpl) fun S0 H0 σ S H st Rr q =>
  h p.1 _ _ _ _ _ st _ fun d v S1 H1 ed r t => by
    subst ed
    refine h' p.2.1 _ _ _ _ _ (st.step t) _ fun d v S2 H2 ed r2 t2 => ?_
    subst ed
    refine h'' ho.1 _ _ _ _ _ ((st.step t).step t2) _ fun d v S3 H3 ed r3 t3 => ?_
    subst ed
    rw [r.int, r2.int, r3.int, ho.2]
    have h1 : (-1000000 ≤ m.v ∧ m.v ≤ 1000000) ∧ -1000000 ≤ n.v ∧ n.v ≤ 1000000 := p.2.2
    exact ⟨m.v, n.v, -1, _, rfl, RgC.neg (by omega) (by omega) (by omega) (by omega), q _ _ S3 H3 rfl ((t.trans t2).trans t3) (rngD_it fun S H rc => rc.1)⟩
end
/-! ### a while with ways out -/
def wlV {σT β L : Type} (c : σT → R Bool) (f : σT → R (Fl σT β σT)) : Nat → σT → Fl σT β L
  | 0, s => .nx s
  | n + 1, s => if (c s).v = true then (match (f s).v with
    | .nx s' => wlV c f n s'
    | .ct s' => wlV c f n s'
    | .bk s' => .nx s'
    | .rt b => .rt b) else .nx s
def wlP {σT β : Type} (c : σT → R Bool) (f : σT → R (Fl σT β σT)) : Nat → σT → Prop
  | 0, s => (c s).p ∧ (c s).v = false
  | n + 1, s => (c s).p ∧ ((c s).v = true → (f s).p ∧ match (f s).v with
    | .nx s' => wlP c f n s'
    | .ct s' => wlP c f n s'
    | .bk _ => True
    | .rt _ => True)
@[simp] def R.wlg {σT β L : Type} (n : Nat) (s : σT) (c : σT → R Bool) (f : σT → R (Fl σT β σT)) : R (Fl σT β L) := ⟨wlP c f n s, wlV c f n s⟩
section
variable {X : Cx} {M : Mm} {env : List Sl} {σT β L : Type} [Rep β] {E : σT → List Sl} {EL : L → List Sl}
theorem SG.while {c : Expr} {body : List Stmt} {pos : Pos} {mc : σT → R Bool} {f : σT → R (Fl σT β σT)} (n : Nat) (s0 : σT) (hp : PassesOwn (model X.prog X.w) X.A X.env X.xe) (h0 : LE env (E s0)) (hc : ∀ s, RT X M c (E s) (mc s)) (hb : ∀ s, BG X M body (E s) E E (f s)) : SG X M (.While c body [] pos) env E EL (R.wlg n s0 mc f) := .mk fun p =>
  RdS.weak h0 (RdS.ofS (ps_while hp star_pt star_pss) (RdS.while (I := fun k e => ∃ s, e = E s ∧ wlP mc f k s ∧ (wlV mc f k s : Fl σT β L) = wlV mc f n s0) n ⟨s0, rfl, p, rfl⟩ fun k e ⟨s, e1, hP, hV⟩ => by
    subst e1
    cases k with
    | zero =>
      refine ⟨_, hc s hP.1, fun e => ?_, fun e => ?_⟩
      · rw [hP.2] at e; cases e
      · exact ⟨s, by show (wlV mc f n s0 : Fl σT β L) = .nx s; rw [← hV]; rfl, rfl⟩
    | succ k =>
      refine ⟨_, hc s hP.1, fun e => ?_, fun e => ?_⟩
      · obtain ⟨h1, h2⟩ := hP.2 e.symm
        have hV' : (match (f s).v with
          | .nx s' => wlV mc f k s'
          | .ct s' => wlV mc f k s'
          | .bk s' => .nx s'
          | .rt b => .rt b : Fl σT β L) = wlV mc f n s0 := by
          rw [← hV]
          exact (if_pos e.symm).symm
        refine (hb s h1).imp (fun e' ⟨s', z, ee⟩ => ?_) (fun d ⟨b, z, ed⟩ => ?_) (fun e' ⟨s', z, ee⟩ => ?_) fun e' ⟨s', z, ee⟩ => ?_
        · rw [z] at h2 hV'
          exact ⟨k, Nat.lt_succ_self _, s', ee, h2, hV'⟩
        · rw [z] at hV'
          exact ⟨b, hV'.symm, ed⟩
        · rw [z] at hV'
          exact ⟨s', hV'.symm, ee⟩
        · rw [z] at h2 hV'
          exact ⟨k, Nat.lt_succ_self _, s', ee, h2, hV'⟩
      · refine ⟨s, ?_, rfl⟩
        show (wlV mc f n s0 : Fl σT β L) = .nx s
        rw [← hV]
        exact if_neg (by rw [← e]; decide)))
end
end FP
namespace FP
open PySem PySem.Spec PyProof.Rows L2
open Rep (rep)
/-! ### two names at once, lists of one's own among the values -/
section
variable {X : Cx} {M : Mm} {α β γ : Type} [Rep α] [Rep β] [Rep γ] {env : List Sl} {a b c : Expr} {px py pz pt pos : Pos} {kt k2 : Nat} {pt2 : Pos}
theorem keep_none {M : Mm} {S H S' H' : Hp} (t : Step M S H S' H') {p : Addr} (h : H' p = none) : H p = none := by
  cases z : H p with
  | none => rfl
  | some o => exact absurd h (t.keep p (by rw [z]; exact fun z => nomatch z))
theorem SN.parIF {m : R α} {n : R (List β)} (i j : Nat) {x y : Str} {E : α × List β → List Sl} (hE : ∀ v : α × List β, (env.set i (.im (rep v.1))).set j (.ow (v.2.map rep)) = E v) (hc : X.calm = true) (hN : X.N.Nodup) (hi : X.N[i]? = some x) (hj : X.N[j]? = some y) (hij : i ≠ j)
    (hx : X.env.scope.names.lookup x = some .local) (hy : X.env.scope.names.lookup y = some .local) (ha : RE X M a env m) (hb : RF X M b env n)
    (hw : swappedStores [.Tuple [.Name x px, .Name y py] kt pt] (.Tuple [a, b] k2 pt2) X.env = pure (some [x, y])) (hs : swapsWithSole [.Tuple [.Name x px, .Name y py] kt pt] (.Tuple [a, b] k2 pt2) pos.line X.env = pure false := by rfl)
    (h1 : starEach [a, b] X.env = (false, eval a X.env) :: starEach [b] X.env := by rfl) (h2 : starEach [b] X.env = (false, eval b X.env) :: starEach [] X.env := by rfl) :
    SN X M (.Assign [.Tuple [.Name x px, .Name y py] kt pt] (.Tuple [a, b] k2 pt2) pos) env E (R.tup2 m n) := .mk fun p =>
  RdS.ofS (ps_par hc hN hi hj hij hx hy (pa_cons star_pe (pa_cons star_pe pa_nil h2) h1) hw hs) fun S0 H0 σ S H st Dl q1 _ _ _ =>
    ha p.1 S0 H0 σ S H st _ fun d v S1 H1 ed r1 t1 => by
      refine hb p.2 S0 H0 σ S1 H1 (st.step t1) _ fun ds q vs S2 H2 ed2 e1 e2 e3 r2 t2 => ?_
      subst ed ed2
      exact ⟨_, _, rfl, q1 _ _ S2 H2 rfl (by rw [← hE]; exact ((st.step t1).putIm i r1).putOw t2 j e1 e2 e3 r2) fun x o z => t2.ss x o (t1.ss x o z)⟩
theorem SN.parFI {m : R (List α)} {n : R β} (i j : Nat) {x y : Str} {E : List α × β → List Sl} (hE : ∀ v : List α × β, (env.set i (.ow (v.1.map rep))).set j (.im (rep v.2)) = E v) (hc : X.calm = true) (hN : X.N.Nodup) (hi : X.N[i]? = some x) (hj : X.N[j]? = some y) (hij : i ≠ j)
    (hx : X.env.scope.names.lookup x = some .local) (hy : X.env.scope.names.lookup y = some .local) (ha : RF X M a env m) (hb : RE X M b env n)
    (hw : swappedStores [.Tuple [.Name x px, .Name y py] kt pt] (.Tuple [a, b] k2 pt2) X.env = pure (some [x, y])) (hs : swapsWithSole [.Tuple [.Name x px, .Name y py] kt pt] (.Tuple [a, b] k2 pt2) pos.line X.env = pure false := by rfl)
    (h1 : starEach [a, b] X.env = (false, eval a X.env) :: starEach [b] X.env := by rfl) (h2 : starEach [b] X.env = (false, eval b X.env) :: starEach [] X.env := by rfl) :
    SN X M (.Assign [.Tuple [.Name x px, .Name y py] kt pt] (.Tuple [a, b] k2 pt2) pos) env E (R.tup2 m n) := .mk fun p =>
  RdS.ofS (ps_par hc hN hi hj hij hx hy (pa_cons star_pe (pa_cons star_pe pa_nil h2) h1) hw hs) fun S0 H0 σ S H st Dl q1 _ _ _ =>
    ha p.1 S0 H0 σ S H st _ fun ds q vs S1 H1 ed e1 e2 e3 r1 t1 => by
      refine hb p.2 S0 H0 σ S1 H1 (st.step t1) _ fun d v S2 H2 ed2 r2 t2 => ?_
      subst ed ed2
      have nq : ¬ M q := st.gd.notM e1
      have n3 : H1 q ≠ none := by rw [e3]; exact fun z => nomatch z
      exact ⟨_, _, rfl, q1 _ _ S2 H2 rfl (by rw [← hE]; exact (st.putOw (t1.trans t2) i e1 (t2.cap q e2 n3) (t2.ext q _ e3 nq lst_noT) (r1.mon t2.ss)).putIm j r2) fun x o z => t2.ss x o (t1.ss x o z)⟩
theorem SN.parFF {m : R (List α)} {n : R (List β)} (i j : Nat) {x y : Str} {E : List α × List β → List Sl} (hE : ∀ v : List α × List β, (env.set i (.ow (v.1.map rep))).set j (.ow (v.2.map rep)) = E v) (hc : X.calm = true) (hN : X.N.Nodup) (hi : X.N[i]? = some x) (hj : X.N[j]? = some y) (hij : i ≠ j)
    (hx : X.env.scope.names.lookup x = some .local) (hy : X.env.scope.names.lookup y = some .local) (ha : RF X M a env m) (hb : RF X M b env n)
    (hw : swappedStores [.Tuple [.Name x px, .Name y py] kt pt] (.Tuple [a, b] k2 pt2) X.env = pure (some [x, y])) (hs : swapsWithSole [.Tuple [.Name x px, .Name y py] kt pt] (.Tuple [a, b] k2 pt2) pos.line X.env = pure false := by rfl)
    (h1 : starEach [a, b] X.env = (false, eval a X.env) :: starEach [b] X.env := by rfl) (h2 : starEach [b] X.env = (false, eval b X.env) :: starEach [] X.env := by rfl) :
    SN X M (.Assign [.Tuple [.Name x px, .Name y py] kt pt] (.Tuple [a, b] k2 pt2) pos) env E (R.tup2 m n) := .mk fun p =>
  RdS.ofS (ps_par hc hN hi hj hij hx hy (pa_cons star_pe (pa_cons star_pe pa_nil h2) h1) hw hs) fun S0 H0 σ S H st Dl q1 _ _ _ =>
    ha p.1 S0 H0 σ S H st _ fun ds q vs S1 H1 ed e1 e2 e3 r1 t1 => by
      have s1 := st.putOw t1 i e1 e2 e3 r1
      refine hb p.2 S0 H0 σ S1 H1 (st.step t1) _ fun d v us S2 H2 ed2 f1 f2 f3 r2 t2 => ?_
      subst ed ed2
      exact ⟨_, _, rfl, q1 _ _ S2 H2 rfl (by rw [← hE]; exact s1.putOw t2 j f1 f2 f3 r2) fun x o z => t2.ss x o (t1.ss x o z)⟩
end
end FP
namespace FP
open PySem PySem.Spec PyProof.Rows L2
open Rep (rep)
/-! ### what a value that may fail comes to -/
def Ok {α : Type} (m : R α) (P : α → Prop) : Prop := m.p ∧ P m.v
theorem Ok.imp {α : Type} {m : R α} {P Q : α → Prop} (h : Ok m P) (k : ∀ x, P x → Q x) : Ok m Q := ⟨h.1, k _ h.2⟩
theorem Ok.pure {α : Type} {x : α} {P : α → Prop} (h : P x) : Ok (R.pure x) P := ⟨trivial, h⟩
theorem Ok.bind {α β : Type} {m : R α} {f : α → R β} {Q : β → Prop} (h : Ok m fun x => Ok (f x) Q) : Ok (R.bind m f) Q := ⟨⟨h.1, h.2.1⟩, h.2.2⟩
theorem Ok.eq {α : Type} {m : R α} {x : α} {P : α → Prop} (h : Ok m (· = x)) (hp : P x) : Ok m P := ⟨h.1, by rw [h.2]; exact hp⟩
theorem Ok.ite {α : Type} {c : R Bool} {a b : R α} {P : α → Prop} (h : Ok c fun x => if x = true then Ok a P else Ok b P) : Ok (R.ite c a b) P := by
  obtain ⟨p, h⟩ := h
  cases e : c.v
  · rw [e] at h
    simp at h
    exact ⟨⟨p, fun z => (Bool.false_ne_true (e.symm.trans z)).elim, fun _ => h.1⟩, by show P (if c.v = true then a.v else b.v); rw [e]; exact h.2⟩
  · rw [e] at h
    simp at h
    exact ⟨⟨p, fun _ => h.1, fun z => (Bool.false_ne_true (z.symm.trans e)).elim⟩, by show P (if c.v = true then a.v else b.v); rw [e]; exact h.2⟩
theorem Ok.tt {α : Type} {c : R Bool} {a b : R α} {P : α → Prop} (h : Ok c (· = true)) (k : Ok a P) : Ok (R.ite c a b) P := Ok.ite (h.imp fun x e => by rw [if_pos e]; exact k)
theorem Ok.ff {α : Type} {c : R Bool} {a b : R α} {P : α → Prop} (h : Ok c (· = false)) (k : Ok b P) : Ok (R.ite c a b) P := Ok.ite (h.imp fun x e => by rw [if_neg (by rw [e]; decide)]; exact k)
theorem foldP_inv {σT α : Type} {f : σT → α → R σT} (J : Nat → σT → Prop) : ∀ (xs : List α) (k : Nat) (s : σT), J k s → (∀ (i : Nat) x s, xs[i]? = some x → J (k + i) s → (f s x).p ∧ J (k + i + 1) (f s x).v) → foldP f s xs ∧ J (k + xs.length) (foldV f s xs)
  | [], k, s, h, _ => ⟨trivial, h⟩
  | x :: xs, k, s, h, hs => by
    obtain ⟨p, q⟩ := hs 0 x s rfl h
    obtain ⟨p2, q2⟩ := foldP_inv J xs (k + 1) (f s x).v q fun i y t hy ht => by
      have := hs (i + 1) y t (by simpa using hy) (by have e : k + (i + 1) = k + 1 + i := by omega
                                                     rw [e]; exact ht)
      have e : k + (i + 1) = k + 1 + i := by omega
      rw [e] at this
      exact this
    refine ⟨⟨p, p2⟩, ?_⟩
    have e : k + (x :: xs).length = k + 1 + xs.length := by simp; omega
    rw [e]
    exact q2
/-- a walk, by what holds behind each turn -/
theorem Ok.fold {σT α : Type} {m : R (List α)} {s : σT} {f : σT → α → R σT} {P : σT → Prop} (J : Nat → σT → Prop) (xs : List α) (hm : Ok m (· = xs)) (h0 : J 0 s) (hs : ∀ (i : Nat) x s, xs[i]? = some x → J i s → Ok (f s x) (J (i + 1))) (he : ∀ s, J xs.length s → P s) : Ok (R.fold m s f) P := by
  obtain ⟨p, e⟩ := hm
  have := foldP_inv (f := f) J xs 0 s h0 fun i x s hx hj => by
    have e : 0 + i = i := by omega
    rw [e] at hj ⊢
    exact hs i x s hx hj
  refine ⟨⟨p, by rw [e]; exact this.1⟩, ?_⟩
  show P (foldV f s m.v)
  rw [e]
  have q := this.2
  rw [Nat.zero_add] at q
  exact he _ q
/-! ### the law's own statements -/
theorem W.seq_of {σT σU β : Type} {m : R σU} {b : σU → (σT → Prop) → (β → Prop) → Prop} {K : σT → Prop} {Kr : β → Prop} (h : Ok m fun x => b x K Kr) : W.seq (W.of (N.of m)) b K Kr := ⟨h.1, fun s e => by rw [e]; exact h.2⟩
theorem W.seq_n {σT σU β : Type} {m : N σU} {b : σU → (σT → Prop) → (β → Prop) → Prop} {K : σT → Prop} {Kr : β → Prop} (h : m.p) (k : ∀ s, m.S s → b s K Kr) : W.seq (W.of m) b K Kr := ⟨h, k⟩
theorem W.guard {σT β : Type} {c : R Bool} {r : (Unit → Prop) → (β → Prop) → Prop} {b : Unit → (σT → Prop) → (β → Prop) → Prop} {K : σT → Prop} {Kr : β → Prop} (h : Ok c (· = false)) (k : b () K Kr) : W.seq (W.ite (N.of c) r (W.nil ())) b K Kr :=
  ⟨h.1, fun e => (Bool.false_ne_true (h.2.symm.trans (show c.v = true from Eq.symm e))).elim, fun _ => k⟩
theorem W.seq_if {σT σU β : Type} {c : R Bool} {a1 a2 : (σU → Prop) → (β → Prop) → Prop} {b : σU → (σT → Prop) → (β → Prop) → Prop} {K : σT → Prop} {Kr : β → Prop} (h : Ok c fun x => if x = true then a1 (fun s => b s K Kr) Kr else a2 (fun s => b s K Kr) Kr) : W.seq (W.ite (N.of c) a1 a2) b K Kr := by
  obtain ⟨p, h⟩ := h
  refine ⟨p, fun e => ?_, fun e => ?_⟩
  · have e : true = c.v := e
    rw [← e] at h; exact h
  · have e : false = c.v := e
    rw [← e] at h; exact h
theorem W.seq_for {σT σU β α : Type} {m : R (List α)} {s0 : σU} {f : σU → α → (σU → Prop) → (β → Prop) → Prop} {b : σU → (σT → Prop) → (β → Prop) → Prop} {K : σT → Prop} {Kr : β → Prop} (J : Nat → σU → Prop) (xs : List α) (hm : Ok m (· = xs)) (h0 : J 0 s0) (hs : ∀ (i : Nat) x s, xs[i]? = some x → J i s → f s x (fun s' => J (i + 1) s') Kr) (he : ∀ s, J xs.length s → b s K Kr) : W.seq (W.for (N.of m) s0 f) b K Kr := by
  obtain ⟨p, e⟩ := hm
  refine ⟨p, fun ys ey => ?_⟩
  have : ys = xs := by rw [ey, e]
  subst this
  exact ⟨J, h0, hs, he⟩
theorem Ok.exact {α : Type} [Rep α] [DecidableEq α] {a b : R α} (x : α) (ha : Ok a (· = x)) (hb : Ok b (· = x)) (hs : Sm x) : Ok (R.not (R.o1 T1 (fun i : Bool => i) (R.c2 FP.exact a b))) (· = false) := by
  obtain ⟨a1, a2⟩ := ha
  obtain ⟨b1, b2⟩ := hb
  refine ⟨⟨⟨a1, b1, ?_⟩, trivial⟩, ?_⟩
  · show Sm a.v
    rw [a2]; exact hs
  · show (!decide (a.v = b.v)) = false
    rw [a2, b2]; simp
/-! ### lists -/
theorem bnd {a b A B : Int} (h1 : 0 ≤ a) (h2 : a ≤ A) (h3 : 0 ≤ b) (h4 : b ≤ B) : 0 ≤ a * b ∧ a * b ≤ A * B :=
  ⟨Int.mul_nonneg h1 h3, Int.mul_le_mul h2 h4 h3 (Int.le_trans h1 h2)⟩
theorem cmL {i j : Int} (h1 : -10000000000000000000 ≤ i) (h2 : i ≤ 10000000000000000000) : CMul i j := .inl (by omega)
theorem cmR {i j : Int} (h1 : -10000000000000000000 ≤ j) (h2 : j ≤ 10000000000000000000) : CMul i j := .inr (by omega)
theorem nth_at {α : Type} [Inhabited α] (l : List α) (i : Nat) (h : i < l.length) : nth l (i : Int) = l[i] := by
  unfold nth
  rw [if_pos (by omega)]
  simp [List.getD, List.getElem?_eq_getElem h]
theorem nth_zero {α : Type} [Inhabited α] (x : α) (l : List α) : nth (x :: l) 0 = x := rfl
theorem nth_succ {α : Type} [Inhabited α] (x : α) (l : List α) (i : Nat) : nth (x :: l) ((i : Int) + 1) = nth l (i : Int) := by
  have e : ((i : Int) + 1).toNat = i + 1 := by omega
  unfold nth
  rw [if_pos (by omega), if_pos (by omega), e]
  simp
theorem nth_map {α β : Type} [Inhabited α] [Inhabited β] (f : α → β) (l : List α) (i : Nat) (h : i < l.length) : nth (l.map f) (i : Int) = f (nth l (i : Int)) := by
  rw [nth_at _ _ (by simpa using h), nth_at _ _ h, List.getElem_map]
theorem nth_mem {α : Type} [Inhabited α] (l : List α) (i : Nat) (h : i < l.length) : nth l (i : Int) ∈ l := by
  rw [nth_at _ _ h]; exact List.getElem_mem _
theorem mem_nth {α : Type} [Inhabited α] {l : List α} {x : α} (h : x ∈ l) : ∃ i : Nat, i < l.length ∧ nth l (i : Int) = x := by
  obtain ⟨i, hi, e⟩ := List.mem_iff_getElem.mp h
  exact ⟨i, hi, by rw [nth_at _ _ hi]; exact e⟩
theorem nth_set {α : Type} [Inhabited α] (l : List α) (i j : Nat) (x : α) (hi : i < l.length) (hj : j < l.length) : nth (l.set i x) (j : Int) = if i = j then x else nth l (j : Int) := by
  rw [nth_at _ j (by simpa using hj), nth_at _ j hj, List.getElem_set]
theorem list_ext {α : Type} [Inhabited α] {l k : List α} (hl : l.length = k.length) (h : ∀ i : Nat, i < l.length → nth l (i : Int) = nth k (i : Int)) : l = k := by
  apply List.ext_getElem hl
  intro i h1 h2
  have := h i h1
  rwa [nth_at _ _ h1, nth_at _ _ h2] at this
theorem rng_at {lo hi : Int} {i : Nat} {x : Int} (h : (rng lo hi)[i]? = some x) : x = lo + i ∧ x < hi := by
  unfold rng at h
  rw [List.getElem?_map] at h
  by_cases hi' : i < (hi - lo).toNat
  · rw [List.getElem?_range hi'] at h
    simp at h
    omega
  · rw [List.getElem?_eq_none (by simp; omega)] at h
    simp at h
theorem mem_rng {lo hi x : Int} : x ∈ rng lo hi ↔ lo ≤ x ∧ x < hi := by
  unfold rng
  rw [List.mem_map]
  constructor
  · rintro ⟨i, h, rfl⟩
    have := List.mem_range.mp h
    omega
  · rintro ⟨h1, h2⟩
    exact ⟨(x - lo).toNat, List.mem_range.mpr (by omega), by omega⟩
theorem mem_rngN {n : Nat} {x : Int} : x ∈ rng 0 (n : Int) ↔ ∃ i : Nat, i < n ∧ x = i := by
  rw [mem_rng]
  constructor
  · rintro ⟨h1, h2⟩; exact ⟨x.toNat, by omega, by omega⟩
  · rintro ⟨i, h, rfl⟩; omega
theorem rng_nodup (lo hi : Int) : (rng lo hi).Nodup := by
  unfold rng
  refine List.Pairwise.map _ (fun a b h => ?_) List.nodup_range
  omega
theorem rng_nat (n : Nat) : rng 0 (n : Int) = (List.range n).map fun (i : Nat) => (i : Int) := by
  unfold rng
  have e : ((n : Int) - 0).toNat = n := by omega
  rw [e]
  simp
theorem map_nth {α : Type} [Inhabited α] (l : List α) : (rng 0 (l.length : Int)).map (fun i => nth l i) = l := by
  rw [rng_nat, List.map_map]
  apply List.ext_getElem (by simp)
  intro i h1 h2
  simp
  exact nth_at _ _ h2
theorem enum_eq {α : Type} [Inhabited α] (l : List α) : enum l = (rng 0 (l.length : Int)).map fun i => (i, nth l i) := by
  rw [rng_nat, List.map_map]
  unfold enum
  apply List.ext_getElem (by simp)
  intro i h1 h2
  have h3 : i < l.length := by simpa using h1
  simp [nth_at _ _ h3]
theorem enum_mem {α : Type} [Inhabited α] {l : List α} {x : Int × α} : x ∈ enum l ↔ ∃ i : Nat, i < l.length ∧ x = ((i : Int), nth l (i : Int)) := by
  rw [enum_eq, List.mem_map]
  constructor
  · rintro ⟨a, h, rfl⟩
    obtain ⟨i, hi, rfl⟩ := mem_rngN.mp h
    exact ⟨i, hi, rfl⟩
  · rintro ⟨i, hi, rfl⟩
    exact ⟨i, mem_rngN.mpr ⟨i, hi, rfl⟩, rfl⟩
theorem zip_mem {α β : Type} [Inhabited α] [Inhabited β] {l : List α} {k : List β} (hl : k.length = l.length) {x : α × β} : x ∈ l.zip k ↔ ∃ i : Nat, i < l.length ∧ x = (nth l (i : Int), nth k (i : Int)) := by
  constructor
  · intro h
    obtain ⟨i, hi, e⟩ := List.mem_iff_getElem.mp h
    have h1 : i < l.length := by simp at hi; omega
    have h2 : i < k.length := by omega
    refine ⟨i, h1, ?_⟩
    rw [nth_at _ _ h1, nth_at _ _ h2, ← e, List.getElem_zip]
  · rintro ⟨i, h1, rfl⟩
    have h2 : i < k.length := by omega
    rw [nth_at _ _ h1, nth_at _ _ h2]
    exact List.mem_iff_getElem.mpr ⟨i, by simp; omega, by rw [List.getElem_zip]⟩
theorem set_sum (l : List Int) : ∀ (i : Nat) (x : Int), i < l.length → (l.set i x).sum = l.sum - nth l (i : Int) + x := by
  induction l with
  | nil => intro i x h; simp at h
  | cons a l ih =>
    intro i x h
    cases i with
    | zero =>
      rw [nth_at _ 0 h]
      simp
      omega
    | succ i =>
      have h' : i < l.length := by simpa using h
      have := ih i x h'
      rw [nth_at _ _ h'] at this
      rw [nth_at _ _ h]
      simp [this]
      omega
theorem sum_le {α : Type} (L : List α) (f g : α → Int) (h : ∀ x ∈ L, f x ≤ g x) : (L.map f).sum ≤ (L.map g).sum := by
  induction L with
  | nil => simp
  | cons x L ih =>
    have := ih fun y hy => h y (List.mem_cons_of_mem _ hy)
    have := h x List.mem_cons_self
    simp
    omega
theorem sum_add {α : Type} (L : List α) (f g : α → Int) : (L.map fun x => f x + g x).sum = (L.map f).sum + (L.map g).sum := by
  induction L with
  | nil => simp
  | cons x L ih => simp [ih]; omega
theorem sum_mul {α : Type} (L : List α) (c : Int) (f : α → Int) : (L.map fun x => c * f x).sum = c * (L.map f).sum := by
  induction L with
  | nil => simp
  | cons x L ih => simp [ih, Int.mul_add]
theorem sum_nonneg (l : List Int) (h : ∀ x ∈ l, 0 ≤ x) : 0 ≤ l.sum := by
  induction l with
  | nil => simp
  | cons x l ih =>
    have := ih fun y hy => h y (List.mem_cons_of_mem _ hy)
    have := h x List.mem_cons_self
    simp
    omega
theorem sum_bd (l : List Int) (a b : Int) (h : ∀ x ∈ l, a ≤ x ∧ x ≤ b) : a * l.length ≤ l.sum ∧ l.sum ≤ b * l.length := by
  induction l with
  | nil => simp
  | cons x l ih =>
    have := ih fun y hy => h y (List.mem_cons_of_mem _ hy)
    have := h x List.mem_cons_self
    have e1 : a * ((l.length : Int) + 1) = a * l.length + a := by rw [Int.mul_add]; simp
    have e2 : b * ((l.length : Int) + 1) = b * l.length + b := by rw [Int.mul_add]; simp
    simp [e1, e2]
    omega
theorem sum_zero (l : List Int) (h : ∀ x ∈ l, x = 0) : l.sum = 0 := by
  induction l with
  | nil => rfl
  | cons x l ih => simp [ih fun y hy => h y (List.mem_cons_of_mem _ hy), h x List.mem_cons_self]
/-- without one item -/
theorem sum_without {α : Type} [DecidableEq α] (L : List α) (f : α → Int) (a : α) (hn : L.Nodup) (ha : a ∈ L) : ((L.filter fun x => decide (x ≠ a)).map f).sum = (L.map f).sum - f a := by
  induction L with
  | nil => simp at ha
  | cons x L ih =>
    obtain ⟨h1, h2⟩ := List.nodup_cons.mp hn
    by_cases e : x = a
    · subst e
      have : L.filter (fun y => decide (y ≠ x)) = L := List.filter_eq_self.mpr fun y hy => by
        have : y ≠ x := fun z => h1 (z ▸ hy)
        simpa using this
      rw [List.filter_cons_of_neg (by simp), this]
      simp
      omega
    · have ha' : a ∈ L := by
        rcases List.mem_cons.mp ha with z | z
        · exact (e z.symm).elim
        · exact z
      rw [List.filter_cons_of_pos (by simpa using e), List.map_cons, List.sum_cons, ih h2 ha', List.map_cons, List.sum_cons]
      omega
theorem flat_one {α : Type} (n : Nat) (x : α) : (List.replicate n [x]).flatten = List.replicate n x := by
  induction n with
  | zero => rfl
  | succ n ih => rw [List.replicate_succ, List.flatten_cons, ih]; rfl
theorem filter_all {α : Type} (l : List α) : l.filter (fun _ => true) = l := by simp
/-- sums across -/
theorem cross0 {α : Type} (L : List α) (c d : Int) (f g : α → Int) (h : ∀ j ∈ L, c * f j ≤ g j * d) : c * (L.map f).sum ≤ (L.map g).sum * d := by
  induction L with
  | nil => simp
  | cons x L ih =>
    have h1 := ih fun y hy => h y (List.mem_cons_of_mem _ hy)
    have h2 := h x List.mem_cons_self
    rw [List.map_cons, List.map_cons, List.sum_cons, List.sum_cons, Int.mul_add, Int.add_mul]
    omega
theorem cross1 {α : Type} [DecidableEq α] (L : List α) (c d e : Int) (f g : α → Int) (i : α) (hi : i ∈ L) (he : 0 ≤ e) (h : ∀ j ∈ L, j ≠ i → c * f j ≤ g j * d) (h' : c * f i + e ≤ g i * d) : c * (L.map f).sum + e ≤ (L.map g).sum * d := by
  have hall : ∀ j ∈ L, c * f j ≤ g j * d := fun j hj => by
    by_cases z : j = i
    · subst z; omega
    · exact h j hj z
  induction L with
  | nil => simp at hi
  | cons x L ih =>
    rw [List.map_cons, List.map_cons, List.sum_cons, List.sum_cons, Int.mul_add, Int.add_mul]
    by_cases z : x = i
    · subst z
      have := cross0 L c d f g fun y hy => hall y (List.mem_cons_of_mem _ hy)
      omega
    · have hi' : i ∈ L := by
        rcases List.mem_cons.mp hi with w | w
        · exact (z w.symm).elim
        · exact w
      have := ih hi' (fun j hj => h j (List.mem_cons_of_mem _ hj)) fun j hj => hall j (List.mem_cons_of_mem _ hj)
      have := hall x List.mem_cons_self
      omega
/-! ### flags, generators, walks with a way out -/
/-- all(.. for x in xs) -/
theorem Ok.all {α : Type} {m : R (List α)} {f : α → R Bool} (xs : List α) (q : α → Bool) (hm : Ok m (· = xs)) (hf : ∀ x ∈ xs, Ok (f x) (· = q x)) : Ok (R.gx false m (fun _ => R.pure true) f) (· = xs.all q) := by
  obtain ⟨p, e⟩ := hm
  refine ⟨⟨p, by rw [e]; exact gxP_of fun x hx => ⟨trivial, fun _ => (hf x hx).1⟩⟩, ?_⟩
  show gxV false _ f m.v = _
  rw [e, gxV_all]
  simp
  rw [Bool.eq_iff_iff]
  simp
  constructor
  · intro h x hx; rw [← (hf x hx).2]; exact h x hx
  · intro h x hx; rw [(hf x hx).2]; exact h x hx
theorem flag_fold {α : Type} {f : Bool → α → R Bool} (q : α → Bool) : ∀ (xs : List α) (s : Bool), (∀ s, ∀ x ∈ xs, (f s x).p ∧ (f s x).v = (s && !q x)) → foldP f s xs ∧ foldV f s xs = (s && xs.all fun x => !q x)
  | [], s, _ => ⟨trivial, by simp [foldV]⟩
  | x :: xs, s, h => by
    obtain ⟨p, e⟩ := h s x List.mem_cons_self
    obtain ⟨p2, e2⟩ := flag_fold q xs (f s x).v fun s y hy => h s y (List.mem_cons_of_mem _ hy)
    refine ⟨⟨p, p2⟩, ?_⟩
    show foldV f (f s x).v xs = _
    rw [e2, e, List.all_cons, Bool.and_assoc]
open Classical in
theorem loop_all {α L : Type} {f : Unit → α → R (Fl Unit Bool Unit)} (q : α → Prop) : ∀ xs : List α, (∀ x ∈ xs, (f () x).p ∧ (f () x).v = if q x then .nx () else .rt false) → loopP f () xs ∧ (loopV f () xs : Fl Unit Bool L) = if ∀ x ∈ xs, q x then .nx () else .rt false
  | [], _ => ⟨trivial, by simp [loopV]⟩
  | x :: xs, h => by
    obtain ⟨p, v⟩ := h x List.mem_cons_self
    obtain ⟨p2, v2⟩ := loop_all (L := L) q xs fun y hy => h y (List.mem_cons_of_mem _ hy)
    by_cases hq : q x
    · rw [if_pos hq] at v
      constructor
      · unfold loopP; rw [v]; exact ⟨p, p2⟩
      · unfold loopV; rw [v]; simp [hq, v2]
    · rw [if_neg hq] at v
      constructor
      · unfold loopP; rw [v]; exact ⟨p, trivial⟩
      · unfold loopV; rw [v]; simp [hq]
theorem Each.all {α β : Type} {f : α → N β} {xs : List α} {ys : List β} (h : Each f xs ys) {P : β → Prop} (hp : ∀ x ∈ xs, ∀ y, (f x).S y → P y) : ∀ y ∈ ys, P y := by
  intro y hy
  obtain ⟨i, hi, e⟩ := List.mem_iff_getElem.mp hy
  have hx : i < xs.length := by rw [← h.1]; exact hi
  exact hp _ (List.getElem_mem hx) _ (h.2 i xs[i] y (List.getElem?_eq_getElem hx) (by rw [List.getElem?_eq_getElem hi, e]))
/-! ways out -/
theorem Ok.flR_nx {σU β : Type} {m : R (Fl σU β Empty)} {f : σU → R β} {P : β → Prop} {s : σU} (h : Ok m (· = .nx s)) (k : Ok (f s) P) : Ok (R.flR m f) P := by
  obtain ⟨mp, mv⟩ := m
  obtain ⟨h1, h2⟩ := h
  have h2 : mv = .nx s := h2
  subst h2
  exact ⟨⟨h1, k.1⟩, k.2⟩
theorem Ok.flR_rt {σU β : Type} {m : R (Fl σU β Empty)} {f : σU → R β} {P : β → Prop} {b : β} (h : Ok m (· = .rt b)) (k : P b) : Ok (R.flR m f) P := by
  obtain ⟨mp, mv⟩ := m
  obtain ⟨h1, h2⟩ := h
  have h2 : mv = .rt b := h2
  subst h2
  exact ⟨⟨h1, trivial⟩, k⟩
theorem Ok.fl_nx {σU σT β L : Type} {m : R (Fl σU β L)} {f : σU → R (Fl σT β L)} {P : Fl σT β L → Prop} {s : σU} (h : Ok m (· = .nx s)) (k : Ok (f s) P) : Ok (R.fl m f) P := by
  obtain ⟨mp, mv⟩ := m
  obtain ⟨h1, h2⟩ := h
  have h2 : mv = .nx s := h2
  subst h2
  exact ⟨⟨h1, k.1⟩, k.2⟩
theorem Ok.fl_rt {σU σT β L : Type} {m : R (Fl σU β L)} {f : σU → R (Fl σT β L)} {P : Fl σT β L → Prop} {b : β} (h : Ok m (· = .rt b)) (k : P (.rt b)) : Ok (R.fl m f) P := by
  obtain ⟨mp, mv⟩ := m
  obtain ⟨h1, h2⟩ := h
  have h2 : mv = .rt b := h2
  subst h2
  exact ⟨⟨h1, trivial⟩, k⟩
/-- behind a turn of a loop: what holds on going on, on a return, on a break -/
def FlP {σT β L : Type} (J : σT → Prop) (Q : β → Prop) (B : L → Prop) : Fl σT β L → Prop
  | .nx s => J s
  | .rt b => Q b
  | .bk l => B l
  | .ct _ => False
def FlC {σT β : Type} (J : σT → Prop) (Q : β → Prop) (B : σT → Prop) : Fl σT β σT → Prop
  | .nx s => J s
  | .rt b => Q b
  | .bk l => B l
  | .ct s => J s
theorem loop_inv {σT α β L : Type} {f : σT → α → R (Fl σT β σT)} (J : Nat → σT → Prop) (Q : β → Prop) (B : σT → Prop) : ∀ (xs : List α) (k : Nat) (s : σT), J k s → (∀ (i : Nat) x s, xs[i]? = some x → J (k + i) s → Ok (f s x) (FlC (J (k + i + 1)) Q B)) → loopP f s xs ∧ FlP (fun s => J (k + xs.length) s ∨ B s) Q (fun _ => False) (loopV f s xs : Fl σT β L)
  | [], k, s, h, _ => ⟨trivial, .inl h⟩
  | x :: xs, k, s, h, hs => by
    have h0 := hs 0 x s rfl h
    have go : ∀ s', J (k + 1) s' → loopP f s' xs ∧ FlP (fun s => J (k + (x :: xs).length) s ∨ B s) Q (fun _ => False) (loopV f s' xs : Fl σT β L) := fun s' hj => by
      have e : k + (x :: xs).length = k + 1 + xs.length := by simp; omega
      rw [e]
      exact loop_inv J Q B xs (k + 1) s' hj fun i y t hy ht => by
        have e : k + 1 + i = k + (i + 1) := by omega
        rw [e] at ht ⊢
        exact hs (i + 1) y t (by simpa using hy) ht
    obtain ⟨p, q⟩ := h0
    unfold loopP loopV
    revert q
    cases (f s x).v with
    | nx s' => intro q; exact ⟨⟨p, (go s' q).1⟩, (go s' q).2⟩
    | ct s' => intro q; exact ⟨⟨p, (go s' q).1⟩, (go s' q).2⟩
    | bk s' => intro q; exact ⟨⟨p, trivial⟩, .inr q⟩
    | rt b => intro q; exact ⟨⟨p, trivial⟩, q⟩
theorem Ok.loop {σT α β L : Type} {m : R (List α)} {s : σT} {f : σT → α → R (Fl σT β σT)} (J : Nat → σT → Prop) (Q : β → Prop) (B : σT → Prop) (xs : List α) (hm : Ok m (· = xs)) (h0 : J 0 s) (hs : ∀ (i : Nat) x s, xs[i]? = some x → J i s → Ok (f s x) (FlC (J (i + 1)) Q B)) : Ok (R.loop (L := L) m s f) (FlP (fun s => J xs.length s ∨ B s) Q fun _ => False) := by
  obtain ⟨p, e⟩ := hm
  have := loop_inv (L := L) (f := f) J Q B xs 0 s h0 fun i x s hx hj => by
    have e : 0 + i = i := by omega
    rw [e] at hj ⊢
    exact hs i x s hx hj
  rw [Nat.zero_add] at this
  refine ⟨⟨p, by rw [e]; exact this.1⟩, ?_⟩
  show FlP _ _ _ (loopV f s m.v)
  rw [e]
  exact this.2
theorem Ok.flR {σU β : Type} {m : R (Fl σU β Empty)} {f : σU → R β} {P : β → Prop} (h : Ok m (FlP (fun s => Ok (f s) P) P fun _ => False)) : Ok (R.flR m f) P := by
  obtain ⟨mp, mv⟩ := m
  obtain ⟨h1, h2⟩ := h
  cases mv with
  | nx s => exact ⟨⟨h1, h2.1⟩, h2.2⟩
  | rt b => exact ⟨⟨h1, trivial⟩, h2⟩
  | bk l => exact nomatch l
  | ct l => exact nomatch l
theorem FlP.imp {σT β L : Type} {J J' : σT → Prop} {Q Q' : β → Prop} {B B' : L → Prop} {z : Fl σT β L} (h : FlP J Q B z) (h1 : ∀ s, J s → J' s) (h2 : ∀ b, Q b → Q' b) (h3 : ∀ l, B l → B' l) : FlP J' Q' B' z := by
  cases z with
  | nx s => exact h1 s h
  | rt b => exact h2 b h
  | bk l => exact h3 l h
  | ct l => exact h
open Classical in
/-- for x in xs: if not q x: return False -/
theorem Ok.loop_q {α L : Type} {m : R (List α)} {f : Unit → α → R (Fl Unit Bool Unit)} (xs : List α) (q : α → Prop) (hm : Ok m (· = xs)) (hf : ∀ x ∈ xs, Ok (f () x) (· = if q x then .nx () else .rt false)) : Ok (R.loop (L := L) m () f) (· = if ∀ x ∈ xs, q x then .nx () else .rt false) := by
  obtain ⟨p, e⟩ := hm
  have := loop_all (L := L) (f := f) q xs hf
  refine ⟨⟨p, by rw [e]; exact this.1⟩, ?_⟩
  show loopV f () m.v = _
  rw [e]
  exact this.2
open Classical in
theorem Ok.loop_qR {α : Type} {m : R (List α)} {f : Unit → α → R (Fl Unit Bool Unit)} (xs : List α) (q : α → Prop) (hm : Ok m (· = xs)) (hf : ∀ x ∈ xs, Ok (f () x) (· = if q x then .nx () else .rt false)) : Ok (R.flR (R.loop m () f) fun _ => R.pure true) (· = decide (∀ x ∈ xs, q x)) := by
  have h := Ok.loop_q (L := Empty) xs q hm hf
  by_cases c : ∀ x ∈ xs, q x
  · rw [if_pos c] at h
    exact Ok.flR_nx h (Ok.pure (decide_eq_true c).symm)
  · rw [if_neg c] at h
    exact Ok.flR_rt h (decide_eq_false c).symm
open Classical in
theorem Ok.loop_qF {α : Type} {m : R (List α)} {f : Unit → α → R (Fl Unit Bool Unit)} (xs : List α) (q : α → Prop) (hm : Ok m (· = xs)) (hf : ∀ x ∈ xs, Ok (f () x) (· = if q x then .nx () else .rt false)) : Ok (R.fl (R.loop (L := Unit) m () f) fun _ => R.pure (Fl.nx () : Fl Unit Bool Unit)) (· = if ∀ x ∈ xs, q x then .nx () else .rt false) := by
  have h := Ok.loop_q (L := Unit) xs q hm hf
  by_cases c : ∀ x ∈ xs, q x
  · rw [if_pos c] at h ⊢
    exact Ok.fl_nx h (Ok.pure rfl)
  · rw [if_neg c] at h ⊢
    exact Ok.fl_rt h rfl
/-! what is drawn -/
theorem drw {n i : Int} (h : (N.d1 m_draw (N.of (R.pure n))).S i) : 0 ≤ i ∧ i < n := by
  obtain ⟨_, rfl, h1, h2⟩ := h
  exact ⟨h1, h2⟩
theorem drwP {n : Int} (h1 : 0 < n) (h2 : n < 1073741824) : (N.d1 m_draw (N.of (R.pure n))).p := ⟨trivial, by rintro _ rfl; exact ⟨h1, h2⟩⟩
theorem W.seq_draw {σT β : Type} {n : Int} {b : Int → (σT → Prop) → (β → Prop) → Prop} {K : σT → Prop} {Kr : β → Prop} (h1 : 0 < n) (h2 : n < 1073741824) (k : ∀ s, 0 ≤ s → s < n → b s K Kr) : W.seq (W.of (N.d1 m_draw (N.of (R.pure n)))) b K Kr := ⟨drwP h1 h2, fun s hs => k s (drw hs).1 (drw hs).2⟩
theorem W.seq_draw1 {σT β : Type} {n : Int} {b : Int → (σT → Prop) → (β → Prop) → Prop} {K : σT → Prop} {Kr : β → Prop} (h1 : 0 < n) (h2 : n < 1073741824) (k : ∀ s, 0 ≤ s → s < n → b (1 + s) K Kr) : W.seq (W.of (N.o2 T2 (fun i j : Int => i + j) (N.of (R.pure (1 : Int))) (N.d1 m_draw (N.of (R.pure n))))) b K Kr := ⟨⟨trivial, drwP h1 h2, fun _ _ _ _ => trivial⟩, by
  rintro _ ⟨_, y, rfl, hy, rfl⟩
  exact k y (drw hy).1 (drw hy).2⟩
theorem W.seq_pick {σT β α : Type} [Inhabited α] {n : Int} {m : R (List α)} (l : List α) (hm : m.p) (e : m.v = l) {b : α → (σT → Prop) → (β → Prop) → Prop} {K : σT → Prop} {Kr : β → Prop} (h1 : 0 < n) (h2 : n < 1073741824) (hl : (l.length : Int) = n) (k : ∀ i : Nat, i < l.length → b (nth l (i : Int)) K Kr) : W.seq (W.of (N.o2 (fun (xs : (List α)) i => ixOk xs.length i) nth (N.of m) (N.d1 m_draw (N.of (R.pure n))))) b K Kr := by
  refine ⟨⟨hm, drwP h1 h2, fun x y hx hy => ?_⟩, ?_⟩
  · have hx : x = m.v := hx
    rw [hx, e]
    have := drw hy
    unfold ixOk
    omega
  · rintro _ ⟨x, y, hx, hy, rfl⟩
    have hx : x = m.v := hx
    rw [hx, e]
    have := drw hy
    have := k y.toNat (by omega)
    have e2 : ((y.toNat : Nat) : Int) = y := by omega
    rw [e2] at this
    exact this
/-- [1 + draw(g) for j in range(1 + draw(n))] -/
theorem W.seq_drawn {σT β : Type} {m : N (List Int)} {f : Int → N Int} {b : List Int → (σT → Prop) → (β → Prop) → Prop} {K : σT → Prop} {Kr : β → Prop} (lo hi : Nat) (A B : Int) (hm : m.p) (hl : ∀ xs, m.S xs → lo ≤ xs.length ∧ xs.length ≤ hi) (hh : hi ≤ 100000) (hf : ∀ x, (f x).p) (hv : ∀ x y, (f x).S y → A ≤ y ∧ y ≤ B) (k : ∀ l : List Int, lo ≤ l.length → l.length ≤ hi → (∀ x ∈ l, A ≤ x ∧ x ≤ B) → b l K Kr) : W.seq (W.of (N.lc m (fun _ => R.pure true) f)) b K Kr := by
  refine ⟨⟨hm, fun xs hx => ⟨by have := hl xs hx; omega, fun x _ => ⟨trivial, fun _ => hf x⟩⟩⟩, ?_⟩
  rintro l ⟨xs, hx, he⟩
  have h1 := he.1
  have h3 : xs.filter (fun x => ((fun _ => R.pure true : Int → R Bool) x).v) = xs := List.filter_eq_self.mpr (fun _ _ => rfl)
  rw [h3] at h1
  have h2 := hl xs hx
  exact k l (by omega) (by omega) (he.all fun x _ y hy => hv x y hy)
theorem W.seq_eq {σT σU β : Type} {m : R σU} {b : σU → (σT → Prop) → (β → Prop) → Prop} {K : σT → Prop} {Kr : β → Prop} (x : σU) (h : Ok m (· = x)) (k : b x K Kr) : W.seq (W.of (N.of m)) b K Kr := W.seq_of (Ok.eq h k)
theorem drwM {m : R Int} {i : Int} (h : (N.d1 m_draw (N.of m)).S i) : 0 ≤ i ∧ i < m.v := by
  obtain ⟨_, rfl, h1, h2⟩ := h
  exact ⟨h1, h2⟩
theorem drwMP {m : R Int} (h : m.p) (h1 : 0 < m.v) (h2 : m.v < 1073741824) : (N.d1 m_draw (N.of m)).p := ⟨h, by rintro _ rfl; exact ⟨h1, h2⟩⟩
theorem Ok.flag {α : Type} {m : R (List α)} {s : Bool} {f : Bool → α → R Bool} (q : α → Bool) (xs : List α) (hm : Ok m (· = xs)) (hf : ∀ s, ∀ x ∈ xs, Ok (f s x) (· = (s && !q x))) : Ok (R.fold m s f) (· = (s && xs.all fun x => !q x)) := by
  obtain ⟨p, e⟩ := hm
  have := flag_fold (f := f) q xs s hf
  refine ⟨⟨p, by rw [e]; exact this.1⟩, ?_⟩
  show foldV f s m.v = _
  rw [e]
  exact this.2
/-! sorting -/
theorem map_rng {α β : Type} [Inhabited α] (f : α → β) (l : List α) : l.map f = (rng 0 (l.length : Int)).map fun k => f (nth l k) := by
  have h : (rng 0 (l.length : Int)).map (fun k => f (nth l k)) = ((rng 0 (l.length : Int)).map fun k => nth l k).map f := by rw [List.map_map]; rfl
  rw [h, map_nth]
theorem lt_pair (p q : Int × Int) : POrd.lt p q = decide (p.1 < q.1 ∨ (p.1 = q.1 ∧ p.2 < q.2)) := by
  show (if p.1 = q.1 then decide (p.2 < q.2) else decide (p.1 < q.1)) = _
  by_cases h : p.1 = q.1
  · rw [if_pos h, Bool.eq_iff_iff]; simp [h]
  · rw [if_neg h, Bool.eq_iff_iff]; simp [h]
theorem srt_perm {α : Type} [Rep α] [DecidableEq α] [POrd α] (xs : List α) : (srtD xs).Perm xs := List.mergeSort_perm ..
theorem srt_len {α : Type} [Rep α] [DecidableEq α] [POrd α] (xs : List α) : (srtD xs).length = xs.length := (srt_perm xs).length_eq
theorem srt_mem {α : Type} [Rep α] [DecidableEq α] [POrd α] {xs : List α} {x : α} : x ∈ srtD xs ↔ x ∈ xs := (srt_perm xs).mem_iff
theorem srt_pair (xs : List (Int × Int)) : (srtD xs).Pairwise fun p q => p.1 < q.1 ∨ (p.1 = q.1 ∧ p.2 ≤ q.2) := by
  have := List.pairwise_mergeSort (le := fun a b : Int × Int => !POrd.lt b a) (fun a b c h1 h2 => by
    rw [lt_pair] at *; simp at *; omega) (fun a b => by
    rw [lt_pair, lt_pair]; simp; omega) xs
  refine this.imp fun {p q} h => ?_
  rw [lt_pair] at h
  simp at h
  omega
theorem srt_int (xs : List Int) : (srtD xs).Pairwise (· ≤ ·) := by
  have := List.pairwise_mergeSort (le := fun a b : Int => !POrd.lt b a) (fun a b c h1 h2 => by
    show (!decide (c < a)) = true
    have h1 : (!decide (b < a)) = true := h1
    have h2 : (!decide (c < b)) = true := h2
    simp at *; omega) (fun a b => by
    show (!decide (b < a) || !decide (a < b)) = true
    simp; omega) xs
  refine this.imp fun {p q} h => ?_
  have h : (!decide (q < p)) = true := h
  simp at h
  omega
theorem perm_sum {l k : List Int} (h : l.Perm k) : l.sum = k.sum := by
  induction h with
  | nil => rfl
  | cons x _ ih => simp [ih]
  | swap x y l => simp; omega
  | trans _ _ ih1 ih2 => rw [ih1, ih2]
/-- how many of a list's items are in another one -/
theorem sum_ind (L T : List Int) (hL : L.Nodup) (hT : T.Nodup) (hs : ∀ x ∈ T, x ∈ L) : (L.map fun k => if k ∈ T then (1 : Int) else 0).sum = T.length := by
  have h1 : ∀ M : List Int, (M.map fun k => if k ∈ T then (1 : Int) else 0).sum = (M.filter fun k => decide (k ∈ T)).length := by
    intro M
    induction M with
    | nil => rfl
    | cons x M ih =>
      by_cases c : x ∈ T
      · rw [List.map_cons, List.sum_cons, ih, if_pos c, List.filter_cons_of_pos (by simpa using c)]
        simp
        omega
      · rw [List.map_cons, List.sum_cons, ih, if_neg c, List.filter_cons_of_neg (by simpa using c)]
        simp
  rw [h1]
  have : (L.filter fun k => decide (k ∈ T)).Perm T := by
    rw [List.perm_ext_iff_of_nodup (hL.filter _) hT]
    intro a
    simp
    exact fun h => hs a h
  rw [this.length_eq]
theorem rng_asc (lo hi : Int) : (rng lo hi).Pairwise (· < ·) := by
  unfold rng
  refine List.Pairwise.map _ (fun a b h => ?_) List.pairwise_lt_range
  omega
/-- the least one of those that are wanted stands first -/
theorem first_of {l : List Int} (hl : l.Pairwise (· < ·)) (q : Int → Bool) (x : Int) (hx : x ∈ l) (hq : q x = true) (hm : ∀ y ∈ l, q y = true → x ≤ y) : ∃ r, l.filter q = x :: r := by
  have hf : (l.filter q).Pairwise (· < ·) := hl.filter q
  have hxm : x ∈ l.filter q := List.mem_filter.mpr ⟨hx, hq⟩
  cases e : l.filter q with
  | nil => rw [e] at hxm; cases hxm
  | cons y r =>
    rw [e] at hxm hf
    have hy : y ∈ l.filter q := by rw [e]; exact List.mem_cons_self
    obtain ⟨hy1, hy2⟩ := List.mem_filter.mp hy
    have h1 := hm y hy1 hy2
    rcases List.mem_cons.mp hxm with z | z
    · exact ⟨r, by rw [z]⟩
    · have := (List.pairwise_cons.mp hf).1 x z
      omega
theorem lmax_is {xs : List Int} {m : Int} (h1 : m ∈ xs) (h2 : ∀ x ∈ xs, x ≤ m) : lmax xs = m := by
  cases xs with
  | nil => cases h1
  | cons x xs =>
    obtain ⟨a, b, c⟩ := foldl_max_ge (x :: xs) x
    show (x :: xs).foldl max x = m
    have hm := b m h1
    rcases c with c | c
    · have := h2 x List.mem_cons_self; omega
    · have := h2 _ c; omega
theorem cut_take {α : Type} (xs : List α) (k : Int) (h0 : 0 ≤ k) (h1 : k ≤ xs.length) : cut xs none (some k) = xs.take k.toNat := by
  unfold cut HT.sIx
  simp
  rw [if_neg (by omega)]
  congr 1
  omega
theorem cut_tail {α : Type} (x : α) (xs : List α) : cut (x :: xs) (some 1) none = xs := by
  unfold cut HT.sIx
  simp
/-! tests -/
theorem Ok.orF {a b : R Bool} (ha : Ok a (· = false)) (hb : Ok b (· = false)) : Ok (R.or a b) (· = false) := by
  refine ⟨⟨ha.1, fun _ => hb.1⟩, ?_⟩
  show (a.v || b.v) = false
  rw [ha.2, hb.2]; rfl
theorem Ok.andF {a b : R Bool} (ha : Ok a fun x => x = false ∨ Ok b (· = false)) : Ok (R.and a b) (· = false) := by
  obtain ⟨p, h⟩ := ha
  rcases h with h | h
  · refine ⟨⟨p, fun z => (Bool.false_ne_true (h.symm.trans z)).elim⟩, ?_⟩
    show (a.v && b.v) = false
    rw [h]; rfl
  · refine ⟨⟨p, fun _ => h.1⟩, ?_⟩
    show (a.v && b.v) = false
    rw [h.2]; cases a.v <;> rfl
theorem Ok.andL {a b : R Bool} (ha : Ok a (· = false)) : Ok (R.and a b) (· = false) := Ok.andF (ha.imp fun _ h => .inl h)
theorem Ok.andR {a b : R Bool} (ha : a.p) (hb : Ok b (· = false)) : Ok (R.and a b) (· = false) := Ok.andF ⟨ha, .inr hb⟩
theorem Ok.andT {a b : R Bool} (ha : Ok a (· = true)) (hb : Ok b (· = true)) : Ok (R.and a b) (· = true) := by
  refine ⟨⟨ha.1, fun _ => hb.1⟩, ?_⟩
  show (a.v && b.v) = true
  rw [ha.2, hb.2]; rfl
theorem Ok.and {a b : R Bool} {x y : Bool} (ha : Ok a (· = x)) (hb : x = true → Ok b (· = y)) : Ok (R.and a b) (· = (x && y)) := by
  obtain ⟨p, h⟩ := ha
  cases x with
  | false =>
    refine ⟨⟨p, fun z => (Bool.false_ne_true (h.symm.trans z)).elim⟩, ?_⟩
    show (a.v && b.v) = _
    rw [h]; rfl
  | true =>
    refine ⟨⟨p, fun _ => (hb rfl).1⟩, ?_⟩
    show (a.v && b.v) = _
    rw [h, (hb rfl).2]
theorem Ok.or {a b : R Bool} {x y : Bool} (ha : Ok a (· = x)) (hb : x = false → Ok b (· = y)) : Ok (R.or a b) (· = (x || y)) := by
  obtain ⟨p, h⟩ := ha
  cases x with
  | true =>
    refine ⟨⟨p, fun z => (Bool.false_ne_true (z.symm.trans h)).elim⟩, ?_⟩
    show (a.v || b.v) = _
    rw [h]; rfl
  | false =>
    refine ⟨⟨p, fun _ => (hb rfl).1⟩, ?_⟩
    show (a.v || b.v) = _
    rw [h, (hb rfl).2]
theorem Ok.notT {c : R Bool} (h : Ok c (· = true)) : Ok (R.not (R.o1 T1 (fun i : Bool => i) c)) (· = false) := by
  refine ⟨⟨h.1, trivial⟩, ?_⟩
  show (!c.v) = false
  rw [h.2]; rfl
theorem Ok.not {c : R Bool} {x : Bool} (h : Ok c (· = x)) : Ok (R.not (R.o1 T1 (fun i : Bool => i) c)) (· = !x) := by
  refine ⟨⟨h.1, trivial⟩, ?_⟩
  show (!c.v) = _
  rw [h.2]
theorem allB {l : List Int} {f : Int → Bool} {P : Prop} [Decidable P] (h : (∀ x ∈ l, f x = true) ↔ P) : ((l.filter fun _ => true).map f).all id = decide P := by
  rw [filter_all, Bool.eq_iff_iff, decide_eq_true_iff, ← h]
  simp
end FP
namespace FP
open PySem PySem.Spec PyProof.Rows L2
open Rep (rep)
/-! ### fractions -/
def fr (x : Rat) : Int × Int := (x.num, (x.den : Int))
def rat (p q : Int) : Rat := mkRat p q.toNat
theorem fr_inj {x y : Rat} : fr x = fr y ↔ x = y := by
  constructor
  · intro h
    have h1 : x.num = y.num := congrArg Prod.fst h
    have h2 : ((x.den : Nat) : Int) = y.den := congrArg Prod.snd h
    exact Rat.ext h1 (by omega)
  · rintro rfl; rfl
theorem den_pos (x : Rat) : 0 < (x.den : Int) := by have := x.den_pos; omega
theorem rat_self (x : Rat) : rat x.num x.den = x := by
  unfold rat
  rw [Int.toNat_natCast]
  exact Rat.mkRat_self x
theorem rat_fr (x : Rat) : rat (fr x).1 (fr x).2 = x := rat_self x
theorem rat_one (p : Int) : rat p 1 = (p : Rat) := Rat.mkRat_one p
theorem fr_int (p : Int) : fr (p : Rat) = (p, 1) := rfl
theorem fr_zero : fr 0 = (0, 1) := rfl
theorem fr_one : fr 1 = (1, 1) := rfl
theorem rat_div {p q : Int} (hq : 0 < q) : rat p q = (p : Rat) / (q : Rat) := by
  unfold rat
  rw [Rat.mkRat_eq_div]
  have : ((q.toNat : Nat) : Int) = q := by omega
  rw [← this]
  rfl
theorem rat_add {a b c d : Int} (hb : 0 < b) (hd : 0 < d) : rat a b + rat c d = rat (a * d + c * b) (b * d) := by
  unfold rat
  rw [Rat.mkRat_add_mkRat _ _ (by omega) (by omega)]
  have e1 : ((d.toNat : Nat) : Int) = d := by omega
  have e2 : ((b.toNat : Nat) : Int) = b := by omega
  rw [e1, e2]
  congr 1
  have : 0 ≤ b * d := Int.mul_nonneg (by omega) (by omega)
  have e3 : ((b.toNat * d.toNat : Nat) : Int) = b * d := by rw [Int.natCast_mul, e1, e2]
  omega
theorem rat_mul {a b c d : Int} (hb : 0 < b) (hd : 0 < d) : rat a b * rat c d = rat (a * c) (b * d) := by
  unfold rat
  rw [Rat.mkRat_mul_mkRat]
  congr 1
  have e1 : ((d.toNat : Nat) : Int) = d := by omega
  have e2 : ((b.toNat : Nat) : Int) = b := by omega
  have : 0 ≤ b * d := Int.mul_nonneg (by omega) (by omega)
  have e3 : ((b.toNat * d.toNat : Nat) : Int) = b * d := by rw [Int.natCast_mul, e1, e2]
  omega
theorem rat_neg (a b : Int) : -rat a b = rat (-a) b := Rat.neg_mkRat _ _
theorem rat_eq {a b c d : Int} (hb : 0 < b) (hd : 0 < d) : rat a b = rat c d ↔ a * d = c * b := by
  unfold rat
  rw [Rat.mkRat_eq_iff (by omega) (by omega)]
  have e1 : ((d.toNat : Nat) : Int) = d := by omega
  have e2 : ((b.toNat : Nat) : Int) = b := by omega
  rw [e1, e2]
theorem rat_zero {b : Int} (hb : 0 < b) : rat 0 b = 0 := by
  have : (0 : Rat) = rat 0 1 := rfl
  rw [this, rat_eq hb (by omega)]
  simp
/-- what two ints in lowest terms are -/
theorem fr_rat {p q : Int} (hq : 0 < q) : fr (rat p q) = (p / ((Nat.gcd p.natAbs q.natAbs : Nat) : Int), q / ((Nat.gcd p.natAbs q.natAbs : Nat) : Int)) := by
  unfold fr rat
  have hq2 : q.toNat ≠ 0 := by omega
  have e : q.natAbs = q.toNat := by omega
  rw [Rat.mkRat_def, dif_neg hq2, Rat.normalize_eq, e]
  apply Prod.ext
  · rfl
  · show ((q.toNat / p.natAbs.gcd q.toNat : Nat) : Int) = _
    rw [Int.natCast_ediv]
    congr 1
    omega
theorem gcd_bd {p q : Int} (hq : 0 < q) : 0 < ((Nat.gcd p.natAbs q.natAbs : Nat) : Int) ∧ ((Nat.gcd p.natAbs q.natAbs : Nat) : Int) ≤ q := by
  have h1 : 0 < Nat.gcd p.natAbs q.natAbs := Nat.gcd_pos_of_pos_right _ (by omega)
  have h2 : Nat.gcd p.natAbs q.natAbs ≤ q.natAbs := Nat.gcd_le_right _ (by omega)
  omega
theorem fr_lt {x y : Rat} : (fr x).1 * (fr y).2 < (fr y).1 * (fr x).2 ↔ x < y := (Rat.lt_iff x y).symm
/-- a whole number of n-ths -/
def Ovr (n : Nat) (x : Rat) : Prop := ∃ k : Int, x = rat k n
theorem Ovr.add {n : Nat} {x y : Rat} (hn : 0 < n) (hx : Ovr n x) (hy : Ovr n y) : Ovr n (x + y) := by
  obtain ⟨a, rfl⟩ := hx
  obtain ⟨b, rfl⟩ := hy
  refine ⟨a + b, ?_⟩
  rw [rat_add (by omega) (by omega), rat_eq (Int.mul_pos (by omega) (by omega)) (by omega)]
  grind
theorem Ovr.neg {n : Nat} {x : Rat} (hx : Ovr n x) : Ovr n (-x) := by
  obtain ⟨a, rfl⟩ := hx
  exact ⟨-a, rat_neg _ _⟩
theorem Ovr.sub {n : Nat} {x y : Rat} (hn : 0 < n) (hx : Ovr n x) (hy : Ovr n y) : Ovr n (x - y) := by
  rw [Rat.sub_eq_add_neg]
  exact hx.add hn hy.neg
theorem Ovr.int {n : Nat} (hn : 0 < n) (k : Int) : Ovr n (k : Rat) := by
  refine ⟨k * n, ?_⟩
  rw [← rat_one, rat_eq (by omega) (by omega)]
  simp
theorem Ovr.of {n m : Nat} (hn : 0 < n) (hm : 0 < m) (h : m ∣ n) (k : Int) : Ovr n (rat k m) := by
  obtain ⟨c, rfl⟩ := h
  refine ⟨k * c, ?_⟩
  rw [rat_eq (by omega) (by omega), Int.natCast_mul]
  grind
theorem Ovr.den {n : Nat} (hn : 0 < n) {x : Rat} (hx : Ovr n x) : (x.den : Int) ≤ n := by
  obtain ⟨a, rfl⟩ := hx
  have h := congrArg Prod.snd (fr_rat (p := a) (q := (n : Int)) (by omega))
  have h : ((rat a n).den : Int) = (n : Int) / ((Nat.gcd a.natAbs (n : Int).natAbs : Nat) : Int) := h
  rw [h]
  exact Int.ediv_le_self _ (by omega)
theorem rat_nonneg {p q : Int} (hq : 0 < q) : 0 ≤ rat p q ↔ 0 ≤ p := by
  rw [← Rat.num_nonneg]
  have h : (rat p q).num = p / ((Nat.gcd p.natAbs q.natAbs : Nat) : Int) := congrArg Prod.fst (fr_rat (p := p) hq)
  have g := gcd_bd (p := p) hq
  rw [h]
  exact Int.ediv_nonneg_iff_of_pos g.1
theorem rat_le {a b c d : Int} (hb : 0 < b) (hd : 0 < d) : rat a b ≤ rat c d ↔ a * d ≤ c * b := by
  rw [Rat.le_iff_sub_nonneg, Rat.sub_eq_add_neg, rat_neg, rat_add hd hb, rat_nonneg (Int.mul_pos hd hb), Int.neg_mul]
  omega
theorem rat_lt {a b c d : Int} (hb : 0 < b) (hd : 0 < d) : rat a b < rat c d ↔ a * d < c * b := by
  rw [← Rat.not_le, rat_le hd hb]
  omega
theorem fr_neg (x : Rat) : (-(fr x).1, (fr x).2) = fr (-x) := by
  unfold fr
  rw [Rat.neg_num, Rat.neg_den]
def rabs (x : Rat) : Rat := if x < 0 then -x else x
theorem num_neg {x : Rat} : (fr x).1 < 0 ↔ x < 0 := by
  have h := @Rat.num_nonneg x
  constructor
  · intro z
    apply Rat.not_le.mp
    intro q
    have := h.mpr q
    have z : x.num < 0 := z
    omega
  · intro z
    have : ¬ 0 ≤ x.num := fun q => Rat.not_le.mpr z (h.mp q)
    show x.num < 0
    omega
theorem fr_abs (x : Rat) : ((if (fr x).1 < 0 then -(fr x).1 else (fr x).1), (fr x).2) = fr (rabs x) := by
  unfold rabs
  by_cases c : x < 0
  · rw [if_pos (num_neg.mpr c), if_pos c, fr_neg]
  · rw [if_neg fun z => c (num_neg.mp z), if_neg c]
theorem Ovr.abs {n : Nat} {x : Rat} (hx : Ovr n x) : Ovr n (rabs x) := by
  unfold rabs
  split
  · exact hx.neg
  · exact hx
theorem Ovr.zero (n : Nat) : Ovr n 0 := ⟨0, by unfold rat; simp⟩
/-! ### whiles, by what holds and what falls -/
theorem wl_inv {σT β L : Type} {c : σT → R Bool} {f : σT → R (Fl σT β σT)} (I : σT → Prop) (μ : σT → Nat) (Q : β → Prop) (B : σT → Prop) (hc : ∀ s, I s → (c s).p) (hs : ∀ s, I s → (c s).v = true → Ok (f s) (FlC (fun s' => I s' ∧ μ s' < μ s) Q B)) : ∀ (n : Nat) (s : σT), I s → μ s < n → wlP c f n s ∧ FlP (fun s => (I s ∧ (c s).v = false) ∨ B s) Q (fun _ => False) (wlV c f n s : Fl σT β L)
  | 0, s, _, h => by omega
  | n + 1, s, hI, h => by
    by_cases hv : (c s).v = true
    · obtain ⟨p, q⟩ := hs s hI hv
      have key : ∀ s', (I s' ∧ μ s' < μ s) → wlP c f n s' ∧ FlP (fun s => (I s ∧ (c s).v = false) ∨ B s) Q (fun _ => False) (wlV c f n s' : Fl σT β L) := fun s' hj => wl_inv I μ Q B hc hs n s' hj.1 (by omega)
      unfold wlP wlV
      rw [if_pos hv]
      revert q
      cases (f s).v with
      | nx s' => intro q; exact ⟨⟨hc s hI, fun _ => ⟨p, (key s' q).1⟩⟩, (key s' q).2⟩
      | ct s' => intro q; exact ⟨⟨hc s hI, fun _ => ⟨p, (key s' q).1⟩⟩, (key s' q).2⟩
      | bk s' => intro q; exact ⟨⟨hc s hI, fun _ => ⟨p, trivial⟩⟩, .inr q⟩
      | rt b => intro q; exact ⟨⟨hc s hI, fun _ => ⟨p, trivial⟩⟩, q⟩
    · have hf : (c s).v = false := by cases e : (c s).v with
        | true => exact (hv e).elim
        | false => rfl
      unfold wlP wlV
      rw [if_neg hv]
      exact ⟨⟨hc s hI, fun z => (hv z).elim⟩, .inl ⟨hI, hf⟩⟩
theorem Ok.wlg {σT β L : Type} {c : σT → R Bool} {f : σT → R (Fl σT β σT)} {n : Nat} {s0 : σT} (I : σT → Prop) (μ : σT → Nat) (Q : β → Prop) (B : σT → Prop) (hI : I s0) (hμ : μ s0 < n) (hc : ∀ s, I s → (c s).p) (hs : ∀ s, I s → (c s).v = true → Ok (f s) (FlC (fun s' => I s' ∧ μ s' < μ s) Q B)) : Ok (R.wlg (L := L) n s0 c f) (FlP (fun s => (I s ∧ (c s).v = false) ∨ B s) Q fun _ => False) := wl_inv I μ Q B hc hs n s0 hI hμ
theorem wh_inv {σT : Type} {c : σT → R Bool} {f : σT → R σT} (I : σT → Prop) (μ : σT → Nat) (hc : ∀ s, I s → (c s).p) (hs : ∀ s, I s → (c s).v = true → Ok (f s) (fun s' => I s' ∧ μ s' < μ s)) : ∀ (n : Nat) (s : σT), I s → μ s < n → whileP c f n s ∧ I (whileV c f n s) ∧ (c (whileV c f n s)).v = false
  | 0, s, _, h => by omega
  | n + 1, s, hI, h => by
    by_cases hv : (c s).v = true
    · obtain ⟨p, q⟩ := hs s hI hv
      have := wh_inv I μ hc hs n _ q.1 (by omega)
      unfold whileP whileV
      rw [if_pos hv]
      exact ⟨⟨hc s hI, fun _ => ⟨p, this.1⟩⟩, this.2⟩
    · have hf : (c s).v = false := by cases e : (c s).v with
        | true => exact (hv e).elim
        | false => rfl
      unfold whileP whileV
      rw [if_neg hv]
      exact ⟨⟨hc s hI, fun z => (hv z).elim⟩, hI, hf⟩
theorem Ok.whl {σT : Type} {c : σT → R Bool} {f : σT → R σT} {n : Nat} {s0 : σT} {P : σT → Prop} (I : σT → Prop) (μ : σT → Nat) (hI : I s0) (hμ : μ s0 < n) (hc : ∀ s, I s → (c s).p) (hs : ∀ s, I s → (c s).v = true → Ok (f s) (fun s' => I s' ∧ μ s' < μ s)) (hP : ∀ s, I s → (c s).v = false → P s) : Ok (R.whl n s0 c f) P := by
  obtain ⟨h1, h2, h3⟩ := wh_inv I μ hc hs n s0 hI hμ
  exact ⟨h1, hP _ h2 h3⟩
end FP
namespace FP
open PySem PySem.Spec PyProof.Rows L2
open Rep (rep)
def topS (i : Nat) : Stmt := PySem.Challenge.pw_fairparts_k87_whole_costs_of_asks.main.body.getD i (.Pass ⟨0, 0, 0, 0⟩)
theorem k__law_below : OkN "_law_below" := ⟨by decide +kernel, by decide +kernel, by decide +kernel⟩
theorem k__law_draw : OkN "_law_draw" := ⟨by decide +kernel, by decide +kernel, by decide +kernel⟩
theorem k__law_exact : OkN "_law_exact" := ⟨by decide +kernel, by decide +kernel, by decide +kernel⟩
theorem k__law_lowest : OkN "_law_lowest" := ⟨by decide +kernel, by decide +kernel, by decide +kernel⟩
theorem k__law_minus : OkN "_law_minus" := ⟨by decide +kernel, by decide +kernel, by decide +kernel⟩
theorem k__law_offers : OkN "_law_offers" := ⟨by decide +kernel, by decide +kernel, by decide +kernel⟩
theorem k__law_plus : OkN "_law_plus" := ⟨by decide +kernel, by decide +kernel, by decide +kernel⟩
theorem k__law_refill : OkN "_law_refill" := ⟨by decide +kernel, by decide +kernel, by decide +kernel⟩
theorem k__law_serial : OkN "_law_serial" := ⟨by decide +kernel, by decide +kernel, by decide +kernel⟩
theorem k_above : OkN "above" := ⟨by decide +kernel, by decide +kernel, by decide +kernel⟩
theorem k_add : OkN "add" := ⟨by decide +kernel, by decide +kernel, by decide +kernel⟩
theorem k_alike : OkN "alike" := ⟨by decide +kernel, by decide +kernel, by decide +kernel⟩
theorem k_alone : OkN "alone" := ⟨by decide +kernel, by decide +kernel, by decide +kernel⟩
theorem k_alone_cost : OkN "alone_cost" := ⟨by decide +kernel, by decide +kernel, by decide +kernel⟩
theorem k_asks : OkN "asks" := ⟨by decide +kernel, by decide +kernel, by decide +kernel⟩
theorem k_at : OkN "at" := ⟨by decide +kernel, by decide +kernel, by decide +kernel⟩
theorem k_below : OkN "below" := ⟨by decide +kernel, by decide +kernel, by decide +kernel⟩
theorem k_bent : OkN "bent" := ⟨by decide +kernel, by decide +kernel, by decide +kernel⟩
theorem k_cell : OkN "cell" := ⟨by decide +kernel, by decide +kernel, by decide +kernel⟩
theorem k_common : OkN "common" := ⟨by decide +kernel, by decide +kernel, by decide +kernel⟩
theorem k_cost : OkN "cost" := ⟨by decide +kernel, by decide +kernel, by decide +kernel⟩
theorem k_costs : OkN "costs" := ⟨by decide +kernel, by decide +kernel, by decide +kernel⟩
theorem k_digit : OkN "digit" := ⟨by decide +kernel, by decide +kernel, by decide +kernel⟩
theorem k_due : OkN "due" := ⟨by decide +kernel, by decide +kernel, by decide +kernel⟩
theorem k_even_asks : OkN "even_asks" := ⟨by decide +kernel, by decide +kernel, by decide +kernel⟩
theorem k_first : OkN "first" := ⟨by decide +kernel, by decide +kernel, by decide +kernel⟩
theorem k_gain : OkN "gain" := ⟨by decide +kernel, by decide +kernel, by decide +kernel⟩
theorem k_gain_from : OkN "gain_from" := ⟨by decide +kernel, by decide +kernel, by decide +kernel⟩
theorem k_gap : OkN "gap" := ⟨by decide +kernel, by decide +kernel, by decide +kernel⟩
theorem k_gcd : OkN "gcd" := ⟨by decide +kernel, by decide +kernel, by decide +kernel⟩
theorem k_honest : OkN "honest" := ⟨by decide +kernel, by decide +kernel, by decide +kernel⟩
theorem k_is_bending_up : OkN "is_bending_up" := ⟨by decide +kernel, by decide +kernel, by decide +kernel⟩
theorem k_is_cost_row : OkN "is_cost_row" := ⟨by decide +kernel, by decide +kernel, by decide +kernel⟩
theorem k_is_less : OkN "is_less" := ⟨by decide +kernel, by decide +kernel, by decide +kernel⟩
theorem k_j : OkN "j" := ⟨by decide +kernel, by decide +kernel, by decide +kernel⟩
theorem k_k : OkN "k" := ⟨by decide +kernel, by decide +kernel, by decide +kernel⟩
theorem k_last : OkN "last" := ⟨by decide +kernel, by decide +kernel, by decide +kernel⟩
theorem k_left : OkN "left" := ⟨by decide +kernel, by decide +kernel, by decide +kernel⟩
theorem k_lowest : OkN "lowest" := ⟨by decide +kernel, by decide +kernel, by decide +kernel⟩
theorem k_made : OkN "made" := ⟨by decide +kernel, by decide +kernel, by decide +kernel⟩
theorem k_many : OkN "many" := ⟨by decide +kernel, by decide +kernel, by decide +kernel⟩
theorem k_mean_shares : OkN "mean_shares" := ⟨by decide +kernel, by decide +kernel, by decide +kernel⟩
theorem k_means : OkN "means" := ⟨by decide +kernel, by decide +kernel, by decide +kernel⟩
theorem k_more : OkN "more" := ⟨by decide +kernel, by decide +kernel, by decide +kernel⟩
theorem k_most : OkN "most" := ⟨by decide +kernel, by decide +kernel, by decide +kernel⟩
theorem k_n : OkN "n" := ⟨by decide +kernel, by decide +kernel, by decide +kernel⟩
theorem k_offers : OkN "offers" := ⟨by decide +kernel, by decide +kernel, by decide +kernel⟩
theorem k_one : OkN "one" := ⟨by decide +kernel, by decide +kernel, by decide +kernel⟩
theorem k_other : OkN "other" := ⟨by decide +kernel, by decide +kernel, by decide +kernel⟩
theorem k_other_cost : OkN "other_cost" := ⟨by decide +kernel, by decide +kernel, by decide +kernel⟩
theorem k_out : OkN "out" := ⟨by decide +kernel, by decide +kernel, by decide +kernel⟩
theorem k_p : OkN "p" := ⟨by decide +kernel, by decide +kernel, by decide +kernel⟩
theorem k_part : OkN "part" := ⟨by decide +kernel, by decide +kernel, by decide +kernel⟩
theorem k_pay : OkN "pay" := ⟨by decide +kernel, by decide +kernel, by decide +kernel⟩
theorem k_payers : OkN "payers" := ⟨by decide +kernel, by decide +kernel, by decide +kernel⟩
theorem k_pays : OkN "pays" := ⟨by decide +kernel, by decide +kernel, by decide +kernel⟩
theorem k_people : OkN "people" := ⟨by decide +kernel, by decide +kernel, by decide +kernel⟩
theorem k_pivot_gain : OkN "pivot_gain" := ⟨by decide +kernel, by decide +kernel, by decide +kernel⟩
theorem k_pivots : OkN "pivots" := ⟨by decide +kernel, by decide +kernel, by decide +kernel⟩
theorem k_q : OkN "q" := ⟨by decide +kernel, by decide +kernel, by decide +kernel⟩
theorem k_rest : OkN "rest" := ⟨by decide +kernel, by decide +kernel, by decide +kernel⟩
theorem k_script : OkN "script" := ⟨by decide +kernel, by decide +kernel, by decide +kernel⟩
theorem k_second : OkN "second" := ⟨by decide +kernel, by decide +kernel, by decide +kernel⟩
theorem k_serial_shares : OkN "serial_shares" := ⟨by decide +kernel, by decide +kernel, by decide +kernel⟩
theorem k_shares : OkN "shares" := ⟨by decide +kernel, by decide +kernel, by decide +kernel⟩
theorem k_sign : OkN "sign" := ⟨by decide +kernel, by decide +kernel, by decide +kernel⟩
theorem k_size : OkN "size" := ⟨by decide +kernel, by decide +kernel, by decide +kernel⟩
theorem k_some : OkN "some" := ⟨by decide +kernel, by decide +kernel, by decide +kernel⟩
theorem k_state : OkN "state" := ⟨by decide +kernel, by decide +kernel, by decide +kernel⟩
theorem k_stay : OkN "stay" := ⟨by decide +kernel, by decide +kernel, by decide +kernel⟩
theorem k_step : OkN "step" := ⟨by decide +kernel, by decide +kernel, by decide +kernel⟩
theorem k_steps : OkN "steps" := ⟨by decide +kernel, by decide +kernel, by decide +kernel⟩
theorem k_theirs : OkN "theirs" := ⟨by decide +kernel, by decide +kernel, by decide +kernel⟩
theorem k_told : OkN "told" := ⟨by decide +kernel, by decide +kernel, by decide +kernel⟩
theorem k_total : OkN "total" := ⟨by decide +kernel, by decide +kernel, by decide +kernel⟩
theorem k_want : OkN "want" := ⟨by decide +kernel, by decide +kernel, by decide +kernel⟩
theorem k_whole : OkN "whole" := ⟨by decide +kernel, by decide +kernel, by decide +kernel⟩
theorem k_worth : OkN "worth" := ⟨by decide +kernel, by decide +kernel, by decide +kernel⟩
theorem k_worths : OkN "worths" := ⟨by decide +kernel, by decide +kernel, by decide +kernel⟩
/-! ## _law_exact -/
abbrev s__law_exact : Stmt := topS 19
abbrev n__law_exact : List Str := ["first", "second", "alike", "k"]
theorem sc__law_exact : FnScope n__law_exact ["first", "second"] (defScope s__law_exact) := ⟨rfl, rfl, rfl, by decide +kernel, rfl, by decide +kernel, by decide +kernel⟩
theorem nd__law_exact : (n__law_exact).Nodup := sc__law_exact.nd
theorem lf__law_exact_first : L2.Loc (defScope s__law_exact) "first" := locB rfl
theorem vf__law_exact_first : L2.Vis (defScope s__law_exact) "first" := visB rfl
theorem lf__law_exact_second : L2.Loc (defScope s__law_exact) "second" := locB rfl
theorem vf__law_exact_second : L2.Vis (defScope s__law_exact) "second" := visB rfl
theorem lf__law_exact_alike : L2.Loc (defScope s__law_exact) "alike" := locB rfl
theorem vf__law_exact_alike : L2.Vis (defScope s__law_exact) "alike" := visB rfl
def m__law_exact (rec : D → D → R Bool) (v_first v_second : D) : R Bool :=
  (R.ite (R.o1 T1 (fun i : Bool => i) (R.o1 T1 isSq (R.pure v_first))) (R.ite (R.or (R.o2 T2 (fun i j : Bool => !decide (i = j)) (R.o1 T1 (fun d => FP.isi1 d "list") (R.pure v_first)) (R.o1 T1 (fun d => FP.isi1 d "list") (R.pure v_second))) (R.o2 T2 (fun i j : Bool => !decide (i = j)) (R.o1 T1 (fun d => FP.isi1 d "tuple") (R.pure v_first)) (R.o1 T1 (fun d => FP.isi1 d "tuple") (R.pure v_second)))) (R.pure false)
  (R.and (R.o2 T2 (fun i j : Int => decide (i = j)) (R.o1 (fun d : D => isSq d = true) (fun d : D => ((itemsD d).length : Int)) (R.pure v_first)) (R.o1 (fun d : D => isSq d = true) (fun d : D => ((itemsD d).length : Int)) (R.pure v_second))) (R.o1 T1 (fun xs : List Bool => xs.all id) (R.lc (α := Int) (R.rng1 (R.o1 (fun d : D => isSq d = true) (fun d : D => ((itemsD d).length : Int)) (R.pure v_first))) (fun _ => R.pure true) (fun y1 => (R.c2 rec (R.o2 (fun (d : D) (i : Int) => isSq d = true ∧ 0 ≤ i ∧ i < (itemsD d).length) (fun d i => nth (itemsD d) i) (R.pure v_first) (R.pure y1)) (R.o2 (fun (d : D) (i : Int) => isSq d = true ∧ 0 ≤ i ∧ i < (itemsD d).length) (fun d i => nth (itemsD d) i) (R.pure v_second) (R.pure y1))))))))
  (R.ite (R.or (R.o2 T2 (fun (x : D) (_ : Option Unit) => isNn x) (R.pure v_first) (R.pure (none : Option Unit))) (R.o2 T2 (fun (x : D) (_ : Option Unit) => isNn x) (R.pure v_second) (R.pure (none : Option Unit)))) (R.and (R.o2 T2 (fun (x : D) (_ : Option Unit) => isNn x) (R.pure v_first) (R.pure (none : Option Unit))) (R.o2 T2 (fun (x : D) (_ : Option Unit) => isNn x) (R.pure v_second) (R.pure (none : Option Unit))))
  (R.bind (R.and (R.o2 T2 (fun i j : Bool => decide (i = j)) (R.o1 T1 (fun d => FP.isi1 d "str") (R.pure v_first)) (R.o1 T1 (fun d => FP.isi1 d "str") (R.pure v_second))) (R.o2 T2 (fun i j : Bool => decide (i = j)) (R.o1 T1 (fun d => FP.isi1 d "bool") (R.pure v_first)) (R.o1 T1 (fun d => FP.isi1 d "bool") (R.pure v_second)))) fun w2 =>
  (R.and (R.pure w2) (R.and (R.o2 T2 (fun i j : Bool => decide (i = j)) (R.o1 T1 (fun d => FP.isi1 d "int") (R.pure v_first)) (R.o1 T1 (fun d => FP.isi1 d "int") (R.pure v_second))) (R.o2 (fun x y : D => SeqAt.shaped x = true ∧ SeqAt.shaped y = true) (fun x y : D => PyData.eqv x y) (R.pure v_first) (R.pure v_second)))))))
theorem xok__law_exact (k : Nat) (x y : D) (h : (exF (k + 1) x y).p) : (m__law_exact (exF k) x y).p ∧ (m__law_exact (exF k) x y).v = (exF (k + 1) x y).v := by
  obtain ⟨hd, hx, hy, hs⟩ := h
  have key : ∀ xs ys : List PyData, xs.length = ys.length → PyData.depthAll xs + 1 < k + 1 → PyData.canLayAll0 xs = true → PyData.canLayAll0 ys = true → PyData.depthAll xs + 1 ≤ 64 → PyData.depthAll ys + 1 ≤ 64 → xs.length ≤ 100000 → smAll xs = true → ∀ i : Nat, i < xs.length → (nth xs (i : Int)).depth < k ∧ SeqAt.shaped (nth xs (i : Int)) = true ∧ SeqAt.shaped (nth ys (i : Int)) = true ∧ smD (nth xs (i : Int)) = true := by
    intro xs ys hl h1 h2 h3 h4 h5 h6 h7 i hi
    rw [nthD _ _ hi, nthD _ _ (by omega)]
    have m1 : xs[i] ∈ xs := List.getElem_mem _
    have m2 : ys[i]'(by omega) ∈ ys := List.getElem_mem _
    have d1 := (depAll_iff xs _).mp (Nat.le_refl _) _ m1
    have d2 := (depAll_iff ys _).mp (Nat.le_refl _) _ m2
    refine ⟨by omega, ?_, ?_, (smAll_iff _).mp h7 _ m1⟩
    · unfold SeqAt.shaped
      rw [(canAll_iff _).mp h2 _ m1]; simp; omega
    · unfold SeqAt.shaped
      rw [(canAll_iff _).mp h3 _ m2]; simp; omega
  unfold SeqAt.shaped at hx hy
  cases x <;> cases y
  all_goals first
    | (simp [PyData.canLay0] at hx; done)
    | (simp [PyData.canLay0] at hy; done)
    | (simp [m__law_exact, exF, exB, isSq, isi1, isNn, PyData.eqv, SeqAt.shaped, PyData.canLay0, PyData.depth]; done)
    | skip
  case bool.bool a b => cases a <;> cases b <;> simp [m__law_exact, exF, exB, isSq, isi1, isNn, PyData.eqv, SeqAt.shaped, PyData.canLay0, PyData.depth]
  case int.int a b =>
    refine ⟨by simp [m__law_exact, isSq, isi1, isNn, SeqAt.shaped, PyData.canLay0, PyData.depth], ?_⟩
    rw [Bool.eq_iff_iff]
    simp [m__law_exact, exF, exB, isSq, isi1, isNn, PyData.eqv]
  case str.str a b =>
    have hx2 := Bool.and_eq_true_iff.mp hx
    have hy2 := Bool.and_eq_true_iff.mp hy
    refine ⟨by simp only [m__law_exact]; simp [isSq, isi1, isNn, SeqAt.shaped]; exact ⟨⟨hx2.1, of_decide_eq_true hx2.2⟩, hy2.1, of_decide_eq_true hy2.2⟩, ?_⟩
    rw [Bool.eq_iff_iff]
    simp [m__law_exact, exF, exB, isSq, isi1, isNn, PyData.eqv]
  case' list.list xs ys => let mk := PyData.list
  case' tuple.tuple xs ys => let mk := PyData.tuple
  all_goals
    have hx' : PyData.canLayAll0 xs = true ∧ PyData.depthAll xs + 1 ≤ 64 := by simpa [PyData.canLay0, PyData.depth] using hx
    have hy' : PyData.canLayAll0 ys = true ∧ PyData.depthAll ys + 1 ≤ 64 := by simpa [PyData.canLay0, PyData.depth] using hy
    have hs' : xs.length ≤ 100000 ∧ smAll xs = true := by simpa [smD] using hs
    have hd' : PyData.depthAll xs + 1 < k + 1 := by simpa [PyData.depth] using hd
    by_cases hl : xs.length = ys.length
    · have kk := key xs ys hl hd' hx'.1 hy'.1 hx'.2 hy'.2 hs'.1 hs'.2
      have ha := all_exB xs ys hl
      constructor
      · simp [m__law_exact, isSq, isi1, isNn, itemsD, hl]
        rw [← hl]
        refine ⟨by omega, by simp [rng]; omega, ?_⟩
        intro i hi
        obtain ⟨j, hj, rfl⟩ := List.mem_map.mp hi
        have hj : j < xs.length := by simpa using hj
        have := kk j hj
        simp only [Int.zero_add]
        exact ⟨⟨by omega, by omega⟩, this⟩
      · have hf : (rng 0 (xs.length : Int)).filter (fun _ => true) = rng 0 (xs.length : Int) := by simp
        simp [m__law_exact, exF, isSq, isi1, isNn, itemsD, ← hl] at ha ⊢
        rw [ha]
        simp [exB]
    · have hl' : ¬ ((xs.length : Int) = ys.length) := by omega
      have hne : xs ≠ ys := fun z => hl (by rw [z])
      constructor
      · simp [m__law_exact, isSq, isi1, isNn, itemsD, hl']
      · simp [m__law_exact, exF, exB, isSq, isi1, isNn, itemsD, hl', hne]
theorem w1__law_exact {P : Program} {w : World} {K : PySem.W.Frag} {mg : Str → Option Value} {base : Heap} {T : Addr → Prop} (z_all : mg "all" = none) (z_bool : mg "bool" = none) (z_int : mg "int" = none) (z_isinstance : mg "isinstance" = none) (z_len : mg "len" = none) (z_list : mg "list" = none) (z_range : mg "range" = none) (z_str : mg "str" = none) (z_tuple : mg "tuple" = none)
    {f : Addr} {fd : FuncData} (F : FunD K "_law_exact" "_law_exact" (defArgs s__law_exact) (defBody s__law_exact) (defScope s__law_exact) [] [] f fd) (hm : mg "_law_exact" = some (.ref f)) (hb : Binds K fd ["first", "second"] []) (k : Nat) (c_rec : Fn P w K mg base k "_law_exact" (SpD K T [true, true] (G2 (exF k)))) : Fn P w K mg base (k + 1) "_law_exact" (SpD K T [true, true] (G2 (exF (k + 1)))) :=
  Fn.of F sc__law_exact hm hb rfl fun ds P0 ⟨v_first, v_second, hds, hp, hP⟩ => ⟨[I v_first, I v_second], by rw [hds]; exact (.im (.im .nil)), fun cd A outer s H E hcd hr => by
  have pown : PassesOwn (model P w) (cxF P w K mg base n__law_exact "_law_exact" (defScope s__law_exact) f cd A outer s H E).A (cxF P w K mg base n__law_exact "_law_exact" (defScope s__law_exact) f cd A outer s H E).env (fun _ _ => False) := PassesOwn.never
  have h : BR (cxF P w K mg base n__law_exact "_law_exact" (defScope s__law_exact) f cd A outer s H E) (noM T) (defBody s__law_exact) [I v_first, I v_second, U, U] (m__law_exact (exF k) v_first v_second) :=
   (BR.cut (RT.tru t_bool (RE.bor (RE.isi2 rfl z_isinstance rfl z_list rfl z_tuple (RE.var 0 rfl rfl vf__law_exact_first k_first))) (fun _ => rfl)) (BR.cut (RW.t (RW.or (RT.cmp c_neB (RE.bor (RE.isi1 (n := "list") (by decide) rfl z_isinstance rfl z_list bb_list kb_list (RE.var 0 rfl rfl vf__law_exact_first k_first))) (RE.bor (RE.isi1 (n := "list") (by decide) rfl z_isinstance rfl z_list bb_list kb_list (RE.var 1 rfl rfl vf__law_exact_second k_second))) (nm_ne _)) (RT.or1 (RT.cmp c_neB (RE.bor (RE.isi1 (n := "tuple") (by decide) rfl z_isinstance rfl z_tuple bb_tuple kb_tuple (RE.var 0 rfl rfl vf__law_exact_first k_first))) (RE.bor (RE.isi1 (n := "tuple") (by decide) rfl z_isinstance rfl z_tuple bb_tuple kb_tuple (RE.var 1 rfl rfl vf__law_exact_second k_second))) (nm_ne _))))) (BR.ret RE.bl)
  (BR.ret (RE.and (RE.bor (RE.cmp c_eqI (RE.bor (RE.b1 b_lenD rfl z_len boot_len (RE.bor (RE.var 0 rfl rfl vf__law_exact_first k_first)) rfl kb_len)) (RE.bor (RE.b1 b_lenD rfl z_len boot_len (RE.bor (RE.var 1 rfl rfl vf__law_exact_second k_second)) rfl kb_len)) (nm_eq _))) (RE.one (RE.b1 (b_all rfl) rfl z_all bb_all (RE.bor (RF.re (RF.lc (own := [("k", 3)]) (ix := [3]) (tE := (fun y1 : Int => [I v_first, I v_second, U, I y1])) rfl nd__law_exact (blkOk_by rfl) (by decide) (by decide) (RI.range1 rfl z_range (RE.bor (RE.b1 b_lenD rfl z_len boot_len (RE.bor (RE.var 0 rfl rfl vf__law_exact_first k_first)) rfl kb_len))) (fun y1 _ _ _ _ _ => (RG.name 3 nd__law_exact rfl (locB rfl) (.inr rfl) rfl)) (fun _ => .inl ⟨rfl, rfl⟩) (fun y1 _ _ _ _ _ => (RE.call2 c_rec hr (Nat.le_refl _) rfl (RA.im (RE.ix x_D (RE.bor (RE.var 0 rfl rfl (visB rfl) k_first)) (RE.bor (RE.var 3 rfl rfl (visB rfl) k_k)) (fun _ _ => rfl)) (RA.im (RE.ix x_D (RE.bor (RE.var 1 rfl rfl (visB rfl) k_second)) (RE.bor (RE.var 3 rfl rfl (visB rfl) k_k)) (fun _ _ => rfl)) RA.nil)) k__law_exact)) (fun _ => rfl)))) rfl kb_all)))))
  (BR.cut (RW.t (RW.or (RT.cmp c_isND (RE.bor (RE.var 0 rfl rfl vf__law_exact_first k_first)) (RE.bor RE.non) (nm_is _)) (RT.or1 (RT.cmp c_isND (RE.bor (RE.var 1 rfl rfl vf__law_exact_second k_second)) (RE.bor RE.non) (nm_is _))))) (BR.ret (RE.and (RE.bor (RE.cmp c_isND (RE.bor (RE.var 0 rfl rfl vf__law_exact_first k_first)) (RE.bor RE.non) (nm_is _))) (RE.one (RE.cmp c_isND (RE.bor (RE.var 1 rfl rfl vf__law_exact_second k_second)) (RE.bor RE.non) (nm_is _)))))
  (BR.cons (SN.set (E := fun w2 : Bool => [I v_first, I v_second, I w2, U]) 2 nd__law_exact rfl lf__law_exact_alike (.inl rfl) (RE.and (RE.bor (RE.cmp c_eqB (RE.bor (RE.isi1 (n := "str") (by decide) rfl z_isinstance rfl z_str bb_str kb_str (RE.var 0 rfl rfl vf__law_exact_first k_first))) (RE.bor (RE.isi1 (n := "str") (by decide) rfl z_isinstance rfl z_str bb_str kb_str (RE.var 1 rfl rfl vf__law_exact_second k_second))) (nm_eq _))) (RE.one (RE.cmp c_eqB (RE.bor (RE.isi1 (n := "bool") (by decide) rfl z_isinstance rfl z_bool bb_bool kb_bool (RE.var 0 rfl rfl vf__law_exact_first k_first))) (RE.bor (RE.isi1 (n := "bool") (by decide) rfl z_isinstance rfl z_bool bb_bool kb_bool (RE.var 1 rfl rfl vf__law_exact_second k_second))) (nm_eq _)))) (fun _ => rfl)) fun w2 =>
  (BR.ret (RE.and (RE.bor (RE.var 2 rfl rfl vf__law_exact_alike k_alike)) (RE.and (RE.bor (RE.cmp c_eqB (RE.bor (RE.isi1 (n := "int") (by decide) rfl z_isinstance rfl z_int bb_int kb_int (RE.var 0 rfl rfl vf__law_exact_first k_first))) (RE.bor (RE.isi1 (n := "int") (by decide) rfl z_isinstance rfl z_int bb_int kb_int (RE.var 1 rfl rfl vf__law_exact_second k_second))) (nm_eq _))) (RE.one (RE.cmp (c_eqD hr) (RE.bor (RE.var 0 rfl rfl vf__law_exact_first k_first)) (RE.bor (RE.var 1 rfl rfl vf__law_exact_second k_second)) (nm_eq _)))))))))
  obtain ⟨q1, q2⟩ := xok__law_exact k v_first v_second hp
  exact RdS.imp (h q1) (fun _ z => z) (fun d e => by rw [e, q2]; exact hP) (fun _ z => z) (fun _ z => z)⟩
theorem w__law_exact {P : Program} {w : World} {K : PySem.W.Frag} {mg : Str → Option Value} {base : Heap} {T : Addr → Prop} (z_all : mg "all" = none) (z_bool : mg "bool" = none) (z_int : mg "int" = none) (z_isinstance : mg "isinstance" = none) (z_len : mg "len" = none) (z_list : mg "list" = none) (z_range : mg "range" = none) (z_str : mg "str" = none) (z_tuple : mg "tuple" = none)
    {f : Addr} {fd : FuncData} (F : FunD K "_law_exact" "_law_exact" (defArgs s__law_exact) (defBody s__law_exact) (defScope s__law_exact) [] [] f fd) (hm : mg "_law_exact" = some (.ref f)) (hb : Binds K fd ["first", "second"] []) : ∀ k : Nat, Fn P w K mg base k "_law_exact" (SpD K T [true, true] (G2 (exF k)))
  | 0 => Fn.bot hm F.kp hb
  | k + 1 => w1__law_exact z_all z_bool z_int z_isinstance z_len z_list z_range z_str z_tuple F hm hb k (w__law_exact z_all z_bool z_int z_isinstance z_len z_list z_range z_str z_tuple F hm hb k)
/-! ## _law_refill -/
abbrev s__law_refill : Stmt := topS 17
abbrev n__law_refill : List Str := ["script", "k", "cell"]
theorem sc__law_refill : FnScope n__law_refill ["script", "k"] (defScope s__law_refill) := ⟨rfl, rfl, rfl, by decide +kernel, rfl, by decide +kernel, by decide +kernel⟩
theorem nd__law_refill : (n__law_refill).Nodup := sc__law_refill.nd
theorem lf__law_refill_script : L2.Loc (defScope s__law_refill) "script" := locB rfl
theorem vf__law_refill_script : L2.Vis (defScope s__law_refill) "script" := visB rfl
theorem lf__law_refill_k : L2.Loc (defScope s__law_refill) "k" := locB rfl
theorem vf__law_refill_k : L2.Vis (defScope s__law_refill) "k" := visB rfl
theorem lf__law_refill_cell : L2.Loc (defScope s__law_refill) "cell" := locB rfl
theorem vf__law_refill_cell : L2.Vis (defScope s__law_refill) "cell" := visB rfl
def wp__law_refill (is0 : List Int) (v_k : Int) : (Unit → Prop) → (Int → Prop) → Prop :=
  (W.seq (W.of (N.of (R.pure (0 : Int)))) fun w1 =>
  (W.seq (W.ite (N.of (R.pure (!is0.isEmpty))) (W.seq (W.of (⟨((N.of (R.o2 (fun _ j => 0 < j) (fun i j : Int => i % j) (R.pure v_k) (R.pure (is0.length : Int))))).p ∧ ∀ k, ((N.of (R.o2 (fun _ j => 0 < j) (fun i j : Int => i % j) (R.pure v_k) (R.pure (is0.length : Int))))).S k → 0 ≤ k ∧ k < is0.length, fun _ => True⟩ : N Int)) fun w4 =>
  (W.nil (w4 : Int))) (W.nil (w1 : Int))) fun w3 =>
  (W.seq (W.of (N.of (R.ite (R.o2 T2 (fun i j : Int => decide (i < j)) (R.pure w3) (R.pure (0 : Int))) (R.bind (R.o2 T2 (fun i j : Int => i - j) (R.pure (1 : Int)) (R.o2 CMul (fun i j : Int => i * j) (R.pure (2 : Int)) (R.pure w3))) fun w7 =>
  (R.pure (w7 : Int))) (R.pure (w3 : Int))))) fun w6 =>
  (W.seq (W.ite (N.of (R.and (R.o2 T2 (fun i j : Int => decide (j ≤ i)) (R.pure w6) (R.o2 CPow (fun i j : Int => i ^ j.toNat) (R.pure (10 : Int)) (R.pure (18 : Int)))) (R.o2 T2 (fun i j : Int => decide (i < j)) (R.pure v_k) (R.pure (is0.length : Int))))) (W.ret (N.of (R.pure w6))) (W.nil (() : Unit))) fun w8 =>
  (W.ret (N.of (R.o2 (fun _ j => 0 < j) (fun i j : Int => i % j) (R.o1 T1 (fun i : Int => i) (R.o2 T2 (fun i j : Int => i + j) (R.o2 CMul (fun i j : Int => i * j) (R.o1 T1 (fun i : Int => i) (R.o2 T2 (fun i j : Int => i + j) (R.o2 T2 (fun i j : Int => i + j) (R.o2 CMul (fun i j : Int => i * j) (R.pure w6) (R.pure (48271 : Int))) (R.o2 CMul (fun i j : Int => i * j) (R.pure v_k) (R.pure (69621 : Int)))) (R.pure (12345 : Int)))) (R.pure (40692 : Int))) (R.pure (7 : Int)))) (R.pure (2147483399 : Int)))))))))
theorem wok__law_refill (is0 : List Int) (v_k : Int) : wp__law_refill is0 v_k (fun _ => False) (fun _ => True) := by
  cases is0 with
  | nil => simp [wp__law_refill, CMul, CPow]
  | cons x l =>
    have hp : (0 : Int) < (l.length : Int) + 1 := by omega
    have := Int.emod_nonneg v_k (Int.ne_of_gt hp)
    have := Int.emod_lt_of_pos v_k hp
    simp [wp__law_refill, CMul, CPow]
    exact ⟨by assumption, by assumption⟩
theorem w__law_refill {P : Program} {w : World} {K : PySem.W.Frag} {mg : Str → Option Value} {base : Heap} {T : Addr → Prop} (z_int : mg "int" = none) (z_len : mg "len" = none)
    {f : Addr} {fd : FuncData} (F : FunD K "_law_refill" "_law_refill" (defArgs s__law_refill) (defBody s__law_refill) (defScope s__law_refill) [] [] f fd) (hm : mg "_law_refill" = some (.ref f)) (hb : Binds K fd ["script", "k"] []) : Fn P w K mg base 1 "_law_refill" (SpR K T) :=
  Fn.ofR F sc__law_refill hm hb rfl fun cd A outer s H E M is0 v_k hr => by
  have pown : PassesOwn (model P w) (cxF P w K mg base n__law_refill "_law_refill" (defScope s__law_refill) f cd A outer s H E).A (cxF P w K mg base n__law_refill "_law_refill" (defScope s__law_refill) f cd A outer s H E).env (fun _ _ => False) := PassesOwn.never
  have h : WB (cxF P w K mg base n__law_refill "_law_refill" (defScope s__law_refill) f cd A outer s H E) M (β := Int) (defBody s__law_refill) [Sl.sc is0, I v_k, U] (fun _ : Unit => []) (wp__law_refill is0 v_k) :=
   (WB.cons (WS.of (NS.of (SN.set (E := fun w1 : Int => [Sl.sc is0, I v_k, I w1]) 2 nd__law_refill rfl lf__law_refill_cell (.inl rfl) RE.int (fun _ => rfl)))) fun w1 =>
  (WB.cons (WS.ite (E := fun w3 : Int => [Sl.sc is0, I v_k, I w3]) (NT.of (RT.truSc 0 rfl rfl vf__law_refill_script k_script (fun _ => rfl))) (WB.cons (WS.of (NS.set (E := fun w4 : Int => [Sl.sc is0, I v_k, I w4]) 2 nd__law_refill rfl lf__law_refill_cell (.inl rfl) (NE.ixSc 0 rfl rfl vf__law_refill_script k_script (NE.nb (NE.of (RE.bin o_mod (RE.bor (RE.var 1 rfl rfl vf__law_refill_k k_k)) (RE.bor (RE.lenSc 0 rfl rfl vf__law_refill_script k_script rfl z_len))))) (fun _ _ => rfl)) (fun _ => rfl))) fun w4 =>
  (WB.nil w4 (.r (.r (.r .n))))) (WB.nil w1 (.r (.r (.r .n))))) fun w3 =>
  (WB.cons (WS.of (NS.of (SN.ite (E := fun w6 : Int => [Sl.sc is0, I v_k, I w6]) (RT.cmp c_lt (RE.bor (RE.var 2 rfl rfl vf__law_refill_cell k_cell)) (RE.bor RE.int) (nm_lt _)) (BN.cons (SN.set (E := fun w7 : Int => [Sl.sc is0, I v_k, I w7]) 2 nd__law_refill rfl lf__law_refill_cell (.inl rfl) (RE.bin o_sub (RE.bor RE.int) (RE.bor (RE.bin o_mul (RE.bor RE.int) (RE.bor (RE.var 2 rfl rfl vf__law_refill_cell k_cell))))) (fun _ => rfl)) fun w7 =>
  (BN.nil w7 (.r (.r (.r .n))))) (BN.nil w3 (.r (.r (.r .n))))))) fun w6 =>
  (WB.cons (WS.ite (E := fun w8 : Unit => [Sl.sc is0, I v_k, I w6]) (NT.of (RW.t (RW.and (RT.cmp c_ge (RE.bor (RE.var 2 rfl rfl vf__law_refill_cell k_cell)) (RE.bor (RE.bin o_pow (RE.bor RE.int) (RE.bor RE.int))) (nm_ge _)) (RT.and1 (RT.cmp c_lt (RE.bor (RE.var 1 rfl rfl vf__law_refill_k k_k)) (RE.bor (RE.lenSc 0 rfl rfl vf__law_refill_script k_script rfl z_len)) (nm_lt _)))))) (WB.ret (NE.of (RE.var 2 rfl rfl vf__law_refill_cell k_cell))) (WB.nil () (.r (.r (.r .n))))) fun w8 =>
  (WB.ret (NE.of (RE.bin o_mod (RE.bor (RE.ty1 b_intI rfl z_int bb_int (RE.bor (RE.bin o_add (RE.bor (RE.bin o_mul (RE.bor (RE.ty1 b_intI rfl z_int bb_int (RE.bor (RE.bin o_add (RE.bor (RE.bin o_add (RE.bor (RE.bin o_mul (RE.bor (RE.var 2 rfl rfl vf__law_refill_cell k_cell)) (RE.bor RE.int))) (RE.bor (RE.bin o_mul (RE.bor (RE.var 1 rfl rfl vf__law_refill_k k_k)) (RE.bor RE.int))))) (RE.bor RE.int))) rfl kb_int)) (RE.bor RE.int))) (RE.bor RE.int))) rfl kb_int)) (RE.bor RE.int))))))))
  exact (h.run (fun _ => False) (fun _ => True) (wok__law_refill is0 v_k)).imp (fun e ⟨_, z, _⟩ => z) (fun d ⟨i, _, e⟩ => ⟨i, e⟩) (fun _ z => z) (fun _ z => z)
/-! ## _law_draw -/
abbrev s__law_draw : Stmt := topS 18
abbrev n__law_draw : List Str := ["state", "script", "size", "digit"]
theorem sc__law_draw : FnScope n__law_draw ["state", "script", "size"] (defScope s__law_draw) := ⟨rfl, rfl, rfl, by decide +kernel, rfl, by decide +kernel, by decide +kernel⟩
theorem nd__law_draw : (n__law_draw).Nodup := sc__law_draw.nd
theorem lf__law_draw_state : L2.Loc (defScope s__law_draw) "state" := locB rfl
theorem vf__law_draw_state : L2.Vis (defScope s__law_draw) "state" := visB rfl
theorem lf__law_draw_script : L2.Loc (defScope s__law_draw) "script" := locB rfl
theorem vf__law_draw_script : L2.Vis (defScope s__law_draw) "script" := visB rfl
theorem lf__law_draw_size : L2.Loc (defScope s__law_draw) "size" := locB rfl
theorem vf__law_draw_size : L2.Vis (defScope s__law_draw) "size" := visB rfl
theorem lf__law_draw_digit : L2.Loc (defScope s__law_draw) "digit" := locB rfl
theorem vf__law_draw_digit : L2.Vis (defScope s__law_draw) "digit" := visB rfl
def wp__law_draw (v_size : Int) : (Unit → Prop) → (Int → Prop) → Prop :=
  (W.seq (W.ite (N.o2 T2 (fun i j : Int => decide (i = j)) N.any (N.of (R.pure (0 : Int)))) (W.seq (W.of (⟨((⟨(N.any).p, fun _ => True⟩ : N Int)).p, fun _ => True⟩ : N Unit)) fun w4 =>
  (W.seq (W.of (⟨((N.o2 T2 (fun i j : Int => i + j) N.any (N.of (R.pure (1 : Int))))).p, fun _ => True⟩ : N Unit)) fun w5 =>
  (W.nil (() : Unit)))) (W.nil (() : Unit))) fun w3 =>
  (W.seq (W.of (N.o2 (fun _ j => 0 < j) (fun i j : Int => i % j) (N.o1 T1 (fun i : Int => i) N.any) (N.of (R.pure v_size)))) fun w6 =>
  (W.seq (W.of (⟨((N.o2 CDiv (fun i j : Int => i / j) N.any (N.of (R.pure v_size)))).p, fun _ => True⟩ : N Unit)) fun w7 =>
  (W.ret (N.of (R.pure w6))))))
theorem wok__law_draw (v_size : Int) (h : (m_draw v_size).p) : wp__law_draw v_size (fun _ => False) (fun i => 0 ≤ i ∧ i < v_size) := by
  have h0 : 0 < v_size := h.1
  have h1 : v_size < 1073741824 := h.2
  have e1 := fun i : Int => Int.emod_nonneg i (Int.ne_of_gt h0)
  have e2 := fun i : Int => Int.emod_lt_of_pos i h0
  simp [wp__law_draw, CDiv, h0, h1, e1, e2]
theorem w__law_draw {P : Program} {w : World} {K : PySem.W.Frag} {mg : Str → Option Value} {base : Heap} {T : Addr → Prop} (z_int : mg "int" = none) (c__law_refill : Fn P w K mg base 1 "_law_refill" (SpR K T))
    {f : Addr} {fd : FuncData} (F : FunD K "_law_draw" "_law_draw" (defArgs s__law_draw) (defBody s__law_draw) (defScope s__law_draw) [] [] f fd) (hm : mg "_law_draw" = some (.ref f)) (hb : Binds K fd ["state", "script", "size"] []) : Fn P w K mg base 2 "_law_draw" (SpM K T [true] (D1 m_draw)) :=
  Fn.ofM F sc__law_draw hm hb rfl fun ds P0 ⟨v_size, hds, hp, hP⟩ => ⟨[I v_size], by rw [hds]; exact .im .nil, fun cd A outer s H E M is0 hcd hr eT => by
  subst eT
  have pown : PassesOwn (model P w) (cxF P w K mg base n__law_draw "_law_draw" (defScope s__law_draw) f cd A outer s H E).A (cxF P w K mg base n__law_draw "_law_draw" (defScope s__law_draw) f cd A outer s H E).env (fun _ _ => False) := PassesOwn.never
  have h : WB (cxF P w K mg base n__law_draw "_law_draw" (defScope s__law_draw) f cd A outer s H E) M (β := Int) (defBody s__law_draw) [Sl.st, Sl.sc is0, I v_size, U] (fun _ : Unit => []) (wp__law_draw v_size) :=
   (WB.cons (WS.ite (E := fun w3 : Unit => [Sl.st, Sl.sc is0, I v_size, U]) (NT.cmp c_eqI (NE.nb (NE.stIx 0 rfl (by decide) rfl vf__law_draw_state k_state (fun _ _ => rfl))) (NE.nb (NE.of RE.int)) (nm_eq _)) (WB.cons (WS.of (NS.stSet (E := fun _ : Unit => [Sl.st, Sl.sc is0, I v_size, U]) 0 rfl (by decide) rfl vf__law_draw_state k_state (NE.refill 1 c__law_refill hr (Nat.le_of_ble_eq_true rfl) rfl rfl rfl vf__law_draw_script k_script (NE.stIx 0 rfl (by decide) rfl vf__law_draw_state k_state (fun _ _ => rfl)) k__law_refill) rfl)) fun w4 =>
  (WB.cons (WS.of (NS.stSet (E := fun _ : Unit => [Sl.st, Sl.sc is0, I v_size, U]) 0 rfl (by decide) rfl vf__law_draw_state k_state (NE.bin o_add (NE.nb (NE.stIx 0 rfl (by decide) rfl vf__law_draw_state k_state (fun _ _ => rfl))) (NE.nb (NE.of RE.int))) rfl)) fun w5 =>
  (WB.nil () (.r (.r (.r (.r .n))))))) (WB.nil () (.r (.r (.r (.r .n)))))) fun w3 =>
  (WB.cons (WS.of (NS.set (E := fun w6 : Int => [Sl.st, Sl.sc is0, I v_size, I w6]) 3 nd__law_draw rfl lf__law_draw_digit (.inl rfl) (NE.bin o_mod (NE.nb (NE.ty1 b_intI rfl z_int bb_int (NE.nb (NE.stIx 0 rfl (by decide) rfl vf__law_draw_state k_state (fun _ _ => rfl))) rfl kb_int)) (NE.nb (NE.of (RE.var 2 rfl rfl vf__law_draw_size k_size)))) (fun _ => rfl))) fun w6 =>
  (WB.cons (WS.of (NS.stSet (E := fun _ : Unit => [Sl.st, Sl.sc is0, I v_size, I w6]) 0 rfl (by decide) rfl vf__law_draw_state k_state (NE.bin o_fdiv (NE.nb (NE.stIx 0 rfl (by decide) rfl vf__law_draw_state k_state (fun _ _ => rfl))) (NE.nb (NE.of (RE.var 2 rfl rfl vf__law_draw_size k_size)))) rfl)) fun w7 =>
  (WB.ret (NE.of (RE.var 3 rfl rfl vf__law_draw_digit k_digit))))))
  exact (h.run (fun _ => False) (fun i => 0 ≤ i ∧ i < v_size) (wok__law_draw v_size hp)).imp (fun e ⟨_, z, _⟩ => z) (fun d ⟨i, hi, e⟩ => by rw [e]; exact hP i hi) (fun _ z => z) (fun _ z => z)⟩
/-! ## lowest -/
abbrev s_lowest : Stmt := topS 2
abbrev n_lowest : List Str := ["p", "q", "common"]
theorem sc_lowest : FnScope n_lowest ["p", "q"] (defScope s_lowest) := ⟨rfl, rfl, rfl, by decide +kernel, rfl, by decide +kernel, by decide +kernel⟩
theorem nd_lowest : (n_lowest).Nodup := sc_lowest.nd
theorem lf_lowest_p : L2.Loc (defScope s_lowest) "p" := locB rfl
theorem vf_lowest_p : L2.Vis (defScope s_lowest) "p" := visB rfl
theorem lf_lowest_q : L2.Loc (defScope s_lowest) "q" := locB rfl
theorem vf_lowest_q : L2.Vis (defScope s_lowest) "q" := visB rfl
theorem lf_lowest_common : L2.Loc (defScope s_lowest) "common" := locB rfl
theorem vf_lowest_common : L2.Vis (defScope s_lowest) "common" := visB rfl
def m_lowest (v_p : Int) (v_q : Int) : R (Int × Int) :=
  (R.bind (R.ite (R.o2 T2 (fun i j : Int => decide (j < i)) (R.pure v_q) (R.pure (0 : Int))) (R.o2 T2 (fun i j : Int => ((Nat.gcd i.natAbs j.natAbs : Nat) : Int)) (R.pure v_p) (R.pure v_q)) (R.o1 T1 (fun i : Int => -i) (R.o2 T2 (fun i j : Int => ((Nat.gcd i.natAbs j.natAbs : Nat) : Int)) (R.pure v_p) (R.pure v_q)))) fun w1 =>
  (R.tup2 (R.o2 CDiv (fun i j : Int => i / j) (R.pure v_p) (R.pure w1)) (R.o2 CDiv (fun i j : Int => i / j) (R.pure v_q) (R.pure w1))))
theorem w_lowest {P : Program} {w : World} {K : PySem.W.Frag} {mg : Str → Option Value} {base : Heap} {T : Addr → Prop} (zb_gcd : mg "gcd" = some (.builtin "math.gcd"))
    {f : Addr} {fd : FuncData} (F : FunD K "lowest" "lowest" (defArgs s_lowest) (defBody s_lowest) (defScope s_lowest) [] [] f fd) (hm : mg "lowest" = some (.ref f)) (hb : Binds K fd ["p", "q"] []) : Fn P w K mg base 1 "lowest" (SpD K T [true, true] (G2 m_lowest)) :=
  Fn.of F sc_lowest hm hb rfl fun ds P0 ⟨v_p, v_q, hds, hp, hP⟩ => ⟨[I v_p, I v_q], by rw [hds]; exact (.im (.im .nil)), fun cd A outer s H E hcd hr => by
  have pown : PassesOwn (model P w) (cxF P w K mg base n_lowest "lowest" (defScope s_lowest) f cd A outer s H E).A (cxF P w K mg base n_lowest "lowest" (defScope s_lowest) f cd A outer s H E).env (fun _ _ => False) := PassesOwn.never
  have h : BR (cxF P w K mg base n_lowest "lowest" (defScope s_lowest) f cd A outer s H E) (noM T) (defBody s_lowest) [I v_p, I v_q, U] (m_lowest v_p v_q) :=
   (BR.cons (SN.set (E := fun w1 : Int => [I v_p, I v_q, I w1]) 2 nd_lowest rfl lf_lowest_common (.inl rfl) (RE.ite (RT.cmp c_gt (RE.bor (RE.var 1 rfl rfl vf_lowest_q k_q)) (RE.bor RE.int) (nm_gt _)) (RE.g2 b_gcd rfl zb_gcd (RE.bor (RE.var 0 rfl rfl vf_lowest_p k_p)) (RE.bor (RE.var 1 rfl rfl vf_lowest_q k_q)) rfl rfl k_gcd) (RE.un u_neg (RE.bor (RE.g2 b_gcd rfl zb_gcd (RE.bor (RE.var 0 rfl rfl vf_lowest_p k_p)) (RE.bor (RE.var 1 rfl rfl vf_lowest_q k_q)) rfl rfl k_gcd)))) (fun _ => rfl)) fun w1 =>
  (BR.ret (RE.tup2 (RA.im (RE.bin o_fdiv (RE.bor (RE.var 0 rfl rfl vf_lowest_p k_p)) (RE.bor (RE.var 2 rfl rfl vf_lowest_common k_common))) (RA.im (RE.bin o_fdiv (RE.bor (RE.var 1 rfl rfl vf_lowest_q k_q)) (RE.bor (RE.var 2 rfl rfl vf_lowest_common k_common))) RA.nil)))))
  exact RdS.imp (h hp) (fun _ z => z) (fun d e => by rw [e]; exact hP) (fun _ z => z) (fun _ z => z)⟩
/-! ## add -/
abbrev s_add : Stmt := topS 3
abbrev n_add : List Str := ["one", "other"]
theorem sc_add : FnScope n_add ["one", "other"] (defScope s_add) := ⟨rfl, rfl, rfl, by decide +kernel, rfl, by decide +kernel, by decide +kernel⟩
theorem nd_add : (n_add).Nodup := sc_add.nd
theorem lf_add_one : L2.Loc (defScope s_add) "one" := locB rfl
theorem vf_add_one : L2.Vis (defScope s_add) "one" := visB rfl
theorem lf_add_other : L2.Loc (defScope s_add) "other" := locB rfl
theorem vf_add_other : L2.Vis (defScope s_add) "other" := visB rfl
def m_add (v_one : (Int × Int)) (v_other : (Int × Int)) : R (Int × Int) :=
  (R.c2 m_lowest (R.o2 T2 (fun i j : Int => i + j) (R.o2 CMul (fun i j : Int => i * j) (R.p1 (R.pure v_one)) (R.p2 (R.pure v_other))) (R.o2 CMul (fun i j : Int => i * j) (R.p1 (R.pure v_other)) (R.p2 (R.pure v_one)))) (R.o2 CMul (fun i j : Int => i * j) (R.p2 (R.pure v_one)) (R.p2 (R.pure v_other))))
theorem w_add {P : Program} {w : World} {K : PySem.W.Frag} {mg : Str → Option Value} {base : Heap} {T : Addr → Prop} (c_lowest : Fn P w K mg base 1 "lowest" (SpD K T [true, true] (G2 m_lowest)))
    {f : Addr} {fd : FuncData} (F : FunD K "add" "add" (defArgs s_add) (defBody s_add) (defScope s_add) [] [] f fd) (hm : mg "add" = some (.ref f)) (hb : Binds K fd ["one", "other"] []) : Fn P w K mg base 2 "add" (SpD K T [true, true] (G2 m_add)) :=
  Fn.of F sc_add hm hb rfl fun ds P0 ⟨v_one, v_other, hds, hp, hP⟩ => ⟨[I v_one, I v_other], by rw [hds]; exact (.im (.im .nil)), fun cd A outer s H E hcd hr => by
  have pown : PassesOwn (model P w) (cxF P w K mg base n_add "add" (defScope s_add) f cd A outer s H E).A (cxF P w K mg base n_add "add" (defScope s_add) f cd A outer s H E).env (fun _ _ => False) := PassesOwn.never
  have h : BR (cxF P w K mg base n_add "add" (defScope s_add) f cd A outer s H E) (noM T) (defBody s_add) [I v_one, I v_other] (m_add v_one v_other) :=
   (BR.ret (RE.call2 c_lowest hr (Nat.le_of_ble_eq_true rfl) rfl (RA.im (RE.bin o_add (RE.bor (RE.bin o_mul (RE.bor (RE.fst (RE.bor (RE.var 0 rfl rfl vf_add_one k_one)) (fun _ _ => rfl))) (RE.bor (RE.snd (RE.bor (RE.var 1 rfl rfl vf_add_other k_other)) (fun _ _ => rfl))))) (RE.bor (RE.bin o_mul (RE.bor (RE.fst (RE.bor (RE.var 1 rfl rfl vf_add_other k_other)) (fun _ _ => rfl))) (RE.bor (RE.snd (RE.bor (RE.var 0 rfl rfl vf_add_one k_one)) (fun _ _ => rfl)))))) (RA.im (RE.bin o_mul (RE.bor (RE.snd (RE.bor (RE.var 0 rfl rfl vf_add_one k_one)) (fun _ _ => rfl))) (RE.bor (RE.snd (RE.bor (RE.var 1 rfl rfl vf_add_other k_other)) (fun _ _ => rfl)))) RA.nil)) k_lowest))
  exact RdS.imp (h hp) (fun _ z => z) (fun d e => by rw [e]; exact hP) (fun _ z => z) (fun _ z => z)⟩
/-! ## is_less -/
abbrev s_is_less : Stmt := topS 4
abbrev n_is_less : List Str := ["one", "other"]
theorem sc_is_less : FnScope n_is_less ["one", "other"] (defScope s_is_less) := ⟨rfl, rfl, rfl, by decide +kernel, rfl, by decide +kernel, by decide +kernel⟩
theorem nd_is_less : (n_is_less).Nodup := sc_is_less.nd
theorem lf_is_less_one : L2.Loc (defScope s_is_less) "one" := locB rfl
theorem vf_is_less_one : L2.Vis (defScope s_is_less) "one" := visB rfl
theorem lf_is_less_other : L2.Loc (defScope s_is_less) "other" := locB rfl
theorem vf_is_less_other : L2.Vis (defScope s_is_less) "other" := visB rfl
def m_is_less (v_one : (Int × Int)) (v_other : (Int × Int)) : R Bool :=
  (R.o2 T2 (fun i j : Int => decide (i < j)) (R.o2 CMul (fun i j : Int => i * j) (R.p1 (R.pure v_one)) (R.p2 (R.pure v_other))) (R.o2 CMul (fun i j : Int => i * j) (R.p1 (R.pure v_other)) (R.p2 (R.pure v_one))))
theorem w_is_less {P : Program} {w : World} {K : PySem.W.Frag} {mg : Str → Option Value} {base : Heap} {T : Addr → Prop} 
    {f : Addr} {fd : FuncData} (F : FunD K "is_less" "is_less" (defArgs s_is_less) (defBody s_is_less) (defScope s_is_less) [] [] f fd) (hm : mg "is_less" = some (.ref f)) (hb : Binds K fd ["one", "other"] []) : Fn P w K mg base 1 "is_less" (SpD K T [true, true] (G2 m_is_less)) :=
  Fn.of F sc_is_less hm hb rfl fun ds P0 ⟨v_one, v_other, hds, hp, hP⟩ => ⟨[I v_one, I v_other], by rw [hds]; exact (.im (.im .nil)), fun cd A outer s H E hcd hr => by
  have pown : PassesOwn (model P w) (cxF P w K mg base n_is_less "is_less" (defScope s_is_less) f cd A outer s H E).A (cxF P w K mg base n_is_less "is_less" (defScope s_is_less) f cd A outer s H E).env (fun _ _ => False) := PassesOwn.never
  have h : BR (cxF P w K mg base n_is_less "is_less" (defScope s_is_less) f cd A outer s H E) (noM T) (defBody s_is_less) [I v_one, I v_other] (m_is_less v_one v_other) :=
   (BR.ret (RE.cmp c_lt (RE.bor (RE.bin o_mul (RE.bor (RE.fst (RE.bor (RE.var 0 rfl rfl vf_is_less_one k_one)) (fun _ _ => rfl))) (RE.bor (RE.snd (RE.bor (RE.var 1 rfl rfl vf_is_less_other k_other)) (fun _ _ => rfl))))) (RE.bor (RE.bin o_mul (RE.bor (RE.fst (RE.bor (RE.var 1 rfl rfl vf_is_less_other k_other)) (fun _ _ => rfl))) (RE.bor (RE.snd (RE.bor (RE.var 0 rfl rfl vf_is_less_one k_one)) (fun _ _ => rfl))))) (nm_lt _)))
  exact RdS.imp (h hp) (fun _ z => z) (fun d e => by rw [e]; exact hP) (fun _ z => z) (fun _ z => z)⟩
/-! ## is_cost_row -/
abbrev s_is_cost_row : Stmt := topS 6
abbrev n_is_cost_row : List Str := ["costs", "at"]
theorem sc_is_cost_row : FnScope n_is_cost_row ["costs"] (defScope s_is_cost_row) := ⟨rfl, rfl, rfl, by decide +kernel, rfl, by decide +kernel, by decide +kernel⟩
theorem nd_is_cost_row : (n_is_cost_row).Nodup := sc_is_cost_row.nd
theorem lf_is_cost_row_costs : L2.Loc (defScope s_is_cost_row) "costs" := locB rfl
theorem vf_is_cost_row_costs : L2.Vis (defScope s_is_cost_row) "costs" := visB rfl
def m_is_cost_row (v_costs : (Tu Int)) : R Bool :=
  (R.and (R.o2 T2 (fun i j : Int => decide (j < i)) (R.o1 T1 (fun xs : (Tu Int) => (xs.l.length : Int)) (R.pure v_costs)) (R.pure (0 : Int))) (R.and (R.o2 T2 (fun i j : Int => decide (i = j)) (R.o2 (fun (xs : (Tu Int)) i => ixOk xs.l.length i) (fun xs i => nth xs.l i) (R.pure v_costs) (R.pure (0 : Int))) (R.pure (0 : Int))) (R.gx (α := Int) false (R.rng1 (R.o2 T2 (fun i j : Int => i - j) (R.o1 T1 (fun xs : (Tu Int) => (xs.l.length : Int)) (R.pure v_costs)) (R.pure (1 : Int)))) (fun _ => R.pure true) (fun y1 => (R.o2 T2 (fun i j : Int => decide (i ≤ j)) (R.o2 (fun (xs : (Tu Int)) i => ixOk xs.l.length i) (fun xs i => nth xs.l i) (R.pure v_costs) (R.pure y1)) (R.o2 (fun (xs : (Tu Int)) i => ixOk xs.l.length i) (fun xs i => nth xs.l i) (R.pure v_costs) (R.o2 T2 (fun i j : Int => i + j) (R.pure y1) (R.pure (1 : Int)))))))))
theorem w_is_cost_row {P : Program} {w : World} {K : PySem.W.Frag} {mg : Str → Option Value} {base : Heap} {T : Addr → Prop} (z_all : mg "all" = none) (z_len : mg "len" = none) (z_range : mg "range" = none)
    {f : Addr} {fd : FuncData} (F : FunD K "is_cost_row" "is_cost_row" (defArgs s_is_cost_row) (defBody s_is_cost_row) (defScope s_is_cost_row) [] [] f fd) (hm : mg "is_cost_row" = some (.ref f)) (hb : Binds K fd ["costs"] []) {cT PT : Addr} (tb : GxR.TabB base mg cT PT) (hT : T PT) (hcode : fd.code = .ref cT) : Fn P w K mg base 2 "is_cost_row" (SpD K T [true] (G1 m_is_cost_row)) :=
  Fn.of F sc_is_cost_row hm hb rfl fun ds P0 ⟨v_costs, hds, hp, hP⟩ => ⟨[I v_costs], by rw [hds]; exact (.im .nil), fun cd A outer s H E hcd hr => by
  have pown : PassesOwn (model P w) (cxF P w K mg base n_is_cost_row "is_cost_row" (defScope s_is_cost_row) f cd A outer s H E).A (cxF P w K mg base n_is_cost_row "is_cost_row" (defScope s_is_cost_row) f cd A outer s H E).env (fun _ _ => False) := PassesOwn.never
  have h : BR (cxF P w K mg base n_is_cost_row "is_cost_row" (defScope s_is_cost_row) f cd A outer s H E) (noM T) (defBody s_is_cost_row) [I v_costs, U] (m_is_cost_row v_costs) :=
   (BR.ret (RE.and (RE.bor (RE.cmp c_gt (RE.bor (RE.b1 b_lenT rfl z_len boot_len (RE.bor (RE.var 0 rfl rfl vf_is_cost_row_costs k_costs)) rfl kb_len)) (RE.bor RE.int) (nm_gt _))) (RE.and (RE.bor (RE.cmp c_eqI (RE.bor (RE.ix x_tu (RE.bor (RE.var 0 rfl rfl vf_is_cost_row_costs k_costs)) (RE.bor RE.int) (fun _ _ => rfl))) (RE.bor RE.int) (nm_eq _))) (RE.one (RE.allG (own := [("at", 1)]) (ix := [1]) (tE := (fun y1 : Int => [I v_costs, I y1])) hr rfl z_all nd_is_cost_row tb hT (hcd.symm.trans hcode) rfl (cell_by rfl) rfl (blkOk_by rfl) (by decide) (by decide) (RI.range1 rfl z_range (RE.bor (RE.bin o_sub (RE.bor (RE.b1 b_lenT rfl z_len boot_len (RE.bor (RE.var 0 rfl rfl vf_is_cost_row_costs k_costs)) rfl kb_len)) (RE.bor RE.int)))) (fun y1 _ _ _ _ _ _ hrg => (RG.name 1 nd_is_cost_row rfl (locB rfl) (.inr rfl) rfl)) (fun _ => .inl ⟨rfl, rfl⟩) (fun y1 _ _ _ _ _ _ hrg => (RE.cmp c_le (RE.bor (RE.ix x_tu (RE.bor (RE.var 0 rfl rfl (visB rfl) k_costs)) (RE.bor (RE.var 1 rfl rfl (visB rfl) k_at)) (fun _ _ => rfl))) (RE.bor (RE.ix x_tu (RE.bor (RE.var 0 rfl rfl (visB rfl) k_costs)) (RE.bor (RE.bin o_add (RE.bor (RE.var 1 rfl rfl (visB rfl) k_at)) (RE.bor RE.int))) (fun _ _ => rfl))) (nm_le _))) (fun _ => rfl))))))
  exact RdS.imp (h hp) (fun _ z => z) (fun d e => by rw [e]; exact hP) (fun _ z => z) (fun _ z => z)⟩
/-! ## is_bending_up -/
abbrev s_is_bending_up : Stmt := topS 7
abbrev n_is_bending_up : List Str := ["costs", "steps", "at"]
theorem sc_is_bending_up : FnScope n_is_bending_up ["costs"] (defScope s_is_bending_up) := ⟨rfl, rfl, rfl, by decide +kernel, rfl, by decide +kernel, by decide +kernel⟩
theorem nd_is_bending_up : (n_is_bending_up).Nodup := sc_is_bending_up.nd
theorem lf_is_bending_up_costs : L2.Loc (defScope s_is_bending_up) "costs" := locB rfl
theorem vf_is_bending_up_costs : L2.Vis (defScope s_is_bending_up) "costs" := visB rfl
theorem lf_is_bending_up_steps : L2.Loc (defScope s_is_bending_up) "steps" := locB rfl
theorem vf_is_bending_up_steps : L2.Vis (defScope s_is_bending_up) "steps" := visB rfl
def m_is_bending_up (v_costs : (Tu Int)) : R Bool :=
  (R.bind (R.lc (α := Int) (R.rng1 (R.o2 T2 (fun i j : Int => i - j) (R.o1 T1 (fun xs : (Tu Int) => (xs.l.length : Int)) (R.pure v_costs)) (R.pure (1 : Int)))) (fun _ => R.pure true) (fun y3 => (R.o2 T2 (fun i j : Int => i - j) (R.o2 (fun (xs : (Tu Int)) i => ixOk xs.l.length i) (fun xs i => nth xs.l i) (R.pure v_costs) (R.o2 T2 (fun i j : Int => i + j) (R.pure y3) (R.pure (1 : Int)))) (R.o2 (fun (xs : (Tu Int)) i => ixOk xs.l.length i) (fun xs i => nth xs.l i) (R.pure v_costs) (R.pure y3))))) fun w1 =>
  (R.gx (α := Int) false (R.rng1 (R.o2 T2 (fun i j : Int => i - j) (R.o1 T1 (fun xs : (List Int) => (xs.length : Int)) (R.pure w1)) (R.pure (1 : Int)))) (fun _ => R.pure true) (fun y4 => (R.o2 T2 (fun i j : Int => decide (i ≤ j)) (R.o2 (fun (xs : (List Int)) i => ixOk xs.length i) nth (R.pure w1) (R.pure y4)) (R.o2 (fun (xs : (List Int)) i => ixOk xs.length i) nth (R.pure w1) (R.o2 T2 (fun i j : Int => i + j) (R.pure y4) (R.pure (1 : Int))))))))
theorem w_is_bending_up {P : Program} {w : World} {K : PySem.W.Frag} {mg : Str → Option Value} {base : Heap} {T : Addr → Prop} (z_all : mg "all" = none) (z_len : mg "len" = none) (z_range : mg "range" = none)
    {f : Addr} {fd : FuncData} (F : FunD K "is_bending_up" "is_bending_up" (defArgs s_is_bending_up) (defBody s_is_bending_up) (defScope s_is_bending_up) [] [] f fd) (hm : mg "is_bending_up" = some (.ref f)) (hb : Binds K fd ["costs"] []) {cT PT : Addr} (tb : GxR.TabB base mg cT PT) (hT : T PT) (hcode : fd.code = .ref cT) : Fn P w K mg base 2 "is_bending_up" (SpD K T [true] (G1 m_is_bending_up)) :=
  Fn.of F sc_is_bending_up hm hb rfl fun ds P0 ⟨v_costs, hds, hp, hP⟩ => ⟨[I v_costs], by rw [hds]; exact (.im .nil), fun cd A outer s H E hcd hr => by
  have pown : PassesOwn (model P w) (cxF P w K mg base n_is_bending_up "is_bending_up" (defScope s_is_bending_up) f cd A outer s H E).A (cxF P w K mg base n_is_bending_up "is_bending_up" (defScope s_is_bending_up) f cd A outer s H E).env (fun _ _ => False) := PassesOwn.never
  have h : BR (cxF P w K mg base n_is_bending_up "is_bending_up" (defScope s_is_bending_up) f cd A outer s H E) (noM T) (defBody s_is_bending_up) [I v_costs, U, U] (m_is_bending_up v_costs) :=
   (BR.cons (SN.set (E := fun w1 : (List Int) => [I v_costs, I w1, U]) 1 nd_is_bending_up rfl lf_is_bending_up_steps (.inl rfl) (RF.re (RF.lc (own := [("at", 2)]) (ix := [2]) (tE := (fun y3 : Int => [I v_costs, U, I y3])) rfl nd_is_bending_up (blkOk_by rfl) (by decide) (by decide) (RI.range1 rfl z_range (RE.bor (RE.bin o_sub (RE.bor (RE.b1 b_lenT rfl z_len boot_len (RE.bor (RE.var 0 rfl rfl vf_is_bending_up_costs k_costs)) rfl kb_len)) (RE.bor RE.int)))) (fun y3 _ _ _ _ _ => (RG.name 2 nd_is_bending_up rfl (locB rfl) (.inr rfl) rfl)) (fun _ => .inl ⟨rfl, rfl⟩) (fun y3 _ _ _ _ _ => (RE.bin o_sub (RE.bor (RE.ix x_tu (RE.bor (RE.var 0 rfl rfl (visB rfl) k_costs)) (RE.bor (RE.bin o_add (RE.bor (RE.var 2 rfl rfl (visB rfl) k_at)) (RE.bor RE.int))) (fun _ _ => rfl))) (RE.bor (RE.ix x_tu (RE.bor (RE.var 0 rfl rfl (visB rfl) k_costs)) (RE.bor (RE.var 2 rfl rfl (visB rfl) k_at)) (fun _ _ => rfl))))) (fun _ => rfl))) (fun _ => rfl)) fun w1 =>
  (BR.ret (RE.allG (own := [("at", 2)]) (ix := [2]) (tE := (fun y4 : Int => [I v_costs, I w1, I y4])) hr rfl z_all nd_is_bending_up tb hT (hcd.symm.trans hcode) rfl (cell_by rfl) rfl (blkOk_by rfl) (by decide) (by decide) (RI.range1 rfl z_range (RE.bor (RE.bin o_sub (RE.bor (RE.b1 b_lenL rfl z_len boot_len (RE.bor (RE.var 1 rfl rfl vf_is_bending_up_steps k_steps)) rfl kb_len)) (RE.bor RE.int)))) (fun y4 _ _ _ _ _ _ hrg => (RG.name 2 nd_is_bending_up rfl (locB rfl) (.inr rfl) rfl)) (fun _ => .inl ⟨rfl, rfl⟩) (fun y4 _ _ _ _ _ _ hrg => (RE.cmp c_le (RE.bor (RE.ix x_list (RE.bor (RE.var 1 rfl rfl (visB rfl) k_steps)) (RE.bor (RE.var 2 rfl rfl (visB rfl) k_at)) (fun _ _ => rfl))) (RE.bor (RE.ix x_list (RE.bor (RE.var 1 rfl rfl (visB rfl) k_steps)) (RE.bor (RE.bin o_add (RE.bor (RE.var 2 rfl rfl (visB rfl) k_at)) (RE.bor RE.int))) (fun _ _ => rfl))) (nm_le _))) (fun _ => rfl))))
  exact RdS.imp (h hp) (fun _ z => z) (fun d e => by rw [e]; exact hP) (fun _ z => z) (fun _ z => z)⟩
/-! ## even_asks -/
abbrev s_even_asks : Stmt := topS 8
abbrev n_even_asks : List Str := ["asks", "most", "one"]
theorem sc_even_asks : FnScope n_even_asks ["asks", "most"] (defScope s_even_asks) := ⟨rfl, rfl, rfl, by decide +kernel, rfl, by decide +kernel, by decide +kernel⟩
theorem nd_even_asks : (n_even_asks).Nodup := sc_even_asks.nd
theorem lf_even_asks_asks : L2.Loc (defScope s_even_asks) "asks" := locB rfl
theorem vf_even_asks_asks : L2.Vis (defScope s_even_asks) "asks" := visB rfl
theorem lf_even_asks_most : L2.Loc (defScope s_even_asks) "most" := locB rfl
theorem vf_even_asks_most : L2.Vis (defScope s_even_asks) "most" := visB rfl
def m_even_asks (v_asks : (Tu Int)) (v_most : Int) : R Int :=
  (R.o1 T1 (fun xs : List Int => xs.sum) (R.lc (α := Int) (R.map Tu.l (R.pure v_asks)) (fun _ => R.pure true) (fun y1 => (R.o2 T2 (fun i j : Int => min i j) (R.pure y1) (R.pure v_most)))))
theorem w_even_asks {P : Program} {w : World} {K : PySem.W.Frag} {mg : Str → Option Value} {base : Heap} {T : Addr → Prop} (z_min : mg "min" = none) (z_sum : mg "sum" = none)
    {f : Addr} {fd : FuncData} (F : FunD K "even_asks" "even_asks" (defArgs s_even_asks) (defBody s_even_asks) (defScope s_even_asks) [] [] f fd) (hm : mg "even_asks" = some (.ref f)) (hb : Binds K fd ["asks", "most"] []) : Fn P w K mg base 1 "even_asks" (SpD K T [true, true] (G2 m_even_asks)) :=
  Fn.of F sc_even_asks hm hb rfl fun ds P0 ⟨v_asks, v_most, hds, hp, hP⟩ => ⟨[I v_asks, I v_most], by rw [hds]; exact (.im (.im .nil)), fun cd A outer s H E hcd hr => by
  have pown : PassesOwn (model P w) (cxF P w K mg base n_even_asks "even_asks" (defScope s_even_asks) f cd A outer s H E).A (cxF P w K mg base n_even_asks "even_asks" (defScope s_even_asks) f cd A outer s H E).env (fun _ _ => False) := PassesOwn.never
  have h : BR (cxF P w K mg base n_even_asks "even_asks" (defScope s_even_asks) f cd A outer s H E) (noM T) (defBody s_even_asks) [I v_asks, I v_most, U] (m_even_asks v_asks v_most) :=
   (BR.ret (RE.b1 (b_sumL rfl) rfl z_sum bb_sum (RE.bor (RF.re (RF.lc (own := [("one", 2)]) (ix := [2]) (tE := (fun y1 : Int => [I v_asks, I v_most, I y1])) rfl nd_even_asks (blkOk_by rfl) (by decide) (by decide) (RI.tup (RE.var 0 rfl rfl vf_even_asks_asks k_asks)) (fun y1 _ _ _ _ _ => (RG.name 2 nd_even_asks rfl (locB rfl) (.inr rfl) rfl)) (fun _ => .inl ⟨rfl, rfl⟩) (fun y1 _ _ _ _ _ => (RE.b2 (b_min2 rfl) rfl z_min bb_min (RE.bor (RE.var 2 rfl rfl (visB rfl) k_one)) (RE.bor (RE.var 1 rfl rfl (visB rfl) k_most)) rfl rfl kb_min)) (fun _ => rfl)))) rfl kb_sum))
  exact RdS.imp (h hp) (fun _ z => z) (fun d e => by rw [e]; exact hP) (fun _ z => z) (fun _ z => z)⟩
/-! ## serial_shares -/
abbrev s_serial_shares : Stmt := topS 9
abbrev n_serial_shares : List Str := ["costs", "asks", "told", "last", "most", "people", "step", "at", "one"]
theorem sc_serial_shares : FnScope n_serial_shares ["costs", "asks"] (defScope s_serial_shares) := ⟨rfl, rfl, rfl, by decide +kernel, rfl, by decide +kernel, by decide +kernel⟩
theorem nd_serial_shares : (n_serial_shares).Nodup := sc_serial_shares.nd
theorem lf_serial_shares_costs : L2.Loc (defScope s_serial_shares) "costs" := locB rfl
theorem vf_serial_shares_costs : L2.Vis (defScope s_serial_shares) "costs" := visB rfl
theorem lf_serial_shares_asks : L2.Loc (defScope s_serial_shares) "asks" := locB rfl
theorem vf_serial_shares_asks : L2.Vis (defScope s_serial_shares) "asks" := visB rfl
theorem lf_serial_shares_told : L2.Loc (defScope s_serial_shares) "told" := locB rfl
theorem vf_serial_shares_told : L2.Vis (defScope s_serial_shares) "told" := visB rfl
theorem lf_serial_shares_last : L2.Loc (defScope s_serial_shares) "last" := locB rfl
theorem vf_serial_shares_last : L2.Vis (defScope s_serial_shares) "last" := visB rfl
theorem lf_serial_shares_most : L2.Loc (defScope s_serial_shares) "most" := locB rfl
theorem vf_serial_shares_most : L2.Vis (defScope s_serial_shares) "most" := visB rfl
theorem lf_serial_shares_people : L2.Loc (defScope s_serial_shares) "people" := locB rfl
theorem vf_serial_shares_people : L2.Vis (defScope s_serial_shares) "people" := visB rfl
theorem lf_serial_shares_step : L2.Loc (defScope s_serial_shares) "step" := locB rfl
theorem vf_serial_shares_step : L2.Vis (defScope s_serial_shares) "step" := visB rfl
theorem lf_serial_shares_at : L2.Loc (defScope s_serial_shares) "at" := locB rfl
theorem vf_serial_shares_at : L2.Vis (defScope s_serial_shares) "at" := visB rfl
def m_serial_shares (v_costs : (Tu Int)) (v_asks : (Tu Int)) : R (Tu (Int × Int)) :=
  (R.bind (R.o2 (fun (xs : (List (Int × Int))) (n : Int) => -1000000 ≤ n ∧ n ≤ 1000000 ∧ xs.length ≤ 10) (fun xs n => (List.replicate n.toNat xs).flatten) (R.sz (R.lcons (R.tup2 (R.pure (0 : Int)) (R.pure (1 : Int))) (R.lnil (α := (Int × Int))))) (R.o1 T1 (fun xs : (Tu Int) => (xs.l.length : Int)) (R.pure v_asks))) fun w1 =>
  (R.bind (R.pure (0 : Int)) fun w2 =>
  (R.bind (R.fold (α := Int) (R.o1 (fun t : Tu Int => t.l.length ≤ 60) (fun t => sset t.l) (R.pure v_asks)) ((w1, w2) : ((List (Int × Int)) × Int)) (fun s3 x4 =>
  (R.bind (R.lc (α := (Int × Int)) (R.enum (R.map Tu.l (R.pure v_asks))) (fun y7 => (R.o2 T2 (fun i j : Int => decide (j ≤ i)) (R.pure y7.2) (R.pure x4))) (fun y7 => (R.pure y7.1))) fun w5 =>
  (R.bind (R.o2 T2 (fun i j : Int => i - j) (R.o2 (fun (xs : (Tu Int)) i => ixOk xs.l.length i) (fun xs i => nth xs.l i) (R.pure v_costs) (R.c2 m_even_asks (R.pure v_asks) (R.pure x4))) (R.o2 (fun (xs : (Tu Int)) i => ixOk xs.l.length i) (fun xs i => nth xs.l i) (R.pure v_costs) (R.c2 m_even_asks (R.pure v_asks) (R.pure s3.2)))) fun w8 =>
  (R.bind (R.fold (α := Int) (R.pure w5) (s3.1 : (List (Int × Int))) (fun s9 x10 =>
  (R.bind (R.setIx s9 (R.c2 m_add (R.o2 (fun (xs : (List (Int × Int))) i => ixOk xs.length i) nth (R.pure s9) (R.pure x10)) (R.c2 m_lowest (R.pure w8) (R.o1 T1 (fun xs : (List Int) => (xs.length : Int)) (R.pure w5)))) (R.pure x10)) fun w11 =>
  (R.pure (w11 : (List (Int × Int))))))) fun w12 =>
  (R.bind (R.pure x4) fun w13 =>
  (R.pure ((w12, w13) : ((List (Int × Int)) × Int))))))))) fun w14 =>
  (R.o1 T1 (fun xs : (List (Int × Int)) => Tu.mk xs) (R.pure w14.1)))))
theorem w_serial_shares {P : Program} {w : World} {K : PySem.W.Frag} {mg : Str → Option Value} {base : Heap} {T : Addr → Prop} (z_enumerate : mg "enumerate" = none) (z_len : mg "len" = none) (z_set : mg "set" = none) (z_sorted : mg "sorted" = none) (z_tuple : mg "tuple" = none) (c_even_asks : Fn P w K mg base 1 "even_asks" (SpD K T [true, true] (G2 m_even_asks))) (c_lowest : Fn P w K mg base 1 "lowest" (SpD K T [true, true] (G2 m_lowest))) (c_add : Fn P w K mg base 2 "add" (SpD K T [true, true] (G2 m_add)))
    {f : Addr} {fd : FuncData} (F : FunD K "serial_shares" "serial_shares" (defArgs s_serial_shares) (defBody s_serial_shares) (defScope s_serial_shares) [] [] f fd) (hm : mg "serial_shares" = some (.ref f)) (hb : Binds K fd ["costs", "asks"] []) : Fn P w K mg base 3 "serial_shares" (SpD K T [true, true] (G2 m_serial_shares)) :=
  Fn.of F sc_serial_shares hm hb rfl fun ds P0 ⟨v_costs, v_asks, hds, hp, hP⟩ => ⟨[I v_costs, I v_asks], by rw [hds]; exact (.im (.im .nil)), fun cd A outer s H E hcd hr => by
  have pown : PassesOwn (model P w) (cxF P w K mg base n_serial_shares "serial_shares" (defScope s_serial_shares) f cd A outer s H E).A (cxF P w K mg base n_serial_shares "serial_shares" (defScope s_serial_shares) f cd A outer s H E).env (fun _ _ => False) := PassesOwn.never
  have h : BR (cxF P w K mg base n_serial_shares "serial_shares" (defScope s_serial_shares) f cd A outer s H E) (noM T) (defBody s_serial_shares) [I v_costs, I v_asks, U, U, U, U, U, U, U] (m_serial_shares v_costs v_asks) :=
   (BR.cons (SN.setF (E := fun w1 : (List (Int × Int)) => [I v_costs, I v_asks, Ow w1, U, U, U, U, U, U]) 2 nd_serial_shares rfl lf_serial_shares_told (.inl rfl) (RF.bin o_rep (RE.bor (RF.re (RF.lst (RL.cons (RE.tup2 (RA.im RE.int (RA.im RE.int RA.nil))) RL.nil)))) (RE.bor (RE.b1 b_lenT rfl z_len boot_len (RE.bor (RE.var 1 rfl rfl vf_serial_shares_asks k_asks)) rfl kb_len))) (fun _ => rfl)) fun w1 =>
  (BR.cons (SN.set (E := fun w2 : Int => [I v_costs, I v_asks, Ow w1, I w2, U, U, U, U, U]) 3 nd_serial_shares rfl lf_serial_shares_last (.inl rfl) RE.int (fun _ => rfl)) fun w2 =>
  (BR.cons (SN.for (E := (fun s3 : ((List (Int × Int)) × Int) => [I v_costs, I v_asks, Ow s3.1, I s3.2, U, U, U, U, U])) (tE := (fun (s3 : ((List (Int × Int)) × Int)) (x4 : Int) => [I v_costs, I v_asks, Ow s3.1, I s3.2, I x4, U, U, U, U])) (ix := [4]) (w1, w2) pown rfl (.r (.r (.r (.r (.r (.r (.r (.r (.r .n))))))))) (RI.list (RP.ofE (RF.re (RF.sortSetT rfl rfl z_sorted bb_sorted kb_sorted rfl z_set bb_set kb_set (RE.bor (RE.var 1 rfl rfl vf_serial_shares_asks k_asks)))))) (fun _ _ => (RG.name 4 nd_serial_shares rfl lf_serial_shares_most (.inl rfl) rfl)) (fun s3 x4 =>
  (BN.cons (SN.lc (E := fun w5 : (List Int) => [I v_costs, I v_asks, Ow s3.1, I s3.2, I x4, I w5, U, U, U]) (own := [("at", 7), ("one", 8)]) (ix := [7, 8]) (tE := (fun y7 : (Int × Int) => [I v_costs, I v_asks, Ow s3.1, I s3.2, I x4, U, U, I y7.1, I y7.2])) 5 (fun _ => rfl) rfl nd_serial_shares rfl rfl (sw_true rfl rfl rfl (by decide +kernel)) (blkOk_by rfl) (by decide) (by decide) (RI.enumQ rfl z_enumerate (RQ.ofT (RE.var 1 rfl rfl vf_serial_shares_asks k_asks))) (fun y7 _ _ _ _ _ => (RG.tup2 rfl (RG.name 7 nd_serial_shares rfl (locB rfl) (.inr rfl) rfl) (RG.name 8 nd_serial_shares rfl (locB rfl) (.inr rfl) rfl))) (fun y7 => .inr ⟨_, rfl, fun _ _ _ _ _ => (RT.cmp c_ge (RE.bor (RE.var 8 rfl rfl (visB rfl) k_one)) (RE.bor (RE.var 4 rfl rfl (visB rfl) k_most)) (nm_ge _))⟩) (fun y7 _ _ _ _ _ => (RE.var 7 rfl rfl (visB rfl) k_at)) (fun _ => rfl)) fun w5 =>
  (BN.cons (SN.set (E := fun w8 : Int => [I v_costs, I v_asks, Ow s3.1, I s3.2, I x4, I w5, I w8, U, U]) 6 nd_serial_shares rfl lf_serial_shares_step (.inl rfl) (RE.bin o_sub (RE.bor (RE.ix x_tu (RE.bor (RE.var 0 rfl rfl vf_serial_shares_costs k_costs)) (RE.bor (RE.call2 c_even_asks hr (Nat.le_of_ble_eq_true rfl) rfl (RA.im (RE.var 1 rfl rfl vf_serial_shares_asks k_asks) (RA.im (RE.var 4 rfl rfl vf_serial_shares_most k_most) RA.nil)) k_even_asks)) (fun _ _ => rfl))) (RE.bor (RE.ix x_tu (RE.bor (RE.var 0 rfl rfl vf_serial_shares_costs k_costs)) (RE.bor (RE.call2 c_even_asks hr (Nat.le_of_ble_eq_true rfl) rfl (RA.im (RE.var 1 rfl rfl vf_serial_shares_asks k_asks) (RA.im (RE.var 3 rfl rfl vf_serial_shares_last k_last) RA.nil)) k_even_asks)) (fun _ _ => rfl)))) (fun _ => rfl)) fun w8 =>
  (BN.cons (SN.for (E := (fun s9 : (List (Int × Int)) => [I v_costs, I v_asks, Ow s9, I s3.2, I x4, I w5, I w8, U, U])) (tE := (fun (s9 : (List (Int × Int))) (x10 : Int) => [I v_costs, I v_asks, Ow s9, I s3.2, I x4, I w5, I w8, I x10, U])) (ix := [7]) s3.1 pown rfl (.r (.r (.r (.r (.r (.r (.r (.r (.r .n))))))))) (RI.list (RP.ofE (RE.var 5 rfl rfl vf_serial_shares_people k_people))) (fun _ _ => (RG.name 7 nd_serial_shares rfl lf_serial_shares_at (.inl rfl) rfl)) (fun s9 x10 =>
  (BN.cons (SN.setIx (E := (fun w11 : (List (Int × Int)) => [I v_costs, I v_asks, Ow w11, I s3.2, I x4, I w5, I w8, I x10, U])) 2 rfl (fun _ => rfl) rfl vf_serial_shares_told k_told (RE.call2 c_add hr (Nat.le_of_ble_eq_true rfl) rfl (RA.im (RE.ix x_list (RB.varO 2 rfl rfl vf_serial_shares_told k_told) (RE.bor (RE.var 7 rfl rfl vf_serial_shares_at k_at)) (fun _ _ => rfl)) (RA.im (RE.call2 c_lowest hr (Nat.le_of_ble_eq_true rfl) rfl (RA.im (RE.var 6 rfl rfl vf_serial_shares_step k_step) (RA.im (RE.b1 b_lenL rfl z_len boot_len (RE.bor (RE.var 5 rfl rfl vf_serial_shares_people k_people)) rfl kb_len) RA.nil)) k_lowest) RA.nil)) k_add) (RE.bor (RE.var 7 rfl rfl vf_serial_shares_at k_at))) fun w11 =>
  (BN.nil w11 (.r (.r (.r (.r (.r (.r (.r (.u (.r .n)))))))))))) (fun _ => rfl)) fun w12 =>
  (BN.cons (SN.set (E := fun w13 : Int => [I v_costs, I v_asks, Ow w12, I w13, I x4, I w5, I w8, U, U]) 3 nd_serial_shares rfl lf_serial_shares_last (.inl rfl) (RE.var 4 rfl rfl vf_serial_shares_most k_most) (fun _ => rfl)) fun w13 =>
  (BN.nil (w12, w13) (.r (.r (.r (.r (.u (.u (.u (.r (.r .n))))))))))))))) (fun _ => rfl)) fun w14 =>
  (BR.ret (RE.ty1 b_tupL rfl z_tuple bb_tuple (RB.varO 2 rfl rfl vf_serial_shares_told k_told) rfl kb_tuple)))))
  exact RdS.imp (h hp) (fun _ z => z) (fun d e => by rw [e]; exact hP) (fun _ z => z) (fun _ z => z)⟩
/-! ## mean_shares -/
abbrev s_mean_shares : Stmt := topS 10
abbrev n_mean_shares : List Str := ["costs", "asks", "whole", "one"]
theorem sc_mean_shares : FnScope n_mean_shares ["costs", "asks"] (defScope s_mean_shares) := ⟨rfl, rfl, rfl, by decide +kernel, rfl, by decide +kernel, by decide +kernel⟩
theorem nd_mean_shares : (n_mean_shares).Nodup := sc_mean_shares.nd
theorem lf_mean_shares_costs : L2.Loc (defScope s_mean_shares) "costs" := locB rfl
theorem vf_mean_shares_costs : L2.Vis (defScope s_mean_shares) "costs" := visB rfl
theorem lf_mean_shares_asks : L2.Loc (defScope s_mean_shares) "asks" := locB rfl
theorem vf_mean_shares_asks : L2.Vis (defScope s_mean_shares) "asks" := visB rfl
theorem lf_mean_shares_whole : L2.Loc (defScope s_mean_shares) "whole" := locB rfl
theorem vf_mean_shares_whole : L2.Vis (defScope s_mean_shares) "whole" := visB rfl
def m_mean_shares (v_costs : (Tu Int)) (v_asks : (Tu Int)) : R (Tu (Int × Int)) :=
  (R.bind (R.o1 T1 (fun xs : Tu Int => xs.l.sum) (R.pure v_asks)) fun w1 =>
  (R.o1 T1 (fun xs : (List (Int × Int)) => Tu.mk xs) (R.lc (α := Int) (R.map Tu.l (R.pure v_asks)) (fun _ => R.pure true) (fun y2 => (R.ite (R.o2 T2 (fun i j : Int => decide (j < i)) (R.pure w1) (R.pure (0 : Int))) (R.c2 m_lowest (R.o2 CMul (fun i j : Int => i * j) (R.o2 (fun (xs : (Tu Int)) i => ixOk xs.l.length i) (fun xs i => nth xs.l i) (R.pure v_costs) (R.pure w1)) (R.pure y2)) (R.pure w1)) (R.tup2 (R.pure (0 : Int)) (R.pure (1 : Int))))))))
theorem w_mean_shares {P : Program} {w : World} {K : PySem.W.Frag} {mg : Str → Option Value} {base : Heap} {T : Addr → Prop} (z_sum : mg "sum" = none) (z_tuple : mg "tuple" = none) (c_lowest : Fn P w K mg base 1 "lowest" (SpD K T [true, true] (G2 m_lowest)))
    {f : Addr} {fd : FuncData} (F : FunD K "mean_shares" "mean_shares" (defArgs s_mean_shares) (defBody s_mean_shares) (defScope s_mean_shares) [] [] f fd) (hm : mg "mean_shares" = some (.ref f)) (hb : Binds K fd ["costs", "asks"] []) : Fn P w K mg base 2 "mean_shares" (SpD K T [true, true] (G2 m_mean_shares)) :=
  Fn.of F sc_mean_shares hm hb rfl fun ds P0 ⟨v_costs, v_asks, hds, hp, hP⟩ => ⟨[I v_costs, I v_asks], by rw [hds]; exact (.im (.im .nil)), fun cd A outer s H E hcd hr => by
  have pown : PassesOwn (model P w) (cxF P w K mg base n_mean_shares "mean_shares" (defScope s_mean_shares) f cd A outer s H E).A (cxF P w K mg base n_mean_shares "mean_shares" (defScope s_mean_shares) f cd A outer s H E).env (fun _ _ => False) := PassesOwn.never
  have h : BR (cxF P w K mg base n_mean_shares "mean_shares" (defScope s_mean_shares) f cd A outer s H E) (noM T) (defBody s_mean_shares) [I v_costs, I v_asks, U, U] (m_mean_shares v_costs v_asks) :=
   (BR.cons (SN.set (E := fun w1 : Int => [I v_costs, I v_asks, I w1, U]) 2 nd_mean_shares rfl lf_mean_shares_whole (.inl rfl) (RE.b1 (b_sumT rfl) rfl z_sum bb_sum (RE.bor (RE.var 1 rfl rfl vf_mean_shares_asks k_asks)) rfl kb_sum) (fun _ => rfl)) fun w1 =>
  (BR.ret (RE.ty1 b_tupL rfl z_tuple bb_tuple (RE.bor (RF.re (RF.lc (own := [("one", 3)]) (ix := [3]) (tE := (fun y2 : Int => [I v_costs, I v_asks, I w1, I y2])) rfl nd_mean_shares (blkOk_by rfl) (by decide) (by decide) (RI.tup (RE.var 1 rfl rfl vf_mean_shares_asks k_asks)) (fun y2 _ _ _ _ _ => (RG.name 3 nd_mean_shares rfl (locB rfl) (.inr rfl) rfl)) (fun _ => .inl ⟨rfl, rfl⟩) (fun y2 _ _ _ _ _ => (RE.ite (RT.cmp c_gt (RE.bor (RE.var 2 rfl rfl (visB rfl) k_whole)) (RE.bor RE.int) (nm_gt _)) (RE.call2 c_lowest hr (Nat.le_of_ble_eq_true rfl) rfl (RA.im (RE.bin o_mul (RE.bor (RE.ix x_tu (RE.bor (RE.var 0 rfl rfl (visB rfl) k_costs)) (RE.bor (RE.var 2 rfl rfl (visB rfl) k_whole)) (fun _ _ => rfl))) (RE.bor (RE.var 3 rfl rfl (visB rfl) k_one))) (RA.im (RE.var 2 rfl rfl (visB rfl) k_whole) RA.nil)) k_lowest) (RE.tup2 (RA.im RE.int (RA.im RE.int RA.nil))))) (fun _ => rfl)))) rfl kb_tuple)))
  exact RdS.imp (h hp) (fun _ z => z) (fun d e => by rw [e]; exact hP) (fun _ z => z) (fun _ z => z)⟩
/-! ## alone_cost -/
abbrev s_alone_cost : Stmt := topS 11
abbrev n_alone_cost : List Str := ["costs", "asks", "at"]
theorem sc_alone_cost : FnScope n_alone_cost ["costs", "asks", "at"] (defScope s_alone_cost) := ⟨rfl, rfl, rfl, by decide +kernel, rfl, by decide +kernel, by decide +kernel⟩
theorem nd_alone_cost : (n_alone_cost).Nodup := sc_alone_cost.nd
theorem lf_alone_cost_costs : L2.Loc (defScope s_alone_cost) "costs" := locB rfl
theorem vf_alone_cost_costs : L2.Vis (defScope s_alone_cost) "costs" := visB rfl
theorem lf_alone_cost_asks : L2.Loc (defScope s_alone_cost) "asks" := locB rfl
theorem vf_alone_cost_asks : L2.Vis (defScope s_alone_cost) "asks" := visB rfl
theorem lf_alone_cost_at : L2.Loc (defScope s_alone_cost) "at" := locB rfl
theorem vf_alone_cost_at : L2.Vis (defScope s_alone_cost) "at" := visB rfl
def m_alone_cost (v_costs : (Tu Int)) (v_asks : (Tu Int)) (v_at : Int) : R (Int × Int) :=
  (R.c2 m_lowest (R.o2 (fun (xs : (Tu Int)) i => ixOk xs.l.length i) (fun xs i => nth xs.l i) (R.pure v_costs) (R.o2 CMul (fun i j : Int => i * j) (R.o2 (fun (xs : (Tu Int)) i => ixOk xs.l.length i) (fun xs i => nth xs.l i) (R.pure v_asks) (R.pure v_at)) (R.o1 T1 (fun xs : (Tu Int) => (xs.l.length : Int)) (R.pure v_asks)))) (R.o1 T1 (fun xs : (Tu Int) => (xs.l.length : Int)) (R.pure v_asks)))
theorem w_alone_cost {P : Program} {w : World} {K : PySem.W.Frag} {mg : Str → Option Value} {base : Heap} {T : Addr → Prop} (z_len : mg "len" = none) (c_lowest : Fn P w K mg base 1 "lowest" (SpD K T [true, true] (G2 m_lowest)))
    {f : Addr} {fd : FuncData} (F : FunD K "alone_cost" "alone_cost" (defArgs s_alone_cost) (defBody s_alone_cost) (defScope s_alone_cost) [] [] f fd) (hm : mg "alone_cost" = some (.ref f)) (hb : Binds K fd ["costs", "asks", "at"] []) : Fn P w K mg base 2 "alone_cost" (SpD K T [true, true, true] (G3 m_alone_cost)) :=
  Fn.of F sc_alone_cost hm hb rfl fun ds P0 ⟨v_costs, v_asks, v_at, hds, hp, hP⟩ => ⟨[I v_costs, I v_asks, I v_at], by rw [hds]; exact (.im (.im (.im .nil))), fun cd A outer s H E hcd hr => by
  have pown : PassesOwn (model P w) (cxF P w K mg base n_alone_cost "alone_cost" (defScope s_alone_cost) f cd A outer s H E).A (cxF P w K mg base n_alone_cost "alone_cost" (defScope s_alone_cost) f cd A outer s H E).env (fun _ _ => False) := PassesOwn.never
  have h : BR (cxF P w K mg base n_alone_cost "alone_cost" (defScope s_alone_cost) f cd A outer s H E) (noM T) (defBody s_alone_cost) [I v_costs, I v_asks, I v_at] (m_alone_cost v_costs v_asks v_at) :=
   (BR.ret (RE.call2 c_lowest hr (Nat.le_of_ble_eq_true rfl) rfl (RA.im (RE.ix x_tu (RE.bor (RE.var 0 rfl rfl vf_alone_cost_costs k_costs)) (RE.bor (RE.bin o_mul (RE.bor (RE.ix x_tu (RE.bor (RE.var 1 rfl rfl vf_alone_cost_asks k_asks)) (RE.bor (RE.var 2 rfl rfl vf_alone_cost_at k_at)) (fun _ _ => rfl))) (RE.bor (RE.b1 b_lenT rfl z_len boot_len (RE.bor (RE.var 1 rfl rfl vf_alone_cost_asks k_asks)) rfl kb_len)))) (fun _ _ => rfl)) (RA.im (RE.b1 b_lenT rfl z_len boot_len (RE.bor (RE.var 1 rfl rfl vf_alone_cost_asks k_asks)) rfl kb_len) RA.nil)) k_lowest))
  exact RdS.imp (h hp) (fun _ z => z) (fun d e => by rw [e]; exact hP) (fun _ z => z) (fun _ z => z)⟩
/-! ## payers -/
abbrev s_payers : Stmt := topS 12
abbrev n_payers : List Str := ["cost", "offers", "left", "part", "stay", "one"]
theorem sc_payers : FnScope n_payers ["cost", "offers"] (defScope s_payers) := ⟨rfl, rfl, rfl, by decide +kernel, rfl, by decide +kernel, by decide +kernel⟩
theorem nd_payers : (n_payers).Nodup := sc_payers.nd
theorem lf_payers_cost : L2.Loc (defScope s_payers) "cost" := locB rfl
theorem vf_payers_cost : L2.Vis (defScope s_payers) "cost" := visB rfl
theorem lf_payers_offers : L2.Loc (defScope s_payers) "offers" := locB rfl
theorem vf_payers_offers : L2.Vis (defScope s_payers) "offers" := visB rfl
theorem lf_payers_left : L2.Loc (defScope s_payers) "left" := locB rfl
theorem vf_payers_left : L2.Vis (defScope s_payers) "left" := visB rfl
theorem lf_payers_part : L2.Loc (defScope s_payers) "part" := locB rfl
theorem vf_payers_part : L2.Vis (defScope s_payers) "part" := visB rfl
theorem lf_payers_stay : L2.Loc (defScope s_payers) "stay" := locB rfl
theorem vf_payers_stay : L2.Vis (defScope s_payers) "stay" := visB rfl
def m_payers (v_cost : Int) (v_offers : (List Int)) : R ((List Int) × (Int × Int)) :=
  (R.bind (R.rng1 (R.o1 T1 (fun xs : (List Int) => (xs.length : Int)) (R.pure v_offers))) fun w1 =>
  (R.flR (R.wlg (β := ((List Int) × (Int × Int))) (L := Empty) (v_offers.length + 1) (w1 : (List Int)) (fun s2 => (R.o1 T1 (fun xs : (List Int) => !xs.isEmpty) (R.pure s2))) (fun s2 =>
  (R.bind (R.c2 m_lowest (R.pure v_cost) (R.o1 T1 (fun xs : (List Int) => (xs.length : Int)) (R.pure s2))) fun w3 =>
  (R.bind (R.lc (α := Int) (R.pure s2) (fun y6 => (R.not (R.o1 T1 (fun i : Bool => i) (R.c2 m_is_less (R.tup2 (R.o2 (fun (xs : (List Int)) i => ixOk xs.length i) nth (R.pure v_offers) (R.pure y6)) (R.pure (1 : Int))) (R.pure w3))))) (fun y6 => (R.pure y6))) fun w4 =>
  (R.ite (R.o2 T2 (fun i j : Int => decide (i = j)) (R.o1 T1 (fun xs : (List Int) => (xs.length : Int)) (R.pure w4)) (R.o1 T1 (fun xs : (List Int) => (xs.length : Int)) (R.pure s2))) (R.fl (R.map (Fl.rt : _ → Fl Empty ((List Int) × (Int × Int)) (List Int)) (R.tup2 (R.pure s2) (R.pure w3))) fun z => nomatch z)
  (R.bind (R.pure w4) fun w7 =>
  (R.pure (Fl.nx w7 : Fl (List Int) ((List Int) × (Int × Int)) (List Int))))))))) fun w8 =>
  (R.tup2 (R.sz (R.lnil (α := Int))) (R.tup2 (R.pure (0 : Int)) (R.pure (1 : Int))))))
theorem w_payers {P : Program} {w : World} {K : PySem.W.Frag} {mg : Str → Option Value} {base : Heap} {T : Addr → Prop} (z_len : mg "len" = none) (z_list : mg "list" = none) (z_range : mg "range" = none) (c_lowest : Fn P w K mg base 1 "lowest" (SpD K T [true, true] (G2 m_lowest))) (c_is_less : Fn P w K mg base 1 "is_less" (SpD K T [true, true] (G2 m_is_less)))
    {f : Addr} {fd : FuncData} (F : FunD K "payers" "payers" (defArgs s_payers) (defBody s_payers) (defScope s_payers) [] [] f fd) (hm : mg "payers" = some (.ref f)) (hb : Binds K fd ["cost", "offers"] []) : Fn P w K mg base 2 "payers" (SpD K T [true, false] (G2 m_payers)) :=
  Fn.of F sc_payers hm hb rfl fun ds P0 ⟨v_cost, v_offers, hds, hp, hP⟩ => ⟨[I v_cost, Br v_offers], by rw [hds]; exact (.im (.br .nil)), fun cd A outer s H E hcd hr => by
  have pown : PassesOwn (model P w) (cxF P w K mg base n_payers "payers" (defScope s_payers) f cd A outer s H E).A (cxF P w K mg base n_payers "payers" (defScope s_payers) f cd A outer s H E).env (fun _ _ => False) := PassesOwn.never
  have h : BR (cxF P w K mg base n_payers "payers" (defScope s_payers) f cd A outer s H E) (noM T) (defBody s_payers) [I v_cost, Br v_offers, U, U, U, U] (m_payers v_cost v_offers) :=
   (BR.cons (SN.set (E := fun w1 : (List Int) => [I v_cost, Br v_offers, I w1, U, U, U]) 2 nd_payers rfl lf_payers_left (.inl rfl) (RF.re (RF.listRng1 rfl rfl z_list rfl z_range (RE.bor (RE.b1 b_lenL rfl z_len boot_len (RB.varB 1 rfl rfl vf_payers_offers k_offers) rfl kb_len)))) (fun _ => rfl)) fun w1 =>
  (BR.consG (EE := fun z : Empty => nomatch z) (SG.while (E := (fun s2 : (List Int) => [I v_cost, Br v_offers, I s2, U, U, U])) (EL := (fun z : Empty => nomatch z)) (v_offers.length + 1) w1 pown (.r (.r (.r (.r (.r (.r .n)))))) (fun s2 => (RT.tru t_list (RE.bor (RE.var 2 rfl rfl vf_payers_left k_left)) (fun _ => rfl))) (fun s2 =>
  (BG.cons (SN.set (E := fun w3 : (Int × Int) => [I v_cost, Br v_offers, I s2, I w3, U, U]) 3 nd_payers rfl lf_payers_part (.inl rfl) (RE.call2 c_lowest hr (Nat.le_of_ble_eq_true rfl) rfl (RA.im (RE.var 0 rfl rfl vf_payers_cost k_cost) (RA.im (RE.b1 b_lenL rfl z_len boot_len (RE.bor (RE.var 2 rfl rfl vf_payers_left k_left)) rfl kb_len) RA.nil)) k_lowest) (fun _ => rfl)) fun w3 =>
  (BG.cons (SN.lc (E := fun w4 : (List Int) => [I v_cost, Br v_offers, I s2, I w3, I w4, U]) (own := [("one", 5)]) (ix := [5]) (tE := (fun y6 : Int => [I v_cost, Br v_offers, I s2, I w3, U, I y6])) 4 (fun _ => rfl) rfl nd_payers rfl rfl (sw_true rfl rfl rfl (by decide +kernel)) (blkOk_by rfl) (by decide) (by decide) (RI.list (RP.ofE (RE.var 2 rfl rfl vf_payers_left k_left))) (fun y6 _ _ _ _ _ => (RG.name 5 nd_payers rfl (locB rfl) (.inr rfl) rfl)) (fun y6 => .inr ⟨_, rfl, fun _ _ _ _ _ => (RT.not (RT.tru t_bool (RE.bor (RE.call2 c_is_less hr (Nat.le_of_ble_eq_true rfl) rfl (RA.im (RE.tup2 (RA.im (RE.ix x_list (RB.varB 1 rfl rfl (visB rfl) k_offers) (RE.bor (RE.var 5 rfl rfl (visB rfl) k_one)) (fun _ _ => rfl)) (RA.im RE.int RA.nil))) (RA.im (RE.var 3 rfl rfl (visB rfl) k_part) RA.nil)) k_is_less)) (fun _ => rfl)))⟩) (fun y6 _ _ _ _ _ => (RE.var 5 rfl rfl (visB rfl) k_one)) (fun _ => rfl)) fun w4 =>
  (BG.cut (EE := fun z : Empty => nomatch z) (RT.cmp c_eqI (RE.bor (RE.b1 b_lenL rfl z_len boot_len (RE.bor (RE.var 4 rfl rfl vf_payers_stay k_stay)) rfl kb_len)) (RE.bor (RE.b1 b_lenL rfl z_len boot_len (RE.bor (RE.var 2 rfl rfl vf_payers_left k_left)) rfl kb_len)) (nm_eq _)) (BG.ret (RE.tup2 (RA.im (RE.var 2 rfl rfl vf_payers_left k_left) (RA.im (RE.var 3 rfl rfl vf_payers_part k_part) RA.nil))))
  (BG.cons (SN.set (E := fun w7 : (List Int) => [I v_cost, Br v_offers, I w7, I w3, I w4, U]) 2 nd_payers rfl lf_payers_left (.inl rfl) (RE.var 4 rfl rfl vf_payers_stay k_stay) (fun _ => rfl)) fun w7 =>
  (BG.nil w7 (.r (.r (.r (.u (.u (.r .n))))))))))))) fun w8 =>
  (BR.ret (RE.tup2 (RA.im (RF.re (RF.lst RL.nil)) (RA.im (RE.tup2 (RA.im RE.int (RA.im RE.int RA.nil))) RA.nil))))))
  exact RdS.imp (h hp) (fun _ z => z) (fun d e => by rw [e]; exact hP) (fun _ z => z) (fun _ z => z)⟩
/-! ## gain_from -/
abbrev s_gain_from : Stmt := topS 13
abbrev n_gain_from : List Str := ["cost", "worths", "offers", "one", "people", "part"]
theorem sc_gain_from : FnScope n_gain_from ["cost", "worths", "offers", "one"] (defScope s_gain_from) := ⟨rfl, rfl, rfl, by decide +kernel, rfl, by decide +kernel, by decide +kernel⟩
theorem nd_gain_from : (n_gain_from).Nodup := sc_gain_from.nd
theorem lf_gain_from_cost : L2.Loc (defScope s_gain_from) "cost" := locB rfl
theorem vf_gain_from_cost : L2.Vis (defScope s_gain_from) "cost" := visB rfl
theorem lf_gain_from_worths : L2.Loc (defScope s_gain_from) "worths" := locB rfl
theorem vf_gain_from_worths : L2.Vis (defScope s_gain_from) "worths" := visB rfl
theorem lf_gain_from_offers : L2.Loc (defScope s_gain_from) "offers" := locB rfl
theorem vf_gain_from_offers : L2.Vis (defScope s_gain_from) "offers" := visB rfl
theorem lf_gain_from_one : L2.Loc (defScope s_gain_from) "one" := locB rfl
theorem vf_gain_from_one : L2.Vis (defScope s_gain_from) "one" := visB rfl
theorem lf_gain_from_people : L2.Loc (defScope s_gain_from) "people" := locB rfl
theorem vf_gain_from_people : L2.Vis (defScope s_gain_from) "people" := visB rfl
theorem lf_gain_from_part : L2.Loc (defScope s_gain_from) "part" := locB rfl
theorem vf_gain_from_part : L2.Vis (defScope s_gain_from) "part" := visB rfl
def m_gain_from (v_cost : Int) (v_worths : (List Int)) (v_offers : (List Int)) (v_one : Int) : R (Int × Int) :=
  (R.bind (R.c2 m_payers (R.pure v_cost) (R.pure v_offers)) fun w1 =>
  (R.ite (R.o2 T2 (fun (i : Int) (l : (List Int)) => decide (i ∈ l)) (R.pure v_one) (R.pure w1.1)) (R.c2 m_add (R.tup2 (R.o2 (fun (xs : (List Int)) i => ixOk xs.length i) nth (R.pure v_worths) (R.pure v_one)) (R.pure (1 : Int))) (R.tup2 (R.o1 T1 (fun i : Int => -i) (R.p1 (R.pure w1.2))) (R.p2 (R.pure w1.2)))) (R.tup2 (R.pure (0 : Int)) (R.pure (1 : Int)))))
theorem w_gain_from {P : Program} {w : World} {K : PySem.W.Frag} {mg : Str → Option Value} {base : Heap} {T : Addr → Prop} (c_payers : Fn P w K mg base 2 "payers" (SpD K T [true, false] (G2 m_payers))) (c_add : Fn P w K mg base 2 "add" (SpD K T [true, true] (G2 m_add)))
    {f : Addr} {fd : FuncData} (F : FunD K "gain_from" "gain_from" (defArgs s_gain_from) (defBody s_gain_from) (defScope s_gain_from) [] [] f fd) (hm : mg "gain_from" = some (.ref f)) (hb : Binds K fd ["cost", "worths", "offers", "one"] []) : Fn P w K mg base 3 "gain_from" (SpD K T [true, false, false, true] (G4 m_gain_from)) :=
  Fn.of F sc_gain_from hm hb rfl fun ds P0 ⟨v_cost, v_worths, v_offers, v_one, hds, hp, hP⟩ => ⟨[I v_cost, Br v_worths, Br v_offers, I v_one], by rw [hds]; exact (.im (.br (.br (.im .nil)))), fun cd A outer s H E hcd hr => by
  have pown : PassesOwn (model P w) (cxF P w K mg base n_gain_from "gain_from" (defScope s_gain_from) f cd A outer s H E).A (cxF P w K mg base n_gain_from "gain_from" (defScope s_gain_from) f cd A outer s H E).env (fun _ _ => False) := PassesOwn.never
  have h : BR (cxF P w K mg base n_gain_from "gain_from" (defScope s_gain_from) f cd A outer s H E) (noM T) (defBody s_gain_from) [I v_cost, Br v_worths, Br v_offers, I v_one, U, U] (m_gain_from v_cost v_worths v_offers v_one) :=
   (BR.cons (SN.tgt (E := (fun w1 : ((List Int) × (Int × Int)) => [I v_cost, Br v_worths, Br v_offers, I v_one, I w1.1, I w1.2])) (RE.call2 c_payers hr (Nat.le_of_ble_eq_true rfl) rfl (RA.im (RE.var 0 rfl rfl vf_gain_from_cost k_cost) (RA.br (RB.varB 2 rfl rfl vf_gain_from_offers k_offers) RA.nil)) k_payers) (fun _ => (RG.tup2 rfl (RG.name 4 nd_gain_from rfl lf_gain_from_people (.inl rfl) rfl) (RG.name 5 nd_gain_from rfl lf_gain_from_part (.inl rfl) rfl)))) fun w1 =>
  (BR.ret (RE.ite (RT.cmp c_inL (RE.bor (RE.var 3 rfl rfl vf_gain_from_one k_one)) (RE.bor (RE.var 4 rfl rfl vf_gain_from_people k_people)) (by with_unfolding_all rfl)) (RE.call2 c_add hr (Nat.le_of_ble_eq_true rfl) rfl (RA.im (RE.tup2 (RA.im (RE.ix x_list (RB.varB 1 rfl rfl vf_gain_from_worths k_worths) (RE.bor (RE.var 3 rfl rfl vf_gain_from_one k_one)) (fun _ _ => rfl)) (RA.im RE.int RA.nil))) (RA.im (RE.tup2 (RA.im (RE.un u_neg (RE.bor (RE.fst (RE.bor (RE.var 5 rfl rfl vf_gain_from_part k_part)) (fun _ _ => rfl)))) (RA.im (RE.snd (RE.bor (RE.var 5 rfl rfl vf_gain_from_part k_part)) (fun _ _ => rfl)) RA.nil))) RA.nil)) k_add) (RE.tup2 (RA.im RE.int (RA.im RE.int RA.nil))))))
  exact RdS.imp (h hp) (fun _ z => z) (fun d e => by rw [e]; exact hP) (fun _ z => z) (fun _ z => z)⟩
/-! ## pivots -/
abbrev s_pivots : Stmt := topS 14
abbrev n_pivots : List Str := ["cost", "worths", "n", "made", "told", "one", "rest", "other_cost", "alone", "pay"]
theorem sc_pivots : FnScope n_pivots ["cost", "worths"] (defScope s_pivots) := ⟨rfl, rfl, rfl, by decide +kernel, rfl, by decide +kernel, by decide +kernel⟩
theorem nd_pivots : (n_pivots).Nodup := sc_pivots.nd
theorem lf_pivots_cost : L2.Loc (defScope s_pivots) "cost" := locB rfl
theorem vf_pivots_cost : L2.Vis (defScope s_pivots) "cost" := visB rfl
theorem lf_pivots_worths : L2.Loc (defScope s_pivots) "worths" := locB rfl
theorem vf_pivots_worths : L2.Vis (defScope s_pivots) "worths" := visB rfl
theorem lf_pivots_n : L2.Loc (defScope s_pivots) "n" := locB rfl
theorem vf_pivots_n : L2.Vis (defScope s_pivots) "n" := visB rfl
theorem lf_pivots_made : L2.Loc (defScope s_pivots) "made" := locB rfl
theorem vf_pivots_made : L2.Vis (defScope s_pivots) "made" := visB rfl
theorem lf_pivots_told : L2.Loc (defScope s_pivots) "told" := locB rfl
theorem vf_pivots_told : L2.Vis (defScope s_pivots) "told" := visB rfl
theorem lf_pivots_one : L2.Loc (defScope s_pivots) "one" := locB rfl
theorem vf_pivots_one : L2.Vis (defScope s_pivots) "one" := visB rfl
theorem lf_pivots_rest : L2.Loc (defScope s_pivots) "rest" := locB rfl
theorem vf_pivots_rest : L2.Vis (defScope s_pivots) "rest" := visB rfl
theorem lf_pivots_other_cost : L2.Loc (defScope s_pivots) "other_cost" := locB rfl
theorem vf_pivots_other_cost : L2.Vis (defScope s_pivots) "other_cost" := visB rfl
theorem lf_pivots_alone : L2.Loc (defScope s_pivots) "alone" := locB rfl
theorem vf_pivots_alone : L2.Vis (defScope s_pivots) "alone" := visB rfl
theorem lf_pivots_pay : L2.Loc (defScope s_pivots) "pay" := locB rfl
theorem vf_pivots_pay : L2.Vis (defScope s_pivots) "pay" := visB rfl
def m_pivots (v_cost : Int) (v_worths : (List Int)) : R (Bool × (Tu (Int × Int))) :=
  (R.bind (R.o1 T1 (fun xs : (List Int) => (xs.length : Int)) (R.pure v_worths)) fun w1 =>
  (R.bind (R.o2 T2 (fun i j : Int => decide (j ≤ i)) (R.o1 T1 (fun xs : List Int => xs.sum) (R.pure v_worths)) (R.pure v_cost)) fun w2 =>
  (R.bind (R.sz (R.lnil (α := (Int × Int)))) fun w3 =>
  (R.bind (R.fold (α := Int) (R.rng1 (R.pure w1)) (w3 : (List (Int × Int))) (fun s4 x5 =>
  (R.bind (R.o2 T2 (fun i j : Int => i - j) (R.o1 T1 (fun xs : List Int => xs.sum) (R.pure v_worths)) (R.o2 (fun (xs : (List Int)) i => ixOk xs.length i) nth (R.pure v_worths) (R.pure x5))) fun w6 =>
  (R.bind (R.c2 m_lowest (R.o2 CMul (fun i j : Int => i * j) (R.pure v_cost) (R.o2 T2 (fun i j : Int => i - j) (R.pure w1) (R.pure (1 : Int)))) (R.pure w1)) fun w7 =>
  (R.bind (R.not (R.c2 m_is_less (R.tup2 (R.pure w6) (R.pure (1 : Int))) (R.pure w7))) fun w8 =>
  (R.bind (R.ite (R.o1 T1 (fun i : Bool => i) (R.pure w2)) (R.c2 m_lowest (R.pure v_cost) (R.pure w1)) (R.tup2 (R.pure (0 : Int)) (R.pure (1 : Int)))) fun w9 =>
  (R.bind (R.ite (R.and (R.o1 T1 (fun i : Bool => i) (R.pure w2)) (R.not (R.o1 T1 (fun i : Bool => i) (R.pure w8)))) (R.bind (R.c2 m_add (R.pure w9) (R.c2 m_add (R.pure w7) (R.tup2 (R.o1 T1 (fun i : Int => -i) (R.pure w6)) (R.pure (1 : Int))))) fun w12 =>
  (R.pure (w12 : (Int × Int)))) (R.pure (w9 : (Int × Int)))) fun w11 =>
  (R.bind (R.ite (R.and (R.not (R.o1 T1 (fun i : Bool => i) (R.pure w2))) (R.o1 T1 (fun i : Bool => i) (R.pure w8))) (R.bind (R.c2 m_add (R.pure w11) (R.c2 m_add (R.tup2 (R.pure w6) (R.pure (1 : Int))) (R.tup2 (R.o1 T1 (fun i : Int => -i) (R.p1 (R.pure w7))) (R.p2 (R.pure w7))))) fun w15 =>
  (R.pure (w15 : (Int × Int)))) (R.pure (w11 : (Int × Int)))) fun w14 =>
  (R.bind (R.app s4 (R.pure w14)) fun w16 =>
  (R.pure (w16 : (List (Int × Int))))))))))))) fun w17 =>
  (R.tup2 (R.pure w2) (R.o1 T1 (fun xs : (List (Int × Int)) => Tu.mk xs) (R.pure w17)))))))
theorem w_pivots {P : Program} {w : World} {K : PySem.W.Frag} {mg : Str → Option Value} {base : Heap} {T : Addr → Prop} (z_len : mg "len" = none) (z_range : mg "range" = none) (z_sum : mg "sum" = none) (z_tuple : mg "tuple" = none) (c_lowest : Fn P w K mg base 1 "lowest" (SpD K T [true, true] (G2 m_lowest))) (c_is_less : Fn P w K mg base 1 "is_less" (SpD K T [true, true] (G2 m_is_less))) (c_add : Fn P w K mg base 2 "add" (SpD K T [true, true] (G2 m_add)))
    {f : Addr} {fd : FuncData} (F : FunD K "pivots" "pivots" (defArgs s_pivots) (defBody s_pivots) (defScope s_pivots) [] [] f fd) (hm : mg "pivots" = some (.ref f)) (hb : Binds K fd ["cost", "worths"] []) : Fn P w K mg base 3 "pivots" (SpD K T [true, false] (G2 m_pivots)) :=
  Fn.of F sc_pivots hm hb rfl fun ds P0 ⟨v_cost, v_worths, hds, hp, hP⟩ => ⟨[I v_cost, Br v_worths], by rw [hds]; exact (.im (.br .nil)), fun cd A outer s H E hcd hr => by
  have pown : PassesOwn (model P w) (cxF P w K mg base n_pivots "pivots" (defScope s_pivots) f cd A outer s H E).A (cxF P w K mg base n_pivots "pivots" (defScope s_pivots) f cd A outer s H E).env (fun _ _ => False) := PassesOwn.never
  have h : BR (cxF P w K mg base n_pivots "pivots" (defScope s_pivots) f cd A outer s H E) (noM T) (defBody s_pivots) [I v_cost, Br v_worths, U, U, U, U, U, U, U, U] (m_pivots v_cost v_worths) :=
   (BR.cons (SN.set (E := fun w1 : Int => [I v_cost, Br v_worths, I w1, U, U, U, U, U, U, U]) 2 nd_pivots rfl lf_pivots_n (.inl rfl) (RE.b1 b_lenL rfl z_len boot_len (RB.varB 1 rfl rfl vf_pivots_worths k_worths) rfl kb_len) (fun _ => rfl)) fun w1 =>
  (BR.cons (SN.set (E := fun w2 : Bool => [I v_cost, Br v_worths, I w1, I w2, U, U, U, U, U, U]) 3 nd_pivots rfl lf_pivots_made (.inl rfl) (RE.cmp c_ge (RE.bor (RE.b1 (b_sumL rfl) rfl z_sum bb_sum (RB.varB 1 rfl rfl vf_pivots_worths k_worths) rfl kb_sum)) (RE.bor (RE.var 0 rfl rfl vf_pivots_cost k_cost)) (nm_ge _)) (fun _ => rfl)) fun w2 =>
  (BR.cons (SN.setF (E := fun w3 : (List (Int × Int)) => [I v_cost, Br v_worths, I w1, I w2, Ow w3, U, U, U, U, U]) 4 nd_pivots rfl lf_pivots_told (.inl rfl) (RF.lst RL.nil) (fun _ => rfl)) fun w3 =>
  (BR.cons (SN.for (E := (fun s4 : (List (Int × Int)) => [I v_cost, Br v_worths, I w1, I w2, Ow s4, U, U, U, U, U])) (tE := (fun (s4 : (List (Int × Int))) (x5 : Int) => [I v_cost, Br v_worths, I w1, I w2, Ow s4, I x5, U, U, U, U])) (ix := [5]) w3 pown rfl (.r (.r (.r (.r (.r (.r (.r (.r (.r (.r .n)))))))))) (RI.range1 rfl z_range (RE.bor (RE.var 2 rfl rfl vf_pivots_n k_n))) (fun _ _ => (RG.name 5 nd_pivots rfl lf_pivots_one (.inl rfl) rfl)) (fun s4 x5 =>
  (BN.cons (SN.set (E := fun w6 : Int => [I v_cost, Br v_worths, I w1, I w2, Ow s4, I x5, I w6, U, U, U]) 6 nd_pivots rfl lf_pivots_rest (.inl rfl) (RE.bin o_sub (RE.bor (RE.b1 (b_sumL rfl) rfl z_sum bb_sum (RB.varB 1 rfl rfl vf_pivots_worths k_worths) rfl kb_sum)) (RE.bor (RE.ix x_list (RB.varB 1 rfl rfl vf_pivots_worths k_worths) (RE.bor (RE.var 5 rfl rfl vf_pivots_one k_one)) (fun _ _ => rfl)))) (fun _ => rfl)) fun w6 =>
  (BN.cons (SN.set (E := fun w7 : (Int × Int) => [I v_cost, Br v_worths, I w1, I w2, Ow s4, I x5, I w6, I w7, U, U]) 7 nd_pivots rfl lf_pivots_other_cost (.inl rfl) (RE.call2 c_lowest hr (Nat.le_of_ble_eq_true rfl) rfl (RA.im (RE.bin o_mul (RE.bor (RE.var 0 rfl rfl vf_pivots_cost k_cost)) (RE.bor (RE.bin o_sub (RE.bor (RE.var 2 rfl rfl vf_pivots_n k_n)) (RE.bor RE.int)))) (RA.im (RE.var 2 rfl rfl vf_pivots_n k_n) RA.nil)) k_lowest) (fun _ => rfl)) fun w7 =>
  (BN.cons (SN.set (E := fun w8 : Bool => [I v_cost, Br v_worths, I w1, I w2, Ow s4, I x5, I w6, I w7, I w8, U]) 8 nd_pivots rfl lf_pivots_alone (.inl rfl) (RE.not (RE.bor (RE.call2 c_is_less hr (Nat.le_of_ble_eq_true rfl) rfl (RA.im (RE.tup2 (RA.im (RE.var 6 rfl rfl vf_pivots_rest k_rest) (RA.im RE.int RA.nil))) (RA.im (RE.var 7 rfl rfl vf_pivots_other_cost k_other_cost) RA.nil)) k_is_less))) (fun _ => rfl)) fun w8 =>
  (BN.cons (SN.set (E := fun w9 : (Int × Int) => [I v_cost, Br v_worths, I w1, I w2, Ow s4, I x5, I w6, I w7, I w8, I w9]) 9 nd_pivots rfl lf_pivots_pay (.inl rfl) (RE.ite (RT.tru t_bool (RE.bor (RE.var 3 rfl rfl vf_pivots_made k_made)) (fun _ => rfl)) (RE.call2 c_lowest hr (Nat.le_of_ble_eq_true rfl) rfl (RA.im (RE.var 0 rfl rfl vf_pivots_cost k_cost) (RA.im (RE.var 2 rfl rfl vf_pivots_n k_n) RA.nil)) k_lowest) (RE.tup2 (RA.im RE.int (RA.im RE.int RA.nil)))) (fun _ => rfl)) fun w9 =>
  (BN.cons (SN.ite (E := fun w11 : (Int × Int) => [I v_cost, Br v_worths, I w1, I w2, Ow s4, I x5, I w6, I w7, I w8, I w11]) (RW.t (RW.and (RT.tru t_bool (RE.bor (RE.var 3 rfl rfl vf_pivots_made k_made)) (fun _ => rfl)) (RT.and1 (RT.not (RT.tru t_bool (RE.bor (RE.var 8 rfl rfl vf_pivots_alone k_alone)) (fun _ => rfl)))))) (BN.cons (SN.set (E := fun w12 : (Int × Int) => [I v_cost, Br v_worths, I w1, I w2, Ow s4, I x5, I w6, I w7, I w8, I w12]) 9 nd_pivots rfl lf_pivots_pay (.inl rfl) (RE.call2 c_add hr (Nat.le_of_ble_eq_true rfl) rfl (RA.im (RE.var 9 rfl rfl vf_pivots_pay k_pay) (RA.im (RE.call2 c_add hr (Nat.le_of_ble_eq_true rfl) rfl (RA.im (RE.var 7 rfl rfl vf_pivots_other_cost k_other_cost) (RA.im (RE.tup2 (RA.im (RE.un u_neg (RE.bor (RE.var 6 rfl rfl vf_pivots_rest k_rest))) (RA.im RE.int RA.nil))) RA.nil)) k_add) RA.nil)) k_add) (fun _ => rfl)) fun w12 =>
  (BN.nil w12 (.r (.r (.r (.r (.r (.r (.r (.r (.r (.r .n)))))))))))) (BN.nil w9 (.r (.r (.r (.r (.r (.r (.r (.r (.r (.r .n)))))))))))) fun w11 =>
  (BN.cons (SN.ite (E := fun w14 : (Int × Int) => [I v_cost, Br v_worths, I w1, I w2, Ow s4, I x5, I w6, I w7, I w8, I w14]) (RW.t (RW.and (RT.not (RT.tru t_bool (RE.bor (RE.var 3 rfl rfl vf_pivots_made k_made)) (fun _ => rfl))) (RT.and1 (RT.tru t_bool (RE.bor (RE.var 8 rfl rfl vf_pivots_alone k_alone)) (fun _ => rfl))))) (BN.cons (SN.set (E := fun w15 : (Int × Int) => [I v_cost, Br v_worths, I w1, I w2, Ow s4, I x5, I w6, I w7, I w8, I w15]) 9 nd_pivots rfl lf_pivots_pay (.inl rfl) (RE.call2 c_add hr (Nat.le_of_ble_eq_true rfl) rfl (RA.im (RE.var 9 rfl rfl vf_pivots_pay k_pay) (RA.im (RE.call2 c_add hr (Nat.le_of_ble_eq_true rfl) rfl (RA.im (RE.tup2 (RA.im (RE.var 6 rfl rfl vf_pivots_rest k_rest) (RA.im RE.int RA.nil))) (RA.im (RE.tup2 (RA.im (RE.un u_neg (RE.bor (RE.fst (RE.bor (RE.var 7 rfl rfl vf_pivots_other_cost k_other_cost)) (fun _ _ => rfl)))) (RA.im (RE.snd (RE.bor (RE.var 7 rfl rfl vf_pivots_other_cost k_other_cost)) (fun _ _ => rfl)) RA.nil))) RA.nil)) k_add) RA.nil)) k_add) (fun _ => rfl)) fun w15 =>
  (BN.nil w15 (.r (.r (.r (.r (.r (.r (.r (.r (.r (.r .n)))))))))))) (BN.nil w11 (.r (.r (.r (.r (.r (.r (.r (.r (.r (.r .n)))))))))))) fun w14 =>
  (BN.cons (SN.append (E := (fun w16 : (List (Int × Int)) => [I v_cost, Br v_worths, I w1, I w2, Ow w16, I x5, I w6, I w7, I w8, I w14])) 4 rfl (fun _ => rfl) rfl vf_pivots_told k_told (RE.var 9 rfl rfl vf_pivots_pay k_pay)) fun w16 =>
  (BN.nil w16 (.r (.r (.r (.r (.r (.u (.u (.u (.u (.u .n))))))))))))))))))) (fun _ => rfl)) fun w17 =>
  (BR.ret (RE.tup2 (RA.im (RE.var 3 rfl rfl vf_pivots_made k_made) (RA.im (RE.ty1 b_tupL rfl z_tuple bb_tuple (RB.varO 4 rfl rfl vf_pivots_told k_told) rfl kb_tuple) RA.nil))))))))
  exact RdS.imp (h hp) (fun _ z => z) (fun d e => by rw [e]; exact hP) (fun _ z => z) (fun _ z => z)⟩
/-! ## pivot_gain -/
abbrev s_pivot_gain : Stmt := topS 15
abbrev n_pivot_gain : List Str := ["cost", "worths", "offers", "one", "worth", "made", "pays"]
theorem sc_pivot_gain : FnScope n_pivot_gain ["cost", "worths", "offers", "one"] (defScope s_pivot_gain) := ⟨rfl, rfl, rfl, by decide +kernel, rfl, by decide +kernel, by decide +kernel⟩
theorem nd_pivot_gain : (n_pivot_gain).Nodup := sc_pivot_gain.nd
theorem lf_pivot_gain_cost : L2.Loc (defScope s_pivot_gain) "cost" := locB rfl
theorem vf_pivot_gain_cost : L2.Vis (defScope s_pivot_gain) "cost" := visB rfl
theorem lf_pivot_gain_worths : L2.Loc (defScope s_pivot_gain) "worths" := locB rfl
theorem vf_pivot_gain_worths : L2.Vis (defScope s_pivot_gain) "worths" := visB rfl
theorem lf_pivot_gain_offers : L2.Loc (defScope s_pivot_gain) "offers" := locB rfl
theorem vf_pivot_gain_offers : L2.Vis (defScope s_pivot_gain) "offers" := visB rfl
theorem lf_pivot_gain_one : L2.Loc (defScope s_pivot_gain) "one" := locB rfl
theorem vf_pivot_gain_one : L2.Vis (defScope s_pivot_gain) "one" := visB rfl
theorem lf_pivot_gain_worth : L2.Loc (defScope s_pivot_gain) "worth" := locB rfl
theorem vf_pivot_gain_worth : L2.Vis (defScope s_pivot_gain) "worth" := visB rfl
theorem lf_pivot_gain_made : L2.Loc (defScope s_pivot_gain) "made" := locB rfl
theorem vf_pivot_gain_made : L2.Vis (defScope s_pivot_gain) "made" := visB rfl
theorem lf_pivot_gain_pays : L2.Loc (defScope s_pivot_gain) "pays" := locB rfl
theorem vf_pivot_gain_pays : L2.Vis (defScope s_pivot_gain) "pays" := visB rfl
def m_pivot_gain (v_cost : Int) (v_worths : (List Int)) (v_offers : (List Int)) (v_one : Int) : R (Int × Int) :=
  (R.bind (R.c2 m_pivots (R.pure v_cost) (R.pure v_offers)) fun w1 =>
  (R.bind (R.ite (R.o1 T1 (fun i : Bool => i) (R.pure w1.1)) (R.tup2 (R.o2 (fun (xs : (List Int)) i => ixOk xs.length i) nth (R.pure v_worths) (R.pure v_one)) (R.pure (1 : Int))) (R.tup2 (R.pure (0 : Int)) (R.pure (1 : Int)))) fun w2 =>
  (R.c2 m_add (R.pure w2) (R.tup2 (R.o1 T1 (fun i : Int => -i) (R.p1 (R.o2 (fun (xs : (Tu (Int × Int))) i => ixOk xs.l.length i) (fun xs i => nth xs.l i) (R.pure w1.2) (R.pure v_one)))) (R.p2 (R.o2 (fun (xs : (Tu (Int × Int))) i => ixOk xs.l.length i) (fun xs i => nth xs.l i) (R.pure w1.2) (R.pure v_one)))))))
theorem w_pivot_gain {P : Program} {w : World} {K : PySem.W.Frag} {mg : Str → Option Value} {base : Heap} {T : Addr → Prop} (c_pivots : Fn P w K mg base 3 "pivots" (SpD K T [true, false] (G2 m_pivots))) (c_add : Fn P w K mg base 2 "add" (SpD K T [true, true] (G2 m_add)))
    {f : Addr} {fd : FuncData} (F : FunD K "pivot_gain" "pivot_gain" (defArgs s_pivot_gain) (defBody s_pivot_gain) (defScope s_pivot_gain) [] [] f fd) (hm : mg "pivot_gain" = some (.ref f)) (hb : Binds K fd ["cost", "worths", "offers", "one"] []) : Fn P w K mg base 4 "pivot_gain" (SpD K T [true, false, false, true] (G4 m_pivot_gain)) :=
  Fn.of F sc_pivot_gain hm hb rfl fun ds P0 ⟨v_cost, v_worths, v_offers, v_one, hds, hp, hP⟩ => ⟨[I v_cost, Br v_worths, Br v_offers, I v_one], by rw [hds]; exact (.im (.br (.br (.im .nil)))), fun cd A outer s H E hcd hr => by
  have pown : PassesOwn (model P w) (cxF P w K mg base n_pivot_gain "pivot_gain" (defScope s_pivot_gain) f cd A outer s H E).A (cxF P w K mg base n_pivot_gain "pivot_gain" (defScope s_pivot_gain) f cd A outer s H E).env (fun _ _ => False) := PassesOwn.never
  have h : BR (cxF P w K mg base n_pivot_gain "pivot_gain" (defScope s_pivot_gain) f cd A outer s H E) (noM T) (defBody s_pivot_gain) [I v_cost, Br v_worths, Br v_offers, I v_one, U, U, U] (m_pivot_gain v_cost v_worths v_offers v_one) :=
   (BR.cons (SN.tgt (E := (fun w1 : (Bool × (Tu (Int × Int))) => [I v_cost, Br v_worths, Br v_offers, I v_one, U, I w1.1, I w1.2])) (RE.call2 c_pivots hr (Nat.le_of_ble_eq_true rfl) rfl (RA.im (RE.var 0 rfl rfl vf_pivot_gain_cost k_cost) (RA.br (RB.varB 2 rfl rfl vf_pivot_gain_offers k_offers) RA.nil)) k_pivots) (fun _ => (RG.tup2 rfl (RG.name 5 nd_pivot_gain rfl lf_pivot_gain_made (.inl rfl) rfl) (RG.name 6 nd_pivot_gain rfl lf_pivot_gain_pays (.inl rfl) rfl)))) fun w1 =>
  (BR.cons (SN.set (E := fun w2 : (Int × Int) => [I v_cost, Br v_worths, Br v_offers, I v_one, I w2, I w1.1, I w1.2]) 4 nd_pivot_gain rfl lf_pivot_gain_worth (.inl rfl) (RE.ite (RT.tru t_bool (RE.bor (RE.var 5 rfl rfl vf_pivot_gain_made k_made)) (fun _ => rfl)) (RE.tup2 (RA.im (RE.ix x_list (RB.varB 1 rfl rfl vf_pivot_gain_worths k_worths) (RE.bor (RE.var 3 rfl rfl vf_pivot_gain_one k_one)) (fun _ _ => rfl)) (RA.im RE.int RA.nil))) (RE.tup2 (RA.im RE.int (RA.im RE.int RA.nil)))) (fun _ => rfl)) fun w2 =>
  (BR.ret (RE.call2 c_add hr (Nat.le_of_ble_eq_true rfl) rfl (RA.im (RE.var 4 rfl rfl vf_pivot_gain_worth k_worth) (RA.im (RE.tup2 (RA.im (RE.un u_neg (RE.bor (RE.fst (RE.bor (RE.ix x_tu (RE.bor (RE.var 6 rfl rfl vf_pivot_gain_pays k_pays)) (RE.bor (RE.var 3 rfl rfl vf_pivot_gain_one k_one)) (fun _ _ => rfl))) (fun _ _ => rfl)))) (RA.im (RE.snd (RE.bor (RE.ix x_tu (RE.bor (RE.var 6 rfl rfl vf_pivot_gain_pays k_pays)) (RE.bor (RE.var 3 rfl rfl vf_pivot_gain_one k_one)) (fun _ _ => rfl))) (fun _ _ => rfl)) RA.nil))) RA.nil)) k_add))))
  exact RdS.imp (h hp) (fun _ z => z) (fun d e => by rw [e]; exact hP) (fun _ z => z) (fun _ z => z)⟩
/-! ## _law_lowest -/
abbrev s__law_lowest : Stmt := topS 20
abbrev n__law_lowest : List Str := ["above", "below", "sign", "one", "other", "rest"]
theorem sc__law_lowest : FnScope n__law_lowest ["above", "below"] (defScope s__law_lowest) := ⟨rfl, rfl, rfl, by decide +kernel, rfl, by decide +kernel, by decide +kernel⟩
theorem nd__law_lowest : (n__law_lowest).Nodup := sc__law_lowest.nd
theorem lf__law_lowest_above : L2.Loc (defScope s__law_lowest) "above" := locB rfl
theorem vf__law_lowest_above : L2.Vis (defScope s__law_lowest) "above" := visB rfl
theorem lf__law_lowest_below : L2.Loc (defScope s__law_lowest) "below" := locB rfl
theorem vf__law_lowest_below : L2.Vis (defScope s__law_lowest) "below" := visB rfl
theorem lf__law_lowest_sign : L2.Loc (defScope s__law_lowest) "sign" := locB rfl
theorem vf__law_lowest_sign : L2.Vis (defScope s__law_lowest) "sign" := visB rfl
theorem lf__law_lowest_one : L2.Loc (defScope s__law_lowest) "one" := locB rfl
theorem vf__law_lowest_one : L2.Vis (defScope s__law_lowest) "one" := visB rfl
theorem lf__law_lowest_other : L2.Loc (defScope s__law_lowest) "other" := locB rfl
theorem vf__law_lowest_other : L2.Vis (defScope s__law_lowest) "other" := visB rfl
theorem lf__law_lowest_rest : L2.Loc (defScope s__law_lowest) "rest" := locB rfl
theorem vf__law_lowest_rest : L2.Vis (defScope s__law_lowest) "rest" := visB rfl
def m__law_lowest (v_above : Int) (v_below : Int) : R (Int × Int) :=
  (R.bind (R.tup2 (R.o1 T1 (fun i : Int => if i < 0 then -i else i) (R.pure v_above)) (R.o1 T1 (fun i : Int => if i < 0 then -i else i) (R.pure v_below))) fun w1 =>
  (R.bind (R.whl ((w1.2).toNat + 1) ((w1.1, w1.2) : (Int × Int)) (fun s2 => (R.o2 T2 (fun i j : Int => decide (j < i)) (R.pure s2.2) (R.pure (0 : Int)))) (fun s2 =>
  (R.bind (R.o2 (fun _ j => 0 < j) (fun i j : Int => i % j) (R.o1 T1 (fun i : Int => i) (R.pure s2.1)) (R.pure s2.2)) fun w3 =>
  (R.bind (R.pure s2.2) fun w4 =>
  (R.bind (R.pure w3) fun w5 =>
  (R.pure ((w4, w5) : (Int × Int)))))))) fun w6 =>
  (R.bind (R.ite (R.o2 T2 (fun i j : Int => decide (i < j)) (R.pure v_below) (R.pure (0 : Int))) (R.o1 T1 (fun i : Int => -i) (R.pure (1 : Int))) (R.pure (1 : Int))) fun w7 =>
  (R.tup2 (R.o2 CDiv (fun i j : Int => i / j) (R.o2 CMul (fun i j : Int => i * j) (R.pure w7) (R.pure v_above)) (R.pure w6.1)) (R.o2 CDiv (fun i j : Int => i / j) (R.o2 CMul (fun i j : Int => i * j) (R.pure w7) (R.pure v_below)) (R.pure w6.1))))))
theorem w__law_lowest {P : Program} {w : World} {K : PySem.W.Frag} {mg : Str → Option Value} {base : Heap} {T : Addr → Prop} (z_abs : mg "abs" = none) (z_int : mg "int" = none)
    {f : Addr} {fd : FuncData} (F : FunD K "_law_lowest" "_law_lowest" (defArgs s__law_lowest) (defBody s__law_lowest) (defScope s__law_lowest) [] [] f fd) (hm : mg "_law_lowest" = some (.ref f)) (hb : Binds K fd ["above", "below"] []) : Fn P w K mg base 1 "_law_lowest" (SpD K T [true, true] (G2 m__law_lowest)) :=
  Fn.of F sc__law_lowest hm hb rfl fun ds P0 ⟨v_above, v_below, hds, hp, hP⟩ => ⟨[I v_above, I v_below], by rw [hds]; exact (.im (.im .nil)), fun cd A outer s H E hcd hr => by
  have pown : PassesOwn (model P w) (cxF P w K mg base n__law_lowest "_law_lowest" (defScope s__law_lowest) f cd A outer s H E).A (cxF P w K mg base n__law_lowest "_law_lowest" (defScope s__law_lowest) f cd A outer s H E).env (fun _ _ => False) := PassesOwn.never
  have h : BR (cxF P w K mg base n__law_lowest "_law_lowest" (defScope s__law_lowest) f cd A outer s H E) (noM T) (defBody s__law_lowest) [I v_above, I v_below, U, U, U, U] (m__law_lowest v_above v_below) :=
   (BR.cons (SN.par (E := fun w1 : (Int × Int) => [I v_above, I v_below, U, I w1.1, I w1.2, U]) 3 4 (fun _ => rfl) rfl nd__law_lowest rfl rfl (by decide) rfl rfl (RA.im (RE.b1 b_abs rfl z_abs bb_abs (RE.bor (RE.var 0 rfl rfl vf__law_lowest_above k_above)) rfl kb_abs) (RA.im (RE.b1 b_abs rfl z_abs bb_abs (RE.bor (RE.var 1 rfl rfl vf__law_lowest_below k_below)) rfl kb_abs) RA.nil)) rfl) fun w1 =>
  (BR.cons (SN.while (E := (fun s2 : (Int × Int) => [I v_above, I v_below, U, I s2.1, I s2.2, U])) ((w1.2).toNat + 1) (w1.1, w1.2) pown (.r (.r (.r (.r (.r (.r .n)))))) (fun s2 => (RT.cmp c_gt (RE.bor (RE.var 4 rfl rfl vf__law_lowest_other k_other)) (RE.bor RE.int) (nm_gt _))) (fun s2 =>
  (BN.cons (SN.set (E := fun w3 : Int => [I v_above, I v_below, U, I s2.1, I s2.2, I w3]) 5 nd__law_lowest rfl lf__law_lowest_rest (.inl rfl) (RE.bin o_mod (RE.bor (RE.ty1 b_intI rfl z_int bb_int (RE.bor (RE.var 3 rfl rfl vf__law_lowest_one k_one)) rfl kb_int)) (RE.bor (RE.var 4 rfl rfl vf__law_lowest_other k_other))) (fun _ => rfl)) fun w3 =>
  (BN.cons (SN.set (E := fun w4 : Int => [I v_above, I v_below, U, I w4, I s2.2, I w3]) 3 nd__law_lowest rfl lf__law_lowest_one (.inl rfl) (RE.var 4 rfl rfl vf__law_lowest_other k_other) (fun _ => rfl)) fun w4 =>
  (BN.cons (SN.set (E := fun w5 : Int => [I v_above, I v_below, U, I w4, I w5, I w3]) 4 nd__law_lowest rfl lf__law_lowest_other (.inl rfl) (RE.var 5 rfl rfl vf__law_lowest_rest k_rest) (fun _ => rfl)) fun w5 =>
  (BN.nil (w4, w5) (.r (.r (.r (.r (.r (.u .n)))))))))))) fun w6 =>
  (BR.cons (SN.set (E := fun w7 : Int => [I v_above, I v_below, I w7, I w6.1, I w6.2, U]) 2 nd__law_lowest rfl lf__law_lowest_sign (.inl rfl) (RE.ite (RT.cmp c_lt (RE.bor (RE.var 1 rfl rfl vf__law_lowest_below k_below)) (RE.bor RE.int) (nm_lt _)) (RE.un u_neg (RE.bor RE.int)) RE.int) (fun _ => rfl)) fun w7 =>
  (BR.ret (RE.tup2 (RA.im (RE.bin o_fdiv (RE.bor (RE.bin o_mul (RE.bor (RE.var 2 rfl rfl vf__law_lowest_sign k_sign)) (RE.bor (RE.var 0 rfl rfl vf__law_lowest_above k_above)))) (RE.bor (RE.var 3 rfl rfl vf__law_lowest_one k_one))) (RA.im (RE.bin o_fdiv (RE.bor (RE.bin o_mul (RE.bor (RE.var 2 rfl rfl vf__law_lowest_sign k_sign)) (RE.bor (RE.var 1 rfl rfl vf__law_lowest_below k_below)))) (RE.bor (RE.var 3 rfl rfl vf__law_lowest_one k_one))) RA.nil)))))))
  exact RdS.imp (h hp) (fun _ z => z) (fun d e => by rw [e]; exact hP) (fun _ z => z) (fun _ z => z)⟩
/-! ## _law_plus -/
abbrev s__law_plus : Stmt := topS 21
abbrev n__law_plus : List Str := ["one", "other"]
theorem sc__law_plus : FnScope n__law_plus ["one", "other"] (defScope s__law_plus) := ⟨rfl, rfl, rfl, by decide +kernel, rfl, by decide +kernel, by decide +kernel⟩
theorem nd__law_plus : (n__law_plus).Nodup := sc__law_plus.nd
theorem lf__law_plus_one : L2.Loc (defScope s__law_plus) "one" := locB rfl
theorem vf__law_plus_one : L2.Vis (defScope s__law_plus) "one" := visB rfl
theorem lf__law_plus_other : L2.Loc (defScope s__law_plus) "other" := locB rfl
theorem vf__law_plus_other : L2.Vis (defScope s__law_plus) "other" := visB rfl
def m__law_plus (v_one : (Int × Int)) (v_other : (Int × Int)) : R (Int × Int) :=
  (R.c2 m__law_lowest (R.o2 T2 (fun i j : Int => i + j) (R.o2 CMul (fun i j : Int => i * j) (R.p1 (R.pure v_one)) (R.p2 (R.pure v_other))) (R.o2 CMul (fun i j : Int => i * j) (R.p1 (R.pure v_other)) (R.p2 (R.pure v_one)))) (R.o2 CMul (fun i j : Int => i * j) (R.p2 (R.pure v_one)) (R.p2 (R.pure v_other))))
theorem w__law_plus {P : Program} {w : World} {K : PySem.W.Frag} {mg : Str → Option Value} {base : Heap} {T : Addr → Prop} (c__law_lowest : Fn P w K mg base 1 "_law_lowest" (SpD K T [true, true] (G2 m__law_lowest)))
    {f : Addr} {fd : FuncData} (F : FunD K "_law_plus" "_law_plus" (defArgs s__law_plus) (defBody s__law_plus) (defScope s__law_plus) [] [] f fd) (hm : mg "_law_plus" = some (.ref f)) (hb : Binds K fd ["one", "other"] []) : Fn P w K mg base 2 "_law_plus" (SpD K T [true, true] (G2 m__law_plus)) :=
  Fn.of F sc__law_plus hm hb rfl fun ds P0 ⟨v_one, v_other, hds, hp, hP⟩ => ⟨[I v_one, I v_other], by rw [hds]; exact (.im (.im .nil)), fun cd A outer s H E hcd hr => by
  have pown : PassesOwn (model P w) (cxF P w K mg base n__law_plus "_law_plus" (defScope s__law_plus) f cd A outer s H E).A (cxF P w K mg base n__law_plus "_law_plus" (defScope s__law_plus) f cd A outer s H E).env (fun _ _ => False) := PassesOwn.never
  have h : BR (cxF P w K mg base n__law_plus "_law_plus" (defScope s__law_plus) f cd A outer s H E) (noM T) (defBody s__law_plus) [I v_one, I v_other] (m__law_plus v_one v_other) :=
   (BR.ret (RE.call2 c__law_lowest hr (Nat.le_of_ble_eq_true rfl) rfl (RA.im (RE.bin o_add (RE.bor (RE.bin o_mul (RE.bor (RE.fst (RE.bor (RE.var 0 rfl rfl vf__law_plus_one k_one)) (fun _ _ => rfl))) (RE.bor (RE.snd (RE.bor (RE.var 1 rfl rfl vf__law_plus_other k_other)) (fun _ _ => rfl))))) (RE.bor (RE.bin o_mul (RE.bor (RE.fst (RE.bor (RE.var 1 rfl rfl vf__law_plus_other k_other)) (fun _ _ => rfl))) (RE.bor (RE.snd (RE.bor (RE.var 0 rfl rfl vf__law_plus_one k_one)) (fun _ _ => rfl)))))) (RA.im (RE.bin o_mul (RE.bor (RE.snd (RE.bor (RE.var 0 rfl rfl vf__law_plus_one k_one)) (fun _ _ => rfl))) (RE.bor (RE.snd (RE.bor (RE.var 1 rfl rfl vf__law_plus_other k_other)) (fun _ _ => rfl)))) RA.nil)) k__law_lowest))
  exact RdS.imp (h hp) (fun _ z => z) (fun d e => by rw [e]; exact hP) (fun _ z => z) (fun _ z => z)⟩
/-! ## _law_minus -/
abbrev s__law_minus : Stmt := topS 23
abbrev n__law_minus : List Str := ["one", "other"]
theorem sc__law_minus : FnScope n__law_minus ["one", "other"] (defScope s__law_minus) := ⟨rfl, rfl, rfl, by decide +kernel, rfl, by decide +kernel, by decide +kernel⟩
theorem nd__law_minus : (n__law_minus).Nodup := sc__law_minus.nd
theorem lf__law_minus_one : L2.Loc (defScope s__law_minus) "one" := locB rfl
theorem vf__law_minus_one : L2.Vis (defScope s__law_minus) "one" := visB rfl
theorem lf__law_minus_other : L2.Loc (defScope s__law_minus) "other" := locB rfl
theorem vf__law_minus_other : L2.Vis (defScope s__law_minus) "other" := visB rfl
def m__law_minus (v_one : (Int × Int)) (v_other : (Int × Int)) : R (Int × Int) :=
  (R.c2 m__law_lowest (R.o2 T2 (fun i j : Int => i - j) (R.o2 CMul (fun i j : Int => i * j) (R.p1 (R.pure v_one)) (R.p2 (R.pure v_other))) (R.o2 CMul (fun i j : Int => i * j) (R.p1 (R.pure v_other)) (R.p2 (R.pure v_one)))) (R.o2 CMul (fun i j : Int => i * j) (R.p2 (R.pure v_one)) (R.p2 (R.pure v_other))))
theorem w__law_minus {P : Program} {w : World} {K : PySem.W.Frag} {mg : Str → Option Value} {base : Heap} {T : Addr → Prop} (c__law_lowest : Fn P w K mg base 1 "_law_lowest" (SpD K T [true, true] (G2 m__law_lowest)))
    {f : Addr} {fd : FuncData} (F : FunD K "_law_minus" "_law_minus" (defArgs s__law_minus) (defBody s__law_minus) (defScope s__law_minus) [] [] f fd) (hm : mg "_law_minus" = some (.ref f)) (hb : Binds K fd ["one", "other"] []) : Fn P w K mg base 2 "_law_minus" (SpD K T [true, true] (G2 m__law_minus)) :=
  Fn.of F sc__law_minus hm hb rfl fun ds P0 ⟨v_one, v_other, hds, hp, hP⟩ => ⟨[I v_one, I v_other], by rw [hds]; exact (.im (.im .nil)), fun cd A outer s H E hcd hr => by
  have pown : PassesOwn (model P w) (cxF P w K mg base n__law_minus "_law_minus" (defScope s__law_minus) f cd A outer s H E).A (cxF P w K mg base n__law_minus "_law_minus" (defScope s__law_minus) f cd A outer s H E).env (fun _ _ => False) := PassesOwn.never
  have h : BR (cxF P w K mg base n__law_minus "_law_minus" (defScope s__law_minus) f cd A outer s H E) (noM T) (defBody s__law_minus) [I v_one, I v_other] (m__law_minus v_one v_other) :=
   (BR.ret (RE.call2 c__law_lowest hr (Nat.le_of_ble_eq_true rfl) rfl (RA.im (RE.bin o_sub (RE.bor (RE.bin o_mul (RE.bor (RE.fst (RE.bor (RE.var 0 rfl rfl vf__law_minus_one k_one)) (fun _ _ => rfl))) (RE.bor (RE.snd (RE.bor (RE.var 1 rfl rfl vf__law_minus_other k_other)) (fun _ _ => rfl))))) (RE.bor (RE.bin o_mul (RE.bor (RE.fst (RE.bor (RE.var 1 rfl rfl vf__law_minus_other k_other)) (fun _ _ => rfl))) (RE.bor (RE.snd (RE.bor (RE.var 0 rfl rfl vf__law_minus_one k_one)) (fun _ _ => rfl)))))) (RA.im (RE.bin o_mul (RE.bor (RE.snd (RE.bor (RE.var 0 rfl rfl vf__law_minus_one k_one)) (fun _ _ => rfl))) (RE.bor (RE.snd (RE.bor (RE.var 1 rfl rfl vf__law_minus_other k_other)) (fun _ _ => rfl)))) RA.nil)) k__law_lowest))
  exact RdS.imp (h hp) (fun _ z => z) (fun d e => by rw [e]; exact hP) (fun _ z => z) (fun _ z => z)⟩
/-! ## _law_below -/
abbrev s__law_below : Stmt := topS 22
abbrev n__law_below : List Str := ["one", "other"]
theorem sc__law_below : FnScope n__law_below ["one", "other"] (defScope s__law_below) := ⟨rfl, rfl, rfl, by decide +kernel, rfl, by decide +kernel, by decide +kernel⟩
theorem nd__law_below : (n__law_below).Nodup := sc__law_below.nd
theorem lf__law_below_one : L2.Loc (defScope s__law_below) "one" := locB rfl
theorem vf__law_below_one : L2.Vis (defScope s__law_below) "one" := visB rfl
theorem lf__law_below_other : L2.Loc (defScope s__law_below) "other" := locB rfl
theorem vf__law_below_other : L2.Vis (defScope s__law_below) "other" := visB rfl
def m__law_below (v_one : (Int × Int)) (v_other : (Int × Int)) : R Bool :=
  (R.o2 T2 (fun i j : Int => decide (i < j)) (R.o2 CMul (fun i j : Int => i * j) (R.p1 (R.pure v_one)) (R.p2 (R.pure v_other))) (R.o2 CMul (fun i j : Int => i * j) (R.p1 (R.pure v_other)) (R.p2 (R.pure v_one))))
theorem w__law_below {P : Program} {w : World} {K : PySem.W.Frag} {mg : Str → Option Value} {base : Heap} {T : Addr → Prop} 
    {f : Addr} {fd : FuncData} (F : FunD K "_law_below" "_law_below" (defArgs s__law_below) (defBody s__law_below) (defScope s__law_below) [] [] f fd) (hm : mg "_law_below" = some (.ref f)) (hb : Binds K fd ["one", "other"] []) : Fn P w K mg base 1 "_law_below" (SpD K T [true, true] (G2 m__law_below)) :=
  Fn.of F sc__law_below hm hb rfl fun ds P0 ⟨v_one, v_other, hds, hp, hP⟩ => ⟨[I v_one, I v_other], by rw [hds]; exact (.im (.im .nil)), fun cd A outer s H E hcd hr => by
  have pown : PassesOwn (model P w) (cxF P w K mg base n__law_below "_law_below" (defScope s__law_below) f cd A outer s H E).A (cxF P w K mg base n__law_below "_law_below" (defScope s__law_below) f cd A outer s H E).env (fun _ _ => False) := PassesOwn.never
  have h : BR (cxF P w K mg base n__law_below "_law_below" (defScope s__law_below) f cd A outer s H E) (noM T) (defBody s__law_below) [I v_one, I v_other] (m__law_below v_one v_other) :=
   (BR.ret (RE.cmp c_lt (RE.bor (RE.bin o_mul (RE.bor (RE.fst (RE.bor (RE.var 0 rfl rfl vf__law_below_one k_one)) (fun _ _ => rfl))) (RE.bor (RE.snd (RE.bor (RE.var 1 rfl rfl vf__law_below_other k_other)) (fun _ _ => rfl))))) (RE.bor (RE.bin o_mul (RE.bor (RE.fst (RE.bor (RE.var 1 rfl rfl vf__law_below_other k_other)) (fun _ _ => rfl))) (RE.bor (RE.snd (RE.bor (RE.var 0 rfl rfl vf__law_below_one k_one)) (fun _ _ => rfl))))) (nm_lt _)))
  exact RdS.imp (h hp) (fun _ z => z) (fun d e => by rw [e]; exact hP) (fun _ z => z) (fun _ z => z)⟩
/-! ## _law_serial -/
abbrev s__law_serial : Stmt := topS 24
abbrev n__law_serial : List Str := ["costs", "asks", "out", "at", "most", "total", "last", "first", "second", "one"]
theorem sc__law_serial : FnScope n__law_serial ["costs", "asks"] (defScope s__law_serial) := ⟨rfl, rfl, rfl, by decide +kernel, rfl, by decide +kernel, by decide +kernel⟩
theorem nd__law_serial : (n__law_serial).Nodup := sc__law_serial.nd
theorem lf__law_serial_costs : L2.Loc (defScope s__law_serial) "costs" := locB rfl
theorem vf__law_serial_costs : L2.Vis (defScope s__law_serial) "costs" := visB rfl
theorem lf__law_serial_asks : L2.Loc (defScope s__law_serial) "asks" := locB rfl
theorem vf__law_serial_asks : L2.Vis (defScope s__law_serial) "asks" := visB rfl
theorem lf__law_serial_out : L2.Loc (defScope s__law_serial) "out" := locB rfl
theorem vf__law_serial_out : L2.Vis (defScope s__law_serial) "out" := visB rfl
theorem lf__law_serial_at : L2.Loc (defScope s__law_serial) "at" := locB rfl
theorem vf__law_serial_at : L2.Vis (defScope s__law_serial) "at" := visB rfl
theorem lf__law_serial_most : L2.Loc (defScope s__law_serial) "most" := locB rfl
theorem vf__law_serial_most : L2.Vis (defScope s__law_serial) "most" := visB rfl
theorem lf__law_serial_total : L2.Loc (defScope s__law_serial) "total" := locB rfl
theorem vf__law_serial_total : L2.Vis (defScope s__law_serial) "total" := visB rfl
theorem lf__law_serial_last : L2.Loc (defScope s__law_serial) "last" := locB rfl
theorem vf__law_serial_last : L2.Vis (defScope s__law_serial) "last" := visB rfl
theorem lf__law_serial_first : L2.Loc (defScope s__law_serial) "first" := locB rfl
theorem vf__law_serial_first : L2.Vis (defScope s__law_serial) "first" := visB rfl
theorem lf__law_serial_second : L2.Loc (defScope s__law_serial) "second" := locB rfl
theorem vf__law_serial_second : L2.Vis (defScope s__law_serial) "second" := visB rfl
def m__law_serial (v_costs : (Tu Int)) (v_asks : (Tu Int)) : R (Tu (Int × Int)) :=
  (R.bind (R.sz (R.lnil (α := (Int × Int)))) fun w1 =>
  (R.bind (R.fold (α := Int) (R.rng1 (R.o1 T1 (fun xs : (Tu Int) => (xs.l.length : Int)) (R.pure v_asks))) (w1 : (List (Int × Int))) (fun s2 x3 =>
  (R.bind (R.tup2 (R.tup2 (R.pure (0 : Int)) (R.pure (1 : Int))) (R.pure (0 : Int))) fun w4 =>
  (R.bind (R.fold (α := Int) (R.o1 (fun t : List Int => t.length ≤ 60) (fun t => sset t) (R.lc (α := Int) (R.map Tu.l (R.pure v_asks)) (fun y8 => (R.o2 T2 (fun i j : Int => decide (i ≤ j)) (R.pure y8) (R.o2 (fun (xs : (Tu Int)) i => ixOk xs.l.length i) (fun xs i => nth xs.l i) (R.pure v_asks) (R.pure x3)))) (fun y8 => (R.pure y8)))) ((w4.1, w4.2) : ((Int × Int) × Int)) (fun s5 x6 =>
  (R.bind (R.o1 T1 (fun xs : List Int => xs.sum) (R.lc (α := Int) (R.map Tu.l (R.pure v_asks)) (fun _ => R.pure true) (fun y11 => (R.o2 T2 (fun i j : Int => min i j) (R.pure y11) (R.pure x6))))) fun w9 =>
  (R.bind (R.o1 T1 (fun xs : List Int => xs.sum) (R.lc (α := Int) (R.map Tu.l (R.pure v_asks)) (fun _ => R.pure true) (fun y14 => (R.o2 T2 (fun i j : Int => min i j) (R.pure y14) (R.pure s5.2))))) fun w12 =>
  (R.bind (R.c2 m__law_plus (R.pure s5.1) (R.c2 m__law_lowest (R.o2 T2 (fun i j : Int => i - j) (R.o2 (fun (xs : (Tu Int)) i => ixOk xs.l.length i) (fun xs i => nth xs.l i) (R.pure v_costs) (R.pure w9)) (R.o2 (fun (xs : (Tu Int)) i => ixOk xs.l.length i) (fun xs i => nth xs.l i) (R.pure v_costs) (R.pure w12))) (R.o1 T1 (fun xs : (List Int) => (xs.length : Int)) (R.lc (α := Int) (R.map Tu.l (R.pure v_asks)) (fun y17 => (R.o2 T2 (fun i j : Int => decide (j ≤ i)) (R.pure y17) (R.pure x6))) (fun y17 => (R.pure y17)))))) fun w15 =>
  (R.bind (R.pure x6) fun w18 =>
  (R.pure ((w15, w18) : ((Int × Int) × Int))))))))) fun w19 =>
  (R.bind (R.app s2 (R.pure w19.1)) fun w20 =>
  (R.pure (w20 : (List (Int × Int))))))))) fun w21 =>
  (R.o1 T1 (fun xs : (List (Int × Int)) => Tu.mk xs) (R.pure w21))))
theorem w__law_serial {P : Program} {w : World} {K : PySem.W.Frag} {mg : Str → Option Value} {base : Heap} {T : Addr → Prop} (z_len : mg "len" = none) (z_min : mg "min" = none) (z_range : mg "range" = none) (z_set : mg "set" = none) (z_sorted : mg "sorted" = none) (z_sum : mg "sum" = none) (z_tuple : mg "tuple" = none) (c__law_lowest : Fn P w K mg base 1 "_law_lowest" (SpD K T [true, true] (G2 m__law_lowest))) (c__law_plus : Fn P w K mg base 2 "_law_plus" (SpD K T [true, true] (G2 m__law_plus)))
    {f : Addr} {fd : FuncData} (F : FunD K "_law_serial" "_law_serial" (defArgs s__law_serial) (defBody s__law_serial) (defScope s__law_serial) [] [] f fd) (hm : mg "_law_serial" = some (.ref f)) (hb : Binds K fd ["costs", "asks"] []) : Fn P w K mg base 3 "_law_serial" (SpD K T [true, true] (G2 m__law_serial)) :=
  Fn.of F sc__law_serial hm hb rfl fun ds P0 ⟨v_costs, v_asks, hds, hp, hP⟩ => ⟨[I v_costs, I v_asks], by rw [hds]; exact (.im (.im .nil)), fun cd A outer s H E hcd hr => by
  have pown : PassesOwn (model P w) (cxF P w K mg base n__law_serial "_law_serial" (defScope s__law_serial) f cd A outer s H E).A (cxF P w K mg base n__law_serial "_law_serial" (defScope s__law_serial) f cd A outer s H E).env (fun _ _ => False) := PassesOwn.never
  have h : BR (cxF P w K mg base n__law_serial "_law_serial" (defScope s__law_serial) f cd A outer s H E) (noM T) (defBody s__law_serial) [I v_costs, I v_asks, U, U, U, U, U, U, U, U] (m__law_serial v_costs v_asks) :=
   (BR.cons (SN.setF (E := fun w1 : (List (Int × Int)) => [I v_costs, I v_asks, Ow w1, U, U, U, U, U, U, U]) 2 nd__law_serial rfl lf__law_serial_out (.inl rfl) (RF.lst RL.nil) (fun _ => rfl)) fun w1 =>
  (BR.cons (SN.for (E := (fun s2 : (List (Int × Int)) => [I v_costs, I v_asks, Ow s2, U, U, U, U, U, U, U])) (tE := (fun (s2 : (List (Int × Int))) (x3 : Int) => [I v_costs, I v_asks, Ow s2, I x3, U, U, U, U, U, U])) (ix := [3]) w1 pown rfl (.r (.r (.r (.r (.r (.r (.r (.r (.r (.r .n)))))))))) (RI.range1 rfl z_range (RE.bor (RE.b1 b_lenT rfl z_len boot_len (RE.bor (RE.var 1 rfl rfl vf__law_serial_asks k_asks)) rfl kb_len))) (fun _ _ => (RG.name 3 nd__law_serial rfl lf__law_serial_at (.inl rfl) rfl)) (fun s2 x3 =>
  (BN.cons (SN.tgt (E := fun w4 : ((Int × Int) × Int) => [I v_costs, I v_asks, Ow s2, I x3, U, I w4.1, I w4.2, U, U, U]) (RE.tup2 (RA.im (RE.tup2 (RA.im RE.int (RA.im RE.int RA.nil))) (RA.im RE.int RA.nil))) (fun _ => (RG.tup2 rfl (RG.name 5 nd__law_serial rfl lf__law_serial_total (.inl rfl) rfl) (RG.name 6 nd__law_serial rfl lf__law_serial_last (.inl rfl) rfl)))) fun w4 =>
  (BN.cons (SN.for (E := (fun s5 : ((Int × Int) × Int) => [I v_costs, I v_asks, Ow s2, I x3, U, I s5.1, I s5.2, U, U, U])) (tE := (fun (s5 : ((Int × Int) × Int)) (x6 : Int) => [I v_costs, I v_asks, Ow s2, I x3, I x6, I s5.1, I s5.2, U, U, U])) (ix := [4]) (w4.1, w4.2) pown rfl (.r (.r (.r (.r (.r (.r (.r (.r (.r (.r .n)))))))))) (RI.list (RP.ofE (RF.re (RF.sortSetL rfl rfl z_sorted bb_sorted kb_sorted rfl z_set bb_set kb_set (RE.bor (RF.re (RF.lc (own := [("one", 9)]) (ix := [9]) (tE := (fun y8 : Int => [I v_costs, I v_asks, Ow s2, I x3, U, I w4.1, I w4.2, U, U, I y8])) rfl nd__law_serial (blkOk_by rfl) (by decide) (by decide) (RI.tup (RE.var 1 rfl rfl vf__law_serial_asks k_asks)) (fun y8 _ _ _ _ _ => (RG.name 9 nd__law_serial rfl (locB rfl) (.inr rfl) rfl)) (fun y8 => .inr ⟨_, rfl, fun _ _ _ _ _ => (RT.cmp c_le (RE.bor (RE.var 9 rfl rfl (visB rfl) k_one)) (RE.bor (RE.ix x_tu (RE.bor (RE.var 1 rfl rfl (visB rfl) k_asks)) (RE.bor (RE.var 3 rfl rfl (visB rfl) k_at)) (fun _ _ => rfl))) (nm_le _))⟩) (fun y8 _ _ _ _ _ => (RE.var 9 rfl rfl (visB rfl) k_one)) (fun _ => rfl)))))))) (fun _ _ => (RG.name 4 nd__law_serial rfl lf__law_serial_most (.inl rfl) rfl)) (fun s5 x6 =>
  (BN.cons (SN.set (E := fun w9 : Int => [I v_costs, I v_asks, Ow s2, I x3, I x6, I s5.1, I s5.2, I w9, U, U]) 7 nd__law_serial rfl lf__law_serial_first (.inl rfl) (RE.b1 (b_sumL rfl) rfl z_sum bb_sum (RE.bor (RF.re (RF.lc (own := [("one", 9)]) (ix := [9]) (tE := (fun y11 : Int => [I v_costs, I v_asks, Ow s2, I x3, I x6, I s5.1, I s5.2, U, U, I y11])) rfl nd__law_serial (blkOk_by rfl) (by decide) (by decide) (RI.tup (RE.var 1 rfl rfl vf__law_serial_asks k_asks)) (fun y11 _ _ _ _ _ => (RG.name 9 nd__law_serial rfl (locB rfl) (.inr rfl) rfl)) (fun _ => .inl ⟨rfl, rfl⟩) (fun y11 _ _ _ _ _ => (RE.b2 (b_min2 rfl) rfl z_min bb_min (RE.bor (RE.var 9 rfl rfl (visB rfl) k_one)) (RE.bor (RE.var 4 rfl rfl (visB rfl) k_most)) rfl rfl kb_min)) (fun _ => rfl)))) rfl kb_sum) (fun _ => rfl)) fun w9 =>
  (BN.cons (SN.set (E := fun w12 : Int => [I v_costs, I v_asks, Ow s2, I x3, I x6, I s5.1, I s5.2, I w9, I w12, U]) 8 nd__law_serial rfl lf__law_serial_second (.inl rfl) (RE.b1 (b_sumL rfl) rfl z_sum bb_sum (RE.bor (RF.re (RF.lc (own := [("one", 9)]) (ix := [9]) (tE := (fun y14 : Int => [I v_costs, I v_asks, Ow s2, I x3, I x6, I s5.1, I s5.2, I w9, U, I y14])) rfl nd__law_serial (blkOk_by rfl) (by decide) (by decide) (RI.tup (RE.var 1 rfl rfl vf__law_serial_asks k_asks)) (fun y14 _ _ _ _ _ => (RG.name 9 nd__law_serial rfl (locB rfl) (.inr rfl) rfl)) (fun _ => .inl ⟨rfl, rfl⟩) (fun y14 _ _ _ _ _ => (RE.b2 (b_min2 rfl) rfl z_min bb_min (RE.bor (RE.var 9 rfl rfl (visB rfl) k_one)) (RE.bor (RE.var 6 rfl rfl (visB rfl) k_last)) rfl rfl kb_min)) (fun _ => rfl)))) rfl kb_sum) (fun _ => rfl)) fun w12 =>
  (BN.cons (SN.set (E := fun w15 : (Int × Int) => [I v_costs, I v_asks, Ow s2, I x3, I x6, I w15, I s5.2, I w9, I w12, U]) 5 nd__law_serial rfl lf__law_serial_total (.inl rfl) (RE.call2 c__law_plus hr (Nat.le_of_ble_eq_true rfl) rfl (RA.im (RE.var 5 rfl rfl vf__law_serial_total k_total) (RA.im (RE.call2 c__law_lowest hr (Nat.le_of_ble_eq_true rfl) rfl (RA.im (RE.bin o_sub (RE.bor (RE.ix x_tu (RE.bor (RE.var 0 rfl rfl vf__law_serial_costs k_costs)) (RE.bor (RE.var 7 rfl rfl vf__law_serial_first k_first)) (fun _ _ => rfl))) (RE.bor (RE.ix x_tu (RE.bor (RE.var 0 rfl rfl vf__law_serial_costs k_costs)) (RE.bor (RE.var 8 rfl rfl vf__law_serial_second k_second)) (fun _ _ => rfl)))) (RA.im (RE.b1 b_lenL rfl z_len boot_len (RE.bor (RF.re (RF.lc (own := [("one", 9)]) (ix := [9]) (tE := (fun y17 : Int => [I v_costs, I v_asks, Ow s2, I x3, I x6, I s5.1, I s5.2, I w9, I w12, I y17])) rfl nd__law_serial (blkOk_by rfl) (by decide) (by decide) (RI.tup (RE.var 1 rfl rfl vf__law_serial_asks k_asks)) (fun y17 _ _ _ _ _ => (RG.name 9 nd__law_serial rfl (locB rfl) (.inr rfl) rfl)) (fun y17 => .inr ⟨_, rfl, fun _ _ _ _ _ => (RT.cmp c_ge (RE.bor (RE.var 9 rfl rfl (visB rfl) k_one)) (RE.bor (RE.var 4 rfl rfl (visB rfl) k_most)) (nm_ge _))⟩) (fun y17 _ _ _ _ _ => (RE.var 9 rfl rfl (visB rfl) k_one)) (fun _ => rfl)))) rfl kb_len) RA.nil)) k__law_lowest) RA.nil)) k__law_plus) (fun _ => rfl)) fun w15 =>
  (BN.cons (SN.set (E := fun w18 : Int => [I v_costs, I v_asks, Ow s2, I x3, I x6, I w15, I w18, I w9, I w12, U]) 6 nd__law_serial rfl lf__law_serial_last (.inl rfl) (RE.var 4 rfl rfl vf__law_serial_most k_most) (fun _ => rfl)) fun w18 =>
  (BN.nil (w15, w18) (.r (.r (.r (.r (.u (.r (.r (.u (.u (.r .n)))))))))))))))) (fun _ => rfl)) fun w19 =>
  (BN.cons (SN.append (E := (fun w20 : (List (Int × Int)) => [I v_costs, I v_asks, Ow w20, I x3, U, I w19.1, I w19.2, U, U, U])) 2 rfl (fun _ => rfl) rfl vf__law_serial_out k_out (RE.var 5 rfl rfl vf__law_serial_total k_total)) fun w20 =>
  (BN.nil w20 (.r (.r (.r (.u (.r (.u (.u (.r (.r (.r .n))))))))))))))) (fun _ => rfl)) fun w21 =>
  (BR.ret (RE.ty1 b_tupL rfl z_tuple bb_tuple (RB.varO 2 rfl rfl vf__law_serial_out k_out) rfl kb_tuple))))
  exact RdS.imp (h hp) (fun _ z => z) (fun d e => by rw [e]; exact hP) (fun _ z => z) (fun _ z => z)⟩
/-! ## _law_offers -/
abbrev s__law_offers : Stmt := topS 25
abbrev n__law_offers : List Str := ["state", "script", "n", "at", "k", "cost", "worths", "offers", "people", "many", "part", "gain", "honest", "j", "some", "made", "pays", "pay", "want", "one", "rest", "theirs", "gap"]
theorem sc__law_offers : FnScope n__law_offers ["state", "script", "n", "at"] (defScope s__law_offers) := ⟨rfl, rfl, rfl, by decide +kernel, rfl, by decide +kernel, by decide +kernel⟩
theorem nd__law_offers : (n__law_offers).Nodup := sc__law_offers.nd
theorem lf__law_offers_state : L2.Loc (defScope s__law_offers) "state" := locB rfl
theorem vf__law_offers_state : L2.Vis (defScope s__law_offers) "state" := visB rfl
theorem lf__law_offers_script : L2.Loc (defScope s__law_offers) "script" := locB rfl
theorem vf__law_offers_script : L2.Vis (defScope s__law_offers) "script" := visB rfl
theorem lf__law_offers_n : L2.Loc (defScope s__law_offers) "n" := locB rfl
theorem vf__law_offers_n : L2.Vis (defScope s__law_offers) "n" := visB rfl
theorem lf__law_offers_at : L2.Loc (defScope s__law_offers) "at" := locB rfl
theorem vf__law_offers_at : L2.Vis (defScope s__law_offers) "at" := visB rfl
theorem lf__law_offers_k : L2.Loc (defScope s__law_offers) "k" := locB rfl
theorem vf__law_offers_k : L2.Vis (defScope s__law_offers) "k" := visB rfl
theorem lf__law_offers_cost : L2.Loc (defScope s__law_offers) "cost" := locB rfl
theorem vf__law_offers_cost : L2.Vis (defScope s__law_offers) "cost" := visB rfl
theorem lf__law_offers_worths : L2.Loc (defScope s__law_offers) "worths" := locB rfl
theorem vf__law_offers_worths : L2.Vis (defScope s__law_offers) "worths" := visB rfl
theorem lf__law_offers_offers : L2.Loc (defScope s__law_offers) "offers" := locB rfl
theorem vf__law_offers_offers : L2.Vis (defScope s__law_offers) "offers" := visB rfl
theorem lf__law_offers_people : L2.Loc (defScope s__law_offers) "people" := locB rfl
theorem vf__law_offers_people : L2.Vis (defScope s__law_offers) "people" := visB rfl
theorem lf__law_offers_many : L2.Loc (defScope s__law_offers) "many" := locB rfl
theorem vf__law_offers_many : L2.Vis (defScope s__law_offers) "many" := visB rfl
theorem lf__law_offers_part : L2.Loc (defScope s__law_offers) "part" := locB rfl
theorem vf__law_offers_part : L2.Vis (defScope s__law_offers) "part" := visB rfl
theorem lf__law_offers_gain : L2.Loc (defScope s__law_offers) "gain" := locB rfl
theorem vf__law_offers_gain : L2.Vis (defScope s__law_offers) "gain" := visB rfl
theorem lf__law_offers_honest : L2.Loc (defScope s__law_offers) "honest" := locB rfl
theorem vf__law_offers_honest : L2.Vis (defScope s__law_offers) "honest" := visB rfl
theorem lf__law_offers_j : L2.Loc (defScope s__law_offers) "j" := locB rfl
theorem vf__law_offers_j : L2.Vis (defScope s__law_offers) "j" := visB rfl
theorem lf__law_offers_some : L2.Loc (defScope s__law_offers) "some" := locB rfl
theorem vf__law_offers_some : L2.Vis (defScope s__law_offers) "some" := visB rfl
theorem lf__law_offers_made : L2.Loc (defScope s__law_offers) "made" := locB rfl
theorem vf__law_offers_made : L2.Vis (defScope s__law_offers) "made" := visB rfl
theorem lf__law_offers_pays : L2.Loc (defScope s__law_offers) "pays" := locB rfl
theorem vf__law_offers_pays : L2.Vis (defScope s__law_offers) "pays" := visB rfl
theorem lf__law_offers_pay : L2.Loc (defScope s__law_offers) "pay" := locB rfl
theorem vf__law_offers_pay : L2.Vis (defScope s__law_offers) "pay" := visB rfl
theorem lf__law_offers_want : L2.Loc (defScope s__law_offers) "want" := locB rfl
theorem vf__law_offers_want : L2.Vis (defScope s__law_offers) "want" := visB rfl
theorem lf__law_offers_rest : L2.Loc (defScope s__law_offers) "rest" := locB rfl
theorem vf__law_offers_rest : L2.Vis (defScope s__law_offers) "rest" := visB rfl
theorem lf__law_offers_theirs : L2.Loc (defScope s__law_offers) "theirs" := locB rfl
theorem vf__law_offers_theirs : L2.Vis (defScope s__law_offers) "theirs" := visB rfl
theorem lf__law_offers_gap : L2.Loc (defScope s__law_offers) "gap" := locB rfl
theorem vf__law_offers_gap : L2.Vis (defScope s__law_offers) "gap" := visB rfl
def wp__law_offers (v_n : Int) (v_at : Int) : (Unit → Prop) → (Bool → Prop) → Prop :=
  (W.seq (W.for (α := Int) (N.of (R.rng1 (R.pure (2 : Int)))) (() : Unit) (fun s1 x2 =>
  (W.seq (W.of (N.d1 m_draw (N.of (R.pure (25 : Int))))) fun w3 =>
  (W.seq (W.of (N.lc (α := Int) (N.of (R.rng1 (R.pure v_n))) (fun _ => R.pure true) (fun y6 => (N.d1 m_draw (N.of (R.pure (15 : Int))))))) fun w4 =>
  (W.seq (W.of (N.of (R.lc (α := Int) (R.pure w4) (fun _ => R.pure true) (fun y8 => (R.pure y8))))) fun w7 =>
  (W.seq (W.of (N.setIx w7 (N.d1 m_draw (N.of (R.pure (15 : Int)))) (N.of (R.pure v_at)))) fun w9 =>
  (W.seq (W.of (N.of (R.sz (R.lnil (α := Int))))) fun w10 =>
  (W.seq (W.of (N.of (R.fold (α := Int) (R.rngD (R.pure v_n) (R.pure (0 : Int))) (w10 : (List Int)) (fun s11 x12 =>
  (R.bind (R.lc (α := Int) (R.rng1 (R.pure v_n)) (fun y15 => (R.o2 T2 (fun i j : Int => decide (j ≤ i)) (R.o2 CMul (fun i j : Int => i * j) (R.o2 (fun (xs : (List Int)) i => ixOk xs.length i) nth (R.pure w9) (R.pure y15)) (R.pure x12)) (R.pure w3))) (fun y15 => (R.pure y15))) fun w13 =>
  (R.bind (R.ite (R.and (R.o2 T2 (fun x y : (List Int) => decide (x = y)) (R.pure s11) (R.sz (R.lnil (α := Int)))) (R.o2 T2 (fun i j : Int => decide (j ≤ i)) (R.o1 T1 (fun xs : (List Int) => (xs.length : Int)) (R.pure w13)) (R.pure x12))) (R.pure w13) (R.pure s11)) fun w16 =>
  (R.pure (w16 : (List Int))))))))) fun w17 =>
  (W.seq (W.of (N.of (R.ite (R.o1 T1 (fun xs : (List Int) => !xs.isEmpty) (R.pure w17)) (R.c2 m__law_lowest (R.pure w3) (R.o1 T1 (fun xs : (List Int) => (xs.length : Int)) (R.pure w17))) (R.tup2 (R.pure (0 : Int)) (R.pure (1 : Int)))))) fun w18 =>
  (W.seq (W.ite (N.of (R.not (R.o1 T1 (fun i : Bool => i) (R.c2 FP.exact (R.tup2 (R.pure w17) (R.pure w18)) (R.c2 m_payers (R.pure w3) (R.o1 T1 (fun xs : (List Int) => xs) (R.pure w9))))))) (W.ret (N.of (R.pure false))) (W.nil (() : Unit))) fun w19 =>
  (W.seq (W.of (N.of (R.ite (R.o2 T2 (fun (i : Int) (l : (List Int)) => decide (i ∈ l)) (R.pure v_at) (R.pure w17)) (R.c2 m__law_minus (R.tup2 (R.o2 (fun (xs : (List Int)) i => ixOk xs.length i) nth (R.pure w4) (R.pure v_at)) (R.pure (1 : Int))) (R.pure w18)) (R.tup2 (R.pure (0 : Int)) (R.pure (1 : Int)))))) fun w20 =>
  (W.seq (W.of (N.of (R.c4 m_gain_from (R.pure w3) (R.o1 T1 (fun xs : (List Int) => xs) (R.pure w4)) (R.o1 T1 (fun xs : (List Int) => xs) (R.pure w4)) (R.pure v_at)))) fun w21 =>
  (W.seq (W.ite (N.of (R.or (R.not (R.o1 T1 (fun i : Bool => i) (R.c2 FP.exact (R.pure w20) (R.c4 m_gain_from (R.pure w3) (R.o1 T1 (fun xs : (List Int) => xs) (R.pure w4)) (R.o1 T1 (fun xs : (List Int) => xs) (R.pure w9)) (R.pure v_at))))) (R.or (R.o1 T1 (fun i : Bool => i) (R.c2 m__law_below (R.pure w21) (R.pure w20))) (R.o2 T2 (fun i j : Int => decide (i < j)) (R.p1 (R.pure w21)) (R.pure (0 : Int)))))) (W.ret (N.of (R.pure false))) (W.nil (() : Unit))) fun w22 =>
  (W.seq (W.of (N.of (R.tup2 (R.o2 T2 (fun i j : Int => decide (j ≤ i)) (R.o1 T1 (fun xs : List Int => xs.sum) (R.pure w9)) (R.pure w3)) (R.sz (R.lnil (α := (Int × Int))))))) fun w23 =>
  (W.seq (W.of (N.of (R.fold (α := Int) (R.rng1 (R.pure v_n)) (w23.2 : (List (Int × Int))) (fun s24 x25 =>
  (R.bind (R.tup2 (R.o2 T2 (fun i j : Int => i - j) (R.o1 T1 (fun xs : List Int => xs.sum) (R.pure w9)) (R.o2 (fun (xs : (List Int)) i => ixOk xs.length i) nth (R.pure w9) (R.pure x25))) (R.c2 m__law_lowest (R.o2 CMul (fun i j : Int => i * j) (R.pure w3) (R.o2 T2 (fun i j : Int => i - j) (R.pure v_n) (R.pure (1 : Int)))) (R.pure v_n))) fun w26 =>
  (R.bind (R.ite (R.o1 T1 (fun i : Bool => i) (R.pure w23.1)) (R.c2 m__law_lowest (R.pure w3) (R.pure v_n)) (R.tup2 (R.pure (0 : Int)) (R.pure (1 : Int)))) fun w27 =>
  (R.bind (R.not (R.c2 m__law_below (R.tup2 (R.pure w26.1) (R.pure (1 : Int))) (R.pure w26.2))) fun w28 =>
  (R.bind (R.ite (R.o2 T2 (fun i j : Bool => !decide (i = j)) (R.pure w23.1) (R.pure w28)) (R.bind (R.c2 m__law_minus (R.tup2 (R.pure w26.1) (R.pure (1 : Int))) (R.pure w26.2)) fun w32 =>
  (R.bind (R.c2 m__law_plus (R.pure w27) (R.tup2 (R.o1 T1 (fun i : Int => if i < 0 then -i else i) (R.p1 (R.pure w32))) (R.p2 (R.pure w32)))) fun w33 =>
  (R.pure (w33 : (Int × Int))))) (R.pure (w27 : (Int × Int)))) fun w31 =>
  (R.bind (R.app s24 (R.pure w31)) fun w34 =>
  (R.pure (w34 : (List (Int × Int))))))))))))) fun w35 =>
  (W.seq (W.ite (N.of (R.not (R.o1 T1 (fun i : Bool => i) (R.c2 FP.exact (R.tup2 (R.pure w23.1) (R.o1 T1 (fun xs : (List (Int × Int)) => Tu.mk xs) (R.pure w35))) (R.c2 m_pivots (R.pure w3) (R.o1 T1 (fun xs : (List Int) => xs) (R.pure w9))))))) (W.ret (N.of (R.pure false))) (W.nil (() : Unit))) fun w36 =>
  (W.seq (W.of (N.of (R.c2 m__law_minus (R.tup2 (R.o2 CMul (fun i j : Int => i * j) (R.o2 (fun (xs : (List Int)) i => ixOk xs.length i) nth (R.pure w4) (R.pure v_at)) (R.o1 T1 (fun i : Bool => if i = true then (1 : Int) else 0) (R.pure w23.1))) (R.pure (1 : Int))) (R.o2 (fun (xs : (List (Int × Int))) i => ixOk xs.length i) nth (R.pure w35) (R.pure v_at))))) fun w37 =>
  (W.seq (W.of (N.of (R.c4 m_pivot_gain (R.pure w3) (R.o1 T1 (fun xs : (List Int) => xs) (R.pure w4)) (R.o1 T1 (fun xs : (List Int) => xs) (R.pure w4)) (R.pure v_at)))) fun w38 =>
  (W.seq (W.ite (N.of (R.or (R.not (R.o1 T1 (fun i : Bool => i) (R.c2 FP.exact (R.pure w37) (R.c4 m_pivot_gain (R.pure w3) (R.o1 T1 (fun xs : (List Int) => xs) (R.pure w4)) (R.o1 T1 (fun xs : (List Int) => xs) (R.pure w9)) (R.pure v_at))))) (R.o1 T1 (fun i : Bool => i) (R.c2 m__law_below (R.pure w38) (R.pure w37))))) (W.ret (N.of (R.pure false))) (W.nil (() : Unit))) fun w39 =>
  (W.nil (() : Unit))))))))))))))))))))) fun w40 =>
  (W.ret (N.of (R.pure true))))
def post__law_offers (v_n : Int) (v_at : Int) : Bool → Prop := fun b => b = true
def m__law_offers (v_n : Int) (v_at : Int) : N Bool := ⟨wp__law_offers v_n v_at (fun _ => False) (post__law_offers v_n v_at), post__law_offers v_n v_at⟩
theorem w__law_offers {P : Program} {w : World} {K : PySem.W.Frag} {mg : Str → Option Value} {base : Heap} {T : Addr → Prop} (z_abs : mg "abs" = none) (z_int : mg "int" = none) (z_len : mg "len" = none) (z_list : mg "list" = none) (z_range : mg "range" = none) (z_sum : mg "sum" = none) (z_tuple : mg "tuple" = none) (c__law_draw : Fn P w K mg base 2 "_law_draw" (SpM K T [true] (D1 m_draw))) (c__law_lowest : Fn P w K mg base 1 "_law_lowest" (SpD K T [true, true] (G2 m__law_lowest))) (c_payers : Fn P w K mg base 2 "payers" (SpD K T [true, false] (G2 m_payers))) (c__law_exact : Fn P w K mg base 12 "_law_exact" (SpD K T [true, true] (G2 (exF 12)))) (c__law_minus : Fn P w K mg base 2 "_law_minus" (SpD K T [true, true] (G2 m__law_minus))) (c_gain_from : Fn P w K mg base 3 "gain_from" (SpD K T [true, false, false, true] (G4 m_gain_from))) (c__law_below : Fn P w K mg base 1 "_law_below" (SpD K T [true, true] (G2 m__law_below))) (c__law_plus : Fn P w K mg base 2 "_law_plus" (SpD K T [true, true] (G2 m__law_plus))) (c_pivots : Fn P w K mg base 3 "pivots" (SpD K T [true, false] (G2 m_pivots))) (c_pivot_gain : Fn P w K mg base 4 "pivot_gain" (SpD K T [true, false, false, true] (G4 m_pivot_gain)))
    {f : Addr} {fd : FuncData} (F : FunD K "_law_offers" "_law_offers" (defArgs s__law_offers) (defBody s__law_offers) (defScope s__law_offers) [] [] f fd) (hm : mg "_law_offers" = some (.ref f)) (hb : Binds K fd ["state", "script", "n", "at"] []) : Fn P w K mg base 13 "_law_offers" (SpM K T [true, true] (D2 m__law_offers)) :=
  Fn.ofM F sc__law_offers hm hb rfl fun ds P0 ⟨v_n, v_at, hds, hp, hP⟩ => ⟨[I v_n, I v_at], by rw [hds]; exact (.im (.im .nil)), fun cd A outer s H E M is0 hcd hr eT => by
  subst eT
  have pown : PassesOwn (model P w) (cxF P w K mg base n__law_offers "_law_offers" (defScope s__law_offers) f cd A outer s H E).A (cxF P w K mg base n__law_offers "_law_offers" (defScope s__law_offers) f cd A outer s H E).env (fun _ _ => False) := PassesOwn.never
  have h : WB (cxF P w K mg base n__law_offers "_law_offers" (defScope s__law_offers) f cd A outer s H E) M (β := Bool) (defBody s__law_offers) [Sl.st, Sl.sc is0, I v_n, I v_at, U, U, U, U, U, U, U, U, U, U, U, U, U, U, U, U, U, U, U] (fun _ : Unit => []) (wp__law_offers v_n v_at) :=
   (WB.cons (WS.for (E := (fun s1 : Unit => [Sl.st, Sl.sc is0, I v_n, I v_at, U, U, U, U, U, U, U, U, U, U, U, U, U, U, U, U, U, U, U])) (tE := (fun (s1 : Unit) (x2 : Int) => [Sl.st, Sl.sc is0, I v_n, I v_at, I x2, U, U, U, U, U, U, U, U, U, U, U, U, U, U, U, U, U, U])) (ix := [4]) () pown rfl (.r (.r (.r (.r (.r (.r (.r (.r (.r (.r (.r (.r (.r (.r (.r (.r (.r (.r (.r (.r (.r (.r (.r .n))))))))))))))))))))))) (NI.of (RI.range1 rfl z_range (RE.bor RE.int))) (fun _ _ => (RG.name 4 nd__law_offers rfl lf__law_offers_k (.inl rfl) rfl)) (fun s1 x2 =>
  (WB.cons (WS.of (NS.set (E := fun w3 : Int => [Sl.st, Sl.sc is0, I v_n, I v_at, I x2, I w3, U, U, U, U, U, U, U, U, U, U, U, U, U, U, U, U, U]) 5 nd__law_offers rfl lf__law_offers_cost (.inl rfl) (NE.drw1 (is := is0) 0 1 c__law_draw hr (Nat.le_of_ble_eq_true rfl) rfl rfl rfl vf__law_offers_state k_state rfl rfl vf__law_offers_script k_script (NA.im (NE.of RE.int) NA.nil) k__law_draw) (fun _ => rfl))) fun w3 =>
  (WB.cons (WS.of (NS.lc (E := fun w4 : (List Int) => [Sl.st, Sl.sc is0, I v_n, I v_at, I x2, I w3, I w4, U, U, U, U, U, U, U, U, U, U, U, U, U, U, U, U]) (own := [("j", 13)]) (ix := [13]) (tE := (fun y6 : Int => [Sl.st, Sl.sc is0, I v_n, I v_at, I x2, I w3, U, U, U, U, U, U, U, I y6, U, U, U, U, U, U, U, U, U])) 6 (fun _ => rfl) rfl nd__law_offers rfl rfl (sw_true rfl rfl rfl (by decide +kernel)) (blkOk_by rfl) (by decide) (by decide) (NI.of (RI.range1 rfl z_range (RE.bor (RE.var 2 rfl rfl vf__law_offers_n k_n)))) (fun y6 _ _ _ _ _ => (RG.name 13 nd__law_offers rfl (locB rfl) (.inr rfl) rfl)) (fun _ => .inl ⟨rfl, rfl⟩) (fun y6 _ _ _ _ _ => (NE.drw1 (is := is0) 0 1 c__law_draw hr (Nat.le_of_ble_eq_true rfl) rfl rfl rfl (visB rfl) k_state rfl rfl (visB rfl) k_script (NA.im (NE.of RE.int) NA.nil) k__law_draw)) (fun _ => rfl))) fun w4 =>
  (WB.cons (WS.of (NS.of (SN.setF (E := fun w7 : (List Int) => [Sl.st, Sl.sc is0, I v_n, I v_at, I x2, I w3, I w4, Ow w7, U, U, U, U, U, U, U, U, U, U, U, U, U, U, U]) 7 nd__law_offers rfl lf__law_offers_offers (.inl rfl) (RF.lc (own := [("one", 19)]) (ix := [19]) (tE := (fun y8 : Int => [Sl.st, Sl.sc is0, I v_n, I v_at, I x2, I w3, I w4, U, U, U, U, U, U, U, U, U, U, U, U, I y8, U, U, U])) rfl nd__law_offers (blkOk_by rfl) (by decide) (by decide) (RI.list (RP.ofE (RE.var 6 rfl rfl vf__law_offers_worths k_worths))) (fun y8 _ _ _ _ _ => (RG.name 19 nd__law_offers rfl (locB rfl) (.inr rfl) rfl)) (fun _ => .inl ⟨rfl, rfl⟩) (fun y8 _ _ _ _ _ => (RE.var 19 rfl rfl (visB rfl) k_one)) (fun _ => rfl)) (fun _ => rfl)))) fun w7 =>
  (WB.cons (WS.of (NS.setIx (E := fun w9 : (List Int) => [Sl.st, Sl.sc is0, I v_n, I v_at, I x2, I w3, I w4, Ow w9, U, U, U, U, U, U, U, U, U, U, U, U, U, U, U]) 7 rfl (fun _ => rfl) rfl vf__law_offers_offers k_offers (NE.drw1 (is := is0) 0 1 c__law_draw hr (Nat.le_of_ble_eq_true rfl) rfl rfl rfl vf__law_offers_state k_state rfl rfl vf__law_offers_script k_script (NA.im (NE.of RE.int) NA.nil) k__law_draw) (NE.nb (NE.of (RE.var 3 rfl rfl vf__law_offers_at k_at))))) fun w9 =>
  (WB.cons (WS.of (NS.of (SN.set (E := fun w10 : (List Int) => [Sl.st, Sl.sc is0, I v_n, I v_at, I x2, I w3, I w4, Ow w9, I w10, U, U, U, U, U, U, U, U, U, U, U, U, U, U]) 8 nd__law_offers rfl lf__law_offers_people (.inl rfl) (RF.re (RF.lst RL.nil)) (fun _ => rfl)))) fun w10 =>
  (WB.cons (WS.of (NS.of (SN.for (E := (fun s11 : (List Int) => [Sl.st, Sl.sc is0, I v_n, I v_at, I x2, I w3, I w4, Ow w9, I s11, U, U, U, U, U, U, U, U, U, U, U, U, U, U])) (tE := (fun (s11 : (List Int)) (x12 : Int) => [Sl.st, Sl.sc is0, I v_n, I v_at, I x2, I w3, I w4, Ow w9, I s11, I x12, U, U, U, U, U, U, U, U, U, U, U, U, U])) (ix := [9]) w10 pown rfl (.r (.r (.r (.r (.r (.r (.r (.r (.r (.r (.r (.r (.r (.r (.r (.r (.r (.r (.r (.r (.r (.r (.r .n))))))))))))))))))))))) (RI.rangeD rfl z_range (RE.bor (RE.var 2 rfl rfl vf__law_offers_n k_n)) (RE.bor RE.int) (RE.bor (RE.un u_neg (RE.bor RE.int))) ⟨⟨trivial, trivial⟩, rfl⟩) (fun _ _ => (RG.name 9 nd__law_offers rfl lf__law_offers_many (.inl rfl) rfl)) (fun s11 x12 =>
  (BN.cons (SN.lc (E := fun w13 : (List Int) => [Sl.st, Sl.sc is0, I v_n, I v_at, I x2, I w3, I w4, Ow w9, I s11, I x12, U, U, U, U, I w13, U, U, U, U, U, U, U, U]) (own := [("j", 13)]) (ix := [13]) (tE := (fun y15 : Int => [Sl.st, Sl.sc is0, I v_n, I v_at, I x2, I w3, I w4, Ow w9, I s11, I x12, U, U, U, I y15, U, U, U, U, U, U, U, U, U])) 14 (fun _ => rfl) rfl nd__law_offers rfl rfl (sw_true rfl rfl rfl (by decide +kernel)) (blkOk_by rfl) (by decide) (by decide) (RI.range1 rfl z_range (RE.bor (RE.var 2 rfl rfl vf__law_offers_n k_n))) (fun y15 _ _ _ _ _ => (RG.name 13 nd__law_offers rfl (locB rfl) (.inr rfl) rfl)) (fun y15 => .inr ⟨_, rfl, fun _ _ _ _ _ => (RT.cmp c_ge (RE.bor (RE.bin o_mul (RE.bor (RE.ix x_list (RB.varO 7 rfl rfl (visB rfl) k_offers) (RE.bor (RE.var 13 rfl rfl (visB rfl) k_j)) (fun _ _ => rfl))) (RE.bor (RE.var 9 rfl rfl (visB rfl) k_many)))) (RE.bor (RE.var 5 rfl rfl (visB rfl) k_cost)) (nm_ge _))⟩) (fun y15 _ _ _ _ _ => (RE.var 13 rfl rfl (visB rfl) k_j)) (fun _ => rfl)) fun w13 =>
  (BN.cons (SN.set (E := fun w16 : (List Int) => [Sl.st, Sl.sc is0, I v_n, I v_at, I x2, I w3, I w4, Ow w9, I w16, I x12, U, U, U, U, I w13, U, U, U, U, U, U, U, U]) 8 nd__law_offers rfl lf__law_offers_people (.inl rfl) (RE.ite (RW.t (RW.and (RT.cmp (c_eq hr (by decide)) (RE.bor (RE.var 8 rfl rfl vf__law_offers_people k_people)) (RE.bor (RF.re (RF.lst RL.nil))) (nm_eq _)) (RT.and1 (RT.cmp c_ge (RE.bor (RE.b1 b_lenL rfl z_len boot_len (RE.bor (RE.var 14 rfl rfl vf__law_offers_some k_some)) rfl kb_len)) (RE.bor (RE.var 9 rfl rfl vf__law_offers_many k_many)) (nm_ge _))))) (RE.var 14 rfl rfl vf__law_offers_some k_some) (RE.var 8 rfl rfl vf__law_offers_people k_people)) (fun _ => rfl)) fun w16 =>
  (BN.nil w16 (.r (.r (.r (.r (.r (.r (.r (.r (.r (.u (.r (.r (.r (.r (.u (.r (.r (.r (.r (.r (.r (.r (.r .n))))))))))))))))))))))))))) (fun _ => rfl)))) fun w17 =>
  (WB.cons (WS.of (NS.of (SN.set (E := fun w18 : (Int × Int) => [Sl.st, Sl.sc is0, I v_n, I v_at, I x2, I w3, I w4, Ow w9, I w17, U, I w18, U, U, U, U, U, U, U, U, U, U, U, U]) 10 nd__law_offers rfl lf__law_offers_part (.inl rfl) (RE.ite (RT.tru t_list (RE.bor (RE.var 8 rfl rfl vf__law_offers_people k_people)) (fun _ => rfl)) (RE.call2 c__law_lowest hr (Nat.le_of_ble_eq_true rfl) rfl (RA.im (RE.var 5 rfl rfl vf__law_offers_cost k_cost) (RA.im (RE.b1 b_lenL rfl z_len boot_len (RE.bor (RE.var 8 rfl rfl vf__law_offers_people k_people)) rfl kb_len) RA.nil)) k__law_lowest) (RE.tup2 (RA.im RE.int (RA.im RE.int RA.nil)))) (fun _ => rfl)))) fun w18 =>
  (WB.cons (WS.ite (E := fun w19 : Unit => [Sl.st, Sl.sc is0, I v_n, I v_at, I x2, I w3, I w4, Ow w9, I w17, U, I w18, U, U, U, U, U, U, U, U, U, U, U, U]) (NT.of (RT.not (RT.tru t_bool (RE.bor (RE.call2 (c__law_exact.exact (by decide) (by decide)) hr (Nat.le_of_ble_eq_true rfl) rfl (RA.im (RE.tup2 (RA.im (RE.var 8 rfl rfl vf__law_offers_people k_people) (RA.im (RE.var 10 rfl rfl vf__law_offers_part k_part) RA.nil))) (RA.im (RE.call2 c_payers hr (Nat.le_of_ble_eq_true rfl) rfl (RA.im (RE.var 5 rfl rfl vf__law_offers_cost k_cost) (RA.br (RE.bor (RF.re (RF.ty1 b_listL rfl z_list bb_list (RB.varO 7 rfl rfl vf__law_offers_offers k_offers) rfl kb_list))) RA.nil)) k_payers) RA.nil)) k__law_exact)) (fun _ => rfl)))) (WB.ret (NE.of RE.bl)) (WB.nil () (.r (.r (.r (.r (.r (.r (.r (.r (.r (.r (.r (.r (.r (.r (.r (.r (.r (.r (.r (.r (.r (.r (.r .n))))))))))))))))))))))))) fun w19 =>
  (WB.cons (WS.of (NS.of (SN.set (E := fun w20 : (Int × Int) => [Sl.st, Sl.sc is0, I v_n, I v_at, I x2, I w3, I w4, Ow w9, I w17, U, I w18, I w20, U, U, U, U, U, U, U, U, U, U, U]) 11 nd__law_offers rfl lf__law_offers_gain (.inl rfl) (RE.ite (RT.cmp c_inL (RE.bor (RE.var 3 rfl rfl vf__law_offers_at k_at)) (RE.bor (RE.var 8 rfl rfl vf__law_offers_people k_people)) (by with_unfolding_all rfl)) (RE.call2 c__law_minus hr (Nat.le_of_ble_eq_true rfl) rfl (RA.im (RE.tup2 (RA.im (RE.ix x_list (RE.bor (RE.var 6 rfl rfl vf__law_offers_worths k_worths)) (RE.bor (RE.var 3 rfl rfl vf__law_offers_at k_at)) (fun _ _ => rfl)) (RA.im RE.int RA.nil))) (RA.im (RE.var 10 rfl rfl vf__law_offers_part k_part) RA.nil)) k__law_minus) (RE.tup2 (RA.im RE.int (RA.im RE.int RA.nil)))) (fun _ => rfl)))) fun w20 =>
  (WB.cons (WS.of (NS.of (SN.set (E := fun w21 : (Int × Int) => [Sl.st, Sl.sc is0, I v_n, I v_at, I x2, I w3, I w4, Ow w9, I w17, U, I w18, I w20, I w21, U, U, U, U, U, U, U, U, U, U]) 12 nd__law_offers rfl lf__law_offers_honest (.inl rfl) (RE.call4 c_gain_from hr (Nat.le_of_ble_eq_true rfl) rfl (RA.im (RE.var 5 rfl rfl vf__law_offers_cost k_cost) (RA.br (RE.bor (RF.re (RF.ty1 b_listL rfl z_list bb_list (RE.bor (RE.var 6 rfl rfl vf__law_offers_worths k_worths)) rfl kb_list))) (RA.br (RE.bor (RF.re (RF.ty1 b_listL rfl z_list bb_list (RE.bor (RE.var 6 rfl rfl vf__law_offers_worths k_worths)) rfl kb_list))) (RA.im (RE.var 3 rfl rfl vf__law_offers_at k_at) RA.nil)))) k_gain_from) (fun _ => rfl)))) fun w21 =>
  (WB.cons (WS.ite (E := fun w22 : Unit => [Sl.st, Sl.sc is0, I v_n, I v_at, I x2, I w3, I w4, Ow w9, I w17, U, I w18, I w20, I w21, U, U, U, U, U, U, U, U, U, U]) (NT.of (RW.t (RW.or (RT.not (RT.tru t_bool (RE.bor (RE.call2 (c__law_exact.exact (by decide) (by decide)) hr (Nat.le_of_ble_eq_true rfl) rfl (RA.im (RE.var 11 rfl rfl vf__law_offers_gain k_gain) (RA.im (RE.call4 c_gain_from hr (Nat.le_of_ble_eq_true rfl) rfl (RA.im (RE.var 5 rfl rfl vf__law_offers_cost k_cost) (RA.br (RE.bor (RF.re (RF.ty1 b_listL rfl z_list bb_list (RE.bor (RE.var 6 rfl rfl vf__law_offers_worths k_worths)) rfl kb_list))) (RA.br (RE.bor (RF.re (RF.ty1 b_listL rfl z_list bb_list (RB.varO 7 rfl rfl vf__law_offers_offers k_offers) rfl kb_list))) (RA.im (RE.var 3 rfl rfl vf__law_offers_at k_at) RA.nil)))) k_gain_from) RA.nil)) k__law_exact)) (fun _ => rfl))) (RW.or (RT.tru t_bool (RE.bor (RE.call2 c__law_below hr (Nat.le_of_ble_eq_true rfl) rfl (RA.im (RE.var 12 rfl rfl vf__law_offers_honest k_honest) (RA.im (RE.var 11 rfl rfl vf__law_offers_gain k_gain) RA.nil)) k__law_below)) (fun _ => rfl)) (RT.or1 (RT.cmp c_lt (RE.bor (RE.fst (RE.bor (RE.var 12 rfl rfl vf__law_offers_honest k_honest)) (fun _ _ => rfl))) (RE.bor RE.int) (nm_lt _))))))) (WB.ret (NE.of RE.bl)) (WB.nil () (.r (.r (.r (.r (.r (.r (.r (.r (.r (.r (.r (.r (.r (.r (.r (.r (.r (.r (.r (.r (.r (.r (.r .n))))))))))))))))))))))))) fun w22 =>
  (WB.cons (WS.of (NS.of (SN.parIF (E := fun w23 : (Bool × (List (Int × Int))) => [Sl.st, Sl.sc is0, I v_n, I v_at, I x2, I w3, I w4, Ow w9, I w17, U, I w18, I w20, I w21, U, U, I w23.1, Ow w23.2, U, U, U, U, U, U]) 15 16 (fun _ => rfl) rfl nd__law_offers rfl rfl (by decide) rfl rfl (RE.cmp c_ge (RE.bor (RE.b1 (b_sumL rfl) rfl z_sum bb_sum (RB.varO 7 rfl rfl vf__law_offers_offers k_offers) rfl kb_sum)) (RE.bor (RE.var 5 rfl rfl vf__law_offers_cost k_cost)) (nm_ge _)) (RF.lst RL.nil) rfl))) fun w23 =>
  (WB.cons (WS.of (NS.of (SN.for (E := (fun s24 : (List (Int × Int)) => [Sl.st, Sl.sc is0, I v_n, I v_at, I x2, I w3, I w4, Ow w9, I w17, U, I w18, I w20, I w21, U, U, I w23.1, Ow s24, U, U, U, U, U, U])) (tE := (fun (s24 : (List (Int × Int))) (x25 : Int) => [Sl.st, Sl.sc is0, I v_n, I v_at, I x2, I w3, I w4, Ow w9, I w17, U, I w18, I w20, I w21, I x25, U, I w23.1, Ow s24, U, U, U, U, U, U])) (ix := [13]) w23.2 pown rfl (.r (.r (.r (.r (.r (.r (.r (.r (.r (.r (.r (.r (.r (.r (.r (.r (.r (.r (.r (.r (.r (.r (.r .n))))))))))))))))))))))) (RI.range1 rfl z_range (RE.bor (RE.var 2 rfl rfl vf__law_offers_n k_n))) (fun _ _ => (RG.name 13 nd__law_offers rfl lf__law_offers_j (.inl rfl) rfl)) (fun s24 x25 =>
  (BN.cons (SN.par (E := fun w26 : (Int × (Int × Int)) => [Sl.st, Sl.sc is0, I v_n, I v_at, I x2, I w3, I w4, Ow w9, I w17, U, I w18, I w20, I w21, I x25, U, I w23.1, Ow s24, U, U, U, I w26.1, I w26.2, U]) 20 21 (fun _ => rfl) rfl nd__law_offers rfl rfl (by decide) rfl rfl (RA.im (RE.bin o_sub (RE.bor (RE.b1 (b_sumL rfl) rfl z_sum bb_sum (RB.varO 7 rfl rfl vf__law_offers_offers k_offers) rfl kb_sum)) (RE.bor (RE.ix x_list (RB.varO 7 rfl rfl vf__law_offers_offers k_offers) (RE.bor (RE.var 13 rfl rfl vf__law_offers_j k_j)) (fun _ _ => rfl)))) (RA.im (RE.call2 c__law_lowest hr (Nat.le_of_ble_eq_true rfl) rfl (RA.im (RE.bin o_mul (RE.bor (RE.var 5 rfl rfl vf__law_offers_cost k_cost)) (RE.bor (RE.bin o_sub (RE.bor (RE.var 2 rfl rfl vf__law_offers_n k_n)) (RE.bor RE.int)))) (RA.im (RE.var 2 rfl rfl vf__law_offers_n k_n) RA.nil)) k__law_lowest) RA.nil)) rfl) fun w26 =>
  (BN.cons (SN.set (E := fun w27 : (Int × Int) => [Sl.st, Sl.sc is0, I v_n, I v_at, I x2, I w3, I w4, Ow w9, I w17, U, I w18, I w20, I w21, I x25, U, I w23.1, Ow s24, I w27, U, U, I w26.1, I w26.2, U]) 17 nd__law_offers rfl lf__law_offers_pay (.inl rfl) (RE.ite (RT.tru t_bool (RE.bor (RE.var 15 rfl rfl vf__law_offers_made k_made)) (fun _ => rfl)) (RE.call2 c__law_lowest hr (Nat.le_of_ble_eq_true rfl) rfl (RA.im (RE.var 5 rfl rfl vf__law_offers_cost k_cost) (RA.im (RE.var 2 rfl rfl vf__law_offers_n k_n) RA.nil)) k__law_lowest) (RE.tup2 (RA.im RE.int (RA.im RE.int RA.nil)))) (fun _ => rfl)) fun w27 =>
  (BN.cons (SN.set (E := fun w28 : Bool => [Sl.st, Sl.sc is0, I v_n, I v_at, I x2, I w3, I w4, Ow w9, I w17, U, I w18, I w20, I w21, I x25, U, I w23.1, Ow s24, I w27, I w28, U, I w26.1, I w26.2, U]) 18 nd__law_offers rfl lf__law_offers_want (.inl rfl) (RE.not (RE.bor (RE.call2 c__law_below hr (Nat.le_of_ble_eq_true rfl) rfl (RA.im (RE.tup2 (RA.im (RE.var 20 rfl rfl vf__law_offers_rest k_rest) (RA.im RE.int RA.nil))) (RA.im (RE.var 21 rfl rfl vf__law_offers_theirs k_theirs) RA.nil)) k__law_below))) (fun _ => rfl)) fun w28 =>
  (BN.cons (SN.ite (E := fun w31 : (Int × Int) => [Sl.st, Sl.sc is0, I v_n, I v_at, I x2, I w3, I w4, Ow w9, I w17, U, I w18, I w20, I w21, I x25, U, I w23.1, Ow s24, I w31, I w28, U, I w26.1, I w26.2, U]) (RT.cmp c_neB (RE.bor (RE.var 15 rfl rfl vf__law_offers_made k_made)) (RE.bor (RE.var 18 rfl rfl vf__law_offers_want k_want)) (nm_ne _)) (BN.cons (SN.set (E := fun w32 : (Int × Int) => [Sl.st, Sl.sc is0, I v_n, I v_at, I x2, I w3, I w4, Ow w9, I w17, U, I w18, I w20, I w21, I x25, U, I w23.1, Ow s24, I w27, I w28, U, I w26.1, I w26.2, I w32]) 22 nd__law_offers rfl lf__law_offers_gap (.inl rfl) (RE.call2 c__law_minus hr (Nat.le_of_ble_eq_true rfl) rfl (RA.im (RE.tup2 (RA.im (RE.var 20 rfl rfl vf__law_offers_rest k_rest) (RA.im RE.int RA.nil))) (RA.im (RE.var 21 rfl rfl vf__law_offers_theirs k_theirs) RA.nil)) k__law_minus) (fun _ => rfl)) fun w32 =>
  (BN.cons (SN.set (E := fun w33 : (Int × Int) => [Sl.st, Sl.sc is0, I v_n, I v_at, I x2, I w3, I w4, Ow w9, I w17, U, I w18, I w20, I w21, I x25, U, I w23.1, Ow s24, I w33, I w28, U, I w26.1, I w26.2, I w32]) 17 nd__law_offers rfl lf__law_offers_pay (.inl rfl) (RE.call2 c__law_plus hr (Nat.le_of_ble_eq_true rfl) rfl (RA.im (RE.var 17 rfl rfl vf__law_offers_pay k_pay) (RA.im (RE.tup2 (RA.im (RE.b1 b_abs rfl z_abs bb_abs (RE.bor (RE.fst (RE.bor (RE.var 22 rfl rfl vf__law_offers_gap k_gap)) (fun _ _ => rfl))) rfl kb_abs) (RA.im (RE.snd (RE.bor (RE.var 22 rfl rfl vf__law_offers_gap k_gap)) (fun _ _ => rfl)) RA.nil))) RA.nil)) k__law_plus) (fun _ => rfl)) fun w33 =>
  (BN.nil w33 (.r (.r (.r (.r (.r (.r (.r (.r (.r (.r (.r (.r (.r (.r (.r (.r (.r (.r (.r (.r (.r (.r (.u .n)))))))))))))))))))))))))) (BN.nil w27 (.r (.r (.r (.r (.r (.r (.r (.r (.r (.r (.r (.r (.r (.r (.r (.r (.r (.r (.r (.r (.r (.r (.r .n))))))))))))))))))))))))) fun w31 =>
  (BN.cons (SN.append (E := (fun w34 : (List (Int × Int)) => [Sl.st, Sl.sc is0, I v_n, I v_at, I x2, I w3, I w4, Ow w9, I w17, U, I w18, I w20, I w21, I x25, U, I w23.1, Ow w34, I w31, I w28, U, I w26.1, I w26.2, U])) 16 rfl (fun _ => rfl) rfl vf__law_offers_pays k_pays (RE.var 17 rfl rfl vf__law_offers_pay k_pay)) fun w34 =>
  (BN.nil w34 (.r (.r (.r (.r (.r (.r (.r (.r (.r (.r (.r (.r (.r (.u (.r (.r (.r (.u (.u (.r (.u (.u (.r .n)))))))))))))))))))))))))))))) (fun _ => rfl)))) fun w35 =>
  (WB.cons (WS.ite (E := fun w36 : Unit => [Sl.st, Sl.sc is0, I v_n, I v_at, I x2, I w3, I w4, Ow w9, I w17, U, I w18, I w20, I w21, U, U, I w23.1, Ow w35, U, U, U, U, U, U]) (NT.of (RT.not (RT.tru t_bool (RE.bor (RE.call2 (c__law_exact.exact (by decide) (by decide)) hr (Nat.le_of_ble_eq_true rfl) rfl (RA.im (RE.tup2 (RA.im (RE.var 15 rfl rfl vf__law_offers_made k_made) (RA.im (RE.ty1 b_tupL rfl z_tuple bb_tuple (RB.varO 16 rfl rfl vf__law_offers_pays k_pays) rfl kb_tuple) RA.nil))) (RA.im (RE.call2 c_pivots hr (Nat.le_of_ble_eq_true rfl) rfl (RA.im (RE.var 5 rfl rfl vf__law_offers_cost k_cost) (RA.br (RE.bor (RF.re (RF.ty1 b_listL rfl z_list bb_list (RB.varO 7 rfl rfl vf__law_offers_offers k_offers) rfl kb_list))) RA.nil)) k_pivots) RA.nil)) k__law_exact)) (fun _ => rfl)))) (WB.ret (NE.of RE.bl)) (WB.nil () (.r (.r (.r (.r (.r (.r (.r (.r (.r (.r (.r (.r (.r (.r (.r (.r (.r (.r (.r (.r (.r (.r (.r .n))))))))))))))))))))))))) fun w36 =>
  (WB.cons (WS.of (NS.of (SN.set (E := fun w37 : (Int × Int) => [Sl.st, Sl.sc is0, I v_n, I v_at, I x2, I w3, I w4, Ow w9, I w17, U, I w18, I w37, I w21, U, U, I w23.1, Ow w35, U, U, U, U, U, U]) 11 nd__law_offers rfl lf__law_offers_gain (.inl rfl) (RE.call2 c__law_minus hr (Nat.le_of_ble_eq_true rfl) rfl (RA.im (RE.tup2 (RA.im (RE.bin o_mul (RE.bor (RE.ix x_list (RE.bor (RE.var 6 rfl rfl vf__law_offers_worths k_worths)) (RE.bor (RE.var 3 rfl rfl vf__law_offers_at k_at)) (fun _ _ => rfl))) (RE.bor (RE.ty1 b_intB rfl z_int bb_int (RE.bor (RE.var 15 rfl rfl vf__law_offers_made k_made)) rfl kb_int))) (RA.im RE.int RA.nil))) (RA.im (RE.ix x_list (RB.varO 16 rfl rfl vf__law_offers_pays k_pays) (RE.bor (RE.var 3 rfl rfl vf__law_offers_at k_at)) (fun _ _ => rfl)) RA.nil)) k__law_minus) (fun _ => rfl)))) fun w37 =>
  (WB.cons (WS.of (NS.of (SN.set (E := fun w38 : (Int × Int) => [Sl.st, Sl.sc is0, I v_n, I v_at, I x2, I w3, I w4, Ow w9, I w17, U, I w18, I w37, I w38, U, U, I w23.1, Ow w35, U, U, U, U, U, U]) 12 nd__law_offers rfl lf__law_offers_honest (.inl rfl) (RE.call4 c_pivot_gain hr (Nat.le_of_ble_eq_true rfl) rfl (RA.im (RE.var 5 rfl rfl vf__law_offers_cost k_cost) (RA.br (RE.bor (RF.re (RF.ty1 b_listL rfl z_list bb_list (RE.bor (RE.var 6 rfl rfl vf__law_offers_worths k_worths)) rfl kb_list))) (RA.br (RE.bor (RF.re (RF.ty1 b_listL rfl z_list bb_list (RE.bor (RE.var 6 rfl rfl vf__law_offers_worths k_worths)) rfl kb_list))) (RA.im (RE.var 3 rfl rfl vf__law_offers_at k_at) RA.nil)))) k_pivot_gain) (fun _ => rfl)))) fun w38 =>
  (WB.cons (WS.ite (E := fun w39 : Unit => [Sl.st, Sl.sc is0, I v_n, I v_at, I x2, I w3, I w4, Ow w9, I w17, U, I w18, I w37, I w38, U, U, I w23.1, Ow w35, U, U, U, U, U, U]) (NT.of (RW.t (RW.or (RT.not (RT.tru t_bool (RE.bor (RE.call2 (c__law_exact.exact (by decide) (by decide)) hr (Nat.le_of_ble_eq_true rfl) rfl (RA.im (RE.var 11 rfl rfl vf__law_offers_gain k_gain) (RA.im (RE.call4 c_pivot_gain hr (Nat.le_of_ble_eq_true rfl) rfl (RA.im (RE.var 5 rfl rfl vf__law_offers_cost k_cost) (RA.br (RE.bor (RF.re (RF.ty1 b_listL rfl z_list bb_list (RE.bor (RE.var 6 rfl rfl vf__law_offers_worths k_worths)) rfl kb_list))) (RA.br (RE.bor (RF.re (RF.ty1 b_listL rfl z_list bb_list (RB.varO 7 rfl rfl vf__law_offers_offers k_offers) rfl kb_list))) (RA.im (RE.var 3 rfl rfl vf__law_offers_at k_at) RA.nil)))) k_pivot_gain) RA.nil)) k__law_exact)) (fun _ => rfl))) (RT.or1 (RT.tru t_bool (RE.bor (RE.call2 c__law_below hr (Nat.le_of_ble_eq_true rfl) rfl (RA.im (RE.var 12 rfl rfl vf__law_offers_honest k_honest) (RA.im (RE.var 11 rfl rfl vf__law_offers_gain k_gain) RA.nil)) k__law_below)) (fun _ => rfl)))))) (WB.ret (NE.of RE.bl)) (WB.nil () (.r (.r (.r (.r (.r (.r (.r (.r (.r (.r (.r (.r (.r (.r (.r (.r (.r (.r (.r (.r (.r (.r (.r .n))))))))))))))))))))))))) fun w39 =>
  (WB.nil () (.r (.r (.r (.r (.u (.u (.u (.u (.u (.r (.u (.u (.u (.r (.r (.u (.u (.r (.r (.r (.r (.r (.r .n)))))))))))))))))))))))))))))))))))))))))) (fun _ => rfl)) fun w40 =>
  (WB.ret (NE.of RE.bl)))
  exact (h.run (fun _ => False) (post__law_offers v_n v_at) hp).imp (fun e ⟨_, z, _⟩ => z) (fun d ⟨i, hi, e⟩ => by rw [e]; exact hP i hi) (fun _ z => z) (fun _ z => z)⟩
/-! ## law -/
abbrev s_law : Stmt := topS 26
abbrev n_law : List Str := ["script", "state", "k", "n", "asks", "steps", "costs", "shares", "total", "one", "at", "more", "due", "whole", "means", "most", "bent", "j"]
theorem sc_law : FnScope n_law ["script"] (defScope s_law) := ⟨rfl, rfl, rfl, by decide +kernel, rfl, by decide +kernel, by decide +kernel⟩
theorem nd_law : (n_law).Nodup := sc_law.nd
theorem lf_law_script : L2.Loc (defScope s_law) "script" := locB rfl
theorem vf_law_script : L2.Vis (defScope s_law) "script" := visB rfl
theorem lf_law_state : L2.Loc (defScope s_law) "state" := locB rfl
theorem vf_law_state : L2.Vis (defScope s_law) "state" := visB rfl
theorem lf_law_k : L2.Loc (defScope s_law) "k" := locB rfl
theorem vf_law_k : L2.Vis (defScope s_law) "k" := visB rfl
theorem lf_law_n : L2.Loc (defScope s_law) "n" := locB rfl
theorem vf_law_n : L2.Vis (defScope s_law) "n" := visB rfl
theorem lf_law_asks : L2.Loc (defScope s_law) "asks" := locB rfl
theorem vf_law_asks : L2.Vis (defScope s_law) "asks" := visB rfl
theorem lf_law_steps : L2.Loc (defScope s_law) "steps" := locB rfl
theorem vf_law_steps : L2.Vis (defScope s_law) "steps" := visB rfl
theorem lf_law_costs : L2.Loc (defScope s_law) "costs" := locB rfl
theorem vf_law_costs : L2.Vis (defScope s_law) "costs" := visB rfl
theorem lf_law_shares : L2.Loc (defScope s_law) "shares" := locB rfl
theorem vf_law_shares : L2.Vis (defScope s_law) "shares" := visB rfl
theorem lf_law_total : L2.Loc (defScope s_law) "total" := locB rfl
theorem vf_law_total : L2.Vis (defScope s_law) "total" := visB rfl
theorem lf_law_one : L2.Loc (defScope s_law) "one" := locB rfl
theorem vf_law_one : L2.Vis (defScope s_law) "one" := visB rfl
theorem lf_law_at : L2.Loc (defScope s_law) "at" := locB rfl
theorem vf_law_at : L2.Vis (defScope s_law) "at" := visB rfl
theorem lf_law_more : L2.Loc (defScope s_law) "more" := locB rfl
theorem vf_law_more : L2.Vis (defScope s_law) "more" := visB rfl
theorem lf_law_due : L2.Loc (defScope s_law) "due" := locB rfl
theorem vf_law_due : L2.Vis (defScope s_law) "due" := visB rfl
theorem lf_law_whole : L2.Loc (defScope s_law) "whole" := locB rfl
theorem vf_law_whole : L2.Vis (defScope s_law) "whole" := visB rfl
theorem lf_law_means : L2.Loc (defScope s_law) "means" := locB rfl
theorem vf_law_means : L2.Vis (defScope s_law) "means" := visB rfl
theorem lf_law_most : L2.Loc (defScope s_law) "most" := locB rfl
theorem vf_law_most : L2.Vis (defScope s_law) "most" := visB rfl
theorem lf_law_bent : L2.Loc (defScope s_law) "bent" := locB rfl
theorem vf_law_bent : L2.Vis (defScope s_law) "bent" := visB rfl
def wp_law : (Unit → Prop) → (Bool → Prop) → Prop :=
  (W.seq (W.for (α := Int) (N.of (R.rng1 (R.pure (3 : Int)))) (() : Unit) (fun s1 x2 =>
  (W.seq (W.of (N.o2 T2 (fun i j : Int => i + j) (N.of (R.pure (1 : Int))) (N.d1 m_draw (N.of (R.pure (4 : Int)))))) fun w3 =>
  (W.seq (W.of (N.o1 T1 (fun xs : (List Int) => Tu.mk xs) (N.lc (α := Int) (N.of (R.rng1 (R.pure w3))) (fun _ => R.pure true) (fun y6 => (N.d1 m_draw (N.of (R.pure (6 : Int)))))))) fun w4 =>
  (W.seq (W.of (N.lc (α := Int) (N.of (R.rng1 (R.pure (25 : Int)))) (fun _ => R.pure true) (fun y9 => (N.d1 m_draw (N.of (R.pure (6 : Int))))))) fun w7 =>
  (W.seq (W.ite (N.o2 T2 (fun i j : Int => decide (i = j)) (N.d1 m_draw (N.of (R.pure (2 : Int)))) (N.of (R.pure (0 : Int)))) (W.seq (W.of (N.of (R.o1 (fun xs : (List Int) => PySem.W.Sortable (xs.map rep)) srtD (R.pure w7)))) fun w12 =>
  (W.nil (w12 : (List Int)))) (W.nil (w7 : (List Int)))) fun w11 =>
  (W.seq (W.of (N.of (R.o1 T1 (fun xs : (List Int) => Tu.mk xs) (R.lc (α := Int) (R.rng1 (R.pure (26 : Int))) (fun _ => R.pure true) (fun y15 => (R.o1 T1 (fun xs : List Int => xs.sum) (R.o3 T3t cut (R.pure w11) (R.pure (none : Option Int)) (R.map some (R.pure y15))))))))) fun w13 =>
  (W.seq (W.of (N.of (R.c2 m_serial_shares (R.pure w13) (R.pure w4)))) fun w16 =>
  (W.seq (W.ite (N.of (R.not (R.o1 T1 (fun i : Bool => i) (R.c2 FP.exact (R.h2 (R.c2 m__law_serial (R.pure w13) (R.pure w4)) (R.pure true)) (R.h2 (R.pure w16) (R.c1 m_is_cost_row (R.pure w13))))))) (W.ret (N.of (R.pure false))) (W.nil (() : Unit))) fun w17 =>
  (W.seq (W.of (N.of (R.tup2 (R.pure (0 : Int)) (R.pure (1 : Int))))) fun w18 =>
  (W.seq (W.of (N.of (R.fold (α := (Int × Int)) (R.map Tu.l (R.pure w16)) (w18 : (Int × Int)) (fun s19 x20 =>
  (R.bind (R.c2 m__law_plus (R.pure s19) (R.pure x20)) fun w21 =>
  (R.pure (w21 : (Int × Int)))))))) fun w22 =>
  (W.seq (W.ite (N.of (R.or (R.o2 T2 (fun x y : (Int × Int) => !decide (x = y)) (R.pure w22) (R.tup2 (R.o2 (fun (xs : (Tu Int)) i => ixOk xs.l.length i) (fun xs i => nth xs.l i) (R.pure w13) (R.o1 T1 (fun xs : Tu Int => xs.l.sum) (R.pure w4))) (R.pure (1 : Int)))) (R.not (R.o1 T1 (fun i : Bool => i) (R.c2 FP.exact (R.o2 T2 (fun x y : (List Int) => decide (x = y)) (R.pure w11) (R.o1 (fun xs : (List Int) => PySem.W.Sortable (xs.map rep)) srtD (R.pure w11))) (R.c1 m_is_bending_up (R.pure w13))))))) (W.ret (N.of (R.pure false))) (W.nil (() : Unit))) fun w23 =>
  (W.seq (W.of (N.d1 m_draw (N.of (R.pure w3)))) fun w24 =>
  (W.seq (W.of (N.o1 T1 (fun xs : (List Int) => Tu.mk xs) (N.lc (α := Int) (N.of (R.rng1 (R.pure w3))) (fun _ => R.pure true) (fun y27 => (N.ite (R.o2 T2 (fun i j : Int => decide (i ≤ j)) (R.o2 (fun (xs : (Tu Int)) i => ixOk xs.l.length i) (fun xs i => nth xs.l i) (R.pure w4) (R.pure y27)) (R.o2 (fun (xs : (Tu Int)) i => ixOk xs.l.length i) (fun xs i => nth xs.l i) (R.pure w4) (R.pure w24))) (N.of (R.o2 (fun (xs : (Tu Int)) i => ixOk xs.l.length i) (fun xs i => nth xs.l i) (R.pure w4) (R.pure y27))) (N.o2 T2 (fun i j : Int => i + j) (N.of (R.o2 (fun (xs : (Tu Int)) i => ixOk xs.l.length i) (fun xs i => nth xs.l i) (R.pure w4) (R.pure w24))) (N.d1 m_draw (N.of (R.pure (3 : Int)))))))))) fun w25 =>
  (W.seq (W.ite (N.of (R.o2 T2 (fun x y : (Int × Int) => !decide (x = y)) (R.o2 (fun (xs : (Tu (Int × Int))) i => ixOk xs.l.length i) (fun xs i => nth xs.l i) (R.c2 m_serial_shares (R.pure w13) (R.pure w25)) (R.pure w24)) (R.o2 (fun (xs : (Tu (Int × Int))) i => ixOk xs.l.length i) (fun xs i => nth xs.l i) (R.pure w16) (R.pure w24)))) (W.ret (N.of (R.pure false))) (W.nil (() : Unit))) fun w28 =>
  (W.seq (W.of (N.of (R.c2 m__law_lowest (R.o2 (fun (xs : (Tu Int)) i => ixOk xs.l.length i) (fun xs i => nth xs.l i) (R.pure w13) (R.o2 CMul (fun i j : Int => i * j) (R.pure w3) (R.o2 (fun (xs : (Tu Int)) i => ixOk xs.l.length i) (fun xs i => nth xs.l i) (R.pure w4) (R.pure w24)))) (R.pure w3)))) fun w29 =>
  (W.seq (W.ite (N.of (R.or (R.not (R.o1 T1 (fun i : Bool => i) (R.c2 FP.exact (R.pure w29) (R.c3 m_alone_cost (R.pure w13) (R.pure w4) (R.pure w24))))) (R.and (R.o2 T2 (fun x y : (List Int) => decide (x = y)) (R.pure w11) (R.o1 (fun xs : (List Int) => PySem.W.Sortable (xs.map rep)) srtD (R.pure w11))) (R.o1 T1 (fun i : Bool => i) (R.c2 m__law_below (R.pure w29) (R.o2 (fun (xs : (Tu (Int × Int))) i => ixOk xs.l.length i) (fun xs i => nth xs.l i) (R.pure w16) (R.pure w24))))))) (W.ret (N.of (R.pure false))) (W.nil (() : Unit))) fun w30 =>
  (W.seq (W.of (N.of (R.o1 T1 (fun xs : Tu Int => xs.l.sum) (R.pure w4)))) fun w31 =>
  (W.seq (W.of (N.of (R.o1 T1 (fun xs : (List (Int × Int)) => Tu.mk xs) (R.lc (α := Int) (R.map Tu.l (R.pure w4)) (fun _ => R.pure true) (fun y34 => (R.ite (R.o2 T2 (fun i j : Int => decide (j < i)) (R.pure w31) (R.pure (0 : Int))) (R.c2 m__law_lowest (R.o2 CMul (fun i j : Int => i * j) (R.o2 (fun (xs : (Tu Int)) i => ixOk xs.l.length i) (fun xs i => nth xs.l i) (R.pure w13) (R.pure w31)) (R.pure y34)) (R.pure w31)) (R.tup2 (R.pure (0 : Int)) (R.pure (1 : Int))))))))) fun w32 =>
  (W.seq (W.of (N.d1 m_draw (N.of (R.pure (7 : Int))))) fun w35 =>
  (W.seq (W.ite (N.of (R.not (R.o1 T1 (fun i : Bool => i) (R.c2 FP.exact (R.h2 (R.pure w32) (R.o1 T1 (fun xs : List Int => xs.sum) (R.lc (α := Int) (R.map Tu.l (R.pure w4)) (fun _ => R.pure true) (fun y36 => (R.o2 T2 (fun i j : Int => min i j) (R.pure y36) (R.pure w35)))))) (R.h2 (R.c2 m_mean_shares (R.pure w13) (R.pure w4)) (R.c2 m_even_asks (R.pure w4) (R.pure w35))))))) (W.ret (N.of (R.pure false))) (W.nil (() : Unit))) fun w37 =>
  (W.seq (W.of (N.of (R.o1 T1 (fun xs : (Tu Int) => xs.l) (R.pure w13)))) fun w38 =>
  (W.seq (W.of (N.setIx w38 (N.o2 T2 (fun i j : Int => i - j) (N.d1 m_draw (N.of (R.pure (20 : Int)))) (N.of (R.pure (1 : Int)))) (N.d1 m_draw (N.of (R.pure (6 : Int)))))) fun w39 =>
  (W.seq (W.ite (N.of (R.not (R.o1 T1 (fun i : Bool => i) (R.c2 FP.exact (R.and (R.o2 T2 (fun i j : Int => decide (i = j)) (R.o2 (fun (xs : (List Int)) i => ixOk xs.length i) nth (R.pure w39) (R.pure (0 : Int))) (R.pure (0 : Int))) (R.o2 T2 (fun x y : (List Int) => decide (x = y)) (R.pure w39) (R.o1 (fun xs : (List Int) => PySem.W.Sortable (xs.map rep)) srtD (R.pure w39)))) (R.c1 m_is_cost_row (R.o1 T1 (fun xs : (List Int) => Tu.mk xs) (R.pure w39))))))) (W.ret (N.of (R.pure false))) (W.nil (() : Unit))) fun w40 =>
  (W.seq (W.ite (N.map (fun b => !b) (N.o1 T1 (fun i : Bool => i) (N.d2 m__law_offers (N.of (R.pure w3)) (N.of (R.pure w24))))) (W.ret (N.of (R.pure false))) (W.nil (() : Unit))) fun w41 =>
  (W.nil (() : Unit))))))))))))))))))))))))))) fun w42 =>
  (W.ret (N.of (R.and (R.c1 m_is_bending_up (R.map Tu.mk (R.sz (R.lcons (R.pure (0 : Int)) (R.lnil (α := Int)))))) (R.not (R.c1 m_is_cost_row (R.map Tu.mk (R.sz (R.lnil (α := Int))))))))))
theorem w_law {P : Program} {w : World} {K : PySem.W.Frag} {mg : Str → Option Value} {base : Heap} {T : Addr → Prop} (z_list : mg "list" = none) (z_min : mg "min" = none) (z_range : mg "range" = none) (z_sorted : mg "sorted" = none) (z_sum : mg "sum" = none) (z_tuple : mg "tuple" = none) (c__law_draw : Fn P w K mg base 2 "_law_draw" (SpM K T [true] (D1 m_draw))) (c_serial_shares : Fn P w K mg base 3 "serial_shares" (SpD K T [true, true] (G2 m_serial_shares))) (c__law_serial : Fn P w K mg base 3 "_law_serial" (SpD K T [true, true] (G2 m__law_serial))) (c_is_cost_row : Fn P w K mg base 2 "is_cost_row" (SpD K T [true] (G1 m_is_cost_row))) (c__law_exact : Fn P w K mg base 12 "_law_exact" (SpD K T [true, true] (G2 (exF 12)))) (c__law_plus : Fn P w K mg base 2 "_law_plus" (SpD K T [true, true] (G2 m__law_plus))) (c_is_bending_up : Fn P w K mg base 2 "is_bending_up" (SpD K T [true] (G1 m_is_bending_up))) (c__law_lowest : Fn P w K mg base 1 "_law_lowest" (SpD K T [true, true] (G2 m__law_lowest))) (c__law_below : Fn P w K mg base 1 "_law_below" (SpD K T [true, true] (G2 m__law_below))) (c_alone_cost : Fn P w K mg base 2 "alone_cost" (SpD K T [true, true, true] (G3 m_alone_cost))) (c_mean_shares : Fn P w K mg base 2 "mean_shares" (SpD K T [true, true] (G2 m_mean_shares))) (c_even_asks : Fn P w K mg base 1 "even_asks" (SpD K T [true, true] (G2 m_even_asks))) (c__law_offers : Fn P w K mg base 13 "_law_offers" (SpM K T [true, true] (D2 m__law_offers)))
    {f : Addr} {fd : FuncData} (F : FunD K "law" "law" (defArgs s_law) (defBody s_law) (defScope s_law) [] [] f fd) (hW : wp_law (fun _ => False) (fun b => b = true)) : FnOk P w K mg base CX0 14 f fd ["script"] (SpL K T) :=
  Fn.law F sc_law rfl rfl lf_law_state (by decide) (fun _ _ => rfl) (fun _ => rfl) (fun _ => rfl) fun cd A outer s H E M is0 hcd hr eT => by
  subst eT
  have pown : PassesOwn (model P w) (cxF P w K mg base n_law "law" (defScope s_law) f cd A outer s H E).A (cxF P w K mg base n_law "law" (defScope s_law) f cd A outer s H E).env (fun _ _ => False) := PassesOwn.never
  have h : WB (cxF P w K mg base n_law "law" (defScope s_law) f cd A outer s H E) M (β := Bool) ((defBody s_law).tail) [Sl.sc is0, Sl.st, U, U, U, U, U, U, U, U, U, U, U, U, U, U, U, U] (fun _ : Unit => []) wp_law :=
   (WB.cons (WS.for (E := (fun s1 : Unit => [Sl.sc is0, Sl.st, U, U, U, U, U, U, U, U, U, U, U, U, U, U, U, U])) (tE := (fun (s1 : Unit) (x2 : Int) => [Sl.sc is0, Sl.st, I x2, U, U, U, U, U, U, U, U, U, U, U, U, U, U, U])) (ix := [2]) () pown rfl (.r (.r (.r (.r (.r (.r (.r (.r (.r (.r (.r (.r (.r (.r (.r (.r (.r (.r .n)))))))))))))))))) (NI.of (RI.range1 rfl z_range (RE.bor RE.int))) (fun _ _ => (RG.name 2 nd_law rfl lf_law_k (.inl rfl) rfl)) (fun s1 x2 =>
  (WB.cons (WS.of (NS.set (E := fun w3 : Int => [Sl.sc is0, Sl.st, I x2, I w3, U, U, U, U, U, U, U, U, U, U, U, U, U, U]) 3 nd_law rfl lf_law_n (.inl rfl) (NE.bin o_add (NE.nb (NE.of RE.int)) (NE.nb (NE.drw1 (is := is0) 1 0 c__law_draw hr (Nat.le_of_ble_eq_true rfl) rfl rfl rfl vf_law_state k_state rfl rfl vf_law_script k_script (NA.im (NE.of RE.int) NA.nil) k__law_draw))) (fun _ => rfl))) fun w3 =>
  (WB.cons (WS.of (NS.set (E := fun w4 : (Tu Int) => [Sl.sc is0, Sl.st, I x2, I w3, I w4, U, U, U, U, U, U, U, U, U, U, U, U, U]) 4 nd_law rfl lf_law_asks (.inl rfl) (NE.ty1 b_tupL rfl z_tuple bb_tuple (NE.nb (NF.ne (NF.lc (own := [("j", 17)]) (ix := [17]) (tE := (fun y6 : Int => [Sl.sc is0, Sl.st, I x2, I w3, U, U, U, U, U, U, U, U, U, U, U, U, U, I y6])) rfl nd_law (blkOk_by rfl) (by decide) (by decide) (NI.of (RI.range1 rfl z_range (RE.bor (RE.var 3 rfl rfl vf_law_n k_n)))) (fun y6 _ _ _ _ _ => (RG.name 17 nd_law rfl (locB rfl) (.inr rfl) rfl)) (fun _ => .inl ⟨rfl, rfl⟩) (fun y6 _ _ _ _ _ => (NE.drw1 (is := is0) 1 0 c__law_draw hr (Nat.le_of_ble_eq_true rfl) rfl rfl rfl (visB rfl) k_state rfl rfl (visB rfl) k_script (NA.im (NE.of RE.int) NA.nil) k__law_draw)) (fun _ => rfl)))) rfl kb_tuple) (fun _ => rfl))) fun w4 =>
  (WB.cons (WS.of (NS.set (E := fun w7 : (List Int) => [Sl.sc is0, Sl.st, I x2, I w3, I w4, I w7, U, U, U, U, U, U, U, U, U, U, U, U]) 5 nd_law rfl lf_law_steps (.inl rfl) (NF.ne (NF.lc (own := [("j", 17)]) (ix := [17]) (tE := (fun y9 : Int => [Sl.sc is0, Sl.st, I x2, I w3, I w4, U, U, U, U, U, U, U, U, U, U, U, U, I y9])) rfl nd_law (blkOk_by rfl) (by decide) (by decide) (NI.of (RI.range1 rfl z_range (RE.bor RE.int))) (fun y9 _ _ _ _ _ => (RG.name 17 nd_law rfl (locB rfl) (.inr rfl) rfl)) (fun _ => .inl ⟨rfl, rfl⟩) (fun y9 _ _ _ _ _ => (NE.drw1 (is := is0) 1 0 c__law_draw hr (Nat.le_of_ble_eq_true rfl) rfl rfl rfl (visB rfl) k_state rfl rfl (visB rfl) k_script (NA.im (NE.of RE.int) NA.nil) k__law_draw)) (fun _ => rfl))) (fun _ => rfl))) fun w7 =>
  (WB.cons (WS.ite (E := fun w11 : (List Int) => [Sl.sc is0, Sl.st, I x2, I w3, I w4, I w11, U, U, U, U, U, U, U, U, U, U, U, U]) (NT.cmp c_eqI (NE.nb (NE.drw1 (is := is0) 1 0 c__law_draw hr (Nat.le_of_ble_eq_true rfl) rfl rfl rfl vf_law_state k_state rfl rfl vf_law_script k_script (NA.im (NE.of RE.int) NA.nil) k__law_draw)) (NE.nb (NE.of RE.int)) (nm_eq _)) (WB.cons (WS.of (NS.of (SN.set (E := fun w12 : (List Int) => [Sl.sc is0, Sl.st, I x2, I w3, I w4, I w12, U, U, U, U, U, U, U, U, U, U, U, U]) 5 nd_law rfl lf_law_steps (.inl rfl) (RF.re (RF.b1 (b_sortD hr (by decide)) rfl z_sorted bb_sorted (RE.bor (RE.var 5 rfl rfl vf_law_steps k_steps)) rfl kb_sorted)) (fun _ => rfl)))) fun w12 =>
  (WB.nil w12 (.r (.r (.r (.r (.r (.r (.r (.r (.r (.r (.r (.r (.r (.r (.r (.r (.r (.r .n)))))))))))))))))))) (WB.nil w7 (.r (.r (.r (.r (.r (.r (.r (.r (.r (.r (.r (.r (.r (.r (.r (.r (.r (.r .n)))))))))))))))))))) fun w11 =>
  (WB.cons (WS.of (NS.of (SN.set (E := fun w13 : (Tu Int) => [Sl.sc is0, Sl.st, I x2, I w3, I w4, I w11, I w13, U, U, U, U, U, U, U, U, U, U, U]) 6 nd_law rfl lf_law_costs (.inl rfl) (RE.ty1 b_tupL rfl z_tuple bb_tuple (RE.bor (RF.re (RF.lc (own := [("j", 17)]) (ix := [17]) (tE := (fun y15 : Int => [Sl.sc is0, Sl.st, I x2, I w3, I w4, I w11, U, U, U, U, U, U, U, U, U, U, U, I y15])) rfl nd_law (blkOk_by rfl) (by decide) (by decide) (RI.range1 rfl z_range (RE.bor RE.int)) (fun y15 _ _ _ _ _ => (RG.name 17 nd_law rfl (locB rfl) (.inr rfl) rfl)) (fun _ => .inl ⟨rfl, rfl⟩) (fun y15 _ _ _ _ _ => (RE.b1 (b_sumL rfl) rfl z_sum bb_sum (RE.bor (RF.re (RF.slice (RE.bor (RE.var 5 rfl rfl (visB rfl) k_steps)) RO.none (RO.some (RE.bor (RE.var 17 rfl rfl (visB rfl) k_j)))))) rfl kb_sum)) (fun _ => rfl)))) rfl kb_tuple) (fun _ => rfl)))) fun w13 =>
  (WB.cons (WS.of (NS.of (SN.set (E := fun w16 : (Tu (Int × Int)) => [Sl.sc is0, Sl.st, I x2, I w3, I w4, I w11, I w13, I w16, U, U, U, U, U, U, U, U, U, U]) 7 nd_law rfl lf_law_shares (.inl rfl) (RE.call2 c_serial_shares hr (Nat.le_of_ble_eq_true rfl) rfl (RA.im (RE.var 6 rfl rfl vf_law_costs k_costs) (RA.im (RE.var 4 rfl rfl vf_law_asks k_asks) RA.nil)) k_serial_shares) (fun _ => rfl)))) fun w16 =>
  (WB.cons (WS.ite (E := fun w17 : Unit => [Sl.sc is0, Sl.st, I x2, I w3, I w4, I w11, I w13, I w16, U, U, U, U, U, U, U, U, U, U]) (NT.of (RT.not (RT.tru t_bool (RE.bor (RE.call2 (c__law_exact.exact (by decide) (by decide)) hr (Nat.le_of_ble_eq_true rfl) rfl (RA.im (RE.h2 (RA.im (RE.call2 c__law_serial hr (Nat.le_of_ble_eq_true rfl) rfl (RA.im (RE.var 6 rfl rfl vf_law_costs k_costs) (RA.im (RE.var 4 rfl rfl vf_law_asks k_asks) RA.nil)) k__law_serial) (RA.im RE.bl RA.nil))) (RA.im (RE.h2 (RA.im (RE.var 7 rfl rfl vf_law_shares k_shares) (RA.im (RE.call1 c_is_cost_row hr (Nat.le_of_ble_eq_true rfl) rfl (RA.im (RE.var 6 rfl rfl vf_law_costs k_costs) RA.nil) k_is_cost_row) RA.nil))) RA.nil)) k__law_exact)) (fun _ => rfl)))) (WB.ret (NE.of RE.bl)) (WB.nil () (.r (.r (.r (.r (.r (.r (.r (.r (.r (.r (.r (.r (.r (.r (.r (.r (.r (.r .n)))))))))))))))))))) fun w17 =>
  (WB.cons (WS.of (NS.of (SN.set (E := fun w18 : (Int × Int) => [Sl.sc is0, Sl.st, I x2, I w3, I w4, I w11, I w13, I w16, I w18, U, U, U, U, U, U, U, U, U]) 8 nd_law rfl lf_law_total (.inl rfl) (RE.tup2 (RA.im RE.int (RA.im RE.int RA.nil))) (fun _ => rfl)))) fun w18 =>
  (WB.cons (WS.of (NS.of (SN.for (E := (fun s19 : (Int × Int) => [Sl.sc is0, Sl.st, I x2, I w3, I w4, I w11, I w13, I w16, I s19, U, U, U, U, U, U, U, U, U])) (tE := (fun (s19 : (Int × Int)) (x20 : (Int × Int)) => [Sl.sc is0, Sl.st, I x2, I w3, I w4, I w11, I w13, I w16, I s19, I x20, U, U, U, U, U, U, U, U])) (ix := [9]) w18 pown rfl (.r (.r (.r (.r (.r (.r (.r (.r (.r (.r (.r (.r (.r (.r (.r (.r (.r (.r .n)))))))))))))))))) (RI.tup (RE.var 7 rfl rfl vf_law_shares k_shares)) (fun _ _ => (RG.name 9 nd_law rfl lf_law_one (.inl rfl) rfl)) (fun s19 x20 =>
  (BN.cons (SN.set (E := fun w21 : (Int × Int) => [Sl.sc is0, Sl.st, I x2, I w3, I w4, I w11, I w13, I w16, I w21, I x20, U, U, U, U, U, U, U, U]) 8 nd_law rfl lf_law_total (.inl rfl) (RE.call2 c__law_plus hr (Nat.le_of_ble_eq_true rfl) rfl (RA.im (RE.var 8 rfl rfl vf_law_total k_total) (RA.im (RE.var 9 rfl rfl vf_law_one k_one) RA.nil)) k__law_plus) (fun _ => rfl)) fun w21 =>
  (BN.nil w21 (.r (.r (.r (.r (.r (.r (.r (.r (.r (.u (.r (.r (.r (.r (.r (.r (.r (.r .n))))))))))))))))))))) (fun _ => rfl)))) fun w22 =>
  (WB.cons (WS.ite (E := fun w23 : Unit => [Sl.sc is0, Sl.st, I x2, I w3, I w4, I w11, I w13, I w16, I w22, U, U, U, U, U, U, U, U, U]) (NT.of (RW.t (RW.or (RT.cmp (c_ne hr (by decide)) (RE.bor (RE.var 8 rfl rfl vf_law_total k_total)) (RE.bor (RE.tup2 (RA.im (RE.ix x_tu (RE.bor (RE.var 6 rfl rfl vf_law_costs k_costs)) (RE.bor (RE.b1 (b_sumT rfl) rfl z_sum bb_sum (RE.bor (RE.var 4 rfl rfl vf_law_asks k_asks)) rfl kb_sum)) (fun _ _ => rfl)) (RA.im RE.int RA.nil)))) (nm_ne _)) (RT.or1 (RT.not (RT.tru t_bool (RE.bor (RE.call2 (c__law_exact.exact (by decide) (by decide)) hr (Nat.le_of_ble_eq_true rfl) rfl (RA.im (RE.cmp (c_eq hr (by decide)) (RE.bor (RE.var 5 rfl rfl vf_law_steps k_steps)) (RE.bor (RF.re (RF.b1 (b_sortD hr (by decide)) rfl z_sorted bb_sorted (RE.bor (RE.var 5 rfl rfl vf_law_steps k_steps)) rfl kb_sorted))) (nm_eq _)) (RA.im (RE.call1 c_is_bending_up hr (Nat.le_of_ble_eq_true rfl) rfl (RA.im (RE.var 6 rfl rfl vf_law_costs k_costs) RA.nil) k_is_bending_up) RA.nil)) k__law_exact)) (fun _ => rfl))))))) (WB.ret (NE.of RE.bl)) (WB.nil () (.r (.r (.r (.r (.r (.r (.r (.r (.r (.r (.r (.r (.r (.r (.r (.r (.r (.r .n)))))))))))))))))))) fun w23 =>
  (WB.cons (WS.of (NS.set (E := fun w24 : Int => [Sl.sc is0, Sl.st, I x2, I w3, I w4, I w11, I w13, I w16, I w22, U, I w24, U, U, U, U, U, U, U]) 10 nd_law rfl lf_law_at (.inl rfl) (NE.drw1 (is := is0) 1 0 c__law_draw hr (Nat.le_of_ble_eq_true rfl) rfl rfl rfl vf_law_state k_state rfl rfl vf_law_script k_script (NA.im (NE.of (RE.var 3 rfl rfl vf_law_n k_n)) NA.nil) k__law_draw) (fun _ => rfl))) fun w24 =>
  (WB.cons (WS.of (NS.set (E := fun w25 : (Tu Int) => [Sl.sc is0, Sl.st, I x2, I w3, I w4, I w11, I w13, I w16, I w22, U, I w24, I w25, U, U, U, U, U, U]) 11 nd_law rfl lf_law_more (.inl rfl) (NE.ty1 b_tupL rfl z_tuple bb_tuple (NE.nb (NF.ne (NF.lc (own := [("j", 17)]) (ix := [17]) (tE := (fun y27 : Int => [Sl.sc is0, Sl.st, I x2, I w3, I w4, I w11, I w13, I w16, I w22, U, I w24, U, U, U, U, U, U, I y27])) rfl nd_law (blkOk_by rfl) (by decide) (by decide) (NI.of (RI.range1 rfl z_range (RE.bor (RE.var 3 rfl rfl vf_law_n k_n)))) (fun y27 _ _ _ _ _ => (RG.name 17 nd_law rfl (locB rfl) (.inr rfl) rfl)) (fun _ => .inl ⟨rfl, rfl⟩) (fun y27 _ _ _ _ _ => (NE.ite (RT.cmp c_le (RE.bor (RE.ix x_tu (RE.bor (RE.var 4 rfl rfl (visB rfl) k_asks)) (RE.bor (RE.var 17 rfl rfl (visB rfl) k_j)) (fun _ _ => rfl))) (RE.bor (RE.ix x_tu (RE.bor (RE.var 4 rfl rfl (visB rfl) k_asks)) (RE.bor (RE.var 10 rfl rfl (visB rfl) k_at)) (fun _ _ => rfl))) (nm_le _)) (NE.of (RE.ix x_tu (RE.bor (RE.var 4 rfl rfl (visB rfl) k_asks)) (RE.bor (RE.var 17 rfl rfl (visB rfl) k_j)) (fun _ _ => rfl))) (NE.bin o_add (NE.nb (NE.of (RE.ix x_tu (RE.bor (RE.var 4 rfl rfl (visB rfl) k_asks)) (RE.bor (RE.var 10 rfl rfl (visB rfl) k_at)) (fun _ _ => rfl)))) (NE.nb (NE.drw1 (is := is0) 1 0 c__law_draw hr (Nat.le_of_ble_eq_true rfl) rfl rfl rfl (visB rfl) k_state rfl rfl (visB rfl) k_script (NA.im (NE.of RE.int) NA.nil) k__law_draw))))) (fun _ => rfl)))) rfl kb_tuple) (fun _ => rfl))) fun w25 =>
  (WB.cons (WS.ite (E := fun w28 : Unit => [Sl.sc is0, Sl.st, I x2, I w3, I w4, I w11, I w13, I w16, I w22, U, I w24, I w25, U, U, U, U, U, U]) (NT.of (RT.cmp (c_ne hr (by decide)) (RE.bor (RE.ix x_tu (RE.bor (RE.call2 c_serial_shares hr (Nat.le_of_ble_eq_true rfl) rfl (RA.im (RE.var 6 rfl rfl vf_law_costs k_costs) (RA.im (RE.var 11 rfl rfl vf_law_more k_more) RA.nil)) k_serial_shares)) (RE.bor (RE.var 10 rfl rfl vf_law_at k_at)) (fun _ _ => rfl))) (RE.bor (RE.ix x_tu (RE.bor (RE.var 7 rfl rfl vf_law_shares k_shares)) (RE.bor (RE.var 10 rfl rfl vf_law_at k_at)) (fun _ _ => rfl))) (nm_ne _))) (WB.ret (NE.of RE.bl)) (WB.nil () (.r (.r (.r (.r (.r (.r (.r (.r (.r (.r (.r (.r (.r (.r (.r (.r (.r (.r .n)))))))))))))))))))) fun w28 =>
  (WB.cons (WS.of (NS.of (SN.set (E := fun w29 : (Int × Int) => [Sl.sc is0, Sl.st, I x2, I w3, I w4, I w11, I w13, I w16, I w22, U, I w24, I w25, I w29, U, U, U, U, U]) 12 nd_law rfl lf_law_due (.inl rfl) (RE.call2 c__law_lowest hr (Nat.le_of_ble_eq_true rfl) rfl (RA.im (RE.ix x_tu (RE.bor (RE.var 6 rfl rfl vf_law_costs k_costs)) (RE.bor (RE.bin o_mul (RE.bor (RE.var 3 rfl rfl vf_law_n k_n)) (RE.bor (RE.ix x_tu (RE.bor (RE.var 4 rfl rfl vf_law_asks k_asks)) (RE.bor (RE.var 10 rfl rfl vf_law_at k_at)) (fun _ _ => rfl))))) (fun _ _ => rfl)) (RA.im (RE.var 3 rfl rfl vf_law_n k_n) RA.nil)) k__law_lowest) (fun _ => rfl)))) fun w29 =>
  (WB.cons (WS.ite (E := fun w30 : Unit => [Sl.sc is0, Sl.st, I x2, I w3, I w4, I w11, I w13, I w16, I w22, U, I w24, I w25, I w29, U, U, U, U, U]) (NT.of (RW.t (RW.or (RT.not (RT.tru t_bool (RE.bor (RE.call2 (c__law_exact.exact (by decide) (by decide)) hr (Nat.le_of_ble_eq_true rfl) rfl (RA.im (RE.var 12 rfl rfl vf_law_due k_due) (RA.im (RE.call3 c_alone_cost hr (Nat.le_of_ble_eq_true rfl) rfl (RA.im (RE.var 6 rfl rfl vf_law_costs k_costs) (RA.im (RE.var 4 rfl rfl vf_law_asks k_asks) (RA.im (RE.var 10 rfl rfl vf_law_at k_at) RA.nil))) k_alone_cost) RA.nil)) k__law_exact)) (fun _ => rfl))) (RT.or1 (RW.t (RW.and (RT.cmp (c_eq hr (by decide)) (RE.bor (RE.var 5 rfl rfl vf_law_steps k_steps)) (RE.bor (RF.re (RF.b1 (b_sortD hr (by decide)) rfl z_sorted bb_sorted (RE.bor (RE.var 5 rfl rfl vf_law_steps k_steps)) rfl kb_sorted))) (nm_eq _)) (RT.and1 (RT.tru t_bool (RE.bor (RE.call2 c__law_below hr (Nat.le_of_ble_eq_true rfl) rfl (RA.im (RE.var 12 rfl rfl vf_law_due k_due) (RA.im (RE.ix x_tu (RE.bor (RE.var 7 rfl rfl vf_law_shares k_shares)) (RE.bor (RE.var 10 rfl rfl vf_law_at k_at)) (fun _ _ => rfl)) RA.nil)) k__law_below)) (fun _ => rfl))))))))) (WB.ret (NE.of RE.bl)) (WB.nil () (.r (.r (.r (.r (.r (.r (.r (.r (.r (.r (.r (.r (.r (.r (.r (.r (.r (.r .n)))))))))))))))))))) fun w30 =>
  (WB.cons (WS.of (NS.of (SN.set (E := fun w31 : Int => [Sl.sc is0, Sl.st, I x2, I w3, I w4, I w11, I w13, I w16, I w22, U, I w24, I w25, I w29, I w31, U, U, U, U]) 13 nd_law rfl lf_law_whole (.inl rfl) (RE.b1 (b_sumT rfl) rfl z_sum bb_sum (RE.bor (RE.var 4 rfl rfl vf_law_asks k_asks)) rfl kb_sum) (fun _ => rfl)))) fun w31 =>
  (WB.cons (WS.of (NS.of (SN.set (E := fun w32 : (Tu (Int × Int)) => [Sl.sc is0, Sl.st, I x2, I w3, I w4, I w11, I w13, I w16, I w22, U, I w24, I w25, I w29, I w31, I w32, U, U, U]) 14 nd_law rfl lf_law_means (.inl rfl) (RE.ty1 b_tupL rfl z_tuple bb_tuple (RE.bor (RF.re (RF.lc (own := [("one", 9)]) (ix := [9]) (tE := (fun y34 : Int => [Sl.sc is0, Sl.st, I x2, I w3, I w4, I w11, I w13, I w16, I w22, I y34, I w24, I w25, I w29, I w31, U, U, U, U])) rfl nd_law (blkOk_by rfl) (by decide) (by decide) (RI.tup (RE.var 4 rfl rfl vf_law_asks k_asks)) (fun y34 _ _ _ _ _ => (RG.name 9 nd_law rfl (locB rfl) (.inr rfl) rfl)) (fun _ => .inl ⟨rfl, rfl⟩) (fun y34 _ _ _ _ _ => (RE.ite (RT.cmp c_gt (RE.bor (RE.var 13 rfl rfl (visB rfl) k_whole)) (RE.bor RE.int) (nm_gt _)) (RE.call2 c__law_lowest hr (Nat.le_of_ble_eq_true rfl) rfl (RA.im (RE.bin o_mul (RE.bor (RE.ix x_tu (RE.bor (RE.var 6 rfl rfl (visB rfl) k_costs)) (RE.bor (RE.var 13 rfl rfl (visB rfl) k_whole)) (fun _ _ => rfl))) (RE.bor (RE.var 9 rfl rfl (visB rfl) k_one))) (RA.im (RE.var 13 rfl rfl (visB rfl) k_whole) RA.nil)) k__law_lowest) (RE.tup2 (RA.im RE.int (RA.im RE.int RA.nil))))) (fun _ => rfl)))) rfl kb_tuple) (fun _ => rfl)))) fun w32 =>
  (WB.cons (WS.of (NS.set (E := fun w35 : Int => [Sl.sc is0, Sl.st, I x2, I w3, I w4, I w11, I w13, I w16, I w22, U, I w24, I w25, I w29, I w31, I w32, I w35, U, U]) 15 nd_law rfl lf_law_most (.inl rfl) (NE.drw1 (is := is0) 1 0 c__law_draw hr (Nat.le_of_ble_eq_true rfl) rfl rfl rfl vf_law_state k_state rfl rfl vf_law_script k_script (NA.im (NE.of RE.int) NA.nil) k__law_draw) (fun _ => rfl))) fun w35 =>
  (WB.cons (WS.ite (E := fun w37 : Unit => [Sl.sc is0, Sl.st, I x2, I w3, I w4, I w11, I w13, I w16, I w22, U, I w24, I w25, I w29, I w31, I w32, I w35, U, U]) (NT.of (RT.not (RT.tru t_bool (RE.bor (RE.call2 (c__law_exact.exact (by decide) (by decide)) hr (Nat.le_of_ble_eq_true rfl) rfl (RA.im (RE.h2 (RA.im (RE.var 14 rfl rfl vf_law_means k_means) (RA.im (RE.b1 (b_sumL rfl) rfl z_sum bb_sum (RE.bor (RF.re (RF.lc (own := [("one", 9)]) (ix := [9]) (tE := (fun y36 : Int => [Sl.sc is0, Sl.st, I x2, I w3, I w4, I w11, I w13, I w16, I w22, I y36, I w24, I w25, I w29, I w31, I w32, I w35, U, U])) rfl nd_law (blkOk_by rfl) (by decide) (by decide) (RI.tup (RE.var 4 rfl rfl vf_law_asks k_asks)) (fun y36 _ _ _ _ _ => (RG.name 9 nd_law rfl (locB rfl) (.inr rfl) rfl)) (fun _ => .inl ⟨rfl, rfl⟩) (fun y36 _ _ _ _ _ => (RE.b2 (b_min2 rfl) rfl z_min bb_min (RE.bor (RE.var 9 rfl rfl (visB rfl) k_one)) (RE.bor (RE.var 15 rfl rfl (visB rfl) k_most)) rfl rfl kb_min)) (fun _ => rfl)))) rfl kb_sum) RA.nil))) (RA.im (RE.h2 (RA.im (RE.call2 c_mean_shares hr (Nat.le_of_ble_eq_true rfl) rfl (RA.im (RE.var 6 rfl rfl vf_law_costs k_costs) (RA.im (RE.var 4 rfl rfl vf_law_asks k_asks) RA.nil)) k_mean_shares) (RA.im (RE.call2 c_even_asks hr (Nat.le_of_ble_eq_true rfl) rfl (RA.im (RE.var 4 rfl rfl vf_law_asks k_asks) (RA.im (RE.var 15 rfl rfl vf_law_most k_most) RA.nil)) k_even_asks) RA.nil))) RA.nil)) k__law_exact)) (fun _ => rfl)))) (WB.ret (NE.of RE.bl)) (WB.nil () (.r (.r (.r (.r (.r (.r (.r (.r (.r (.r (.r (.r (.r (.r (.r (.r (.r (.r .n)))))))))))))))))))) fun w37 =>
  (WB.cons (WS.of (NS.of (SN.setF (E := fun w38 : (List Int) => [Sl.sc is0, Sl.st, I x2, I w3, I w4, I w11, I w13, I w16, I w22, U, I w24, I w25, I w29, I w31, I w32, I w35, Ow w38, U]) 16 nd_law rfl lf_law_bent (.inl rfl) (RF.ty1 b_listT rfl z_list bb_list (RE.bor (RE.var 6 rfl rfl vf_law_costs k_costs)) rfl kb_list) (fun _ => rfl)))) fun w38 =>
  (WB.cons (WS.of (NS.setIx (E := fun w39 : (List Int) => [Sl.sc is0, Sl.st, I x2, I w3, I w4, I w11, I w13, I w16, I w22, U, I w24, I w25, I w29, I w31, I w32, I w35, Ow w39, U]) 16 rfl (fun _ => rfl) rfl vf_law_bent k_bent (NE.bin o_sub (NE.nb (NE.drw1 (is := is0) 1 0 c__law_draw hr (Nat.le_of_ble_eq_true rfl) rfl rfl rfl vf_law_state k_state rfl rfl vf_law_script k_script (NA.im (NE.of RE.int) NA.nil) k__law_draw)) (NE.nb (NE.of RE.int))) (NE.nb (NE.drw1 (is := is0) 1 0 c__law_draw hr (Nat.le_of_ble_eq_true rfl) rfl rfl rfl vf_law_state k_state rfl rfl vf_law_script k_script (NA.im (NE.of RE.int) NA.nil) k__law_draw)))) fun w39 =>
  (WB.cons (WS.ite (E := fun w40 : Unit => [Sl.sc is0, Sl.st, I x2, I w3, I w4, I w11, I w13, I w16, I w22, U, I w24, I w25, I w29, I w31, I w32, I w35, Ow w39, U]) (NT.of (RT.not (RT.tru t_bool (RE.bor (RE.call2 (c__law_exact.exact (by decide) (by decide)) hr (Nat.le_of_ble_eq_true rfl) rfl (RA.im (RE.and (RE.bor (RE.cmp c_eqI (RE.bor (RE.ix x_list (RB.varO 16 rfl rfl vf_law_bent k_bent) (RE.bor RE.int) (fun _ _ => rfl))) (RE.bor RE.int) (nm_eq _))) (RE.one (RE.cmp (c_eq hr (by decide)) (RB.varO 16 rfl rfl vf_law_bent k_bent) (RE.bor (RF.re (RF.b1 (b_sortD hr (by decide)) rfl z_sorted bb_sorted (RB.varO 16 rfl rfl vf_law_bent k_bent) rfl kb_sorted))) (nm_eq _)))) (RA.im (RE.call1 c_is_cost_row hr (Nat.le_of_ble_eq_true rfl) rfl (RA.im (RE.ty1 b_tupL rfl z_tuple bb_tuple (RB.varO 16 rfl rfl vf_law_bent k_bent) rfl kb_tuple) RA.nil) k_is_cost_row) RA.nil)) k__law_exact)) (fun _ => rfl)))) (WB.ret (NE.of RE.bl)) (WB.nil () (.r (.r (.r (.r (.r (.r (.r (.r (.r (.r (.r (.r (.r (.r (.r (.r (.r (.r .n)))))))))))))))))))) fun w40 =>
  (WB.cons (WS.ite (E := fun w41 : Unit => [Sl.sc is0, Sl.st, I x2, I w3, I w4, I w11, I w13, I w16, I w22, U, I w24, I w25, I w29, I w31, I w32, I w35, Ow w39, U]) (NT.not (NT.tru t_bool (NE.nb (NE.drw2 (is := is0) 1 0 c__law_offers hr (Nat.le_of_ble_eq_true rfl) rfl rfl rfl vf_law_state k_state rfl rfl vf_law_script k_script (NA.im (NE.of (RE.var 3 rfl rfl vf_law_n k_n)) (NA.im (NE.of (RE.var 10 rfl rfl vf_law_at k_at)) NA.nil)) k__law_offers)) (fun _ => rfl))) (WB.ret (NE.of RE.bl)) (WB.nil () (.r (.r (.r (.r (.r (.r (.r (.r (.r (.r (.r (.r (.r (.r (.r (.r (.r (.r .n)))))))))))))))))))) fun w41 =>
  (WB.nil () (.r (.r (.u (.u (.u (.u (.u (.u (.u (.r (.u (.u (.u (.u (.u (.u (.u (.r .n))))))))))))))))))))))))))))))))))))))))))) (fun _ => rfl)) fun w42 =>
  (WB.ret (NE.of (RE.and (RE.bor (RE.call1 c_is_bending_up hr (Nat.le_of_ble_eq_true rfl) rfl (RA.im (RE.tu (RL.cons RE.int RL.nil)) RA.nil) k_is_bending_up)) (RE.one (RE.not (RE.bor (RE.call1 c_is_cost_row hr (Nat.le_of_ble_eq_true rfl) rfl (RA.im (RE.tu RL.nil) RA.nil) k_is_cost_row))))))))
  exact (h.run _ _ hW).imp (fun e ⟨_, z, _⟩ => z) (fun d ⟨i, hi, e⟩ => by rw [e, hi]; rfl) (fun _ z => z) (fun _ z => z)
/-! ### the program's and the law's fractions -/
theorem lowest_ok {p q : Int} (h0 : 0 < q) (h1 : q < 1000000000) : Ok (m_lowest p q) (· = fr (rat p q)) := by
  have g := gcd_bd (p := p) h0
  unfold m_lowest
  refine Ok.bind (Ok.eq (x := ((Nat.gcd p.natAbs q.natAbs : Nat) : Int)) (Ok.tt ⟨by simp, decide_eq_true h0⟩ ⟨by simp, rfl⟩) ?_)
  exact ⟨⟨⟨trivial, trivial, ⟨g.1, by show ((Nat.gcd p.natAbs q.natAbs : Nat) : Int) < _; omega⟩⟩, ⟨trivial, trivial, ⟨g.1, by show ((Nat.gcd p.natAbs q.natAbs : Nat) : Int) < _; omega⟩⟩⟩, (fr_rat h0).symm⟩
theorem fr_bd {x : Rat} (h : (x.den : Int) ≤ 30000) (j : Int) : CMul j (fr x).2 := by
  have := den_pos x
  exact cmR (by show _ ≤ (x.den : Int); omega) (by show (x.den : Int) ≤ _; omega)
theorem add_ok {x y : Rat} (hx : (x.den : Int) ≤ 30000) (hy : (y.den : Int) ≤ 30000) : Ok (m_add (fr x) (fr y)) (· = fr (x + y)) := by
  have px : 0 < (fr x).2 := den_pos x
  have py : 0 < (fr y).2 := den_pos y
  have b := bnd (a := (x.den : Int)) (b := (y.den : Int)) (A := 30000) (B := 30000) (Int.le_of_lt px) hx (Int.le_of_lt py) hy
  have L := lowest_ok (p := (fr x).1 * (fr y).2 + (fr y).1 * (fr x).2) (q := (fr x).2 * (fr y).2) (Int.mul_pos px py) (by show (x.den : Int) * (y.den : Int) < _; omega)
  have e : rat ((fr x).1 * (fr y).2 + (fr y).1 * (fr x).2) ((fr x).2 * (fr y).2) = x + y := by
    rw [← rat_add px py, rat_fr, rat_fr]
  rw [e] at L
  exact ⟨⟨⟨⟨trivial, trivial, fr_bd hy _⟩, ⟨trivial, trivial, fr_bd hx _⟩, trivial⟩, ⟨trivial, trivial, fr_bd hy _⟩, L.1⟩, L.2⟩
theorem less_ok {x y : Rat} (hx : (x.den : Int) ≤ 30000) (hy : (y.den : Int) ≤ 30000) : Ok (m_is_less (fr x) (fr y)) (· = decide (x < y)) := by
  refine ⟨⟨⟨trivial, trivial, fr_bd hy _⟩, ⟨trivial, trivial, fr_bd hx _⟩, trivial⟩, ?_⟩
  show decide ((fr x).1 * (fr y).2 < (fr y).1 * (fr x).2) = decide (x < y)
  rw [Bool.eq_iff_iff, decide_eq_true_iff, decide_eq_true_iff]
  exact fr_lt
theorem euclid_whl {f : Int × Int → R (Int × Int)} {c : Int × Int → R Bool} (hc : ∀ s, (c s).p ∧ (c s).v = decide (0 < s.2)) (hf : ∀ s, 0 < s.2 → (f s).p ∧ (f s).v = (s.2, s.1 % s.2)) : ∀ (n : Nat) (a b : Int), 0 ≤ a → 0 ≤ b → b.toNat < n → whileP c f n (a, b) ∧ whileV c f n (a, b) = (((Nat.gcd a.natAbs b.natAbs : Nat) : Int), 0)
  | 0, a, b, _, _, h => by omega
  | n + 1, a, b, ha, hb, h => by
    by_cases hz : b = 0
    · subst hz
      have e : (c (a, 0)).v = false := by rw [(hc (a, 0)).2]; simp
      refine ⟨⟨(hc _).1, fun z => (Bool.false_ne_true (e.symm.trans z)).elim⟩, ?_⟩
      show (if (c (a, 0)).v = true then _ else (a, 0)) = _
      rw [if_neg (by rw [e]; decide)]
      simp
      omega
    · have hp : 0 < b := by omega
      have e : (c (a, b)).v = true := by rw [(hc (a, b)).2]; exact decide_eq_true hp
      have m1 := Int.emod_nonneg a hz
      have m2 := Int.emod_lt_of_pos a hp
      obtain ⟨f1, f2⟩ := hf (a, b) hp
      obtain ⟨i1, i2⟩ := euclid_whl hc hf n b (a % b) hb m1 (by omega)
      refine ⟨⟨(hc _).1, fun _ => ⟨f1, by rw [f2]; exact i1⟩⟩, ?_⟩
      show (if (c (a, b)).v = true then whileV c f n (f (a, b)).v else (a, b)) = _
      rw [if_pos e, f2, i2]
      have e3 : (a % b).natAbs = a.natAbs % b.natAbs := by
        have : ((a % b).natAbs : Int) = ((a.natAbs % b.natAbs : Nat) : Int) := by
          rw [Int.natCast_emod]
          have h1 : ((a.natAbs : Nat) : Int) = a := by omega
          have h2 : ((b.natAbs : Nat) : Int) = b := by omega
          rw [h1, h2]
          omega
        omega
      rw [e3, Nat.gcd_comm b.natAbs, ← Nat.gcd_rec, Nat.gcd_comm]
theorem law_lowest_ok {p q : Int} (h0 : 0 < q) (h1 : q < 1000000000) : Ok (m__law_lowest p q) (· = fr (rat p q)) := by
  have g := gcd_bd (p := p) h0
  unfold m__law_lowest
  have eq : (if q < 0 then -q else q) = q := if_neg (by omega)
  have ep : ((if p < 0 then -p else p).natAbs) = p.natAbs := by split <;> omega
  have ep2 : 0 ≤ (if p < 0 then -p else p) := by split <;> omega
  refine Ok.bind (Ok.eq (x := ((if p < 0 then -p else p), q)) ⟨by simp, by show ((if p < 0 then -p else p), (if q < 0 then -q else q)) = _; rw [eq]⟩ ?_)
  refine Ok.bind (Ok.eq (x := (((Nat.gcd p.natAbs q.natAbs : Nat) : Int), (0 : Int))) ?_ ?_)
  · have := euclid_whl (c := fun s2 : Int × Int => (R.o2 T2 (fun i j : Int => decide (j < i)) (R.pure s2.2) (R.pure (0 : Int)))) (f := fun s2 : Int × Int =>
      (R.bind (R.o2 (fun _ j => 0 < j) (fun i j : Int => i % j) (R.o1 T1 (fun i : Int => i) (R.pure s2.1)) (R.pure s2.2)) fun w3 =>
      (R.bind (R.pure s2.2) fun w4 =>
      (R.bind (R.pure w3) fun w5 =>
      (R.pure ((w4, w5) : (Int × Int))))))) (fun s => ⟨by simp, rfl⟩) (fun s hs => ⟨⟨⟨⟨trivial, trivial⟩, trivial, hs⟩, trivial, trivial, trivial⟩, rfl⟩) (q.toNat + 1) (if p < 0 then -p else p) q ep2 (by omega) (by omega)
    rw [ep] at this
    exact this
  · refine Ok.bind (Ok.eq (x := 1) (Ok.ff ⟨by simp, decide_eq_false (by show ¬ q < 0; omega)⟩ ⟨trivial, rfl⟩) ?_)
    refine ⟨⟨⟨⟨trivial, trivial, cmL (by decide) (by decide)⟩, trivial, ⟨g.1, by show ((Nat.gcd p.natAbs q.natAbs : Nat) : Int) < _; omega⟩⟩, ⟨⟨trivial, trivial, cmL (by decide) (by decide)⟩, trivial, ⟨g.1, by show ((Nat.gcd p.natAbs q.natAbs : Nat) : Int) < _; omega⟩⟩⟩, ?_⟩
    show (1 * p / _, 1 * q / _) = _
    rw [Int.one_mul, Int.one_mul]
    exact (fr_rat h0).symm
theorem plus_ok {x y : Rat} (hx : (x.den : Int) ≤ 30000) (hy : (y.den : Int) ≤ 30000) : Ok (m__law_plus (fr x) (fr y)) (· = fr (x + y)) := by
  have px : 0 < (fr x).2 := den_pos x
  have py : 0 < (fr y).2 := den_pos y
  have b := bnd (a := (x.den : Int)) (b := (y.den : Int)) (A := 30000) (B := 30000) (Int.le_of_lt px) hx (Int.le_of_lt py) hy
  have L := law_lowest_ok (p := (fr x).1 * (fr y).2 + (fr y).1 * (fr x).2) (q := (fr x).2 * (fr y).2) (Int.mul_pos px py) (by show (x.den : Int) * (y.den : Int) < _; omega)
  have e : rat ((fr x).1 * (fr y).2 + (fr y).1 * (fr x).2) ((fr x).2 * (fr y).2) = x + y := by
    rw [← rat_add px py, rat_fr, rat_fr]
  rw [e] at L
  exact ⟨⟨⟨⟨trivial, trivial, fr_bd hy _⟩, ⟨trivial, trivial, fr_bd hx _⟩, trivial⟩, ⟨trivial, trivial, fr_bd hy _⟩, L.1⟩, L.2⟩
theorem below_ok {x y : Rat} (hx : (x.den : Int) ≤ 30000) (hy : (y.den : Int) ≤ 30000) : Ok (m__law_below (fr x) (fr y)) (· = decide (x < y)) := by
  refine ⟨⟨⟨trivial, trivial, fr_bd hy _⟩, ⟨trivial, trivial, fr_bd hx _⟩, trivial⟩, ?_⟩
  show decide ((fr x).1 * (fr y).2 < (fr y).1 * (fr x).2) = decide (x < y)
  rw [Bool.eq_iff_iff, decide_eq_true_iff, decide_eq_true_iff]
  exact fr_lt
theorem minus_ok {x y : Rat} (hx : (x.den : Int) ≤ 30000) (hy : (y.den : Int) ≤ 30000) : Ok (m__law_minus (fr x) (fr y)) (· = fr (x - y)) := by
  have px : 0 < (fr x).2 := den_pos x
  have py : 0 < (fr y).2 := den_pos y
  have b := bnd (a := (x.den : Int)) (b := (y.den : Int)) (A := 30000) (B := 30000) (Int.le_of_lt px) hx (Int.le_of_lt py) hy
  have L := law_lowest_ok (p := (fr x).1 * (fr y).2 - (fr y).1 * (fr x).2) (q := (fr x).2 * (fr y).2) (Int.mul_pos px py) (by show (x.den : Int) * (y.den : Int) < _; omega)
  have e : rat ((fr x).1 * (fr y).2 - (fr y).1 * (fr x).2) ((fr x).2 * (fr y).2) = x - y := by
    have : (fr x).1 * (fr y).2 - (fr y).1 * (fr x).2 = (fr x).1 * (fr y).2 + -(fr y).1 * (fr x).2 := by rw [Int.neg_mul]; omega
    rw [this, ← rat_add px py, ← rat_neg, rat_fr, rat_fr, Rat.sub_eq_add_neg]
  rw [e] at L
  exact ⟨⟨⟨⟨trivial, trivial, fr_bd hy _⟩, ⟨trivial, trivial, fr_bd hx _⟩, trivial⟩, ⟨trivial, trivial, fr_bd hy _⟩, L.1⟩, L.2⟩
/-! ### k87: serial shares -/
def Em (A : List Int) (m : Int) : Int := (A.map fun a => min a m).sum
def fans (A : List Int) (m : Int) : List Int := A.filter fun a => decide (m ≤ a)
def cnt (A : List Int) (m : Int) : Nat := (fans A m).length
def ppl (A : List Int) (m : Int) : List Int := (rng 0 (A.length : Int)).filter fun j => decide (m ≤ nth A j)
def lev (A : List Int) : List Int := sset A
def part (C A : List Int) (l m : Int) : Rat := rat (nth C (Em A m) - nth C (Em A l)) (cnt A m)
def stepv (C A : List Int) (s : Rat × Int) (m : Int) : Rat × Int := (s.1 + part C A s.2 m, m)
def upto (C A : List Int) (L : List Int) : Rat × Int := L.foldl (stepv C A) (0, 0)
def low (A : List Int) (a : Int) (L : List Int) : List Int := L.filter fun m => decide (m ≤ a)
def share (C A : List Int) (a : Int) : Rat := (upto C A (low A a (lev A))).1
structure SV (C A : List Int) : Prop where
  len : C.length = 26
  pos : 0 < A.length
  few : A.length ≤ 4
  a : ∀ x ∈ A, 0 ≤ x ∧ x ≤ 25
  sum : A.sum ≤ 25
theorem Em_bd {C A : List Int} (V : SV C A) {m : Int} (h0 : 0 ≤ m) : 0 ≤ Em A m ∧ Em A m ≤ 25 := by
  constructor
  · exact sum_nonneg _ fun x hx => by
      obtain ⟨a, ha, rfl⟩ := List.mem_map.mp hx
      have := V.a a ha
      omega
  · have := sum_le A (fun a => min a m) (fun a => a) fun a _ => by omega
    have e : (A.map fun a => a) = A := List.map_id A
    rw [e] at this
    have := V.sum
    unfold Em
    omega
theorem Em_ix {C A : List Int} (V : SV C A) {m : Int} (h0 : 0 ≤ m) : ixOk C.length (Em A m) := by
  have := Em_bd V h0
  have := V.len
  unfold ixOk
  omega
theorem even_ok {C A : List Int} (V : SV C A) (m : Int) : Ok (m_even_asks ⟨A⟩ m) (· = Em A m) := by
  have := V.few
  refine ⟨⟨⟨trivial, by show A.length ≤ _; omega, fun x _ => ⟨trivial, fun _ => ⟨trivial, trivial, trivial⟩⟩⟩, trivial⟩, ?_⟩
  show ((A.filter fun _ => true).map fun a => min a m).sum = _
  rw [filter_all]
  rfl
theorem lev_mem {A : List Int} {m : Int} : m ∈ lev A ↔ m ∈ A := sset_mem
theorem cnt_pos {A : List Int} {m : Int} (h : m ∈ A) : 0 < cnt A m := by
  unfold cnt
  exact List.length_pos_iff.mpr (List.ne_nil_of_mem (List.mem_filter.mpr ⟨h, by simp⟩))
theorem cnt_le (A : List Int) (m : Int) : cnt A m ≤ A.length := List.length_filter_le _ _
theorem ppl_len (A : List Int) (m : Int) : (ppl A m).length = cnt A m := by
  unfold ppl cnt fans
  have h : A.filter (fun a => decide (m ≤ a)) = ((rng 0 (A.length : Int)).map fun j => nth A j).filter fun a => decide (m ≤ a) := by rw [map_nth]
  rw [h, List.filter_map, List.length_map]
  rfl
theorem ppl_mem {A : List Int} {m x : Int} : x ∈ ppl A m ↔ ∃ i : Nat, i < A.length ∧ x = i ∧ m ≤ nth A (i : Int) := by
  unfold ppl
  rw [List.mem_filter]
  constructor
  · rintro ⟨h1, h2⟩
    obtain ⟨i, hi, rfl⟩ := mem_rngN.mp h1
    exact ⟨i, hi, rfl, by simpa using h2⟩
  · rintro ⟨i, hi, rfl, h⟩
    exact ⟨mem_rngN.mpr ⟨i, hi, rfl⟩, by simpa using h⟩
theorem dvd12 {k : Nat} (h0 : 0 < k) (h1 : k ≤ 4) : k ∣ 12 := by
  have : k = 1 ∨ k = 2 ∨ k = 3 ∨ k = 4 := by omega
  rcases this with rfl | rfl | rfl | rfl <;> decide
theorem part_ovr {C A : List Int} (V : SV C A) (l : Int) {m : Int} (h : m ∈ A) : Ovr 12 (part C A l m) := by
  have := V.few
  have := cnt_le A m
  exact Ovr.of (by omega) (cnt_pos h) (dvd12 (cnt_pos h) (by omega)) _
theorem upto_snoc (C A L : List Int) (m : Int) : upto C A (L ++ [m]) = stepv C A (upto C A L) m := by
  unfold upto
  rw [List.foldl_append]
  rfl
theorem upto_ovr {C A : List Int} (V : SV C A) (L : List Int) (h : ∀ m ∈ L, m ∈ A) : Ovr 12 (upto C A L).1 := by
  have key : ∀ (L : List Int) (s : Rat × Int), (∀ m ∈ L, m ∈ A) → Ovr 12 s.1 → Ovr 12 (L.foldl (stepv C A) s).1 := by
    intro L
    induction L with
    | nil => exact fun s _ h => h
    | cons m L ih =>
      intro s hm hs
      exact ih _ (fun x hx => hm x (List.mem_cons_of_mem _ hx)) (hs.add (by omega) (part_ovr V _ (hm m List.mem_cons_self)))
  exact key L (0, 0) h ⟨0, (rat_zero (by omega)).symm⟩
theorem upto_last (C A : List Int) : ∀ (L : List Int) (s : Rat × Int), (L.foldl (stepv C A) s).2 = (L.getLast?).getD s.2
  | [], s => rfl
  | m :: L, s => by
    rw [List.foldl_cons, upto_last C A L]
    cases L with
    | nil => rfl
    | cons x L => rw [List.getLast?_cons_cons]; cases h : (x :: L).getLast? with
      | none => simp at h
      | some y => rfl
theorem upto_nn {C A : List Int} (V : SV C A) (L : List Int) (h : ∀ m ∈ L, m ∈ A) : 0 ≤ (upto C A L).2 := by
  unfold upto
  rw [upto_last]
  cases e : L.getLast? with
  | none => exact Int.le_refl 0
  | some m => exact (V.a m (h m (List.mem_of_getLast? e))).1
theorem low_mem {A : List Int} {a m : Int} {L : List Int} : m ∈ low A a L ↔ m ∈ L ∧ m ≤ a := by
  unfold low
  rw [List.mem_filter, decide_eq_true_iff]
/-- one more level -/
theorem low_snoc {A L : List Int} (hL : (L ++ [m]).Pairwise (· < ·)) (a : Int) : low A a (L ++ [m]) = if m ≤ a then L ++ [m] else low A a L := by
  unfold low
  rw [List.filter_append]
  by_cases h : m ≤ a
  · rw [if_pos h]
    have h1 : L.filter (fun x => decide (x ≤ a)) = L := List.filter_eq_self.mpr fun x hx => by
      have := (List.pairwise_append.mp hL).2.2 x hx m (List.mem_singleton.mpr rfl)
      simp; omega
    rw [h1]
    simp [h]
  · rw [if_neg h]
    simp [h]
theorem low_all {A L : List Int} (hL : (L ++ [m]).Pairwise (· < ·)) {a : Int} (h : m ≤ a) : low A a L = L := List.filter_eq_self.mpr fun x hx => by
  have := (List.pairwise_append.mp hL).2.2 x hx m (List.mem_singleton.mpr rfl)
  simp; omega
theorem fold_upd {β : Type} [Inhabited β] {f : List β → Int → R (List β)} (n : Nat) (u : Int → β → β) : ∀ (ps : List Int) (g : Int → β), ps.Nodup → (∀ x ∈ ps, ∃ i : Nat, i < n ∧ x = i) → (∀ (s : List β) x, x ∈ ps → s.length = n → nth s x = g x → Ok (f s x) (· = s.set x.toNat (u x (g x)))) → foldP f ((rng 0 (n : Int)).map g) ps ∧ foldV f ((rng 0 (n : Int)).map g) ps = (rng 0 (n : Int)).map fun j => if j ∈ ps then u j (g j) else g j
  | [], g, _, _, _ => ⟨trivial, by simp [foldV]⟩
  | x :: ps, g, hn, hp, hf => by
    obtain ⟨i, hi, rfl⟩ := hp x List.mem_cons_self
    obtain ⟨hx1, hx2⟩ := List.nodup_cons.mp hn
    have hl : ((rng 0 (n : Int)).map g).length = n := by rw [List.length_map, rng_len]; omega
    have en : ∀ (k : Int → β) (j : Nat), j < n → nth ((rng 0 (n : Int)).map k) (j : Int) = k j := fun k j hj => by
      rw [nth_map _ _ _ (by rw [rng_len]; omega), nth_at _ _ (by rw [rng_len]; omega)]
      unfold rng
      simp
    obtain ⟨p1, v1⟩ := hf ((rng 0 (n : Int)).map g) i List.mem_cons_self hl (en g i hi)
    have e : ((rng 0 (n : Int)).map g).set (i : Int).toNat (u i (g i)) = (rng 0 (n : Int)).map fun j => if j = (i : Int) then u j (g j) else g j := by
      apply list_ext (by simp)
      intro j hj
      have hj : j < n := by simpa [rng_len] using hj
      have e2 : (i : Int).toNat = i := by omega
      rw [e2, nth_set _ _ _ _ (by omega) (by omega), en _ j hj, en _ j hj]
      by_cases c : i = j
      · subst c; simp
      · rw [if_neg c, if_neg (by omega)]
    obtain ⟨p2, v2⟩ := fold_upd n u ps (fun j => if j = (i : Int) then u j (g j) else g j) hx2 (fun y hy => hp y (List.mem_cons_of_mem _ hy)) (fun s y hy hs hg => by
      have hne : y ≠ (i : Int) := fun z => hx1 (z ▸ hy)
      rw [if_neg hne] at hg ⊢
      exact hf s y (List.mem_cons_of_mem _ hy) hs hg)
    rw [← e, ← v1] at p2 v2
    refine ⟨⟨p1, p2⟩, ?_⟩
    show foldV f (f _ _).v ps = _
    rw [v2]
    apply List.map_congr_left
    intro j _
    by_cases c : j = (i : Int)
    · subst c
      simp [hx1]
    · simp [c]
theorem take_snoc {L : List Int} {i : Nat} {m : Int} (h : L[i]? = some m) : L.take (i + 1) = L.take i ++ [m] := by
  rw [List.take_add_one, h]
  rfl
theorem serial_ok {C A : List Int} (V : SV C A) : Ok (m_serial_shares ⟨C⟩ ⟨A⟩) (· = ⟨A.map fun a => fr (share C A a)⟩) := by
  have hn := V.few
  have hn0 := V.pos
  unfold m_serial_shares
  refine Ok.bind (Ok.eq (x := (rng 0 (A.length : Int)).map fun j => fr (upto C A (low A (nth A j) [])).1) ⟨⟨⟨⟨⟨trivial, trivial⟩, trivial⟩, by simp⟩, ⟨trivial, trivial⟩, by show (-1000000 : Int) ≤ (A.length : Int); omega, by show (A.length : Int) ≤ 1000000; omega, by simp⟩, ?_⟩ ?_)
  · show (List.replicate (A.length : Int).toNat [((0 : Int), (1 : Int))]).flatten = (rng 0 (A.length : Int)).map fun j => ((0 : Int), (1 : Int))
    rw [flat_one, List.map_const', rng_len]
    congr 1
  refine Ok.bind ⟨trivial, ?_⟩
  have hasc : (lev A).Pairwise (· < ·) := sset_asc A
  refine Ok.bind (Ok.eq (x := ((rng 0 (A.length : Int)).map fun j => fr (share C A (nth A j)), (upto C A (lev A)).2)) ?_ ⟨⟨trivial, trivial⟩, ?_⟩)
  · refine Ok.fold (fun i s => s = ((rng 0 (A.length : Int)).map fun j => fr (upto C A (low A (nth A j) ((lev A).take i))).1, (upto C A ((lev A).take i)).2)) (lev A) ⟨⟨trivial, by show A.length ≤ 60; omega⟩, rfl⟩ rfl (fun i m s hm hs => ?_) (fun s hs => ?_)
    · subst hs
      have hmem : m ∈ A := lev_mem.mp (List.mem_of_getElem? hm)
      have hm0 := V.a m hmem
      have etk := take_snoc hm
      have hasc2 : ((lev A).take i ++ [m]).Pairwise (· < ·) := by rw [← etk]; exact hasc.sublist (List.take_sublist _ _)
      have hsub : ∀ x ∈ (lev A).take i, x ∈ A := fun x hx => lev_mem.mp (List.mem_of_mem_take hx)
      have hnn := upto_nn V ((lev A).take i) hsub
      refine Ok.bind (Ok.eq (x := ppl A m) ⟨⟨trivial, by show (enum A).length ≤ _; rw [enum_eq]; simp [rng_len]; omega, fun x hx => ⟨⟨trivial, trivial, trivial⟩, fun _ => trivial⟩⟩, ?_⟩ ?_)
      · show ((enum A).filter fun y => decide (m ≤ y.2)).map (fun y => y.1) = _
        rw [enum_eq, List.filter_map, List.map_map]
        exact List.map_id _
      have E1 := even_ok V m
      have E2 := even_ok V (upto C A ((lev A).take i)).2
      refine Ok.bind (Ok.eq (x := nth C (Em A m) - nth C (Em A (upto C A ((lev A).take i)).2)) ⟨⟨⟨trivial, ⟨trivial, trivial, E1.1⟩, ?_⟩, ⟨trivial, ⟨trivial, trivial, E2.1⟩, ?_⟩, trivial⟩, ?_⟩ ?_)
      · show ixOk C.length (m_even_asks ⟨A⟩ m).v
        rw [E1.2]; exact Em_ix V hm0.1
      · show ixOk C.length (m_even_asks ⟨A⟩ (upto C A ((lev A).take i)).2).v
        rw [E2.2]; exact Em_ix V hnn
      · show nth C (m_even_asks ⟨A⟩ m).v - nth C (m_even_asks ⟨A⟩ (upto C A ((lev A).take i)).2).v = _
        rw [E1.2, E2.2]
      have hc := cnt_pos hmem
      have hc2 := cnt_le A m
      have hst : rat (nth C (Em A m) - nth C (Em A (upto C A ((lev A).take i)).2)) ((ppl A m).length : Int) = part C A (upto C A ((lev A).take i)).2 m := by rw [ppl_len]; rfl
      have hpo := part_ovr (C := C) V (upto C A ((lev A).take i)).2 hmem
      have key := fold_upd (β := Int × Int) (f := fun (s9 : List (Int × Int)) (x10 : Int) => (R.bind (R.setIx s9 (R.c2 m_add (R.o2 (fun (xs : (List (Int × Int))) i => ixOk xs.length i) nth (R.pure s9) (R.pure x10)) (R.c2 m_lowest (R.pure (nth C (Em A m) - nth C (Em A (upto C A ((lev A).take i)).2))) (R.o1 T1 (fun xs : (List Int) => (xs.length : Int)) (R.pure (ppl A m))))) (R.pure x10)) fun w11 => (R.pure (w11 : (List (Int × Int)))))) A.length (fun j z => fr (upto C A (low A (nth A j) ((lev A).take i ++ [m]))).1) (ppl A m) (fun j => fr (upto C A (low A (nth A j) ((lev A).take i))).1) ((rng_nodup _ _).filter _) (fun x hx => by
        obtain ⟨k, hk, e, _⟩ := ppl_mem.mp hx
        exact ⟨k, hk, e⟩) (fun s x hx hl hg => by
        obtain ⟨k, hk, rfl, hmk⟩ := ppl_mem.mp hx
        have L1 := lowest_ok (p := nth C (Em A m) - nth C (Em A (upto C A ((lev A).take i)).2)) (q := ((ppl A m).length : Int)) (by rw [ppl_len]; omega) (by rw [ppl_len]; omega)
        rw [hst] at L1
        have hlo := low_all (A := A) hasc2 hmk
        have ov := upto_ovr (C := C) V ((lev A).take i) hsub
        have d1 := ov.den (by omega)
        have d2 := hpo.den (by omega)
        have A1 := add_ok (x := (upto C A ((lev A).take i)).1) (y := part C A (upto C A ((lev A).take i)).2 m) (by omega) (by omega)
        have e1 : (upto C A (low A (nth A (k : Int)) ((lev A).take i ++ [m]))).1 = (upto C A ((lev A).take i)).1 + part C A (upto C A ((lev A).take i)).2 m := by
          rw [low_snoc hasc2, if_pos hmk, upto_snoc]
          rfl
        rw [hlo] at hg
        have hixs : ixOk s.length (k : Int) := by unfold ixOk; omega
        refine (Ok.bind ⟨⟨⟨⟨trivial, trivial, hixs⟩, ⟨trivial, ⟨trivial, trivial⟩, L1.1⟩, ?_⟩, trivial, by show (0 : Int) ≤ k; omega, by show (k : Int) < s.length; omega⟩, ⟨trivial, ?_⟩⟩ : Ok (R.bind (R.setIx s (R.c2 m_add (R.o2 (fun (xs : (List (Int × Int))) i => ixOk xs.length i) nth (R.pure s) (R.pure (k : Int))) (R.c2 m_lowest (R.pure (nth C (Em A m) - nth C (Em A (upto C A ((lev A).take i)).2))) (R.o1 T1 (fun xs : (List Int) => (xs.length : Int)) (R.pure (ppl A m))))) (R.pure (k : Int))) fun w11 => (R.pure (w11 : (List (Int × Int))))) _)
        · show (m_add (nth s (k : Int)) (m_lowest (nth C (Em A m) - nth C (Em A (upto C A ((lev A).take i)).2)) ((ppl A m).length : Int)).v).p
          rw [hg, L1.2]
          exact A1.1
        · show s.set (k : Int).toNat (m_add (nth s (k : Int)) (m_lowest (nth C (Em A m) - nth C (Em A (upto C A ((lev A).take i)).2)) ((ppl A m).length : Int)).v).v = s.set (k : Int).toNat (fr (upto C A (low A (nth A (k : Int)) ((lev A).take i ++ [m]))).1)
          rw [hg, L1.2, A1.2, e1])
      have kv := key.2.trans (b := _) (c := (rng 0 (A.length : Int)).map fun j => fr (upto C A (low A (nth A j) ((lev A).take i ++ [m]))).1) (by
        apply List.map_congr_left
        intro j hj
        obtain ⟨k, hk, rfl⟩ := mem_rngN.mp hj
        by_cases c : m ≤ nth A (k : Int)
        · rw [if_pos (ppl_mem.mpr ⟨k, hk, rfl, c⟩)]
        · rw [if_neg fun z => by
            obtain ⟨k', _, e, h⟩ := ppl_mem.mp z
            rw [← e] at h
            exact c h, low_snoc hasc2, if_neg c])
      refine Ok.bind (Ok.eq (x := (rng 0 (A.length : Int)).map fun j => fr (upto C A (low A (nth A j) ((lev A).take i ++ [m]))).1) ⟨⟨trivial, key.1⟩, kv⟩ ?_)
      refine Ok.bind ⟨trivial, trivial, ?_⟩
      show (_, m) = (_, (upto C A ((lev A).take (i + 1))).2)
      rw [etk, upto_snoc]
      rfl
    · rw [hs, List.take_length]
      rfl
  · show Tu.mk ((rng 0 (A.length : Int)).map fun j => fr (share C A (nth A j))) = _
    rw [map_rng (fun a => fr (share C A a)) A]
theorem low_lev (A : List Int) (a : Int) : sset (A.filter fun x => decide (x ≤ a)) = low A a (lev A) := by
  refine asc_uniq (sset_asc _) ((sset_asc A).filter _) fun x => ?_
  rw [sset_mem, low_mem, lev_mem, List.mem_filter, decide_eq_true_iff]
theorem law_serial_ok {C A : List Int} (V : SV C A) : Ok (m__law_serial ⟨C⟩ ⟨A⟩) (· = ⟨A.map fun a => fr (share C A a)⟩) := by
  have hn := V.few
  have hn0 := V.pos
  unfold m__law_serial
  refine Ok.bind ⟨by simp, ?_⟩
  refine Ok.bind (Ok.eq (x := A.map fun a => fr (share C A a)) ?_ ⟨⟨trivial, trivial⟩, rfl⟩)
  refine Ok.fold (fun i s => s = (A.take i).map fun a => fr (share C A a)) (rng 0 (A.length : Int)) ⟨by simp; omega, rfl⟩ rfl (fun i x s hx hs => ?_) (fun s hs => ?_)
  · subst hs
    obtain ⟨rfl, hx2⟩ := rng_at hx
    have ei : (0 : Int) + (i : Int) = (i : Int) := by omega
    rw [ei] at hx2 ⊢
    have hi : i < A.length := by omega
    have hxi : ixOk A.length (i : Int) := by unfold ixOk; omega
    refine Ok.bind ⟨⟨⟨trivial, trivial⟩, trivial⟩, ?_⟩
    have hsub : ∀ x ∈ low A (nth A (i : Int)) (lev A), x ∈ A := fun x hx => lev_mem.mp (low_mem.mp hx).1
    refine Ok.bind (Ok.eq (x := (fr (share C A (nth A (i : Int))), (upto C A (low A (nth A (i : Int)) (lev A))).2)) ?_ ?_)
    · have hll : (A.filter fun x => decide (x ≤ nth A (i : Int))).length ≤ A.length := List.length_filter_le _ _
      refine Ok.fold (fun t s => s = (fr (upto C A ((low A (nth A (i : Int)) (lev A)).take t)).1, (upto C A ((low A (nth A (i : Int)) (lev A)).take t)).2)) (low A (nth A (i : Int)) (lev A)) ⟨⟨⟨trivial, by show A.length ≤ _; omega, fun x _ => ⟨⟨trivial, ⟨trivial, trivial, hxi⟩, trivial⟩, fun _ => trivial⟩⟩, ?_⟩, ?_⟩ rfl (fun t m s hm hs => ?_) (fun s hs => ?_)
      · show ((A.filter fun x => decide (x ≤ nth A (i : Int))).map fun y => y).length ≤ 60
        rw [List.length_map]; omega
      · show sset ((A.filter fun x => decide (x ≤ nth A (i : Int))).map fun y => y) = _
        have : ((A.filter fun x => decide (x ≤ nth A (i : Int))).map fun y => y) = A.filter fun x => decide (x ≤ nth A (i : Int)) := List.map_id _
        rw [this, low_lev]
      · subst hs
        generalize hL : low A (nth A (i : Int)) (lev A) = L at *
        have hmem : m ∈ A := hsub m (List.mem_of_getElem? hm)
        have hm0 := V.a m hmem
        have etk := take_snoc hm
        have hs2 : ∀ x ∈ L.take t, x ∈ A := fun x hx => hsub x (List.mem_of_mem_take hx)
        have hnn := upto_nn V (L.take t) hs2
        have ov := (upto_ovr (C := C) V (L.take t) hs2).den (by omega)
        have po := (part_ovr (C := C) V (upto C A (L.take t)).2 hmem).den (by omega)
        have E : ∀ k : Int, Ok (R.o1 T1 (fun xs : List Int => xs.sum) (R.lc (α := Int) (R.map Tu.l (R.pure (Tu.mk A))) (fun _ => R.pure true) (fun y11 => (R.o2 T2 (fun i j : Int => min i j) (R.pure y11) (R.pure k))))) (· = Em A k) := fun k => by
          refine ⟨⟨⟨trivial, by show A.length ≤ _; omega, fun x _ => ⟨trivial, fun _ => ⟨trivial, trivial, trivial⟩⟩⟩, trivial⟩, ?_⟩
          show ((A.filter fun _ => true).map fun a => min a k).sum = _
          rw [filter_all]
          rfl
        refine Ok.bind (Ok.eq (E m) ?_)
        refine Ok.bind (Ok.eq (E (upto C A (L.take t)).2) ?_)
        have hc := cnt_pos hmem
        have hc2 := cnt_le A m
        have L1 := law_lowest_ok (p := nth C (Em A m) - nth C (Em A (upto C A (L.take t)).2)) (q := (cnt A m : Int)) (by omega) (by omega)
        have hcl : (((A.filter fun a => decide (m ≤ a)).map fun y => y).length : Int) = (cnt A m : Int) := by rw [List.length_map]; rfl
        have P1 := plus_ok (x := (upto C A (L.take t)).1) (y := part C A (upto C A (L.take t)).2 m) (by omega) (by omega)
        have L1v : (m__law_lowest (nth C (Em A m) - nth C (Em A (upto C A (L.take t)).2)) (((A.filter fun a => decide (m ≤ a)).map fun y => y).length : Int)).v = fr (part C A (upto C A (L.take t)).2 m) := by rw [hcl]; exact L1.2
        refine Ok.bind (Ok.eq (x := fr ((upto C A (L.take t)).1 + part C A (upto C A (L.take t)).2 m)) ⟨⟨trivial, ⟨⟨⟨trivial, trivial, Em_ix V hm0.1⟩, ⟨trivial, trivial, Em_ix V hnn⟩, trivial⟩, ⟨⟨trivial, by show A.length ≤ _; omega, fun x _ => ⟨⟨trivial, trivial, trivial⟩, fun _ => trivial⟩⟩, trivial⟩, ?_⟩, ?_⟩, ?_⟩ ?_)
        · show (m__law_lowest _ (((A.filter fun a => decide (m ≤ a)).map fun y => y).length : Int)).p
          rw [hcl]; exact L1.1
        · show (m__law_plus (fr (upto C A (L.take t)).1) (m__law_lowest (nth C (Em A m) - nth C (Em A (upto C A (L.take t)).2)) (((A.filter fun a => decide (m ≤ a)).map fun y => y).length : Int)).v).p
          rw [L1v]; exact P1.1
        · show (m__law_plus (fr (upto C A (L.take t)).1) (m__law_lowest (nth C (Em A m) - nth C (Em A (upto C A (L.take t)).2)) (((A.filter fun a => decide (m ≤ a)).map fun y => y).length : Int)).v).v = _
          rw [L1v]; exact P1.2
        · refine Ok.bind ⟨trivial, trivial, ?_⟩
          show (_, m) = _
          rw [etk, upto_snoc]
          rfl
      · rw [hs, List.take_length]
        rfl
    · refine Ok.bind ⟨⟨trivial, by show ((A.take i).map _).length < 100000; rw [List.length_map, List.length_take]; omega⟩, trivial, ?_⟩
      show (A.take i).map (fun a => fr (share C A a)) ++ [fr (share C A (nth A (i : Int)))] = _
      rw [List.take_add_one, List.getElem?_eq_getElem hi, List.map_append, nth_at _ _ hi]
      rfl
  · rw [hs, rng_len]
    have : ((A.length : Int) - 0).toNat = A.length := by omega
    rw [this, List.take_length]
/-! what the shares are -/
def rs : List Rat → Rat
  | [] => 0
  | x :: l => x + rs l
theorem rs_snoc : ∀ (l : List Rat) (x : Rat), rs (l ++ [x]) = rs l + x
  | [], x => by show x + 0 = 0 + x; grind
  | y :: l, x => by show y + rs (l ++ [x]) = y + rs l + x; rw [rs_snoc l x]; grind
theorem rat_sub_self (k : Int) : rat 0 k = 0 := by unfold rat; simp
theorem cnt_part {k : Int} (hk : 0 < k) (x : Int) : (k : Rat) * rat x k = (x : Rat) := by
  rw [← rat_one k, rat_mul (by omega) hk, ← rat_one x, rat_eq (by omega) (by omega)]
  grind
/-- one more level: what all pay more -/
theorem rs_more (m : Int) (p : Rat) (f : Int → Rat) : ∀ A : List Int, rs (A.map fun a => if m ≤ a then f a + p else f a) = rs (A.map f) + (((A.filter fun a => decide (m ≤ a)).length : Int) : Rat) * p
  | [] => by show (0 : Rat) = 0 + ((0 : Int) : Rat) * p; grind
  | a :: A => by
    have ih := rs_more m p f A
    by_cases h : m ≤ a
    · rw [List.map_cons, List.map_cons, if_pos h, List.filter_cons_of_pos (by simpa using h)]
      show f a + p + rs _ = f a + rs _ + _
      rw [ih]
      have e : (((a :: A.filter fun a => decide (m ≤ a)).length : Int) : Rat) = (((A.filter fun a => decide (m ≤ a)).length : Int) : Rat) + 1 := by
        rw [List.length_cons]
        have : (((A.filter fun a => decide (m ≤ a)).length + 1 : Nat) : Int) = ((A.filter fun a => decide (m ≤ a)).length : Int) + 1 := by omega
        rw [this, Rat.intCast_add]
        rfl
      rw [e]
      grind
    · rw [List.map_cons, List.map_cons, if_neg h, List.filter_cons_of_neg (by simpa using h)]
      show f a + rs _ = f a + rs _ + _
      rw [ih]
      grind
theorem Em_zero {C A : List Int} (V : SV C A) : Em A 0 = 0 := by
  unfold Em
  apply sum_zero
  intro x hx
  obtain ⟨a, ha, rfl⟩ := List.mem_map.mp hx
  have := V.a a ha
  omega
theorem total_upto {C A : List Int} (V : SV C A) : ∀ n : Nat, n ≤ (lev A).length → rs (A.map fun a => (upto C A (low A a ((lev A).take n))).1) = ((nth C (Em A (upto C A ((lev A).take n)).2) - nth C 0 : Int) : Rat)
  | 0, _ => by
    show rs (A.map fun a => (0 : Rat)) = ((nth C (Em A 0) - nth C 0 : Int) : Rat)
    rw [Em_zero V, Int.sub_self]
    have : ∀ l : List Int, rs (l.map fun a => (0 : Rat)) = 0 := fun l => by
      induction l with
      | nil => rfl
      | cons x l ih => show (0 : Rat) + rs _ = 0; rw [ih]; grind
    rw [this]
    rfl
  | n + 1, hn => by
    have ih := total_upto V n (by omega)
    have hm : (lev A)[n]? = some (lev A)[n] := List.getElem?_eq_getElem (by omega)
    generalize (lev A)[n] = m at hm
    have etk := take_snoc hm
    have hasc : (lev A).Pairwise (· < ·) := sset_asc A
    have hasc2 : ((lev A).take n ++ [m]).Pairwise (· < ·) := by rw [← etk]; exact hasc.sublist (List.take_sublist _ _)
    have hmem : m ∈ A := lev_mem.mp (List.mem_of_getElem? hm)
    have e1 : (A.map fun a => (upto C A (low A a ((lev A).take n ++ [m]))).1) = A.map fun a => if m ≤ a then (upto C A (low A a ((lev A).take n))).1 + part C A (upto C A ((lev A).take n)).2 m else (upto C A (low A a ((lev A).take n))).1 := by
      apply List.map_congr_left
      intro a _
      rw [low_snoc hasc2]
      by_cases c : m ≤ a
      · rw [if_pos c, if_pos c, upto_snoc, low_all hasc2 c]
        rfl
      · rw [if_neg c, if_neg c]
    rw [etk, e1, rs_more, ih, upto_snoc]
    have hc : 0 < ((A.filter fun a => decide (m ≤ a)).length : Int) := by have := cnt_pos hmem; unfold cnt fans at this; omega
    have e2 : (((A.filter fun a => decide (m ≤ a)).length : Int) : Rat) * part C A (upto C A ((lev A).take n)).2 m = ((nth C (Em A m) - nth C (Em A (upto C A ((lev A).take n)).2) : Int) : Rat) := cnt_part hc _
    rw [e2, ← Rat.intCast_add]
    show _ = ((nth C (Em A m) - nth C 0 : Int) : Rat)
    congr 1
    omega
theorem last_max {L : List Int} (hL : L.Pairwise (· < ·)) (x : Int) (hx : x ∈ L) (hm : ∀ y ∈ L, y ≤ x) : L.getLast? = some x := by
  cases e : L.getLast? with
  | none => rw [List.getLast?_eq_none_iff.mp e] at hx; cases hx
  | some z =>
    have hz : z ∈ L := List.mem_of_getLast? e
    have h1 := hm z hz
    obtain ⟨i, hi, ei⟩ := List.mem_iff_getElem.mp hx
    rw [List.getLast?_eq_getElem?] at e
    obtain ⟨h2, h3⟩ := List.getElem?_eq_some_iff.mp e
    by_cases c : i = L.length - 1
    · subst c; rw [← ei, ← h3]
    · have := List.pairwise_iff_getElem.mp hL i (L.length - 1) hi h2 (by omega)
      rw [ei, h3] at this
      omega
theorem exists_max : ∀ A : List Int, A ≠ [] → ∃ x ∈ A, ∀ y ∈ A, y ≤ x
  | [], h => (h rfl).elim
  | [x], _ => ⟨x, List.mem_cons_self, fun y hy => by rw [List.mem_singleton.mp hy]; exact Int.le_refl _⟩
  | x :: y :: l, _ => by
    obtain ⟨z, hz, h⟩ := exists_max (y :: l) (by simp)
    by_cases c : x ≤ z
    · exact ⟨z, List.mem_cons_of_mem _ hz, fun w hw => by
        rcases List.mem_cons.mp hw with q | q
        · omega
        · exact h w q⟩
    · exact ⟨x, List.mem_cons_self, fun w hw => by
        rcases List.mem_cons.mp hw with q | q
        · omega
        · have := h w q; omega⟩
theorem total_share {C A : List Int} (V : SV C A) (hC : nth C 0 = 0) : rs (A.map (share C A)) = ((nth C A.sum : Int) : Rat) := by
  have h := total_upto V (lev A).length (Nat.le_refl _)
  rw [List.take_length] at h
  obtain ⟨x, hx, hm⟩ := exists_max A (List.length_pos_iff.mp V.pos)
  have hl := last_max (sset_asc A) x (sset_mem.mpr hx) fun y hy => hm y (sset_mem.mp hy)
  have e1 : (upto C A (lev A)).2 = x := by
    unfold upto
    rw [upto_last]
    show ((sset A).getLast?).getD 0 = x
    rw [hl]; rfl
  have e2 : Em A x = A.sum := by
    unfold Em
    have : (A.map fun a => min a x) = A.map fun a => a := List.map_congr_left fun a ha => by have := hm a ha; omega
    rw [this, List.map_id']
  rw [e1, e2, hC, Int.sub_zero] at h
  exact h
/-! greater asks do not matter -/
theorem share_same {C A A' : List Int} (V : SV C A) (b : Int) (hb : b ∈ A) (hl : A'.length = A.length) (h : ∀ i : Nat, i < A.length → (nth A (i : Int) ≤ b → nth A' (i : Int) = nth A (i : Int)) ∧ (b < nth A (i : Int) → b ≤ nth A' (i : Int))) : share C A' b = share C A b := by
  have hE : ∀ m : Int, m ≤ b → Em A' m = Em A m := fun m hm => by
    unfold Em
    rw [map_rng (fun a => min a m) A', map_rng (fun a => min a m) A, hl]
    congr 1
    apply List.map_congr_left
    intro j hj
    obtain ⟨i, hi, rfl⟩ := mem_rngN.mp hj
    have := h i hi
    by_cases c : nth A (i : Int) ≤ b
    · rw [this.1 c]
    · have := this.2 (by omega)
      omega
  have hc : ∀ m : Int, m ≤ b → cnt A' m = cnt A m := fun m hm => by
    rw [← ppl_len, ← ppl_len]
    unfold ppl
    rw [hl]
    congr 1
    apply List.filter_congr
    intro j hj
    obtain ⟨i, hi, rfl⟩ := mem_rngN.mp hj
    have := h i hi
    by_cases c : nth A (i : Int) ≤ b
    · rw [this.1 c]
    · have := this.2 (by omega)
      rw [Bool.eq_iff_iff]
      simp
      omega
  have hL : low A' b (lev A') = low A b (lev A) := by
    refine asc_uniq ((sset_asc A').filter _) ((sset_asc A).filter _) fun x => ?_
    rw [low_mem, low_mem, lev_mem, lev_mem]
    constructor
    · rintro ⟨h1, h2⟩
      obtain ⟨i, hi, rfl⟩ := mem_nth h1
      have := h i (by omega)
      by_cases c : nth A (i : Int) ≤ b
      · rw [this.1 c] at h2 ⊢
        exact ⟨nth_mem A i (by omega), h2⟩
      · have := this.2 (by omega)
        have e : nth A' (i : Int) = b := by omega
        rw [e]
        exact ⟨hb, Int.le_refl _⟩
    · rintro ⟨h1, h2⟩
      obtain ⟨i, hi, rfl⟩ := mem_nth h1
      have := h i hi
      rw [← this.1 h2]
      exact ⟨nth_mem A' i (by omega), by rw [this.1 h2]; exact h2⟩
  unfold share
  rw [hL]
  have key : ∀ (L : List Int) (s : Rat × Int), s.2 ≤ b → (∀ x ∈ L, x ≤ b) → L.foldl (stepv C A') s = L.foldl (stepv C A) s := by
    intro L
    induction L with
    | nil => intros; rfl
    | cons m L ih =>
      intro s hs hx
      have hm := hx m List.mem_cons_self
      have e : stepv C A' s m = stepv C A s m := by
        unfold stepv part
        rw [hE m hm, hE s.2 hs, hc m hm]
      rw [List.foldl_cons, List.foldl_cons, e]
      exact ih _ hm fun x hx' => hx x (List.mem_cons_of_mem _ hx')
  show ((low A b (lev A)).foldl (stepv C A') (0, 0)).1 = _
  rw [key _ (0, 0) (V.a b hb).1 fun x hx => (low_mem.mp hx).2]
  rfl
/-! steps that never fall -/
def CV (C : List Int) : Prop := ∀ i j : Nat, i ≤ j → j < 25 → nth C ((i : Int) + 1) - nth C (i : Int) ≤ nth C ((j : Int) + 1) - nth C (j : Int)
theorem cv_up {C : List Int} (h : CV C) (j : Nat) (hj : j < 25) (a : Nat) : ∀ d : Nat, a + d ≤ j + 1 → nth C ((a + d : Nat) : Int) - nth C (a : Int) ≤ d * (nth C ((j : Int) + 1) - nth C (j : Int))
  | 0, _ => by simp
  | d + 1, hd => by
    have ih := cv_up h j hj a d (by omega)
    have := h (a + d) j (by omega) hj
    have e : ((a + (d + 1) : Nat) : Int) = ((a + d : Nat) : Int) + 1 := by omega
    have e2 : ((d + 1 : Nat) : Int) = (d : Int) + 1 := by omega
    rw [e, e2, Int.add_mul]
    omega
theorem cv_dn {C : List Int} (h : CV C) (j : Nat) (a : Nat) (hj : j ≤ a) : ∀ d : Nat, a + d ≤ 25 → d * (nth C ((j : Int) + 1) - nth C (j : Int)) ≤ nth C ((a + d : Nat) : Int) - nth C (a : Int)
  | 0, _ => by simp
  | d + 1, hd => by
    have ih := cv_dn h j a hj d (by omega)
    have := h j (a + d) (by omega) (by omega)
    have e : ((a + (d + 1) : Nat) : Int) = ((a + d : Nat) : Int) + 1 := by omega
    have e2 : ((d + 1 : Nat) : Int) = (d : Int) + 1 := by omega
    rw [e, e2, Int.add_mul]
    omega
theorem chord1 {C : List Int} (h : CV C) {a b c : Nat} (hab : a ≤ b) (hbc : b ≤ c) (hc : c ≤ 25) : (nth C (b : Int) - nth C (a : Int)) * ((c : Int) - a) ≤ (nth C (c : Int) - nth C (a : Int)) * ((b : Int) - a) := by
  by_cases e : b = c
  · subst e; exact Int.le_refl _
  · have h1 := cv_up h b (by omega) a (b - a) (by omega)
    have h2 := cv_dn h b b (Nat.le_refl _) (c - b) (by omega)
    have e1 : a + (b - a) = b := by omega
    have e2 : b + (c - b) = c := by omega
    rw [e1] at h1
    rw [e2] at h2
    have f1 : ((b - a : Nat) : Int) = (b : Int) - a := by omega
    have f2 : ((c - b : Nat) : Int) = (c : Int) - b := by omega
    rw [f1] at h1
    rw [f2] at h2
    generalize nth C ((b : Int) + 1) - nth C (b : Int) = d at h1 h2
    have g1 := Int.mul_le_mul_of_nonneg_right h1 (show 0 ≤ (c : Int) - b by omega)
    have g2 := Int.mul_le_mul_of_nonneg_right h2 (show 0 ≤ (b : Int) - a by omega)
    have g3 : ((b : Int) - a) * d * ((c : Int) - b) = ((c : Int) - b) * d * ((b : Int) - a) := by ac_rfl
    have g4 : (nth C (b : Int) - nth C (a : Int)) * ((c : Int) - a) = (nth C (b : Int) - nth C (a : Int)) * ((c : Int) - b) + (nth C (b : Int) - nth C (a : Int)) * ((b : Int) - a) := by rw [← Int.mul_add]; congr 1; omega
    have g5 : (nth C (c : Int) - nth C (a : Int)) * ((b : Int) - a) = (nth C (c : Int) - nth C (b : Int)) * ((b : Int) - a) + (nth C (b : Int) - nth C (a : Int)) * ((b : Int) - a) := by rw [← Int.add_mul]; congr 1; omega
    omega
theorem chord2 {C : List Int} (h : CV C) {a b c : Nat} (hab : a ≤ b) (hbc : b ≤ c) (hc : c ≤ 25) : (nth C (c : Int) - nth C (a : Int)) * ((c : Int) - b) ≤ (nth C (c : Int) - nth C (b : Int)) * ((c : Int) - a) := by
  by_cases e : a = b
  · subst e; exact Int.le_refl _
  · have h1 := cv_up h (b - 1) (by omega) a (b - a) (by omega)
    have h2 := cv_dn h (b - 1) b (by omega) (c - b) (by omega)
    have e1 : a + (b - a) = b := by omega
    have e2 : b + (c - b) = c := by omega
    rw [e1] at h1
    rw [e2] at h2
    have f1 : ((b - a : Nat) : Int) = (b : Int) - a := by omega
    have f2 : ((c - b : Nat) : Int) = (c : Int) - b := by omega
    rw [f1] at h1
    rw [f2] at h2
    generalize nth C (((b - 1 : Nat) : Int) + 1) - nth C ((b - 1 : Nat) : Int) = d at h1 h2
    have g1 := Int.mul_le_mul_of_nonneg_right h1 (show 0 ≤ (c : Int) - b by omega)
    have g2 := Int.mul_le_mul_of_nonneg_right h2 (show 0 ≤ (b : Int) - a by omega)
    have g3 : ((b : Int) - a) * d * ((c : Int) - b) = ((c : Int) - b) * d * ((b : Int) - a) := by ac_rfl
    have g4 : (nth C (c : Int) - nth C (a : Int)) * ((c : Int) - b) = (nth C (c : Int) - nth C (b : Int)) * ((c : Int) - b) + (nth C (b : Int) - nth C (a : Int)) * ((c : Int) - b) := by rw [← Int.add_mul]; congr 1; omega
    have g5 : (nth C (c : Int) - nth C (b : Int)) * ((c : Int) - a) = (nth C (c : Int) - nth C (b : Int)) * ((c : Int) - b) + (nth C (c : Int) - nth C (b : Int)) * ((b : Int) - a) := by rw [← Int.mul_add]; congr 1; omega
    omega
theorem sum_ite_len (A : List Int) (q : Int → Bool) (d : Int) : (A.map fun a => if q a = true then d else 0).sum = (A.filter q).length * d := by
  induction A with
  | nil => simp
  | cons a A ih =>
    by_cases c : q a = true
    · rw [List.map_cons, List.sum_cons, if_pos c, ih, List.filter_cons_of_pos c, List.length_cons]
      have : (((A.filter q).length + 1 : Nat) : Int) = ((A.filter q).length : Int) + 1 := by omega
      rw [this, Int.add_mul]
      omega
    · rw [List.map_cons, List.sum_cons, if_neg c, ih, List.filter_cons_of_neg c]
      omega
theorem Em_step {A : List Int} {l m : Int} (hlm : l ≤ m) (h : ∀ a ∈ A, a ≤ l ∨ m ≤ a) : Em A m - Em A l = cnt A m * (m - l) := by
  have h1 : (A.map fun a => min a l + (if decide (m ≤ a) = true then m - l else 0)).sum = Em A m := by
    unfold Em
    congr 1
    apply List.map_congr_left
    intro a ha
    rcases h a ha with c | c
    · by_cases d : m ≤ a
      · rw [if_pos (decide_eq_true d)]; omega
      · rw [if_neg (by simpa using d)]; omega
    · rw [if_pos (decide_eq_true c)]; omega
  rw [sum_add, sum_ite_len] at h1
  unfold cnt fans
  have e : (A.map fun a => min a l).sum = Em A l := rfl
  rw [e] at h1
  omega
theorem Em_le (A : List Int) (m : Int) : Em A m ≤ A.length * m := by
  have := sum_le A (fun a => min a m) (fun _ => m) fun a _ => by omega
  have e : ∀ A : List Int, (A.map fun _ => m).sum = A.length * m := fun A => by
    induction A with
    | nil => simp
    | cons x A ih =>
      rw [List.map_cons, List.sum_cons, ih, List.length_cons]
      have : ((A.length + 1 : Nat) : Int) = (A.length : Int) + 1 := by omega
      rw [this, Int.add_mul]
      omega
  rw [e] at this
  exact this
theorem part_le {C A : List Int} (V : SV C A) (hC : CV C) {l m : Int} (h0 : 0 ≤ l) (hlm : l ≤ m) (hm : m ∈ A) (hb : A.length * m ≤ 25) (h : ∀ a ∈ A, a ≤ l ∨ m ≤ a) : part C A l m ≤ rat (nth C (A.length * m) - nth C (A.length * l)) A.length := by
  have hk := cnt_pos hm
  have hn := V.pos
  have key : (nth C (Em A m) - nth C (Em A l)) * (A.length : Int) ≤ (nth C (A.length * m) - nth C (A.length * l)) * (cnt A m : Int) := by
    by_cases c : l = m
    · subst c; simp
    · have bl := Em_bd V h0
      have bm := Em_bd V (Int.le_trans h0 hlm)
      have st := Em_step hlm h
      have el := Em_le A l
      have em := Em_le A m
      obtain ⟨a, ha⟩ : ∃ a : Nat, Em A l = a := ⟨(Em A l).toNat, by omega⟩
      obtain ⟨b, hb'⟩ : ∃ b : Nat, Em A m = b := ⟨(Em A m).toNat, by omega⟩
      have nl : (A.length : Int) * l ≤ A.length * m := Int.mul_le_mul_of_nonneg_left hlm (by omega)
      obtain ⟨c', hc'⟩ : ∃ c : Nat, (A.length : Int) * m = c := ⟨((A.length : Int) * m).toNat, by omega⟩
      obtain ⟨d, hd⟩ : ∃ d : Nat, (A.length : Int) * l = d := ⟨((A.length : Int) * l).toNat, by omega⟩
      have kpos : 0 ≤ (cnt A m : Int) * (m - l) := Int.mul_nonneg (by omega) (by omega)
      rw [ha, hb'] at st ⊢
      rw [hc', hd]
      have c1 := chord1 hC (a := a) (b := b) (c := c') (by omega) (by omega) (by omega)
      have c2 := chord2 hC (a := a) (b := d) (c := c') (by omega) (by omega) (by omega)
      have er : (c' : Int) - d = A.length * (m - l) := by rw [← hc', ← hd, Int.mul_sub]
      rw [st] at c1
      rw [er] at c2
      have rp : 0 < (A.length : Int) * (m - l) := Int.mul_pos (by omega) (by omega)
      have pp : 0 < (c' : Int) - a := by omega
      generalize nth C (b : Int) - nth C (a : Int) = X at *
      generalize nth C (c' : Int) - nth C (a : Int) = Y at *
      generalize nth C (c' : Int) - nth C (d : Int) = Z at *
      have g1 := Int.mul_le_mul_of_nonneg_right c1 (Int.le_of_lt rp)
      have g2 := Int.mul_le_mul_of_nonneg_right c2 kpos
      have g3 : Y * ((cnt A m : Int) * (m - l)) * ((A.length : Int) * (m - l)) = Y * ((A.length : Int) * (m - l)) * ((cnt A m : Int) * (m - l)) := by ac_rfl
      have g4 : X * (A.length : Int) * (((c' : Int) - a) * (m - l)) ≤ Z * (cnt A m : Int) * (((c' : Int) - a) * (m - l)) := by
        have e1 : X * (A.length : Int) * (((c' : Int) - a) * (m - l)) = X * ((c' : Int) - a) * ((A.length : Int) * (m - l)) := by ac_rfl
        have e2 : Z * (cnt A m : Int) * (((c' : Int) - a) * (m - l)) = Z * ((c' : Int) - a) * ((cnt A m : Int) * (m - l)) := by ac_rfl
        omega
      exact Int.le_of_mul_le_mul_right g4 (Int.mul_pos pp (by omega))
  unfold part
  rw [Rat.le_iff_sub_nonneg, Rat.sub_eq_add_neg, rat_neg, rat_add (by omega) (by omega)]
  refine (rat_nonneg (Int.mul_pos (by omega) (by omega))).mpr ?_
  rw [Int.neg_mul]
  omega
theorem last_take (L : List Int) (t : Nat) (h : t ≤ L.length) (z : Int) (e : (L.take t).getLast? = some z) : 0 < t ∧ L[t - 1]? = some z := by
  rw [List.getLast?_eq_getElem?, List.length_take] at e
  have e1 : min t L.length = t := by omega
  rw [e1, List.getElem?_take] at e
  by_cases c : t = 0
  · subst c; simp at e
  · rw [if_pos (by omega)] at e
    exact ⟨by omega, e⟩
theorem share_le {C A : List Int} (V : SV C A) (hC : CV C) (h0 : nth C 0 = 0) (b : Int) (hb : b ∈ A) (hb2 : A.length * b ≤ 25) : share C A b ≤ rat (nth C (A.length * b)) A.length := by
  have hn := V.pos
  have hasc : (low A b (lev A)).Pairwise (· < ·) := (sset_asc A).filter _
  have key : ∀ t : Nat, t ≤ (low A b (lev A)).length → (upto C A ((low A b (lev A)).take t)).1 ≤ rat (nth C (A.length * (upto C A ((low A b (lev A)).take t)).2)) A.length := by
    intro t
    induction t with
    | zero =>
      intro _
      show (0 : Rat) ≤ rat (nth C (A.length * 0)) A.length
      rw [Int.mul_zero, h0, rat_sub_self]
      exact Rat.le_refl
    | succ t ih =>
      intro ht
      have ih := ih (by omega)
      have hm : (low A b (lev A))[t]? = some (low A b (lev A))[t] := List.getElem?_eq_getElem (by omega)
      generalize hM : (low A b (lev A))[t] = m at hm
      have etk := take_snoc hm
      have hmL : m ∈ low A b (lev A) := List.mem_of_getElem? hm
      have hmA : m ∈ A := lev_mem.mp (low_mem.mp hmL).1
      have hmb : m ≤ b := (low_mem.mp hmL).2
      have hsub : ∀ x ∈ (low A b (lev A)).take t, x ∈ A := fun x hx => lev_mem.mp (low_mem.mp (List.mem_of_mem_take hx)).1
      have hnn := upto_nn (C := C) V ((low A b (lev A)).take t) hsub
      have hm0 := V.a m hmA
      -- the last one ahead of m
      have hlast : ∀ a ∈ A, a ≤ (upto C A ((low A b (lev A)).take t)).2 ∨ m ≤ a := by
        intro a ha
        by_cases c : m ≤ a
        · exact .inr c
        · left
          have haL : a ∈ low A b (lev A) := low_mem.mpr ⟨lev_mem.mpr ha, by omega⟩
          obtain ⟨i, hi, ei⟩ := List.mem_iff_getElem.mp haL
          have hit : i < t := by
            apply Classical.byContradiction
            intro z
            by_cases z2 : i = t
            · subst z2; omega
            · have := List.pairwise_iff_getElem.mp hasc t i (by omega) hi (by omega)
              omega
          have hta : a ∈ (low A b (lev A)).take t := List.mem_take_iff_getElem.mpr ⟨i, by omega, ei⟩
          unfold upto
          rw [upto_last]
          cases e : ((low A b (lev A)).take t).getLast? with
          | none => rw [List.getLast?_eq_none_iff.mp e] at hta; cases hta
          | some z =>
            show a ≤ z
            obtain ⟨ht0, h2⟩ := last_take _ t (by omega) z e
            obtain ⟨h3, h4⟩ := List.getElem?_eq_some_iff.mp h2
            by_cases z2 : i = t - 1
            · subst z2; omega
            · have := List.pairwise_iff_getElem.mp hasc i (t - 1) hi (by omega) (by omega)
              omega
      have hlm : (upto C A ((low A b (lev A)).take t)).2 ≤ m := by
        unfold upto
        rw [upto_last]
        cases e : ((low A b (lev A)).take t).getLast? with
        | none => exact hm0.1
        | some z =>
          show z ≤ m
          obtain ⟨i, hi, ei⟩ := List.mem_take_iff_getElem.mp (List.mem_of_getLast? e)
          have := List.pairwise_iff_getElem.mp hasc i t (by omega) (by omega) (by omega)
          omega
      have hmn : (A.length : Int) * m ≤ 25 := by
        have := Int.mul_le_mul_of_nonneg_left hmb (show (0 : Int) ≤ A.length by omega)
        omega
      have P := part_le V hC hnn hlm hmA hmn hlast
      rw [etk, upto_snoc]
      show (upto C A ((low A b (lev A)).take t)).1 + part C A (upto C A ((low A b (lev A)).take t)).2 m ≤ rat (nth C (A.length * m)) A.length
      have e : rat (nth C (A.length * m)) A.length = rat (nth C (A.length * (upto C A ((low A b (lev A)).take t)).2)) A.length + rat (nth C (A.length * m) - nth C (A.length * (upto C A ((low A b (lev A)).take t)).2)) A.length := by
        rw [rat_add (by omega) (by omega), rat_eq (by omega) (Int.mul_pos (by omega) (by omega))]
        grind
      rw [e]
      grind
  have h := key _ (Nat.le_refl _)
  rw [List.take_length] at h
  have hl := last_max hasc b (low_mem.mpr ⟨lev_mem.mpr hb, Int.le_refl _⟩) fun y hy => (low_mem.mp hy).2
  have e1 : (upto C A (low A b (lev A))).2 = b := by
    unfold upto
    rw [upto_last, hl]
    rfl
  rw [e1] at h
  exact h
/-! ### something for all -/
def AO (o : List Int) (c k : Int) : List Int := (rng 0 (o.length : Int)).filter fun j => decide (c ≤ nth o j * k)
structure OV (o : List Int) (c : Int) : Prop where
  pos : 0 < o.length
  few : o.length ≤ 4
  o : ∀ i : Nat, i < o.length → 0 ≤ nth o (i : Int) ∧ nth o (i : Int) ≤ 20
  c0 : 0 ≤ c
  c1 : c ≤ 100
theorem AO_mem {o : List Int} {c k x : Int} : x ∈ AO o c k ↔ ∃ i : Nat, i < o.length ∧ x = i ∧ c ≤ nth o (i : Int) * k := by
  unfold AO
  rw [List.mem_filter]
  constructor
  · rintro ⟨h1, h2⟩
    obtain ⟨i, hi, rfl⟩ := mem_rngN.mp h1
    exact ⟨i, hi, rfl, by simpa using h2⟩
  · rintro ⟨i, hi, rfl, h⟩
    exact ⟨mem_rngN.mpr ⟨i, hi, rfl⟩, by simpa using h⟩
theorem AO_nodup (o : List Int) (c k : Int) : (AO o c k).Nodup := (rng_nodup _ _).filter _
theorem AO_len (o : List Int) (c k : Int) : (AO o c k).length ≤ o.length := by
  have := List.length_filter_le (fun j => decide (c ≤ nth o j * k)) (rng 0 (o.length : Int))
  rw [rng_len] at this
  unfold AO
  omega
theorem sub_len : ∀ {l k : List Int}, l.Nodup → (∀ x ∈ l, x ∈ k) → l.length ≤ k.length
  | [], _, _, _ => Nat.zero_le _
  | x :: l, k, hl, h => by
    obtain ⟨h1, h2⟩ := List.nodup_cons.mp hl
    have hx := h x List.mem_cons_self
    have ih := sub_len (k := k.erase x) h2 fun y hy => (List.mem_erase_of_ne fun z => h1 (by rw [← z]; exact hy)).mpr (h y (List.mem_cons_of_mem _ hy))
    rw [List.length_erase_of_mem hx] at ih
    have : 0 < k.length := List.length_pos_iff.mpr (List.ne_nil_of_mem hx)
    simp
    omega
theorem sub_all {l k : List Int} (hl : l.Nodup) (h : ∀ x ∈ l, x ∈ k) (hk : k.length ≤ l.length) : ∀ x ∈ k, x ∈ l := fun x hx => by
  apply Classical.byContradiction
  intro hn
  have := sub_len (l := x :: l) (k := k) (List.nodup_cons.mpr ⟨hn, hl⟩) fun y hy => by
    rcases List.mem_cons.mp hy with z | z
    · rw [z]; exact hx
    · exact h y z
  simp at this
  omega
theorem AO_mono {o : List Int} {c : Int} (V : OV o c) {k q : Int} (h : k ≤ q) : ∀ x ∈ AO o c k, x ∈ AO o c q := fun x hx => by
  obtain ⟨i, hi, rfl, hc⟩ := AO_mem.mp hx
  have := Int.mul_le_mul_of_nonneg_left h (V.o i hi).1
  exact AO_mem.mpr ⟨i, hi, rfl, by omega⟩
def top (o : List Int) (c : Int) : Nat → List Int
  | 0 => []
  | i + 1 => if top o c i = [] ∧ (o.length : Int) - i ≤ (AO o c ((o.length : Int) - i)).length then AO o c ((o.length : Int) - i) else top o c i
def payP (o : List Int) (c : Int) : List Int := top o c o.length
theorem top_fact (o : List Int) (c : Int) : ∀ i : Nat, i ≤ o.length → (top o c i ≠ [] → ∃ k : Int, 0 < k ∧ (o.length : Int) - i < k ∧ k ≤ o.length ∧ top o c i = AO o c k ∧ k ≤ (AO o c k).length ∧ ∀ q : Int, k < q → q ≤ o.length → ¬ q ≤ (AO o c q).length) ∧ (top o c i = [] → ∀ q : Int, (o.length : Int) - i < q → q ≤ o.length → ¬ q ≤ (AO o c q).length)
  | 0, _ => ⟨fun h => (h rfl).elim, fun _ q h1 h2 => by omega⟩
  | i + 1, hi => by
    obtain ⟨h1, h2⟩ := top_fact o c i (by omega)
    unfold top
    by_cases e : top o c i = []
    · by_cases d : (o.length : Int) - i ≤ (AO o c ((o.length : Int) - i)).length
      · rw [if_pos ⟨e, d⟩]
        refine ⟨fun _ => ⟨(o.length : Int) - i, by omega, by omega, by omega, rfl, d, fun q hq hq2 => h2 e q hq hq2⟩, fun z => ?_⟩
        rw [z] at d
        simp at d
        omega
      · rw [if_neg fun z => d z.2]
        refine ⟨fun z => (z e).elim, fun _ q hq hq2 => ?_⟩
        by_cases f : q = (o.length : Int) - i
        · subst f; exact d
        · exact h2 e q (by omega) hq2
    · rw [if_neg fun z => e z.1]
      refine ⟨fun _ => ?_, fun z => (e z).elim⟩
      obtain ⟨k, a, b, c', d⟩ := h1 e
      exact ⟨k, a, by omega, c', d⟩
theorem payP_max {o : List Int} {c : Int} (V : OV o c) (q : Int) (h1 : 1 ≤ q) (h2 : q ≤ o.length) (h3 : q ≤ (AO o c q).length) : q ≤ (payP o c).length := by
  obtain ⟨f1, f2⟩ := top_fact o c o.length (Nat.le_refl _)
  by_cases e : payP o c = []
  · exact (f2 e q (by omega) h2 h3).elim
  · obtain ⟨k, k0, _, k1, k2, k3, k4⟩ := f1 e
    have : q ≤ k := by
      apply Classical.byContradiction
      intro z
      exact k4 q (by omega) h2 h3
    have e2 : payP o c = AO o c k := k2
    rw [e2]
    omega
theorem payP_self {o : List Int} {c : Int} (V : OV o c) (e : payP o c ≠ []) : payP o c = AO o c (payP o c).length := by
  obtain ⟨f1, f2⟩ := top_fact o c o.length (Nat.le_refl _)
  obtain ⟨k, k0, _, k1, k2, k3, k4⟩ := f1 e
  have e2 : payP o c = AO o c k := k2
  have hk : ((AO o c k).length : Int) = k := by
    apply Classical.byContradiction
    intro z
    have h1 : k < ((AO o c k).length : Int) := by omega
    have h2 := sub_len (AO_nodup o c k) (AO_mono V (q := ((AO o c k).length : Int)) (by omega))
    have h3 := AO_len o c k
    exact k4 _ h1 (by omega) (by omega)
  rw [e2, hk]
def payR (o : List Int) (c : Int) : Rat := if payP o c = [] then 0 else rat c (payP o c).length
theorem payP_len {o : List Int} {c : Int} (V : OV o c) : (payP o c).length ≤ o.length := by
  by_cases e : payP o c = []
  · rw [e]; simp
  · rw [payP_self V e]
    exact AO_len _ _ _
theorem payR_ovr {o : List Int} {c : Int} (V : OV o c) : Ovr 12 (payR o c) := by
  unfold payR
  have := payP_len V
  have := V.few
  split
  · exact Ovr.zero 12
  · next h =>
    have hl : 0 < (payP o c).length := List.length_pos_iff.mpr h
    exact Ovr.of (by omega) hl (dvd12 hl (by omega)) _
theorem stay_eq {o : List Int} {c : Int} (V : OV o c) {L : List Int} (hL : L = (rng 0 (o.length : Int)).filter fun j => decide (j ∈ L)) (hA : ∀ x ∈ AO o c L.length, x ∈ L) : L.filter (fun j => decide (c ≤ nth o j * (L.length : Int))) = AO o c L.length := by
  have h1 : L.filter (fun j => decide (c ≤ nth o j * (L.length : Int))) = ((rng 0 (o.length : Int)).filter fun j => decide (j ∈ L)).filter (fun j => decide (c ≤ nth o j * (L.length : Int))) := by rw [← hL]
  rw [h1, List.filter_filter]
  unfold AO
  apply List.filter_congr
  intro x hx
  rw [Bool.eq_iff_iff]
  simp
  intro hc
  obtain ⟨i, hi, rfl⟩ := mem_rngN.mp hx
  exact hA _ (AO_mem.mpr ⟨i, hi, rfl, hc⟩)
theorem payers_ok {o : List Int} {c : Int} (V : OV o c) : Ok (m_payers c o) (· = (payP o c, fr (payR o c))) := by
  have hn := V.few
  have hn0 := V.pos
  have c0 := V.c0
  have c1 := V.c1
  unfold m_payers
  refine Ok.bind ⟨⟨⟨⟨trivial, trivial⟩, by show (-1000000 : Int) ≤ (o.length : Int); omega⟩, by show (o.length : Int) ≤ 1000000; omega⟩, ?_⟩
  refine Ok.flR (Ok.imp (Ok.wlg (fun L : List Int => L = (rng 0 (o.length : Int)).filter (fun j => decide (j ∈ L)) ∧ (∀ x ∈ AO o c L.length, x ∈ L) ∧ (payP o c).length ≤ L.length) List.length (fun z => z = (payP o c, fr (payR o c))) (fun _ => False) ⟨?_, ?_, ?_⟩ ?_ (fun L _ => by simp) (fun L hL hv => ?_)) fun z hz => ?_)
  · exact (List.filter_eq_self.mpr fun x hx => by simpa using hx).symm
  · intro x hx
    obtain ⟨i, hi, rfl, _⟩ := AO_mem.mp hx
    exact mem_rngN.mpr ⟨i, hi, rfl⟩
  · show _ ≤ (rng 0 (o.length : Int)).length
    rw [rng_len]
    have := payP_len V
    omega
  · show (rng 0 (o.length : Int)).length < o.length + 1
    rw [rng_len]
    omega
  · obtain ⟨h1, h2, h3⟩ := hL
    have hv : (!L.isEmpty) = true := hv
    have hne : L ≠ [] := by
      intro z
      rw [z] at hv
      cases hv
    have hLl : 0 < L.length := List.length_pos_iff.mpr hne
    have hLn : L.length ≤ o.length := by
      have := List.length_filter_le (fun j => decide (j ∈ L)) (rng 0 (o.length : Int))
      rw [← h1, rng_len] at this
      omega
    have hmem : ∀ x ∈ L, ∃ i : Nat, i < o.length ∧ x = i := fun x hx => by
      rw [h1] at hx
      exact mem_rngN.mp (List.mem_filter.mp hx).1
    have L1 := lowest_ok (p := c) (q := (L.length : Int)) (by omega) (by omega)
    have dn := (Ovr.of (n := 12) (by omega) hLl (dvd12 hLl (by omega)) c).den (by omega)
    refine Ok.bind (Ok.eq (x := fr (rat c L.length)) ⟨⟨trivial, ⟨trivial, trivial⟩, L1.1⟩, L1.2⟩ ?_)
    have LL : ∀ x ∈ L, Ok (m_is_less (nth o x, 1) (fr (rat c L.length))) (· = !decide (c ≤ nth o x * (L.length : Int))) := fun x hx => by
      have := less_ok (x := ((nth o x : Int) : Rat)) (y := rat c L.length) (by show (1 : Int) ≤ _; omega) (by omega)
      refine ⟨this.1, this.2.trans ?_⟩
      rw [Bool.eq_iff_iff, decide_eq_true_iff, ← rat_one, rat_lt (by omega) (by omega)]
      simp
    refine Ok.bind (Ok.eq (x := AO o c L.length) ⟨⟨trivial, by show L.length ≤ _; omega, fun x hx => ⟨⟨⟨⟨⟨trivial, trivial, ?_⟩, trivial⟩, trivial, (LL x hx).1⟩, trivial⟩, fun _ => trivial⟩⟩, ?_⟩ ?_)
    · obtain ⟨i, hi, rfl⟩ := hmem x hx
      show ixOk o.length (i : Int)
      unfold ixOk; omega
    · show (L.filter fun y => !(m_is_less (nth o y, 1) (fr (rat c L.length))).v).map (fun y => y) = _
      have : ∀ l : List Int, l.map (fun y => y) = l := List.map_id
      rw [this, ← stay_eq V h1 h2]
      apply List.filter_congr
      intro x hx
      rw [(LL x hx).2, Bool.not_not]
    · have hsub := h2
      have hle := sub_len (AO_nodup o c L.length) h2
      by_cases e : (AO o c L.length).length = L.length
      · refine Ok.tt ⟨by simp, by show decide (((AO o c L.length).length : Int) = (L.length : Int)) = true; simp [e]⟩ ?_
        refine Ok.fl_rt (b := (L, fr (rat c L.length))) ⟨⟨trivial, trivial⟩, rfl⟩ ?_
        show (L, fr (rat c L.length)) = _
        have hLnd : L.Nodup := by rw [h1]; exact (rng_nodup _ _).filter _
        have hall : ∀ x ∈ L, x ∈ AO o c L.length := sub_all (AO_nodup o c L.length) h2 (by omega)
        have eA : AO o c L.length = L := by
          refine asc_uniq ((rng_asc _ _).filter _) (by rw [h1]; exact (rng_asc _ _).filter _) fun x => ⟨h2 x, hall x⟩
        have hm := payP_max V (L.length : Int) (by omega) (by omega) (by rw [e]; exact Int.le_refl _)
        have hlen : (payP o c).length = L.length := by omega
        have hpn : payP o c ≠ [] := by
          intro z
          rw [z] at hlen
          simp at hlen
          omega
        have e3 : payP o c = L := by rw [payP_self V hpn, hlen, eA]
        unfold payR
        rw [if_neg hpn, e3]
      · refine Ok.ff ⟨by simp, by show decide (((AO o c L.length).length : Int) = (L.length : Int)) = false; simp; omega⟩ ?_
        refine Ok.bind (Ok.pure (Ok.pure ?_))
        refine ⟨⟨?_, ?_, ?_⟩, ?_⟩
        · have hx : ∀ x ∈ rng 0 (o.length : Int), decide (c ≤ nth o x * (L.length : Int)) = decide (x ∈ AO o c L.length) := fun x hx => by
            obtain ⟨i, hi, rfl⟩ := mem_rngN.mp hx
            rw [Bool.eq_iff_iff, decide_eq_true_iff, decide_eq_true_iff]
            constructor
            · intro h; exact AO_mem.mpr ⟨i, hi, rfl, h⟩
            · intro h
              obtain ⟨j, hj, e, h⟩ := AO_mem.mp h
              rw [e]; exact h
          exact List.filter_congr hx
        · exact AO_mono V (by omega)
        · by_cases z : payP o c = []
          · rw [z]; simp
          · have : ∀ x ∈ payP o c, x ∈ AO o c L.length := fun x hx => by
              rw [payP_self V z] at hx
              exact AO_mono V (by omega) x hx
            have hnd : (payP o c).Nodup := by rw [payP_self V z]; exact AO_nodup _ _ _
            exact sub_len hnd this
        · show (AO o c L.length).length < L.length
          omega
  · refine FlP.imp hz (fun L hL => ?_) (fun _ h => h) (fun _ h => h)
    rcases hL with ⟨⟨h1, h2, h3⟩, hv⟩ | h
    · have hv : (!L.isEmpty) = false := hv
      have hLe : L = [] := by
        cases L with
        | nil => rfl
        | cons => cases hv
      subst hLe
      have hp : payP o c = [] := List.length_eq_zero_iff.mp (by simpa using h3)
      refine ⟨by simp, ?_⟩
      show (([] : List Int), ((0 : Int), (1 : Int))) = _
      unfold payR
      rw [hp, if_pos rfl]
      rfl
    · exact h.elim
def gain (o w : List Int) (c at_ : Int) : Rat := if at_ ∈ payP o c then ((nth w at_ : Int) : Rat) - payR o c else 0
theorem int_den (k : Int) : (((k : Int) : Rat).den : Int) ≤ 30000 := by show (1 : Int) ≤ _; omega
theorem gain_ovr {o : List Int} {c : Int} (V : OV o c) (w : List Int) (a : Int) : Ovr 12 (gain o w c a) := by
  unfold gain
  split
  · exact (Ovr.int (by omega) _).sub (by omega) (payR_ovr V)
  · exact Ovr.zero 12
theorem gain_ok {o w : List Int} {c : Int} (V : OV o c) (hl : w.length = o.length) (a : Nat) (ha : a < o.length) : Ok (m_gain_from c w o a) (· = fr (gain o w c a)) := by
  have P := payers_ok V
  have dn := (payR_ovr V).den (by omega)
  have ia : ixOk w.length (a : Int) := by unfold ixOk; omega
  unfold m_gain_from
  refine Ok.bind (Ok.eq (x := (payP o c, fr (payR o c))) ⟨⟨trivial, trivial, P.1⟩, P.2⟩ ?_)
  refine Ok.ite ⟨⟨trivial, trivial, trivial⟩, ?_⟩
  show if decide ((a : Int) ∈ payP o c) = true then _ else _
  have A1 := add_ok (x := ((nth w (a : Int) : Int) : Rat)) (y := -payR o c) (int_den _) (by rw [Rat.neg_den]; omega)
  by_cases h : (a : Int) ∈ payP o c
  · rw [if_pos (decide_eq_true h)]
    have e : ((-(fr (payR o c)).1, (fr (payR o c)).2) : Int × Int) = fr (-payR o c) := fr_neg _
    refine ⟨⟨⟨⟨trivial, trivial, ia⟩, trivial⟩, ⟨⟨trivial, trivial⟩, trivial⟩, ?_⟩, ?_⟩
    · show (m_add (fr ((nth w (a : Int) : Int) : Rat)) (-(fr (payR o c)).1, (fr (payR o c)).2)).p
      rw [e]; exact A1.1
    · show (m_add (fr ((nth w (a : Int) : Int) : Rat)) (-(fr (payR o c)).1, (fr (payR o c)).2)).v = _
      rw [e, A1.2]
      unfold gain
      rw [if_pos h, Rat.sub_eq_add_neg]
  · rw [if_neg (by simpa using h)]
    refine ⟨⟨trivial, trivial⟩, ?_⟩
    unfold gain
    rw [if_neg h]
    rfl
theorem rat_mono {c : Int} (h0 : 0 ≤ c) {k q : Int} (hk : 0 < k) (hq : k ≤ q) : rat c q ≤ rat c k := by
  rw [rat_le (by omega) hk]
  exact Int.mul_le_mul_of_nonneg_left hq h0
theorem honest_nn {w : List Int} {c : Int} (V : OV w c) (a : Nat) : 0 ≤ gain w w c a := by
  unfold gain
  by_cases h : (a : Int) ∈ payP w c
  · rw [if_pos h]
    have hne : payP w c ≠ [] := List.ne_nil_of_mem h
    have h2 := h
    rw [payP_self V hne] at h2
    obtain ⟨i, hi, e, hc⟩ := AO_mem.mp h2
    unfold payR
    rw [if_neg hne]
    have hl : 0 < (payP w c).length := List.length_pos_iff.mpr hne
    have : rat c (payP w c).length ≤ ((nth w (a : Int) : Int) : Rat) := by
      rw [← rat_one, rat_le (by omega) (by omega), e]
      omega
    grind
  · rw [if_neg h]; exact Rat.le_refl
theorem honest_best {w : List Int} {c : Int} (V : OV w c) (a : Nat) (ha : a < w.length) (x : Int) (V' : OV (w.set a x) c) : gain (w.set a x) w c a ≤ gain w w c a := by
  have nn := honest_nn V a
  have hl : (w.set a x).length = w.length := by simp
  by_cases h : (a : Int) ∈ payP (w.set a x) c
  · have hne : payP (w.set a x) c ≠ [] := List.ne_nil_of_mem h
    have hk : 0 < (payP (w.set a x) c).length := List.length_pos_iff.mpr hne
    have hkl := payP_len V'
    have e0 : gain (w.set a x) w c a = ((nth w (a : Int) : Int) : Rat) - rat c (payP (w.set a x) c).length := by
      unfold gain payR
      rw [if_pos h, if_neg hne]
    generalize hK : (payP (w.set a x) c).length = K at *
    by_cases c1 : nth w (a : Int) * (K : Int) < c
    · have : ((nth w (a : Int) : Int) : Rat) < rat c K := by
        rw [← rat_one, rat_lt (by omega) (by omega)]
        omega
      rw [e0]
      grind
    · have hsub : ∀ y ∈ AO (w.set a x) c K, y ∈ AO w c K := fun y hy => by
        obtain ⟨i, hi, rfl, hc⟩ := AO_mem.mp hy
        rw [hl] at hi
        rw [nth_set _ _ _ _ ha hi] at hc
        by_cases d : a = i
        · subst d; exact AO_mem.mpr ⟨a, hi, rfl, by omega⟩
        · rw [if_neg d] at hc
          exact AO_mem.mpr ⟨i, hi, rfl, hc⟩
      have h1 := sub_len (AO_nodup _ _ _) hsub
      have h2 : (AO (w.set a x) c K).length = K := by
        have := payP_self V' hne
        rw [hK] at this
        rw [← this]; exact hK
      have h3 := payP_max V (K : Int) (by omega) (by omega) (by omega)
      have hne2 : payP w c ≠ [] := by
        intro z
        rw [z] at h3
        simp at h3
        omega
      have ha2 : (a : Int) ∈ payP w c := by
        rw [payP_self V hne2]
        refine AO_mem.mpr ⟨a, ha, rfl, ?_⟩
        have := Int.mul_le_mul_of_nonneg_left h3 (V.o a ha).1
        omega
      have e1 : gain w w c a = ((nth w (a : Int) : Int) : Rat) - rat c (payP w c).length := by
        unfold gain payR
        rw [if_pos ha2, if_neg hne2]
      have := rat_mono V.c0 (k := (K : Int)) (q := ((payP w c).length : Int)) (by omega) h3
      rw [e0, e1]
      grind
  · have e0 : gain (w.set a x) w c a = 0 := by unfold gain; rw [if_neg h]
    rw [e0]; exact nn
/-! pivots -/
def mde (o : List Int) (c : Int) : Bool := decide (c ≤ o.sum)
def rst (o : List Int) (j : Int) : Rat := ((o.sum - nth o j : Int) : Rat)
def thr (o : List Int) (c : Int) : Rat := rat (c * ((o.length : Int) - 1)) o.length
def aln (o : List Int) (c j : Int) : Bool := !decide (rst o j < thr o c)
def prt (o : List Int) (c : Int) : Rat := if mde o c = true then rat c o.length else 0
def pv (o : List Int) (c j : Int) : Rat := prt o c + if mde o c = aln o c j then 0 else rabs (rst o j - thr o c)
theorem thr_ovr {o : List Int} {c : Int} (V : OV o c) : Ovr 12 (thr o c) := Ovr.of (by omega) V.pos (dvd12 V.pos V.few) _
theorem prt_ovr {o : List Int} {c : Int} (V : OV o c) : Ovr 12 (prt o c) := by
  unfold prt
  split
  · exact Ovr.of (by omega) V.pos (dvd12 V.pos V.few) _
  · exact Ovr.zero 12
theorem rst_ovr (o : List Int) (j : Int) : Ovr 12 (rst o j) := Ovr.int (by omega) _
theorem pv_ovr {o : List Int} {c : Int} (V : OV o c) (j : Int) : Ovr 12 (pv o c j) := by
  unfold pv
  refine (prt_ovr V).add (by omega) ?_
  split
  · exact Ovr.zero 12
  · exact ((rst_ovr o j).sub (by omega) (thr_ovr V)).abs
theorem OV.sum {o : List Int} {c : Int} (V : OV o c) : 0 ≤ o.sum ∧ o.sum ≤ 80 := by
  have := sum_bd o 0 20 fun x hx => by
    obtain ⟨i, hi, rfl⟩ := mem_nth hx
    exact V.o i hi
  have := V.few
  omega
theorem pay_cases {o : List Int} {c : Int} (V : OV o c) (j : Int) : (mde o c = true → aln o c j = false → pv o c j = prt o c + (thr o c + -rst o j)) ∧ (mde o c = false → aln o c j = true → pv o c j = prt o c + (rst o j + -thr o c)) ∧ (mde o c = aln o c j → pv o c j = prt o c) := by
  refine ⟨fun h1 h2 => ?_, fun h1 h2 => ?_, fun h => ?_⟩
  · have h3 : rst o j < thr o c := by
      unfold aln at h2
      simpa using h2
    unfold pv rabs
    rw [if_neg (by rw [h1, h2]; decide), if_pos (by grind)]
    grind
  · have h3 : ¬ rst o j < thr o c := by
      unfold aln at h2
      simpa using h2
    unfold pv rabs
    rw [if_neg (by rw [h1, h2]; decide), if_neg (by grind)]
    grind
  · unfold pv
    rw [if_pos h]
    grind
theorem pivots_ok {o : List Int} {c : Int} (V : OV o c) : Ok (m_pivots c o) (· = (mde o c, ⟨(rng 0 (o.length : Int)).map fun j => fr (pv o c j)⟩)) := by
  have hn := V.few
  have hn0 := V.pos
  have c0 := V.c0
  have c1 := V.c1
  have hs := V.sum
  unfold m_pivots
  refine Ok.bind (Ok.eq (x := (o.length : Int)) ⟨by simp, rfl⟩ ?_)
  refine Ok.bind (Ok.eq (x := mde o c) ⟨by simp, rfl⟩ ?_)
  refine Ok.bind ⟨by simp, ?_⟩
  refine Ok.bind (Ok.eq (x := (rng 0 (o.length : Int)).map fun j => fr (pv o c j)) ?_ ⟨⟨trivial, trivial, trivial⟩, rfl⟩)
  refine Ok.fold (fun i s => s = (rng 0 (i : Int)).map fun j => fr (pv o c j)) (rng 0 (o.length : Int)) ⟨by simp; omega, rfl⟩ rfl (fun i x s hx hs => ?_) (fun s hs => ?_)
  · subst hs
    obtain ⟨rfl, hx2⟩ := rng_at hx
    have ei : (0 : Int) + (i : Int) = (i : Int) := by omega
    rw [ei] at hx2 ⊢
    have hi : i < o.length := by omega
    have io : ixOk o.length (i : Int) := by unfold ixOk; omega
    have L1 := lowest_ok (p := c * ((o.length : Int) - 1)) (q := (o.length : Int)) (by omega) (by omega)
    have L2 := lowest_ok (p := c) (q := (o.length : Int)) (by omega) (by omega)
    have dt := (thr_ovr V).den (by omega)
    have dp := (prt_ovr V).den (by omega)
    have LS := less_ok (x := rst o i) (y := thr o c) (int_den _) (by omega)
    refine Ok.bind (Ok.eq (x := o.sum - nth o (i : Int)) ⟨⟨⟨trivial, trivial⟩, ⟨trivial, trivial, io⟩, trivial⟩, rfl⟩ ?_)
    refine Ok.bind (Ok.eq (x := fr (thr o c)) ⟨⟨⟨trivial, ⟨trivial, trivial, trivial⟩, cmL (by show _ ≤ c; omega) (by show c ≤ _; omega)⟩, trivial, L1.1⟩, L1.2⟩ ?_)
    refine Ok.bind (Ok.eq (x := aln o c i) ⟨⟨⟨trivial, trivial⟩, trivial, LS.1⟩, ?_⟩ ?_)
    · show (!(m_is_less (fr (rst o i)) (fr (thr o c))).v) = _
      rw [LS.2]
      rfl
    refine Ok.bind (Ok.eq (x := fr (prt o c)) (Ok.ite ⟨⟨trivial, trivial⟩, ?_⟩) ?_)
    · show if mde o c = true then _ else _
      by_cases hm : mde o c = true
      · rw [if_pos hm]
        refine ⟨⟨trivial, trivial, L2.1⟩, ?_⟩
        show (m_lowest c (o.length : Int)).v = _
        rw [L2.2]
        unfold prt
        rw [if_pos hm]
      · rw [if_neg hm]
        refine ⟨⟨trivial, trivial⟩, ?_⟩
        unfold prt
        rw [if_neg hm]
        rfl
    have PC := pay_cases V (i : Int)
    have e1 : ((-(o.sum - nth o (i : Int)), 1) : Int × Int) = fr (-rst o i) := by rw [← fr_neg]; rfl
    have e2 : ((-(fr (thr o c)).1, (fr (thr o c)).2) : Int × Int) = fr (-thr o c) := fr_neg _
    have d1 : ((-rst o (i : Int)).den : Int) ≤ 12 := by rw [Rat.neg_den]; show (1 : Int) ≤ _; omega
    have d2 : ((-thr o c).den : Int) ≤ 12 := by rw [Rat.neg_den]; omega
    have A1 := add_ok (x := thr o c) (y := -rst o i) (by omega) (by omega)
    have A2 := add_ok (x := rst o i) (y := -thr o c) (int_den _) (by omega)
    have o1 := ((thr_ovr V).add (by omega) (rst_ovr o i).neg).den (by omega)
    have o2 := ((rst_ovr o (i : Int)).add (by omega) (thr_ovr V).neg).den (by omega)
    have B1 := add_ok (x := prt o c) (y := thr o c + -rst o i) (by omega) (by omega)
    have B2 := add_ok (x := prt o c) (y := rst o i + -thr o c) (by omega) (by omega)
    have fin : ∀ z, z = fr (pv o c i) → Ok (R.bind (R.app ((rng 0 (i : Int)).map fun j => fr (pv o c j)) (R.pure z)) fun w16 => (R.pure (w16 : (List (Int × Int))))) (fun s => s = (rng 0 ((i + 1 : Nat) : Int)).map fun j => fr (pv o c j)) := fun z ez => by
      refine Ok.bind ⟨⟨trivial, by rw [List.length_map, rng_len]; omega⟩, trivial, ?_⟩
      show (rng 0 (i : Int)).map (fun j => fr (pv o c j)) ++ [z] = _
      rw [rng_nat, rng_nat, List.range_succ, List.map_append, List.map_append, ez]
      rfl
    by_cases hm : mde o c = true
    · by_cases hal : aln o c i = true
      · refine Ok.bind (Ok.eq (x := fr (prt o c)) (Ok.ff ⟨⟨⟨trivial, trivial⟩, fun _ => ⟨trivial, trivial⟩⟩, by show (mde o c && !aln o c i) = false; rw [hal]; simp⟩ ⟨trivial, rfl⟩) ?_)
        refine Ok.bind (Ok.eq (x := fr (prt o c)) (Ok.ff ⟨⟨⟨trivial, trivial⟩, fun _ => ⟨trivial, trivial⟩⟩, by show (!mde o c && aln o c i) = false; rw [hm]; simp⟩ ⟨trivial, rfl⟩) ?_)
        exact fin _ (by rw [PC.2.2 (by rw [hm, hal])])
      · have hal : aln o c i = false := by simpa using hal
        refine Ok.bind (Ok.eq (x := fr (prt o c + (thr o c + -rst o i))) (Ok.tt ⟨⟨⟨trivial, trivial⟩, fun _ => ⟨trivial, trivial⟩⟩, by show (mde o c && !aln o c i) = true; rw [hm, hal]; rfl⟩ (Ok.bind ⟨⟨trivial, ⟨trivial, ⟨⟨trivial, trivial⟩, trivial⟩, ?_⟩, ?_⟩, trivial, ?_⟩)) ?_)
        · show (m_add (fr (thr o c)) (-(o.sum - nth o (i : Int)), 1)).p
          rw [e1]; exact A1.1
        · show (m_add (fr (prt o c)) (m_add (fr (thr o c)) (-(o.sum - nth o (i : Int)), 1)).v).p
          rw [e1, A1.2]; exact B1.1
        · show (m_add (fr (prt o c)) (m_add (fr (thr o c)) (-(o.sum - nth o (i : Int)), 1)).v).v = _
          rw [e1, A1.2]; exact B1.2
        refine Ok.bind (Ok.eq (x := fr (prt o c + (thr o c + -rst o i))) (Ok.ff ⟨⟨⟨trivial, trivial⟩, fun _ => ⟨trivial, trivial⟩⟩, by show (!mde o c && aln o c i) = false; rw [hm]; simp⟩ ⟨trivial, rfl⟩) ?_)
        exact fin _ (by rw [PC.1 hm hal])
    · have hm : mde o c = false := by simpa using hm
      refine Ok.bind (Ok.eq (x := fr (prt o c)) (Ok.ff ⟨⟨⟨trivial, trivial⟩, fun _ => ⟨trivial, trivial⟩⟩, by show (mde o c && !aln o c i) = false; rw [hm]; simp⟩ ⟨trivial, rfl⟩) ?_)
      by_cases hal : aln o c i = true
      · refine Ok.bind (Ok.eq (x := fr (prt o c + (rst o i + -thr o c))) (Ok.tt ⟨⟨⟨trivial, trivial⟩, fun _ => ⟨trivial, trivial⟩⟩, by show (!mde o c && aln o c i) = true; rw [hm, hal]; rfl⟩ (Ok.bind ⟨⟨trivial, ⟨⟨trivial, trivial⟩, ⟨⟨trivial, trivial⟩, trivial⟩, ?_⟩, ?_⟩, trivial, ?_⟩)) ?_)
        · show (m_add (fr (rst o i)) (-(fr (thr o c)).1, (fr (thr o c)).2)).p
          rw [e2]; exact A2.1
        · show (m_add (fr (prt o c)) (m_add (fr (rst o i)) (-(fr (thr o c)).1, (fr (thr o c)).2)).v).p
          rw [e2, A2.2]; exact B2.1
        · show (m_add (fr (prt o c)) (m_add (fr (rst o i)) (-(fr (thr o c)).1, (fr (thr o c)).2)).v).v = _
          rw [e2, A2.2]; exact B2.2
        exact fin _ (by rw [PC.2.1 hm hal])
      · have hal : aln o c i = false := by simpa using hal
        refine Ok.bind (Ok.eq (x := fr (prt o c)) (Ok.ff ⟨⟨⟨trivial, trivial⟩, fun _ => ⟨trivial, trivial⟩⟩, by show (!mde o c && aln o c i) = false; rw [hal]; simp⟩ ⟨trivial, rfl⟩) ?_)
        exact fin _ (by rw [PC.2.2 (by rw [hm, hal])])
  · rw [hs, rng_len]
    congr 2
def pg (o w : List Int) (c a : Int) : Rat := (if mde o c = true then ((nth w a : Int) : Rat) else 0) - pv o c a
theorem nth_rmap {β : Type} [Inhabited β] (n : Nat) (f : Int → β) (j : Nat) (hj : j < n) : nth ((rng 0 (n : Int)).map f) (j : Int) = f j := by
  rw [nth_map _ _ _ (by rw [rng_len]; omega), nth_at _ _ (by rw [rng_len]; omega)]
  unfold rng
  simp
theorem pg_ok {o w : List Int} {c : Int} (V : OV o c) (hl : w.length = o.length) (a : Nat) (ha : a < o.length) : Ok (m_pivot_gain c w o a) (· = fr (pg o w c a)) := by
  have P := pivots_ok V
  have dv := (pv_ovr V (a : Int)).den (by omega)
  have ia : ixOk w.length (a : Int) := by unfold ixOk; omega
  unfold m_pivot_gain
  refine Ok.bind (Ok.eq (x := (mde o c, (⟨(rng 0 (o.length : Int)).map fun j => fr (pv o c j)⟩ : Tu (Int × Int)))) ⟨⟨trivial, trivial, P.1⟩, P.2⟩ ?_)
  have ht : Ovr 12 (if mde o c = true then ((nth w (a : Int) : Int) : Rat) else 0) := by
    split
    · exact Ovr.int (by omega) _
    · exact Ovr.zero 12
  have htd := ht.den (by omega)
  refine Ok.bind (Ok.eq (x := fr (if mde o c = true then ((nth w (a : Int) : Int) : Rat) else 0)) (Ok.ite ⟨⟨trivial, trivial⟩, ?_⟩) ?_)
  · show if mde o c = true then _ else _
    by_cases hm : mde o c = true
    · rw [if_pos hm, if_pos hm]
      exact ⟨⟨⟨trivial, trivial, ia⟩, trivial⟩, rfl⟩
    · rw [if_neg hm, if_neg hm]
      exact ⟨⟨trivial, trivial⟩, rfl⟩
  have i2 : ixOk ((rng 0 (o.length : Int)).map fun j => fr (pv o c j)).length (a : Int) := by rw [List.length_map, rng_len]; unfold ixOk; omega
  have en : nth ((rng 0 (o.length : Int)).map fun j => fr (pv o c j)) (a : Int) = fr (pv o c a) := nth_rmap _ _ a ha
  have A := add_ok (x := if mde o c = true then ((nth w (a : Int) : Int) : Rat) else 0) (y := -pv o c a) (by omega) (by rw [Rat.neg_den]; omega)
  refine ⟨⟨trivial, ⟨⟨⟨trivial, trivial, i2⟩, trivial⟩, ⟨trivial, trivial, i2⟩⟩, ?_⟩, ?_⟩
  · show (m_add (fr (if mde o c = true then ((nth w (a : Int) : Int) : Rat) else 0)) (-(nth ((rng 0 (o.length : Int)).map fun j => fr (pv o c j)) (a : Int)).1, (nth ((rng 0 (o.length : Int)).map fun j => fr (pv o c j)) (a : Int)).2)).p
    rw [en, fr_neg]; exact A.1
  · show (m_add (fr (if mde o c = true then ((nth w (a : Int) : Int) : Rat) else 0)) (-(nth ((rng 0 (o.length : Int)).map fun j => fr (pv o c j)) (a : Int)).1, (nth ((rng 0 (o.length : Int)).map fun j => fr (pv o c j)) (a : Int)).2)).v = _
    rw [en, fr_neg, A.2]
    unfold pg
    rw [Rat.sub_eq_add_neg]
theorem pg_best {w : List Int} {c : Int} (V : OV w c) (a : Nat) (ha : a < w.length) (x : Int) (V' : OV (w.set a x) c) : pg (w.set a x) w c a ≤ pg w w c a := by
  have hn := V.pos
  have hl : (w.set a x).length = w.length := by simp
  have hsum := set_sum w a x ha
  have hat : nth (w.set a x) (a : Int) = x := by rw [nth_set _ _ _ _ ha ha, if_pos rfl]
  have er : rst (w.set a x) a = rst w a := by
    unfold rst
    congr 1
    rw [hat, hsum]
    omega
  have et : thr (w.set a x) c = thr w c := by unfold thr; rw [hl]
  have ea : aln (w.set a x) c a = aln w c a := by unfold aln; rw [er, et]
  have P := pay_cases V (a : Int)
  have P' := pay_cases V' (a : Int)
  rw [er, et, ea] at P'
  -- what being honest tells
  have hc : thr w c + rat c w.length = (c : Rat) := by
    unfold thr
    rw [rat_add (by omega) (by omega), ← rat_one, rat_eq (Int.mul_pos (by omega) (by omega)) (by omega)]
    grind
  have hm : mde w c = true ↔ (c : Rat) ≤ rst w a + ((nth w (a : Int) : Int) : Rat) := by
    unfold mde rst
    rw [decide_eq_true_iff, ← Rat.intCast_add, Rat.intCast_le_intCast]
    omega
  have hal : aln w c a = true ↔ thr w c ≤ rst w a := by
    unfold aln
    simp
    exact Rat.not_lt
  have p1 : prt w c = if mde w c = true then rat c w.length else 0 := rfl
  have p2 : prt (w.set a x) c = if mde (w.set a x) c = true then rat c w.length else 0 := by unfold prt; rw [hl]
  unfold pg
  cases h1 : mde w c <;> cases h2 : mde (w.set a x) c <;> cases h3 : aln w c a
  all_goals
    rw [h1] at P p1 hm
    rw [h2] at P' p2
    rw [h3] at P P' hal
    simp at P P' p1 p2 hm hal ⊢
    grind
theorem orNN {o : List Int} {n : Nat} {c : Int} (h1 : o.length = n) (h2 : 0 < n) (h3 : n ≤ 4) (ho : ∀ x ∈ o, 0 ≤ x ∧ x ≤ 14) (c0 : 0 ≤ c) (c1 : c < 25) : OV o c := ⟨by omega, by omega, fun i hi => by have := ho _ (nth_mem o i hi); omega, c0, by omega⟩
theorem offers_ok (n a : Nat) (hn0 : 0 < n) (hn : n ≤ 4) (ha : a < n) : (m__law_offers n a).p := by
  show wp__law_offers n a (fun _ => False) (post__law_offers n a)
  unfold wp__law_offers
  refine W.seq_for (fun _ _ => True) (rng 0 2) ⟨by simp, rfl⟩ trivial (fun i x s _ _ => ?_) (fun _ _ => ?_)
  · refine W.seq_draw (by omega) (by omega) fun c c0 c1 => ?_
    refine W.seq_drawn n n 0 14 (by simp; omega) (fun xs hx => by cases hx; rw [show (R.rng1 (R.pure (n : Int))).v = rng 0 (n : Int) from rfl, rng_len]; omega) (by omega) (fun _ => drwP (by omega) (by omega)) (fun _ y hy => by have := drw hy; omega) fun w l1 l2 hw => ?_
    have hwl : w.length = n := by omega
    refine W.seq_eq w ⟨by simp; omega, by simp⟩ ?_
    refine W.seq_n ⟨drwP (by omega) (by omega), trivial, by rintro _ rfl; exact ⟨by show (0 : Int) ≤ a; omega, by show (a : Int) < w.length; omega⟩⟩ ?_
    rintro _ ⟨x, _, hx, rfl, rfl⟩
    have hx := drw hx
    show W.seq _ _ _ _
    have ea : ((R.pure (a : Int)).v).toNat = a := by show (a : Int).toNat = a; omega
    rw [ea]
    have hol : (w.set a x).length = n := by simp; omega
    have Vw : OV w c := orNN hwl hn0 hn hw c0 c1
    have Vo : OV (w.set a x) c := orNN hol hn0 hn (fun y hy => by
      rcases List.mem_or_eq_of_mem_set hy with z | z
      · exact hw y z
      · rw [z]; omega) c0 c1
    have best1 := honest_best Vw a (by omega) x Vo
    have best2 := pg_best Vw a (by omega) x Vo
    generalize hO : w.set a x = o at *
    refine W.seq_eq [] ⟨by simp, rfl⟩ ?_
    have en : (n : Int) = (o.length : Int) := by omega
    have io : ∀ j : Nat, j < n → ixOk o.length (j : Int) := fun j hj => by unfold ixOk; omega
    have iw : ∀ j : Nat, j < n → ixOk w.length (j : Int) := fun j hj => by unfold ixOk; omega
    -- who pays
    refine W.seq_eq (payP o c) (Ok.fold (fun i s => s = top o c i) (rngD n 0) ⟨by simp; omega, rfl⟩ rfl (fun i x s hx hs => ?_) (fun s hs => ?_)) ?_
    · subst hs
      have hx3 : i < n ∧ x = (n : Int) - i := by
        unfold FP.rngD at hx
        rw [List.getElem?_map] at hx
        by_cases hi : i < ((n : Int) - 0).toNat
        · rw [List.getElem?_range hi] at hx
          simp at hx
          omega
        · rw [List.getElem?_eq_none (by simp; omega)] at hx
          simp at hx
      obtain ⟨hi, rfl⟩ := hx3
      refine Ok.bind (Ok.eq (x := AO o c ((n : Int) - i)) ⟨⟨by simp; omega, by simp [rng_len]; omega, fun y hy => ⟨?_, fun _ => trivial⟩⟩, ?_⟩ ?_)
      · obtain ⟨j, hj, rfl⟩ := mem_rngN.mp hy
        exact ⟨⟨⟨trivial, trivial, io j hj⟩, trivial, cmR (by show _ ≤ (n : Int) - i; omega) (by show (n : Int) - i ≤ _; omega)⟩, trivial, trivial⟩
      · show ((rng 0 (n : Int)).filter fun y => decide (c ≤ nth o y * ((n : Int) - i))).map (fun y => y) = _
        have : ∀ l : List Int, l.map (fun y => y) = l := List.map_id
        rw [this]
        unfold AO
        rw [hol]
      · refine Ok.bind (Ok.imp (P := fun z => z = top o c (i + 1)) (Ok.ite (Ok.imp (Ok.and (x := decide (top o c i = [])) (y := decide ((n : Int) - i ≤ (AO o c ((n : Int) - i)).length)) ⟨by simp, rfl⟩ fun _ => ⟨by simp, rfl⟩) fun z ez => ?_)) fun z ez => ⟨trivial, ez⟩)
        have et : top o c (i + 1) = if top o c i = [] ∧ (n : Int) - i ≤ (AO o c ((n : Int) - i)).length then AO o c ((n : Int) - i) else top o c i := by
          rw [en]
          rfl
        rw [et, ez]
        by_cases h1 : top o c i = []
        · by_cases h2 : (n : Int) - i ≤ (AO o c ((n : Int) - i)).length
          · rw [decide_eq_true h1, decide_eq_true h2, Bool.and_self, if_pos rfl, if_pos ⟨h1, h2⟩]
            exact ⟨trivial, rfl⟩
          · rw [decide_eq_false h2, Bool.and_false, if_neg (by decide), if_neg fun z => h2 z.2]
            exact ⟨trivial, rfl⟩
        · rw [decide_eq_false h1, Bool.false_and, if_neg (by decide), if_neg fun z => h1 z.1]
          exact ⟨trivial, rfl⟩
    · rw [hs]
      have : (rngD (n : Int) 0).length = o.length := by simp [FP.rngD]; omega
      rw [this]
      rfl
    have hpl := payP_len Vo
    have dR := (payR_ovr Vo).den (by omega)
    refine W.seq_eq (fr (payR o c)) (Ok.ite ⟨by simp, ?_⟩) ?_
    · show if (!(payP o c).isEmpty) = true then _ else _
      by_cases e : payP o c = []
      · rw [e, if_neg (by decide)]
        refine ⟨⟨trivial, trivial⟩, ?_⟩
        unfold payR
        rw [if_pos e]
        rfl
      · have hl : 0 < (payP o c).length := List.length_pos_iff.mpr e
        have L := law_lowest_ok (p := c) (q := ((payP o c).length : Int)) (by omega) (by omega)
        have e2 : (!(payP o c).isEmpty) = true := by
          cases h : payP o c with
          | nil => exact (e h).elim
          | cons => rfl
        rw [e2, if_pos rfl]
        refine ⟨⟨trivial, ⟨trivial, trivial⟩, L.1⟩, ?_⟩
        show (m__law_lowest c ((payP o c).length : Int)).v = _
        rw [L.2]
        unfold payR
        rw [if_neg e]
    have PO := payers_ok Vo
    have sm1 : ∀ z : Int × Int, Sm z := fun z => by simp
    refine W.guard (Ok.exact (payP o c, fr (payR o c)) ⟨⟨trivial, trivial⟩, rfl⟩ ⟨⟨trivial, ⟨trivial, trivial⟩, PO.1⟩, PO.2⟩ (by simp; omega)) ?_
    refine W.seq_eq (fr (gain o w c a)) (Ok.ite ⟨⟨trivial, trivial, trivial⟩, ?_⟩) ?_
    · show if decide ((a : Int) ∈ payP o c) = true then _ else _
      by_cases h : (a : Int) ∈ payP o c
      · rw [if_pos (decide_eq_true h)]
        have M := minus_ok (x := ((nth w (a : Int) : Int) : Rat)) (y := payR o c) (int_den _) (by omega)
        refine ⟨⟨⟨⟨trivial, trivial, iw a ha⟩, trivial⟩, trivial, M.1⟩, ?_⟩
        show (m__law_minus (fr ((nth w (a : Int) : Int) : Rat)) (fr (payR o c))).v = _
        rw [M.2]
        unfold gain
        rw [if_pos h]
      · rw [if_neg (by simpa using h)]
        refine ⟨⟨trivial, trivial⟩, ?_⟩
        unfold gain
        rw [if_neg h]
        rfl
    have G1 := gain_ok Vw (w := w) rfl a (by omega)
    have G2 := gain_ok Vo (w := w) (by omega) a (by omega)
    have dg1 := (gain_ovr Vw w (a : Int)).den (by omega)
    have dg2 := (gain_ovr Vo w (a : Int)).den (by omega)
    refine W.seq_eq (fr (gain w w c a)) ⟨⟨trivial, ⟨trivial, trivial⟩, ⟨trivial, trivial⟩, trivial, G1.1⟩, G1.2⟩ ?_
    have BL := below_ok (x := gain w w c a) (y := gain o w c a) (by omega) (by omega)
    refine W.guard (Ok.orF (Ok.exact (fr (gain o w c a)) (Ok.pure rfl) ⟨⟨trivial, ⟨trivial, trivial⟩, ⟨trivial, trivial⟩, trivial, G2.1⟩, G2.2⟩ (sm1 _)) (Ok.orF ⟨⟨⟨trivial, trivial, BL.1⟩, trivial⟩, ?_⟩ ⟨⟨trivial, trivial, trivial⟩, ?_⟩)) ?_
    · show (m__law_below (fr (gain w w c a)) (fr (gain o w c a))).v = false
      rw [BL.2]
      exact decide_eq_false (Rat.not_lt.mpr best1)
    · show decide ((fr (gain w w c a)).1 < 0) = false
      exact decide_eq_false fun z => Rat.not_lt.mpr (honest_nn Vw a) (num_neg.mp z)
    -- pivots
    refine W.seq_eq (mde o c, []) ⟨by simp, rfl⟩ ?_
    have dt := (thr_ovr Vo).den (by omega)
    have dp := (prt_ovr Vo).den (by omega)
    refine W.seq_eq ((rng 0 (n : Int)).map fun j => fr (pv o c j)) (Ok.fold (fun i s => s = (rng 0 (i : Int)).map fun j => fr (pv o c j)) (rng 0 (n : Int)) ⟨by simp; omega, rfl⟩ rfl (fun i x s hx hs => ?_) (fun s hs => ?_)) ?_
    · subst hs
      obtain ⟨rfl, hx2⟩ := rng_at hx
      have ei : (0 : Int) + (i : Int) = (i : Int) := by omega
      rw [ei] at hx2 ⊢
      have hi : i < n := by omega
      have L1 := law_lowest_ok (p := c * ((n : Int) - 1)) (q := (n : Int)) (by omega) (by omega)
      have L2 := law_lowest_ok (p := c) (q := (n : Int)) (by omega) (by omega)
      have BL := below_ok (x := rst o i) (y := thr o c) (int_den _) (by omega)
      have ethr : rat (c * ((n : Int) - 1)) n = thr o c := by unfold thr; rw [en]
      rw [ethr] at L1
      refine Ok.bind (Ok.eq (x := (o.sum - nth o (i : Int), fr (thr o c))) ⟨⟨⟨⟨trivial, trivial⟩, ⟨trivial, trivial, io i hi⟩, trivial⟩, ⟨trivial, ⟨trivial, trivial, trivial⟩, cmL (by show _ ≤ c; omega) (by show c ≤ _; omega)⟩, trivial, L1.1⟩, ?_⟩ ?_)
      · show (o.sum - nth o (i : Int), (m__law_lowest (c * ((n : Int) - 1)) (n : Int)).v) = _
        rw [L1.2]
      refine Ok.bind (Ok.eq (x := fr (prt o c)) (Ok.ite ⟨⟨trivial, trivial⟩, ?_⟩) ?_)
      · show if mde o c = true then _ else _
        by_cases hm : mde o c = true
        · rw [if_pos hm]
          refine ⟨⟨trivial, trivial, L2.1⟩, ?_⟩
          show (m__law_lowest c (n : Int)).v = _
          rw [L2.2]
          unfold prt
          rw [if_pos hm, en]
        · rw [if_neg hm]
          refine ⟨⟨trivial, trivial⟩, ?_⟩
          unfold prt
          rw [if_neg hm]
          rfl
      refine Ok.bind (Ok.eq (x := aln o c i) ⟨⟨⟨trivial, trivial⟩, trivial, BL.1⟩, ?_⟩ ?_)
      · show (!(m__law_below (fr (rst o i)) (fr (thr o c))).v) = _
        rw [BL.2]
        rfl
      have M := minus_ok (x := rst o i) (y := thr o c) (int_den _) (by omega)
      have da := ((rst_ovr o (i : Int)).sub (by omega) (thr_ovr Vo)).abs.den (by omega)
      have P := plus_ok (x := prt o c) (y := rabs (rst o i - thr o c)) (by omega) (by omega)
      have eab : ((if (fr (rst o i - thr o c)).1 < 0 then -(fr (rst o i - thr o c)).1 else (fr (rst o i - thr o c)).1), (fr (rst o i - thr o c)).2) = fr (rabs (rst o i - thr o c)) := fr_abs _
      refine Ok.bind (Ok.eq (x := fr (pv o c i)) (Ok.ite ⟨⟨trivial, trivial, trivial⟩, ?_⟩) ?_)
      · show if (!decide (mde o c = aln o c i)) = true then _ else _
        by_cases hd : mde o c = aln o c i
        · rw [if_neg (by simpa using hd)]
          refine ⟨trivial, ?_⟩
          unfold pv
          rw [if_pos hd]
          show fr (prt o c) = fr (prt o c + 0)
          congr 1
          grind
        · rw [if_pos (by simpa using hd)]
          refine Ok.bind (Ok.eq (x := fr (rst o i - thr o c)) ⟨⟨⟨trivial, trivial⟩, trivial, M.1⟩, M.2⟩ ?_)
          refine Ok.bind ⟨⟨trivial, ⟨⟨trivial, trivial⟩, trivial⟩, ?_⟩, trivial, ?_⟩
          · show (m__law_plus (fr (prt o c)) ((if (fr (rst o i - thr o c)).1 < 0 then -(fr (rst o i - thr o c)).1 else (fr (rst o i - thr o c)).1), (fr (rst o i - thr o c)).2)).p
            rw [eab]; exact P.1
          · show (m__law_plus (fr (prt o c)) ((if (fr (rst o i - thr o c)).1 < 0 then -(fr (rst o i - thr o c)).1 else (fr (rst o i - thr o c)).1), (fr (rst o i - thr o c)).2)).v = _
            rw [eab, P.2]
            unfold pv
            rw [if_neg hd]
      · refine Ok.bind ⟨⟨trivial, by rw [List.length_map, rng_len]; omega⟩, trivial, ?_⟩
        show (rng 0 (i : Int)).map (fun j => fr (pv o c j)) ++ [fr (pv o c i)] = _
        rw [rng_nat, rng_nat, List.range_succ, List.map_append, List.map_append]
        rfl
    · rw [hs, rng_len]
      congr 2
    have PV := pivots_ok Vo
    rw [← en] at PV
    refine W.guard (Ok.exact (mde o c, (⟨(rng 0 (n : Int)).map fun j => fr (pv o c j)⟩ : Tu (Int × Int))) ⟨⟨trivial, trivial, trivial⟩, rfl⟩ ⟨⟨trivial, ⟨trivial, trivial⟩, PV.1⟩, PV.2⟩ (by simp [rng_len]; omega)) ?_
    have dv := (pv_ovr Vo (a : Int)).den (by omega)
    have ei : ((nth w (a : Int) * (if mde o c = true then (1 : Int) else 0) : Int) : Rat) = if mde o c = true then ((nth w (a : Int) : Int) : Rat) else 0 := by
      split
      · rw [Int.mul_one]
      · rw [Int.mul_zero]; rfl
    have M := minus_ok (x := ((nth w (a : Int) * (if mde o c = true then (1 : Int) else 0) : Int) : Rat)) (y := pv o c a) (int_den _) (by omega)
    have e2 : nth ((rng 0 (n : Int)).map fun j => fr (pv o c j)) (a : Int) = fr (pv o c a) := nth_rmap _ _ a ha
    refine W.seq_eq (fr (pg o w c a)) ⟨⟨⟨⟨⟨trivial, trivial, iw a ha⟩, ⟨trivial, trivial⟩, cmR (by show _ ≤ (if mde o c = true then (1 : Int) else 0); split <;> omega) (by show (if mde o c = true then (1 : Int) else 0) ≤ _; split <;> omega)⟩, trivial⟩, ⟨trivial, trivial, by show ixOk ((rng 0 (n : Int)).map fun j => fr (pv o c j)).length (a : Int); rw [List.length_map, rng_len]; unfold ixOk; omega⟩, ?_⟩, ?_⟩ ?_
    · show (m__law_minus (fr ((nth w (a : Int) * (if mde o c = true then (1 : Int) else 0) : Int) : Rat)) (nth ((rng 0 (n : Int)).map fun j => fr (pv o c j)) (a : Int))).p
      rw [e2]; exact M.1
    · show (m__law_minus (fr ((nth w (a : Int) * (if mde o c = true then (1 : Int) else 0) : Int) : Rat)) (nth ((rng 0 (n : Int)).map fun j => fr (pv o c j)) (a : Int))).v = _
      rw [e2, M.2, ei]
      rfl
    have Q1 := pg_ok Vw (w := w) rfl a (by omega)
    have Q2 := pg_ok Vo (w := w) (by omega) a (by omega)
    have pgo : ∀ o : List Int, OV o c → Ovr 12 (pg o w c a) := fun o V => by
      unfold pg
      refine Ovr.sub (by omega) ?_ (pv_ovr V a)
      split
      · exact Ovr.int (by omega) _
      · exact Ovr.zero 12
    have q1 := (pgo w Vw).den (by omega)
    have q2 := (pgo o Vo).den (by omega)
    refine W.seq_eq (fr (pg w w c a)) ⟨⟨trivial, ⟨trivial, trivial⟩, ⟨trivial, trivial⟩, trivial, Q1.1⟩, Q1.2⟩ ?_
    have BL := below_ok (x := pg w w c a) (y := pg o w c a) (by omega) (by omega)
    refine W.guard (Ok.orF (Ok.exact (fr (pg o w c a)) (Ok.pure rfl) ⟨⟨trivial, ⟨trivial, trivial⟩, ⟨trivial, trivial⟩, trivial, Q2.1⟩, Q2.2⟩ (sm1 _)) ⟨⟨⟨trivial, trivial, BL.1⟩, trivial⟩, ?_⟩) trivial
    show (m__law_below (fr (pg w w c a)) (fr (pg o w c a))).v = false
    rw [BL.2]
    exact decide_eq_false (Rat.not_lt.mpr best2)
  · refine ⟨trivial, ?_⟩
    rintro _ rfl
    rfl
/-! rows that never fall -/
theorem sorted_uniq : ∀ {a b : List Int}, a.Pairwise (· ≤ ·) → b.Pairwise (· ≤ ·) → a.Perm b → a = b
  | [], b, _, _, h => (List.nil_perm.mp h).symm
  | x :: a, [], _, _, h => by have := h.length_eq; simp at this
  | x :: a, y :: b, ha, hb, h => by
    have a1 := List.pairwise_cons.mp ha
    have b1 := List.pairwise_cons.mp hb
    have hx : x ∈ y :: b := h.mem_iff.mp List.mem_cons_self
    have hy : y ∈ x :: a := h.mem_iff.mpr List.mem_cons_self
    have e : x = y := by
      rcases List.mem_cons.mp hx with z | z
      · exact z
      · rcases List.mem_cons.mp hy with q | q
        · exact q.symm
        · have := b1.1 x z
          have := a1.1 y q
          omega
    subst e
    rw [sorted_uniq a1.2 b1.2 h.cons_inv]
theorem srt_iff (l : List Int) : l = srtD l ↔ l.Pairwise (· ≤ ·) := by
  constructor
  · intro h; rw [h]; exact srt_int l
  · intro h; exact sorted_uniq h (srt_int l) (srt_perm l).symm
theorem adj_iff : ∀ l : List Int, l.Pairwise (· ≤ ·) ↔ ∀ i : Nat, i + 1 < l.length → nth l (i : Int) ≤ nth l ((i : Int) + 1)
  | [] => by simp
  | [x] => by simp
  | x :: y :: l => by
    rw [List.pairwise_cons, adj_iff (y :: l)]
    constructor
    · rintro ⟨h1, h2⟩ i hi
      cases i with
      | zero =>
        show nth (x :: y :: l) 0 ≤ nth (x :: y :: l) (((0 : Nat) : Int) + 1)
        rw [nth_succ]
        exact h1 y List.mem_cons_self
      | succ i =>
        have := h2 i (by simpa using hi)
        have e : ((i + 1 : Nat) : Int) = (i : Int) + 1 := by omega
        rw [nth_succ, e, nth_succ]
        have e2 : nth (y :: l) ((i : Int) + 1) = nth (y :: l) ((i + 1 : Nat) : Int) := by rw [e]
        rw [e] at e2
        exact this
    · intro h
      have h2 : ∀ i : Nat, i + 1 < (y :: l).length → nth (y :: l) (i : Int) ≤ nth (y :: l) ((i : Int) + 1) := fun i hi => by
        have := h (i + 1) (by simpa using hi)
        have e : ((i + 1 : Nat) : Int) = (i : Int) + 1 := by omega
        rw [nth_succ, e, nth_succ] at this
        exact this
      refine ⟨fun z hz => ?_, h2⟩
      have h0 := h 0 (by simp)
      have e0 : nth (x :: y :: l) ((0 : Nat) : Int) = x := rfl
      rw [nth_succ, e0] at h0
      have e1 : nth (y :: l) ((0 : Nat) : Int) = y := rfl
      rw [e1] at h0
      rcases List.mem_cons.mp hz with q | q
      · rw [q]; exact h0
      · have := (List.pairwise_cons.mp ((adj_iff (y :: l)).mpr h2)).1 z q
        omega
open Classical in
theorem cost_row_ok (C : List Int) (h : C.length ≤ 1000) : Ok (m_is_cost_row ⟨C⟩) (· = decide (0 < C.length ∧ nth C 0 = 0 ∧ C.Pairwise (· ≤ ·))) := by
  unfold m_is_cost_row
  refine Ok.imp (Ok.and (x := decide (0 < C.length)) (y := decide (nth C 0 = 0 ∧ C.Pairwise (· ≤ ·))) ⟨by simp, ?_⟩ fun h0 => ?_) fun z ez => ?_
  · show decide ((0 : Int) < (C.length : Int)) = _
    rw [Bool.eq_iff_iff]; simp
  · have h0 : 0 < C.length := of_decide_eq_true h0
    refine Ok.imp (Ok.and (x := decide (nth C 0 = 0)) (y := decide (C.Pairwise (· ≤ ·))) ⟨⟨⟨trivial, trivial, by show ixOk C.length 0; unfold ixOk; omega⟩, trivial, trivial⟩, rfl⟩ fun _ => ?_) fun z ez => ?_
    · refine Ok.imp (Ok.all (rng 0 ((C.length : Int) - 1)) (fun y => decide (nth C y ≤ nth C (y + 1))) ⟨by simp; omega, rfl⟩ fun x hx => ?_) fun z ez => ?_
      · have := mem_rng.mp hx
        exact ⟨⟨⟨trivial, trivial, by show ixOk C.length x; unfold ixOk; omega⟩, ⟨trivial, ⟨trivial, trivial, trivial⟩, by show ixOk C.length (x + 1); unfold ixOk; omega⟩, trivial⟩, rfl⟩
      · rw [ez, Bool.eq_iff_iff, List.all_eq_true, decide_eq_true_iff, adj_iff]
        constructor
        · intro h i hi
          exact of_decide_eq_true (h i (mem_rng.mpr ⟨by omega, by omega⟩))
        · intro h x hx
          have := mem_rng.mp hx
          have := h x.toNat (by omega)
          have e : ((x.toNat : Nat) : Int) = x := by omega
          rw [e] at this
          exact decide_eq_true this
    · rw [ez, Bool.eq_iff_iff]; simp
  · rw [ez, Bool.eq_iff_iff]; simp
def dif (C : List Int) : List Int := (rng 0 ((C.length : Int) - 1)).map fun i => nth C (i + 1) - nth C i
open Classical in
theorem bending_ok (C : List Int) (h : C.length ≤ 1000) : Ok (m_is_bending_up ⟨C⟩) (· = decide ((dif C).Pairwise (· ≤ ·))) := by
  unfold m_is_bending_up
  have hl : (dif C).length = ((C.length : Int) - 1).toNat := by unfold dif; rw [List.length_map, rng_len]; omega
  refine Ok.bind (Ok.eq (x := dif C) ⟨⟨by simp; omega, by simp [rng_len]; omega, fun x hx => ⟨trivial, fun _ => ?_⟩⟩, ?_⟩ ?_)
  · have := mem_rng.mp hx
    have h2 : x < (C.length : Int) - 1 := this.2
    exact ⟨⟨trivial, ⟨trivial, trivial, trivial⟩, by show ixOk C.length (x + 1); unfold ixOk; omega⟩, ⟨trivial, trivial, by show ixOk C.length x; unfold ixOk; omega⟩, trivial⟩
  · show ((rng 0 ((C.length : Int) - 1)).filter fun _ => true).map _ = _
    rw [filter_all]
    rfl
  · refine Ok.imp (Ok.all (rng 0 (((dif C).length : Int) - 1)) (fun y => decide (nth (dif C) y ≤ nth (dif C) (y + 1))) ⟨by simp; omega, rfl⟩ fun x hx => ?_) fun z ez => ?_
    · have := mem_rng.mp hx
      exact ⟨⟨⟨trivial, trivial, by show ixOk (dif C).length x; unfold ixOk; omega⟩, ⟨trivial, ⟨trivial, trivial, trivial⟩, by show ixOk (dif C).length (x + 1); unfold ixOk; omega⟩, trivial⟩, rfl⟩
    · rw [ez, Bool.eq_iff_iff, List.all_eq_true, decide_eq_true_iff, adj_iff]
      constructor
      · intro h i hi
        exact of_decide_eq_true (h i (mem_rng.mpr ⟨by omega, by omega⟩))
      · intro h x hx
        have := mem_rng.mp hx
        have := h x.toNat (by omega)
        have e : ((x.toNat : Nat) : Int) = x := by omega
        rw [e] at this
        exact decide_eq_true this
/-! costs of steps -/
def cst (st : List Int) : List Int := (rng 0 26).map fun j => (st.take j.toNat).sum
theorem cst_len (st : List Int) : (cst st).length = 26 := by unfold cst; rw [List.length_map, rng_len]; rfl
theorem cst_at (st : List Int) (i : Nat) (hi : i < 26) : nth (cst st) (i : Int) = (st.take i).sum := by
  unfold cst
  have := nth_rmap 26 (fun j => (st.take j.toNat).sum) i hi
  exact this
theorem cst_zero (st : List Int) : nth (cst st) 0 = 0 := cst_at st 0 (by omega)
theorem cst_step {st : List Int} (hl : st.length = 25) (i : Nat) (hi : i < 25) : nth (cst st) ((i : Int) + 1) - nth (cst st) (i : Int) = nth st (i : Int) := by
  have e : (i : Int) + 1 = ((i + 1 : Nat) : Int) := by omega
  have h : st.take (i + 1) = st.take i ++ [st[i]] := take_snoc (List.getElem?_eq_getElem (by omega))
  rw [e, cst_at _ _ (by omega), cst_at _ _ (by omega), h, List.sum_append, nth_at _ _ (by omega)]
  show (st.take i).sum + (st[i] + 0) - (st.take i).sum = st[i]
  omega
theorem cst_dif {st : List Int} (hl : st.length = 25) : dif (cst st) = st := by
  have h25 : (dif (cst st)).length = 25 := by unfold dif; rw [List.length_map, rng_len, cst_len]; rfl
  apply list_ext (by rw [h25, hl])
  intro i hi
  rw [h25] at hi
  have e : dif (cst st) = (rng 0 ((25 : Nat) : Int)).map fun i => nth (cst st) (i + 1) - nth (cst st) i := by unfold dif; rw [cst_len]; rfl
  rw [e, nth_rmap 25 _ i hi]
  exact cst_step hl i hi
theorem cst_up {st : List Int} (hl : st.length = 25) (h : ∀ x ∈ st, 0 ≤ x ∧ x ≤ 5) : (cst st).Pairwise (· ≤ ·) := by
  rw [adj_iff]
  intro i hi
  rw [cst_len] at hi
  have := cst_step hl i (by omega)
  have := h _ (nth_mem st i (by omega))
  omega
theorem cst_cv {st : List Int} (hl : st.length = 25) (h : st.Pairwise (· ≤ ·)) : CV (cst st) := fun i j hij hj => by
  rw [cst_step hl i (by omega), cst_step hl j hj]
  by_cases e : i = j
  · subst e; exact Int.le_refl _
  · rw [nth_at _ _ (by omega), nth_at _ _ (by omega)]
    exact List.pairwise_iff_getElem.mp h i j (by omega) (by omega) (by omega)
theorem W.seq_ite2 {σT σU β : Type} {c : N Bool} {a1 a2 : (σU → Prop) → (β → Prop) → Prop} {b : σU → (σT → Prop) → (β → Prop) → Prop} {K : σT → Prop} {Kr : β → Prop} (P : σU → Prop) (hp : c.p) (h1 : (∀ s, P s → b s K Kr) → a1 (fun s => b s K Kr) Kr) (h2 : (∀ s, P s → b s K Kr) → a2 (fun s => b s K Kr) Kr) (k : ∀ s, P s → b s K Kr) : W.seq (W.ite c a1 a2) b K Kr := ⟨hp, fun _ => h1 k, fun _ => h2 k⟩
theorem W.seq_drawnT {σT β : Type} {m : N (List Int)} {f : Int → N Int} {b : Tu Int → (σT → Prop) → (β → Prop) → Prop} {K : σT → Prop} {Kr : β → Prop} (lo hi : Nat) (A B : Int) (hm : m.p) (hl : ∀ xs, m.S xs → lo ≤ xs.length ∧ xs.length ≤ hi) (hh : hi ≤ 100000) (hf : ∀ x, (f x).p) (hv : ∀ x y, (f x).S y → A ≤ y ∧ y ≤ B) (k : ∀ l : List Int, lo ≤ l.length → l.length ≤ hi → (∀ x ∈ l, A ≤ x ∧ x ≤ B) → b ⟨l⟩ K Kr) : W.seq (W.of (N.o1 T1 (fun xs : (List Int) => Tu.mk xs) (N.lc m (fun _ => R.pure true) f))) b K Kr := by
  have := W.seq_drawn (b := fun l => b ⟨l⟩) lo hi A B hm hl hh hf hv k
  refine ⟨⟨this.1, fun _ _ => trivial⟩, ?_⟩
  rintro _ ⟨x, hx, rfl⟩
  exact this.2 x hx
set_option maxHeartbeats 4000000 in
open Classical in
theorem wp_ok : wp_law (fun _ => False) (fun b => b = true) := by
  unfold wp_law
  refine W.seq_for (fun _ _ => True) (rng 0 3) ⟨by simp, rfl⟩ trivial (fun i x s _ _ => ?_) (fun _ _ => ?_)
  · refine W.seq_draw1 (by omega) (by omega) fun d d0 d1 => ?_
    obtain ⟨n, hn⟩ : ∃ n : Nat, 1 + d = (n : Int) := ⟨(1 + d).toNat, by omega⟩
    rw [hn]
    have n1 : 0 < n := by omega
    have n4 : n ≤ 4 := by omega
    refine W.seq_drawnT n n 0 5 (by simp; omega) (fun xs hx => by cases hx; rw [show (R.rng1 (R.pure (n : Int))).v = rng 0 (n : Int) from rfl, rng_len]; omega) (by omega) (fun _ => drwP (by omega) (by omega)) (fun _ y hy => by have := drw hy; omega) fun A a1 a2 hA => ?_
    have hAl : A.length = n := by omega
    refine W.seq_drawn 25 25 0 5 (by simp) (fun xs hx => by cases hx; rw [show (R.rng1 (R.pure (25 : Int))).v = rng 0 (25 : Int) from rfl, rng_len]; exact ⟨by decide, by decide⟩) (by omega) (fun _ => drwP (by omega) (by omega)) (fun _ y hy => by have := drw hy; omega) fun s0 l1 l2 hs0 => ?_
    refine W.seq_ite2 (fun st : List Int => st.length = 25 ∧ ∀ x ∈ st, 0 ≤ x ∧ x ≤ 5) ⟨drwP (by omega) (by omega), by simp, fun _ _ _ _ => trivial⟩ (fun k => ?_) (fun k => ?_) (fun st hst => ?_)
    · refine W.seq_eq (srtD s0) ⟨⟨trivial, srtb_int _⟩, rfl⟩ ?_
      exact k _ ⟨by rw [srt_len]; omega, fun x hx => hs0 x (srt_mem.mp hx)⟩
    · exact k _ ⟨by omega, hs0⟩
    obtain ⟨sl, hst⟩ := hst
    refine W.seq_eq (⟨cst st⟩ : Tu Int) ⟨⟨⟨by simp, by simp [rng_len], fun x hx => ⟨trivial, fun _ => ⟨⟨trivial, trivial, trivial, trivial⟩, trivial⟩⟩⟩, trivial⟩, ?_⟩ ?_
    · show Tu.mk (((rng 0 26).filter fun _ => true).map fun y => (cut st none (some y)).sum) = _
      rw [filter_all]
      unfold cst
      congr 1
      apply List.map_congr_left
      intro j hj
      have := mem_rng.mp hj
      rw [cut_take _ _ (by omega) (by omega)]
    have hC := cst_len st
    have hup := cst_up sl hst
    have hsum : A.sum ≤ 20 := by have := sum_bd A 0 5 hA; omega
    have V : SV (cst st) A := ⟨hC, by omega, by omega, fun x hx => by have := hA x hx; omega, by omega⟩
    have S1 := serial_ok V
    have S2 := law_serial_ok V
    have CR := cost_row_ok (cst st) (by omega)
    have hcr : decide (0 < (cst st).length ∧ nth (cst st) 0 = 0 ∧ (cst st).Pairwise (· ≤ ·)) = true := decide_eq_true ⟨by omega, cst_zero st, hup⟩
    rw [hcr] at CR
    refine W.seq_eq (⟨A.map fun a => fr (share (cst st) A a)⟩ : Tu (Int × Int)) ⟨⟨trivial, trivial, S1.1⟩, S1.2⟩ ?_
    refine W.guard (Ok.exact (⟨⟨A.map fun a => fr (share (cst st) A a)⟩, true⟩ : H2 (Tu (Int × Int)) Bool) ⟨⟨⟨trivial, trivial, S2.1⟩, trivial⟩, ?_⟩ ⟨⟨trivial, ⟨trivial, CR.1⟩⟩, ?_⟩ ?_) ?_
    · show (⟨(m__law_serial ⟨cst st⟩ ⟨A⟩).v, true⟩ : H2 (Tu (Int × Int)) Bool) = _
      rw [S2.2]
    · show (⟨_, (m_is_cost_row ⟨cst st⟩).v⟩ : H2 (Tu (Int × Int)) Bool) = _
      rw [CR.2]
      rfl
    · simp; omega
    refine W.seq_eq (0, 1) ⟨⟨trivial, trivial⟩, rfl⟩ ?_
    have sov : ∀ a ∈ A, Ovr 12 (share (cst st) A a) := fun a ha => upto_ovr V _ fun m hm => lev_mem.mp (low_mem.mp hm).1
    have rov : ∀ L : List Int, (∀ a ∈ L, a ∈ A) → Ovr 12 (rs (L.map (share (cst st) A))) := fun L => by
      induction L with
      | nil => exact fun _ => Ovr.zero 12
      | cons a L ih => exact fun h => (sov a (h a List.mem_cons_self)).add (by omega) (ih fun x hx => h x (List.mem_cons_of_mem _ hx))
    have tot := total_share V (cst_zero st)
    refine W.seq_eq (fr (rs (A.map (share (cst st) A)))) (Ok.fold (fun i s => s = fr (rs ((A.take i).map (share (cst st) A)))) (A.map fun a => fr (share (cst st) A a)) ⟨trivial, rfl⟩ rfl (fun i x s hx hs => ?_) (fun s hs => ?_)) ?_
    · subst hs
      rw [List.getElem?_map] at hx
      cases e : A[i]? with
      | none => rw [e] at hx; cases hx
      | some a =>
        rw [e] at hx
        have hx : fr (share (cst st) A a) = x := Option.some.inj hx
        subst hx
        have ha : a ∈ A := List.mem_of_getElem? e
        have P := plus_ok (x := rs ((A.take i).map (share (cst st) A))) (y := share (cst st) A a) (by have := (rov (A.take i) fun x hx => List.mem_of_mem_take hx).den (by omega); omega) (by have := (sov a ha).den (by omega); omega)
        refine Ok.bind (Ok.eq (x := fr (rs ((A.take i).map (share (cst st) A)) + share (cst st) A a)) ⟨⟨trivial, trivial, P.1⟩, P.2⟩ ⟨trivial, ?_⟩)
        show fr _ = fr _
        rw [take_snoc e, List.map_append]
        exact congrArg fr (rs_snoc _ _).symm
    · rw [hs, List.length_map, List.take_length]
    have BD := bending_ok (cst st) (by omega)
    rw [cst_dif sl] at BD
    have hsq : (R.o2 T2 (fun x y : (List Int) => decide (x = y)) (R.pure st) (R.o1 (fun xs : (List Int) => PySem.W.Sortable (xs.map rep)) srtD (R.pure st))).p := ⟨trivial, ⟨trivial, srtb_int _⟩, trivial⟩
    have hsv : decide (st = srtD st) = decide (st.Pairwise (· ≤ ·)) := by
      rw [Bool.eq_iff_iff, decide_eq_true_iff, decide_eq_true_iff]
      exact srt_iff st
    have cix : ∀ k : Int, 0 ≤ k → k ≤ 25 → ixOk (cst st).length k := fun k h1 h2 => by rw [hC]; unfold ixOk; omega
    have asum0 : 0 ≤ A.sum := sum_nonneg A fun x hx => (hA x hx).1
    refine W.guard (Ok.orF ⟨⟨trivial, ⟨⟨trivial, ⟨trivial, trivial⟩, cix _ asum0 (by show A.sum ≤ 25; omega)⟩, trivial⟩, trivial⟩, ?_⟩ (Ok.exact (decide (st.Pairwise (· ≤ ·))) ⟨hsq, ?_⟩ ⟨⟨trivial, BD.1⟩, BD.2⟩ (sm_bool _))) ?_
    · show (!decide (fr (rs (A.map (share (cst st) A))) = (nth (cst st) A.sum, 1))) = false
      rw [tot, fr_int]
      simp
    · show decide (st = srtD st) = _
      rw [← hsv]
    refine W.seq_draw (by omega) (by omega) fun za z0 z1 => ?_
    obtain ⟨a, rfl⟩ : ∃ k : Nat, za = (k : Int) := ⟨za.toNat, by omega⟩
    have ha : a < A.length := by omega
    have hb : nth A (a : Int) ∈ A := nth_mem A a ha
    have hb2 := hA _ hb
    have iA : ∀ j : Nat, j < n → ixOk A.length (j : Int) := fun j hj => by unfold ixOk; omega
    -- greater asks
    refine W.seq_n ⟨⟨by simp; omega, ?_⟩, fun _ _ => trivial⟩ ?_
    · rintro _ rfl
      refine ⟨by rw [show (R.rng1 (R.pure (n : Int))).v = rng 0 (n : Int) from rfl, rng_len]; omega, fun y hy => ⟨trivial, fun _ => ?_⟩⟩
      obtain ⟨j, hj, rfl⟩ := mem_rngN.mp hy
      exact ⟨⟨⟨trivial, trivial, iA j hj⟩, ⟨trivial, trivial, iA a (by omega)⟩, trivial⟩, fun _ => ⟨trivial, trivial, iA j hj⟩, fun _ => ⟨⟨trivial, trivial, iA a (by omega)⟩, drwP (by omega) (by omega), fun _ _ _ _ => trivial⟩⟩
    rintro _ ⟨B, ⟨xs, hxs, he⟩, rfl⟩
    have hxs : xs = rng 0 (n : Int) := hxs
    subst hxs
    have hBl0 := he.1
    have hff : (rng 0 (n : Int)).filter (fun x => ((fun _ => R.pure true : Int → R Bool) x).v) = rng 0 (n : Int) := List.filter_eq_self.mpr fun _ _ => rfl
    rw [hff, rng_len] at hBl0
    have hBl : B.length = n := by omega
    have hBj : ∀ j : Nat, j < n → (nth A (j : Int) ≤ nth A (a : Int) ∧ nth B (j : Int) = nth A (j : Int)) ∨ (nth A (a : Int) < nth A (j : Int) ∧ nth A (a : Int) ≤ nth B (j : Int) ∧ nth B (j : Int) ≤ nth A (a : Int) + 2) := fun j hj => by
      have h1 : (rng 0 (n : Int))[j]? = some (j : Int) := by
        rw [rng_nat, List.getElem?_map, List.getElem?_range hj]
        rfl
      have h2 := he.2 j (j : Int) (nth B (j : Int)) (by rw [hff]; exact h1) (by rw [List.getElem?_eq_getElem (by omega), nth_at _ _ (by omega)])
      rcases h2 with ⟨h3, h4⟩ | ⟨h3, h4⟩
      · left
        have h3 : decide (nth A (j : Int) ≤ nth A (a : Int)) = true := h3
        exact ⟨of_decide_eq_true h3, h4⟩
      · right
        have h3 : decide (nth A (j : Int) ≤ nth A (a : Int)) = false := h3
        have h3 := of_decide_eq_false h3
        obtain ⟨_, y, rfl, hy, e⟩ := h4
        have hy := drw hy
        have e : nth B (j : Int) = nth A (a : Int) + y := e
        omega
    have hB6 : ∀ x ∈ B, 0 ≤ x ∧ x ≤ 6 := fun x hx => by
      obtain ⟨j, hj, rfl⟩ := mem_nth hx
      have h1 := hA _ (nth_mem A j (by omega))
      rcases hBj j (by omega) with h | h <;> omega
    have VB : SV (cst st) B := ⟨hC, by omega, by omega, fun x hx => by have := hB6 x hx; omega, by have := sum_bd B 0 6 hB6; omega⟩
    have S3 := serial_ok VB
    have hBa : nth B (a : Int) = nth A (a : Int) := by
      rcases hBj a (by omega) with h | h <;> omega
    have same := share_same (A' := B) V (nth A (a : Int)) hb (by omega) fun i hi => by
      rcases hBj i (by omega) with h | h
      · exact ⟨fun _ => h.2, fun z => by omega⟩
      · exact ⟨fun z => by omega, fun _ => h.2.1⟩
    have emap : ∀ (L : List Int) (f : Int → Int × Int), a < L.length → nth (L.map f) (a : Int) = f (nth L (a : Int)) := fun L f hL => nth_map f L a hL
    refine W.guard ⟨⟨⟨⟨trivial, trivial, S3.1⟩, trivial, ?_⟩, ⟨trivial, trivial, ?_⟩, trivial⟩, ?_⟩ ?_
    · show ixOk (m_serial_shares ⟨cst st⟩ ⟨B⟩).v.l.length (a : Int)
      rw [S3.2, List.length_map]; unfold ixOk; omega
    · show ixOk (A.map fun a => fr (share (cst st) A a)).length (a : Int)
      rw [List.length_map]; unfold ixOk; omega
    · show (!decide (nth (m_serial_shares ⟨cst st⟩ ⟨B⟩).v.l (a : Int) = nth (A.map fun a => fr (share (cst st) A a)) (a : Int))) = false
      rw [S3.2, emap B _ (by omega), emap A _ ha, hBa, same]
      simp
    -- alike asks
    have na : (n : Int) * nth A (a : Int) ≤ 20 := by
      have := Int.mul_le_mul (show (n : Int) ≤ 4 by omega) hb2.2 hb2.1 (by omega)
      omega
    have na0 : 0 ≤ (n : Int) * nth A (a : Int) := Int.mul_nonneg (by omega) hb2.1
    have LW := law_lowest_ok (p := nth (cst st) ((n : Int) * nth A (a : Int))) (q := (n : Int)) (by omega) (by omega)
    refine W.seq_eq (fr (rat (nth (cst st) ((n : Int) * nth A (a : Int))) n)) ⟨⟨⟨trivial, ⟨trivial, ⟨trivial, trivial, iA a (by omega)⟩, cmL (by show _ ≤ (n : Int); omega) (by show (n : Int) ≤ _; omega)⟩, cix _ na0 (by show (n : Int) * nth A (a : Int) ≤ 25; omega)⟩, trivial, LW.1⟩, LW.2⟩ ?_
    have LA := lowest_ok (p := nth (cst st) (nth A (a : Int) * (n : Int))) (q := (n : Int)) (by omega) (by omega)
    have enl : (A.length : Int) = (n : Int) := by omega
    have d1 := (Ovr.of (n := 12) (by omega) n1 (dvd12 n1 n4) (nth (cst st) ((n : Int) * nth A (a : Int)))).den (by omega)
    have d2 := (sov _ hb).den (by omega)
    have BL := below_ok (x := rat (nth (cst st) ((n : Int) * nth A (a : Int))) n) (y := share (cst st) A (nth A (a : Int))) (by omega) (by omega)
    have iS : ixOk (A.map fun a => fr (share (cst st) A a)).length (a : Int) := by rw [List.length_map]; unfold ixOk; omega
    refine W.guard (Ok.orF (Ok.exact (fr (rat (nth (cst st) ((n : Int) * nth A (a : Int))) n)) (Ok.pure rfl) ⟨⟨trivial, trivial, trivial, ⟨⟨trivial, ⟨⟨trivial, trivial, iA a (by omega)⟩, ⟨trivial, trivial⟩, cmR (by show _ ≤ (A.length : Int); omega) (by show (A.length : Int) ≤ _; omega)⟩, ?_⟩, ⟨trivial, trivial⟩, ?_⟩⟩, ?_⟩ (by simp)) (Ok.andF ⟨hsq, ?_⟩)) ?_
    · show ixOk (cst st).length (nth A (a : Int) * (A.length : Int))
      rw [enl, Int.mul_comm]; exact cix _ na0 (by omega)
    · show (m_lowest (nth (cst st) (nth A (a : Int) * (A.length : Int))) (A.length : Int)).p
      rw [enl]; exact LA.1
    · show (m_lowest (nth (cst st) (nth A (a : Int) * (A.length : Int))) (A.length : Int)).v = _
      rw [enl, LA.2, Int.mul_comm]
    · show decide (st = srtD st) = false ∨ _
      by_cases hp : st.Pairwise (· ≤ ·)
      · right
        refine ⟨⟨⟨trivial, ⟨trivial, trivial, iS⟩, ?_⟩, trivial⟩, ?_⟩
        · show (m__law_below (fr (rat (nth (cst st) ((n : Int) * nth A (a : Int))) n)) (nth (A.map fun a => fr (share (cst st) A a)) (a : Int))).p
          rw [emap A _ ha]; exact BL.1
        · show (m__law_below (fr (rat (nth (cst st) ((n : Int) * nth A (a : Int))) n)) (nth (A.map fun a => fr (share (cst st) A a)) (a : Int))).v = false
          rw [emap A _ ha, BL.2]
          apply decide_eq_false
          rw [Rat.not_lt]
          have := share_le V (cst_cv sl hp) (cst_zero st) (nth A (a : Int)) hb (by rw [enl]; omega)
          rw [enl] at this
          exact this
      · left
        rw [hsv]
        exact decide_eq_false hp
    -- means
    refine W.seq_eq A.sum ⟨by simp, rfl⟩ ?_
    have cC : ∀ k, CMul k A.sum := fun k => cmR (by omega) (by omega)
    have cA : ∀ x ∈ A, ∀ k, CMul k x := fun x hx k => by have := hA x hx; exact cmR (by omega) (by omega)
    have mean : ∀ f : Int → Int → R (Int × Int), (∀ p q, 0 < q → q < 1000000000 → Ok (f p q) (· = fr (rat p q))) → Ok (R.o1 T1 (fun xs : (List (Int × Int)) => Tu.mk xs) (R.lc (α := Int) (R.map Tu.l (R.pure (Tu.mk A))) (fun _ => R.pure true) (fun y34 => (R.ite (R.o2 T2 (fun i j : Int => decide (j < i)) (R.pure A.sum) (R.pure (0 : Int))) (R.c2 f (R.o2 CMul (fun i j : Int => i * j) (R.o2 (fun (xs : (Tu Int)) i => ixOk xs.l.length i) (fun xs i => nth xs.l i) (R.pure (Tu.mk (cst st))) (R.pure A.sum)) (R.pure y34)) (R.pure A.sum)) (R.tup2 (R.pure (0 : Int)) (R.pure (1 : Int))))))) (· = ⟨A.map fun y => if 0 < A.sum then fr (rat (nth (cst st) A.sum * y) A.sum) else (0, 1)⟩) := fun f hf => by
      refine ⟨⟨⟨trivial, by show A.length ≤ _; omega, fun y hy => ⟨trivial, fun _ => ⟨⟨trivial, trivial, trivial⟩, fun z => ?_, fun _ => ⟨trivial, trivial⟩⟩⟩⟩, trivial⟩, ?_⟩
      · have z : 0 < A.sum := of_decide_eq_true z
        have F := hf (nth (cst st) A.sum * y) A.sum z (by omega)
        exact ⟨⟨⟨trivial, trivial, cix _ asum0 (by show A.sum ≤ 25; omega)⟩, trivial, cA y hy _⟩, trivial, F.1⟩
      · show Tu.mk ((A.filter fun _ => true).map fun y => if decide (0 < A.sum) = true then (f (nth (cst st) A.sum * y) A.sum).v else (0, 1)) = _
        rw [filter_all]
        congr 1
        apply List.map_congr_left
        intro y hy
        by_cases z : 0 < A.sum
        · rw [if_pos (decide_eq_true z), if_pos z, (hf _ _ z (by omega)).2]
        · rw [if_neg (by simpa using z), if_neg z]
    have M1 := mean m__law_lowest fun p q h1 h2 => law_lowest_ok h1 h2
    have M2 := mean m_lowest fun p q h1 h2 => lowest_ok h1 h2
    refine W.seq_eq _ M1 ?_
    refine W.seq_draw (by omega) (by omega) fun most m0 m1 => ?_
    have E2 := even_ok V most
    have E1 : Ok (R.o1 T1 (fun xs : List Int => xs.sum) (R.lc (α := Int) (R.map Tu.l (R.pure (Tu.mk A))) (fun _ => R.pure true) (fun y36 => (R.o2 T2 (fun i j : Int => min i j) (R.pure y36) (R.pure most))))) (· = Em A most) := E2
    have M3 : Ok (m_mean_shares ⟨cst st⟩ ⟨A⟩) (· = ⟨A.map fun y => if 0 < A.sum then fr (rat (nth (cst st) A.sum * y) A.sum) else (0, 1)⟩) := by
      unfold m_mean_shares
      exact Ok.bind (Ok.eq (x := A.sum) ⟨by simp, rfl⟩ M2)
    refine W.guard (Ok.exact (⟨⟨A.map fun y => if 0 < A.sum then fr (rat (nth (cst st) A.sum * y) A.sum) else (0, 1)⟩, Em A most⟩ : H2 (Tu (Int × Int)) Int) ⟨⟨trivial, E1.1⟩, ?_⟩ ⟨⟨⟨trivial, trivial, M3.1⟩, ⟨trivial, trivial, E2.1⟩⟩, ?_⟩ ?_) ?_
    · show (⟨_, R.v _⟩ : H2 (Tu (Int × Int)) Int) = _
      rw [E1.2]
      rfl
    · show (⟨(m_mean_shares ⟨cst st⟩ ⟨A⟩).v, (m_even_asks ⟨A⟩ most).v⟩ : H2 (Tu (Int × Int)) Int) = _
      rw [M3.2, E2.2]
    · simp; omega
    -- bent rows
    refine W.seq_eq (cst st) ⟨by simp, rfl⟩ ?_
    refine W.seq_n ⟨⟨drwP (by omega) (by omega), by simp, fun _ _ _ _ => trivial⟩, drwP (by omega) (by omega), fun k hk => by have := drw hk; rw [hC]; omega⟩ ?_
    rintro _ ⟨v, k, hv, hk, rfl⟩
    have hbl : ((cst st).set k.toNat v).length = 26 := by simp [hC]
    generalize (cst st).set k.toNat v = bent at hbl
    have CB := cost_row_ok bent (by omega)
    refine W.guard (Ok.exact (decide (0 < bent.length ∧ nth bent 0 = 0 ∧ bent.Pairwise (· ≤ ·))) (Ok.imp (Ok.and (x := decide (nth bent 0 = 0)) (y := decide (bent = srtD bent)) ⟨⟨⟨trivial, trivial, by show ixOk bent.length 0; unfold ixOk; omega⟩, trivial, trivial⟩, rfl⟩ fun _ => ⟨⟨trivial, ⟨trivial, srtb_int _⟩, trivial⟩, rfl⟩) fun z ez => ?_) ⟨⟨⟨trivial, trivial⟩, CB.1⟩, CB.2⟩ (sm_bool _)) ?_
    · rw [ez, Bool.eq_iff_iff]
      simp only [Bool.and_eq_true, decide_eq_true_iff]
      rw [srt_iff]
      constructor
      · rintro ⟨h1, h2⟩; exact ⟨by omega, h1, h2⟩
      · rintro ⟨_, h1, h2⟩; exact ⟨h1, h2⟩
    -- offers
    refine ⟨⟨⟨trivial, trivial, ?_⟩, fun _ _ => trivial⟩, fun z => ?_, fun _ => trivial⟩
    · rintro _ _ rfl rfl
      exact offers_ok n a n1 n4 (by omega)
    · obtain ⟨x, ⟨y, ⟨_, _, _, _, hy⟩, ex⟩, e⟩ := z
      have hy : y = true := hy
      have ex : x = y := ex
      have e : true = !x := e
      rw [ex, hy] at e
      cases e
  · have B1 := bending_ok [0] (by simp)
    have B2 := cost_row_ok [] (by simp)
    have e1 : decide ((dif [0]).Pairwise (· ≤ ·)) = true := decide_eq_true (by unfold dif rng; simp)
    have e2 : decide (0 < ([] : List Int).length ∧ nth ([] : List Int) 0 = 0 ∧ ([] : List Int).Pairwise (· ≤ ·)) = false := decide_eq_false (by simp)
    rw [e1] at B1
    rw [e2] at B2
    refine ⟨⟨⟨⟨⟨trivial, trivial⟩, by simp⟩, B1.1⟩, fun _ => ⟨⟨trivial, by simp⟩, B2.1⟩⟩, ?_⟩
    rintro _ rfl
    show ((m_is_bending_up ⟨[0]⟩).v && !(m_is_cost_row ⟨[]⟩).v) = true
    rw [B1.2, B2.2]
    rfl
/-! ### the head -/
def d__law_exact : He.DefD := ⟨("_law_exact", none), "_law_exact", "_law_exact", defArgs s__law_exact, defBody s__law_exact, defScope s__law_exact, [], []⟩
def d__law_refill : He.DefD := ⟨("_law_refill", none), "_law_refill", "_law_refill", defArgs s__law_refill, defBody s__law_refill, defScope s__law_refill, [], []⟩
def d__law_draw : He.DefD := ⟨("_law_draw", none), "_law_draw", "_law_draw", defArgs s__law_draw, defBody s__law_draw, defScope s__law_draw, [], []⟩
def d_lowest : He.DefD := ⟨("lowest", none), "lowest", "lowest", defArgs s_lowest, defBody s_lowest, defScope s_lowest, [], []⟩
def d_add : He.DefD := ⟨("add", none), "add", "add", defArgs s_add, defBody s_add, defScope s_add, [], []⟩
def d_is_less : He.DefD := ⟨("is_less", none), "is_less", "is_less", defArgs s_is_less, defBody s_is_less, defScope s_is_less, [], []⟩
def d_is_cost_row : He.DefD := ⟨("is_cost_row", none), "is_cost_row", "is_cost_row", defArgs s_is_cost_row, defBody s_is_cost_row, defScope s_is_cost_row, [], []⟩
def d_is_bending_up : He.DefD := ⟨("is_bending_up", none), "is_bending_up", "is_bending_up", defArgs s_is_bending_up, defBody s_is_bending_up, defScope s_is_bending_up, [], []⟩
def d_even_asks : He.DefD := ⟨("even_asks", none), "even_asks", "even_asks", defArgs s_even_asks, defBody s_even_asks, defScope s_even_asks, [], []⟩
def d_serial_shares : He.DefD := ⟨("serial_shares", none), "serial_shares", "serial_shares", defArgs s_serial_shares, defBody s_serial_shares, defScope s_serial_shares, [], []⟩
def d_mean_shares : He.DefD := ⟨("mean_shares", none), "mean_shares", "mean_shares", defArgs s_mean_shares, defBody s_mean_shares, defScope s_mean_shares, [], []⟩
def d_alone_cost : He.DefD := ⟨("alone_cost", none), "alone_cost", "alone_cost", defArgs s_alone_cost, defBody s_alone_cost, defScope s_alone_cost, [], []⟩
def d_payers : He.DefD := ⟨("payers", none), "payers", "payers", defArgs s_payers, defBody s_payers, defScope s_payers, [], []⟩
def d_gain_from : He.DefD := ⟨("gain_from", none), "gain_from", "gain_from", defArgs s_gain_from, defBody s_gain_from, defScope s_gain_from, [], []⟩
def d_pivots : He.DefD := ⟨("pivots", none), "pivots", "pivots", defArgs s_pivots, defBody s_pivots, defScope s_pivots, [], []⟩
def d_pivot_gain : He.DefD := ⟨("pivot_gain", none), "pivot_gain", "pivot_gain", defArgs s_pivot_gain, defBody s_pivot_gain, defScope s_pivot_gain, [], []⟩
def d__law_lowest : He.DefD := ⟨("_law_lowest", none), "_law_lowest", "_law_lowest", defArgs s__law_lowest, defBody s__law_lowest, defScope s__law_lowest, [], []⟩
def d__law_plus : He.DefD := ⟨("_law_plus", none), "_law_plus", "_law_plus", defArgs s__law_plus, defBody s__law_plus, defScope s__law_plus, [], []⟩
def d__law_minus : He.DefD := ⟨("_law_minus", none), "_law_minus", "_law_minus", defArgs s__law_minus, defBody s__law_minus, defScope s__law_minus, [], []⟩
def d__law_below : He.DefD := ⟨("_law_below", none), "_law_below", "_law_below", defArgs s__law_below, defBody s__law_below, defScope s__law_below, [], []⟩
def d__law_serial : He.DefD := ⟨("_law_serial", none), "_law_serial", "_law_serial", defArgs s__law_serial, defBody s__law_serial, defScope s__law_serial, [], []⟩
def d__law_offers : He.DefD := ⟨("_law_offers", none), "_law_offers", "_law_offers", defArgs s__law_offers, defBody s__law_offers, defScope s__law_offers, [], []⟩
def d_law : He.DefD := ⟨("law", none), "law", "law", defArgs s_law, defBody s_law, defScope s_law, [], []⟩
def fnL : List He.DefD := [d__law_exact, d__law_refill, d__law_draw, d_lowest, d_add, d_is_less, d_is_cost_row, d_is_bending_up, d_even_asks, d_serial_shares, d_mean_shares, d_alone_cost, d_payers, d_gain_from, d_pivots, d_pivot_gain, d__law_lowest, d__law_plus, d__law_minus, d__law_below, d__law_serial, d__law_offers, d_law]
def faL : List He.Fa := [.glo "_law_exact", .glo "_law_refill", .glo "_law_draw", .glo "lowest", .glo "add", .glo "is_less", .glo "is_cost_row", .glo "is_bending_up", .glo "even_asks", .glo "serial_shares", .glo "mean_shares", .glo "alone_cost", .glo "payers", .glo "gain_from", .glo "pivots", .glo "pivot_gain", .glo "_law_lowest", .glo "_law_plus", .glo "_law_minus", .glo "_law_below", .glo "_law_serial", .glo "_law_offers", .glo "law", .free "abs", .free "all", .free "bool", .free "enumerate", .free "int", .free "isinstance", .free "len", .free "list", .free "min", .free "range", .free "set", .free "sorted", .free "str", .free "sum", .free "tuple"]
def tfL : List He.Defn := [("is_cost_row", none), ("is_bending_up", none)]
def exL (K : PySem.W.Frag) : Bool := (He.eqO (PySem.W.nsIn K mainGlobals "gcd") (some (some (.builtin "math.gcd"))) && true)
abbrev Rw : PySem.W.OpenRow := PySem.W.OpenLaw.row PySem.Challenge.rw_fairparts_k87_whole_costs_of_asks
abbrev hkL : PySem.W.Hook := He.hookX 4 faL fnL [] tfL exL
def obL (s : PySem.W.SharedT) : He.AlX := He.obsX 4 faL fnL [] tfL exL (HandSHeadRun.getT s)
theorem obL_eq (s : PySem.W.SharedT) : obL s = hkL.obs s.abs := He.obsX_eq (HandSHeadRun.getT_eq s)
def looseL : List PySem.Str := ["lowest", "add", "is_less", "is_cost_row", "is_bending_up", "even_asks", "serial_shares", "mean_shares", "alone_cost", "payers", "gain_from", "pivots", "pivot_gain", "_law_refill", "_law_draw", "_law_exact", "_law_lowest", "_law_plus", "_law_below", "_law_minus", "_law_serial", "_law_offers"]
theorem runL (w : World) : HandSHeadRun.RunEqI Rw (PySem.W.view Rw.prog [0, 26]) hkL obL 6000 looseL w := by
  show _ = _
  kernel_rfl
theorem codeL {K : PySem.W.Frag} {x qual : Str} {params : Arguments} {body : List Stmt} {scope : Scope} {fd : FuncData} {p : He.Defn} (F : FunD K x qual params body scope [] [] (He.fAd K p) fd) : fd.code = .ref (He.cT K p).1 := by
  obtain ⟨oc, od, dV, kV, doc, pm, an, cdv, ct, osl, rfl, lk, hcd, _, _⟩ := F.ex
  obtain ⟨c, hc⟩ := He.codeIn_ref hcd
  subst hc
  rw [show (He.cT K p).1 = c from He.codeOf_eq lk rfl]
theorem factsL {w : World} {K : PySem.W.Frag} {h : Heap} {mg : Str → Option Value} {f : Addr} (X : K.In h) (G : h.Ns mainGlobals mg) (hfa : mg ("law" : Str) = some (.ref f)) (c : He.SaysX faL fnL [] tfL exL w h K) (hW : wp_law (fun _ => False) (fun b => b = true)) :
    ∃ fd : FuncData, (∀ (s : Shared) (v : Value), BindsTo s fd ⟨[v], []⟩ [("script", v)]) ∧ ∀ base : Heap, K.In base → base.Ns mainGlobals mg → (∀ p ∈ tfL.map (He.cT K), LamX.TabB base mg p.1 p.2) → FnOk (PySem.Challenge.rw_fairparts_k87_whole_costs_of_asks).prog w K mg base CX0 14 f fd ["script"] (SpL K (fun P => P ∈ (tfL.map (He.cT K)).map (·.2))) := by
  have cd := c.t.d
  obtain ⟨fd__law_exact, F__law_exact⟩ := cd.defs (d := d__law_exact) (by simp [fnL])
  have g__law_exact : mg "_law_exact" = some (.ref (He.fAd K ("_law_exact", none))) := He.glo_ok X G (cd.facts (f := .glo "_law_exact") (by simp [faL]))
  obtain ⟨fd__law_refill, F__law_refill⟩ := cd.defs (d := d__law_refill) (by simp [fnL])
  have g__law_refill : mg "_law_refill" = some (.ref (He.fAd K ("_law_refill", none))) := He.glo_ok X G (cd.facts (f := .glo "_law_refill") (by simp [faL]))
  obtain ⟨fd__law_draw, F__law_draw⟩ := cd.defs (d := d__law_draw) (by simp [fnL])
  have g__law_draw : mg "_law_draw" = some (.ref (He.fAd K ("_law_draw", none))) := He.glo_ok X G (cd.facts (f := .glo "_law_draw") (by simp [faL]))
  obtain ⟨fd_lowest, F_lowest⟩ := cd.defs (d := d_lowest) (by simp [fnL])
  have g_lowest : mg "lowest" = some (.ref (He.fAd K ("lowest", none))) := He.glo_ok X G (cd.facts (f := .glo "lowest") (by simp [faL]))
  obtain ⟨fd_add, F_add⟩ := cd.defs (d := d_add) (by simp [fnL])
  have g_add : mg "add" = some (.ref (He.fAd K ("add", none))) := He.glo_ok X G (cd.facts (f := .glo "add") (by simp [faL]))
  obtain ⟨fd_is_less, F_is_less⟩ := cd.defs (d := d_is_less) (by simp [fnL])
  have g_is_less : mg "is_less" = some (.ref (He.fAd K ("is_less", none))) := He.glo_ok X G (cd.facts (f := .glo "is_less") (by simp [faL]))
  obtain ⟨fd_is_cost_row, F_is_cost_row⟩ := cd.defs (d := d_is_cost_row) (by simp [fnL])
  have g_is_cost_row : mg "is_cost_row" = some (.ref (He.fAd K ("is_cost_row", none))) := He.glo_ok X G (cd.facts (f := .glo "is_cost_row") (by simp [faL]))
  obtain ⟨fd_is_bending_up, F_is_bending_up⟩ := cd.defs (d := d_is_bending_up) (by simp [fnL])
  have g_is_bending_up : mg "is_bending_up" = some (.ref (He.fAd K ("is_bending_up", none))) := He.glo_ok X G (cd.facts (f := .glo "is_bending_up") (by simp [faL]))
  obtain ⟨fd_even_asks, F_even_asks⟩ := cd.defs (d := d_even_asks) (by simp [fnL])
  have g_even_asks : mg "even_asks" = some (.ref (He.fAd K ("even_asks", none))) := He.glo_ok X G (cd.facts (f := .glo "even_asks") (by simp [faL]))
  obtain ⟨fd_serial_shares, F_serial_shares⟩ := cd.defs (d := d_serial_shares) (by simp [fnL])
  have g_serial_shares : mg "serial_shares" = some (.ref (He.fAd K ("serial_shares", none))) := He.glo_ok X G (cd.facts (f := .glo "serial_shares") (by simp [faL]))
  obtain ⟨fd_mean_shares, F_mean_shares⟩ := cd.defs (d := d_mean_shares) (by simp [fnL])
  have g_mean_shares : mg "mean_shares" = some (.ref (He.fAd K ("mean_shares", none))) := He.glo_ok X G (cd.facts (f := .glo "mean_shares") (by simp [faL]))
  obtain ⟨fd_alone_cost, F_alone_cost⟩ := cd.defs (d := d_alone_cost) (by simp [fnL])
  have g_alone_cost : mg "alone_cost" = some (.ref (He.fAd K ("alone_cost", none))) := He.glo_ok X G (cd.facts (f := .glo "alone_cost") (by simp [faL]))
  obtain ⟨fd_payers, F_payers⟩ := cd.defs (d := d_payers) (by simp [fnL])
  have g_payers : mg "payers" = some (.ref (He.fAd K ("payers", none))) := He.glo_ok X G (cd.facts (f := .glo "payers") (by simp [faL]))
  obtain ⟨fd_gain_from, F_gain_from⟩ := cd.defs (d := d_gain_from) (by simp [fnL])
  have g_gain_from : mg "gain_from" = some (.ref (He.fAd K ("gain_from", none))) := He.glo_ok X G (cd.facts (f := .glo "gain_from") (by simp [faL]))
  obtain ⟨fd_pivots, F_pivots⟩ := cd.defs (d := d_pivots) (by simp [fnL])
  have g_pivots : mg "pivots" = some (.ref (He.fAd K ("pivots", none))) := He.glo_ok X G (cd.facts (f := .glo "pivots") (by simp [faL]))
  obtain ⟨fd_pivot_gain, F_pivot_gain⟩ := cd.defs (d := d_pivot_gain) (by simp [fnL])
  have g_pivot_gain : mg "pivot_gain" = some (.ref (He.fAd K ("pivot_gain", none))) := He.glo_ok X G (cd.facts (f := .glo "pivot_gain") (by simp [faL]))
  obtain ⟨fd__law_lowest, F__law_lowest⟩ := cd.defs (d := d__law_lowest) (by simp [fnL])
  have g__law_lowest : mg "_law_lowest" = some (.ref (He.fAd K ("_law_lowest", none))) := He.glo_ok X G (cd.facts (f := .glo "_law_lowest") (by simp [faL]))
  obtain ⟨fd__law_plus, F__law_plus⟩ := cd.defs (d := d__law_plus) (by simp [fnL])
  have g__law_plus : mg "_law_plus" = some (.ref (He.fAd K ("_law_plus", none))) := He.glo_ok X G (cd.facts (f := .glo "_law_plus") (by simp [faL]))
  obtain ⟨fd__law_minus, F__law_minus⟩ := cd.defs (d := d__law_minus) (by simp [fnL])
  have g__law_minus : mg "_law_minus" = some (.ref (He.fAd K ("_law_minus", none))) := He.glo_ok X G (cd.facts (f := .glo "_law_minus") (by simp [faL]))
  obtain ⟨fd__law_below, F__law_below⟩ := cd.defs (d := d__law_below) (by simp [fnL])
  have g__law_below : mg "_law_below" = some (.ref (He.fAd K ("_law_below", none))) := He.glo_ok X G (cd.facts (f := .glo "_law_below") (by simp [faL]))
  obtain ⟨fd__law_serial, F__law_serial⟩ := cd.defs (d := d__law_serial) (by simp [fnL])
  have g__law_serial : mg "_law_serial" = some (.ref (He.fAd K ("_law_serial", none))) := He.glo_ok X G (cd.facts (f := .glo "_law_serial") (by simp [faL]))
  obtain ⟨fd__law_offers, F__law_offers⟩ := cd.defs (d := d__law_offers) (by simp [fnL])
  have g__law_offers : mg "_law_offers" = some (.ref (He.fAd K ("_law_offers", none))) := He.glo_ok X G (cd.facts (f := .glo "_law_offers") (by simp [faL]))
  obtain ⟨fd_law, F_law⟩ := cd.defs (d := d_law) (by simp [fnL])
  have g_law : mg "law" = some (.ref (He.fAd K ("law", none))) := He.glo_ok X G (cd.facts (f := .glo "law") (by simp [faL]))
  have z_abs : mg "abs" = none := He.free_ok X G (cd.facts (f := .free "abs") (by simp [faL]))
  have z_all : mg "all" = none := He.free_ok X G (cd.facts (f := .free "all") (by simp [faL]))
  have z_bool : mg "bool" = none := He.free_ok X G (cd.facts (f := .free "bool") (by simp [faL]))
  have z_enumerate : mg "enumerate" = none := He.free_ok X G (cd.facts (f := .free "enumerate") (by simp [faL]))
  have z_int : mg "int" = none := He.free_ok X G (cd.facts (f := .free "int") (by simp [faL]))
  have z_isinstance : mg "isinstance" = none := He.free_ok X G (cd.facts (f := .free "isinstance") (by simp [faL]))
  have z_len : mg "len" = none := He.free_ok X G (cd.facts (f := .free "len") (by simp [faL]))
  have z_list : mg "list" = none := He.free_ok X G (cd.facts (f := .free "list") (by simp [faL]))
  have z_min : mg "min" = none := He.free_ok X G (cd.facts (f := .free "min") (by simp [faL]))
  have z_range : mg "range" = none := He.free_ok X G (cd.facts (f := .free "range") (by simp [faL]))
  have z_set : mg "set" = none := He.free_ok X G (cd.facts (f := .free "set") (by simp [faL]))
  have z_sorted : mg "sorted" = none := He.free_ok X G (cd.facts (f := .free "sorted") (by simp [faL]))
  have z_str : mg "str" = none := He.free_ok X G (cd.facts (f := .free "str") (by simp [faL]))
  have z_sum : mg "sum" = none := He.free_ok X G (cd.facts (f := .free "sum") (by simp [faL]))
  have z_tuple : mg "tuple" = none := He.free_ok X G (cd.facts (f := .free "tuple") (by simp [faL]))
  have zb_gcd : mg "gcd" = some (.builtin "math.gcd") := PySem.W.mg_of X G (He.eqO_ok (Bool.and_eq_true_iff.mp c.more).1)
  have e := hfa.symm.trans g_law
  cases e
  refine ⟨fd_law, fun s v => FunD.bindsA (ps := ["script"]) F_law (fun _ _ _ _ _ _ us hl => match us, hl with | [_], _ => rfl) s [v] rfl, fun base KB NB TB => ?_⟩
  have tb_is_cost_row := TB (He.cT K ("is_cost_row", none)) (List.mem_map.mpr ⟨_, by simp [tfL], rfl⟩)
  have tb_is_bending_up := TB (He.cT K ("is_bending_up", none)) (List.mem_map.mpr ⟨_, by simp [tfL], rfl⟩)
  have c__law_exact := w__law_exact (P := (PySem.Challenge.rw_fairparts_k87_whole_costs_of_asks).prog) (w := w) (mg := mg) (base := base) (T := fun P => P ∈ (tfL.map (He.cT K)).map (·.2)) z_all z_bool z_int z_isinstance z_len z_list z_range z_str z_tuple F__law_exact g__law_exact (FunD.bindsN F__law_exact fun _ _ _ _ _ _ us hl => match us, hl with | [_, _], _ => rfl) 12
  have c__law_refill := w__law_refill (P := (PySem.Challenge.rw_fairparts_k87_whole_costs_of_asks).prog) (w := w) (mg := mg) (base := base) (T := fun P => P ∈ (tfL.map (He.cT K)).map (·.2)) z_int z_len F__law_refill g__law_refill (FunD.bindsN F__law_refill fun _ _ _ _ _ _ us hl => match us, hl with | [_, _], _ => rfl)
  have c__law_draw := w__law_draw (P := (PySem.Challenge.rw_fairparts_k87_whole_costs_of_asks).prog) (w := w) (mg := mg) (base := base) (T := fun P => P ∈ (tfL.map (He.cT K)).map (·.2)) z_int c__law_refill F__law_draw g__law_draw (FunD.bindsN F__law_draw fun _ _ _ _ _ _ us hl => match us, hl with | [_, _, _], _ => rfl)
  have c_lowest := w_lowest (P := (PySem.Challenge.rw_fairparts_k87_whole_costs_of_asks).prog) (w := w) (mg := mg) (base := base) (T := fun P => P ∈ (tfL.map (He.cT K)).map (·.2)) zb_gcd F_lowest g_lowest (FunD.bindsN F_lowest fun _ _ _ _ _ _ us hl => match us, hl with | [_, _], _ => rfl)
  have c_add := w_add (P := (PySem.Challenge.rw_fairparts_k87_whole_costs_of_asks).prog) (w := w) (mg := mg) (base := base) (T := fun P => P ∈ (tfL.map (He.cT K)).map (·.2)) c_lowest F_add g_add (FunD.bindsN F_add fun _ _ _ _ _ _ us hl => match us, hl with | [_, _], _ => rfl)
  have c_is_less := w_is_less (P := (PySem.Challenge.rw_fairparts_k87_whole_costs_of_asks).prog) (w := w) (mg := mg) (base := base) (T := fun P => P ∈ (tfL.map (He.cT K)).map (·.2))  F_is_less g_is_less (FunD.bindsN F_is_less fun _ _ _ _ _ _ us hl => match us, hl with | [_, _], _ => rfl)
  have c_is_cost_row := w_is_cost_row (P := (PySem.Challenge.rw_fairparts_k87_whole_costs_of_asks).prog) (w := w) (mg := mg) (base := base) (T := fun P => P ∈ (tfL.map (He.cT K)).map (·.2)) z_all z_len z_range F_is_cost_row g_is_cost_row (FunD.bindsN F_is_cost_row fun _ _ _ _ _ _ us hl => match us, hl with | [_], _ => rfl) ⟨tb_is_cost_row.code, tb_is_cost_row.bm, tb_is_cost_row.gP⟩ (List.mem_map.mpr ⟨_, List.mem_map.mpr ⟨_, by simp [tfL], rfl⟩, rfl⟩) (codeL F_is_cost_row)
  have c_is_bending_up := w_is_bending_up (P := (PySem.Challenge.rw_fairparts_k87_whole_costs_of_asks).prog) (w := w) (mg := mg) (base := base) (T := fun P => P ∈ (tfL.map (He.cT K)).map (·.2)) z_all z_len z_range F_is_bending_up g_is_bending_up (FunD.bindsN F_is_bending_up fun _ _ _ _ _ _ us hl => match us, hl with | [_], _ => rfl) ⟨tb_is_bending_up.code, tb_is_bending_up.bm, tb_is_bending_up.gP⟩ (List.mem_map.mpr ⟨_, List.mem_map.mpr ⟨_, by simp [tfL], rfl⟩, rfl⟩) (codeL F_is_bending_up)
  have c_even_asks := w_even_asks (P := (PySem.Challenge.rw_fairparts_k87_whole_costs_of_asks).prog) (w := w) (mg := mg) (base := base) (T := fun P => P ∈ (tfL.map (He.cT K)).map (·.2)) z_min z_sum F_even_asks g_even_asks (FunD.bindsN F_even_asks fun _ _ _ _ _ _ us hl => match us, hl with | [_, _], _ => rfl)
  have c_serial_shares := w_serial_shares (P := (PySem.Challenge.rw_fairparts_k87_whole_costs_of_asks).prog) (w := w) (mg := mg) (base := base) (T := fun P => P ∈ (tfL.map (He.cT K)).map (·.2)) z_enumerate z_len z_set z_sorted z_tuple c_even_asks c_lowest c_add F_serial_shares g_serial_shares (FunD.bindsN F_serial_shares fun _ _ _ _ _ _ us hl => match us, hl with | [_, _], _ => rfl)
  have c_mean_shares := w_mean_shares (P := (PySem.Challenge.rw_fairparts_k87_whole_costs_of_asks).prog) (w := w) (mg := mg) (base := base) (T := fun P => P ∈ (tfL.map (He.cT K)).map (·.2)) z_sum z_tuple c_lowest F_mean_shares g_mean_shares (FunD.bindsN F_mean_shares fun _ _ _ _ _ _ us hl => match us, hl with | [_, _], _ => rfl)
  have c_alone_cost := w_alone_cost (P := (PySem.Challenge.rw_fairparts_k87_whole_costs_of_asks).prog) (w := w) (mg := mg) (base := base) (T := fun P => P ∈ (tfL.map (He.cT K)).map (·.2)) z_len c_lowest F_alone_cost g_alone_cost (FunD.bindsN F_alone_cost fun _ _ _ _ _ _ us hl => match us, hl with | [_, _, _], _ => rfl)
  have c_payers := w_payers (P := (PySem.Challenge.rw_fairparts_k87_whole_costs_of_asks).prog) (w := w) (mg := mg) (base := base) (T := fun P => P ∈ (tfL.map (He.cT K)).map (·.2)) z_len z_list z_range c_lowest c_is_less F_payers g_payers (FunD.bindsN F_payers fun _ _ _ _ _ _ us hl => match us, hl with | [_, _], _ => rfl)
  have c_gain_from := w_gain_from (P := (PySem.Challenge.rw_fairparts_k87_whole_costs_of_asks).prog) (w := w) (mg := mg) (base := base) (T := fun P => P ∈ (tfL.map (He.cT K)).map (·.2)) c_payers c_add F_gain_from g_gain_from (FunD.bindsN F_gain_from fun _ _ _ _ _ _ us hl => match us, hl with | [_, _, _, _], _ => rfl)
  have c_pivots := w_pivots (P := (PySem.Challenge.rw_fairparts_k87_whole_costs_of_asks).prog) (w := w) (mg := mg) (base := base) (T := fun P => P ∈ (tfL.map (He.cT K)).map (·.2)) z_len z_range z_sum z_tuple c_lowest c_is_less c_add F_pivots g_pivots (FunD.bindsN F_pivots fun _ _ _ _ _ _ us hl => match us, hl with | [_, _], _ => rfl)
  have c_pivot_gain := w_pivot_gain (P := (PySem.Challenge.rw_fairparts_k87_whole_costs_of_asks).prog) (w := w) (mg := mg) (base := base) (T := fun P => P ∈ (tfL.map (He.cT K)).map (·.2)) c_pivots c_add F_pivot_gain g_pivot_gain (FunD.bindsN F_pivot_gain fun _ _ _ _ _ _ us hl => match us, hl with | [_, _, _, _], _ => rfl)
  have c__law_lowest := w__law_lowest (P := (PySem.Challenge.rw_fairparts_k87_whole_costs_of_asks).prog) (w := w) (mg := mg) (base := base) (T := fun P => P ∈ (tfL.map (He.cT K)).map (·.2)) z_abs z_int F__law_lowest g__law_lowest (FunD.bindsN F__law_lowest fun _ _ _ _ _ _ us hl => match us, hl with | [_, _], _ => rfl)
  have c__law_plus := w__law_plus (P := (PySem.Challenge.rw_fairparts_k87_whole_costs_of_asks).prog) (w := w) (mg := mg) (base := base) (T := fun P => P ∈ (tfL.map (He.cT K)).map (·.2)) c__law_lowest F__law_plus g__law_plus (FunD.bindsN F__law_plus fun _ _ _ _ _ _ us hl => match us, hl with | [_, _], _ => rfl)
  have c__law_minus := w__law_minus (P := (PySem.Challenge.rw_fairparts_k87_whole_costs_of_asks).prog) (w := w) (mg := mg) (base := base) (T := fun P => P ∈ (tfL.map (He.cT K)).map (·.2)) c__law_lowest F__law_minus g__law_minus (FunD.bindsN F__law_minus fun _ _ _ _ _ _ us hl => match us, hl with | [_, _], _ => rfl)
  have c__law_below := w__law_below (P := (PySem.Challenge.rw_fairparts_k87_whole_costs_of_asks).prog) (w := w) (mg := mg) (base := base) (T := fun P => P ∈ (tfL.map (He.cT K)).map (·.2))  F__law_below g__law_below (FunD.bindsN F__law_below fun _ _ _ _ _ _ us hl => match us, hl with | [_, _], _ => rfl)
  have c__law_serial := w__law_serial (P := (PySem.Challenge.rw_fairparts_k87_whole_costs_of_asks).prog) (w := w) (mg := mg) (base := base) (T := fun P => P ∈ (tfL.map (He.cT K)).map (·.2)) z_len z_min z_range z_set z_sorted z_sum z_tuple c__law_lowest c__law_plus F__law_serial g__law_serial (FunD.bindsN F__law_serial fun _ _ _ _ _ _ us hl => match us, hl with | [_, _], _ => rfl)
  have c__law_offers := w__law_offers (P := (PySem.Challenge.rw_fairparts_k87_whole_costs_of_asks).prog) (w := w) (mg := mg) (base := base) (T := fun P => P ∈ (tfL.map (He.cT K)).map (·.2)) z_abs z_int z_len z_list z_range z_sum z_tuple c__law_draw c__law_lowest c_payers c__law_exact c__law_minus c_gain_from c__law_below c__law_plus c_pivots c_pivot_gain F__law_offers g__law_offers (FunD.bindsN F__law_offers fun _ _ _ _ _ _ us hl => match us, hl with | [_, _, _, _], _ => rfl)
  exact w_law z_list z_min z_range z_sorted z_sum z_tuple c__law_draw c_serial_shares c__law_serial c_is_cost_row c__law_exact c__law_plus c_is_bending_up c__law_lowest c__law_below c_alone_cost c_mean_shares c_even_asks c__law_offers F_law hW
end FP
open PySem PySem.W PySem.Calls PyProof.Rows
theorem cwH (hW : FP.wp_law (fun _ => False) (fun b => b = true)) : PySem.Challenge.rw_fairparts_k87_whole_costs_of_asks.Holds := by
  w_on; o_law
  refine HandSHeadRun.head_imp (r := OpenLaw.row PySem.Challenge.rw_fairparts_k87_whole_costs_of_asks) (q := view (OpenLaw.row PySem.Challenge.rw_fairparts_k87_whole_costs_of_asks).prog [0, 26]) (H := FP.hkL) (ob := FP.obL) (M := 6000) (loose := FP.looseL) (d := HandSHeadRun.topDef (OpenLaw.row PySem.Challenge.rw_fairparts_k87_whole_costs_of_asks).prog 26) (kwd := []) FP.obL_eq FP.runL (by kernel_rfl) (by kernel_rfl) (by kernel_rfl) (by rfl) (by first | assumption | decide +kernel) (by decide +kernel) ⟨rfl, rfl, rfl, rfl, rfl, by decide +kernel⟩ ?hw ?hc
  case hw => w_witness2
  case hc =>
    refine LamX.walk_ofTsE (l := PySem.Challenge.rw_fairparts_k87_whole_costs_of_asks) (n := 63) (k := 14) (x := "script") (CX := fun _ => L2.CX0) rfl (by decide) (by kernel_rfl) ⟨rfl, by decide, by decide⟩ ?F (fun _ _ _ _ _ z => z)
    intro w mg fa h Y G hmg0
    obtain ⟨K, KX, c⟩ := Y
    have hmg : mg ("law" : PySem.Str) = some (.ref fa) := by
      have e : (HandSHeadRun.topDef (OpenLaw.row PySem.Challenge.rw_fairparts_k87_whole_costs_of_asks).prog 26).name = ("law" : PySem.Str) := by kernel_rfl
      rw [← e]
      exact hmg0
    obtain ⟨fd, hb, hF⟩ := FP.factsL (w := w) KX G hmg c hW
    refine ⟨K, KX, fd, FP.tfL.map (He.cT K), FP.SpL K (fun P => P ∈ (FP.tfL.map (He.cT K)).map (·.2)), fun p hp => ?_, fun p hp => ?_, fun p hp => ?_, hb, fun H a ns hl _ hH hS => ⟨a, ns, rfl, hS, fun P hP => ?_, fun _ => rfl⟩, hF⟩
    · obtain ⟨q, hq, rfl⟩ := List.mem_map.mp hp
      exact c.empty q hq
    · obtain ⟨q, hq, rfl⟩ := List.mem_map.mp hp
      exact c.out q hq
    · obtain ⟨q, hq, rfl⟩ := List.mem_map.mp hp
      exact codeHd_of_K KX (c.hd q hq)
    · obtain ⟨q, hq, rfl⟩ := List.mem_map.mp hP
      exact ⟨#[], hH q hq, trivial⟩
theorem PySem.Challenge.cw_fairparts_k87_whole_costs_of_asks_holds : PySem.Challenge.rw_fairparts_k87_whole_costs_of_asks.Holds :=
  cwH FP.wp_ok
