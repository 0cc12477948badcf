import PyProof.Rows.All
import PySem.Challenge.RW_timesagree_k67_loads_and_peaks
import HandS.ForMost
import HandS.TupAny
import HandS.Deep
import HandS.Style
import HandS.SortInts
import HandS.IsInst
import HandS.NoneIn
import HandS.Walk
import HandS.DictComp
import HandS.TupLen
import HandS.RaiseMore
import HandS.Zip
import HandS.Strs
import KE.GoesEnum
import KE.GoesMore
import KE.LtSeq
import HandS.Conv
import KE.SortData
import HandS.SortKw
import KE.DatumOrd
import HandS.TupMul
import HandS.Wide
import HandS.Iter
import PyProof.LongRange
import PyProof.ListRange
import HandS.Comp
import HandS.Sort
import KE.DataMinMax
import KE.LtData
import HandS.SetFor
import HandS.Gcd
import KE.GoesZip
import HandS.Text
import HandS.Codes
import PyProof.SumWalkG
import HandS.DictTup
import HandS.TupLe
import HandS.SetBool
import HandS.Set
set_option Elab.async false
set_option linter.all false
set_option maxRecDepth 100000
/-! The data layer, part A: data D, what stands for it, the frame of a body. -/
namespace Z
open PySem PySem.Spec PyProof.Rows L2

/-- data: trees -/
inductive D where
  | non | bl (b : Bool) | int (i : Int) | str (x : Str)
  | tup (ds : List D) | lst (ds : List D) | sc (ns : List Int) | kt (ds : List D)
  | dk (kvs : List (Key × D)) | dt (kvs : List (List Key × D))

/-- addresses that may change (owned) -/
abbrev Ad := Addr → Prop
abbrev H0 : Hp := fun _ => none

theorem rd0 {a : Addr} {u : HO} : ¬ Rd H0 a u := fun h => by
  rcases h with h | ⟨_, h⟩ <;> cases h
/-- a tuple whose object is known, and has no dict of its own -/
def KtOk (K : PySem.W.Frag) (H : Hp) (O : Ad) (a : Addr) (vs : List V) : Prop := (SqT K H0 a vs ∧ ∃ o, K.lookup a = some o ∧ o.dict = none) ∨ (¬ O a ∧ ∃ o : Obj, o.dict = none ∧ H a = some (.frz o (.tup vs)))
mutual
/-- v stands for the data d, in what does not change -/
inductive Rep (K : PySem.W.Frag) (H : Hp) (O : Ad) : D → V → Prop
  | non : Rep K H O .non .non
  | bl (b : Bool) : Rep K H O (.bl b) (.bl b)
  | int (i : Int) : Rep K H O (.int i) (.int i)
  | str (x : Str) : PySem.PyData.strOk x = true → Rep K H O (.str x) (.str x)
  | kt {a : Addr} {vs : List V} {ds : List D} : KtOk K H O a vs → RepL K H O ds vs → Rep K H O (.kt ds) (.ref a)
  | tup {a : Addr} {vs : List V} {ds : List D} : ¬ O a → H a = some (.tup vs) → RepL K H O ds vs → Rep K H O (.tup ds) (.ref a)
  | lst {a : Addr} {vs : List V} {ds : List D} : ¬ O a → H a = some (.lst vs) → RepL K H O ds vs → Rep K H O (.lst ds) (.ref a)
  | sc {a : Addr} {ns : List Int} : ((¬ O a ∧ Rd H a (.lst (ns.map V.int))) ∨ SqL K H0 a (ns.map V.int)) → Rep K H O (.sc ns) (.ref a)
  | dk {a : Addr} {kvs : List (Key × D)} {es : List (Key × V)} : ¬ O a → Rd H a (.dK es) → kvs.map (·.1) = es.map (·.1) → RepL K H O (kvs.map (·.2)) (es.map (·.2)) → Rep K H O (.dk kvs) (.ref a)
  | dt {a : Addr} {kvs : List (List Key × D)} {es : List (List Key × V)} : ¬ O a → H a = some (.dT es) → kvs.map (·.1) = es.map (·.1) → RepL K H O (kvs.map (·.2)) (es.map (·.2)) → Rep K H O (.dt kvs) (.ref a)
inductive RepL (K : PySem.W.Frag) (H : Hp) (O : Ad) : List D → List V → Prop
  | nil : RepL K H O [] []
  | cons {d : D} {v : V} {ds : List D} {vs : List V} : Rep K H O d v → RepL K H O ds vs → RepL K H O (d :: ds) (v :: vs)
end

/-- from (H, O) to (H', O'): what is not owned stays; nothing that stood becomes owned -/
structure Step (H : Hp) (O : Ad) (H' : Hp) (O' : Ad) : Prop where
  keep : ∀ b o, ¬ O b → H b = some o → H' b = some o
  sub : ∀ a, O' a → O a ∨ H a = none
theorem Step.refl {H : Hp} {O : Ad} : Step H O H O := ⟨fun _ _ _ h => h, fun _ h => .inl h⟩
theorem Step.nO {H H' : Hp} {O O' : Ad} (s : Step H O H' O') {b : Addr} {o : HO} (h : ¬ O b) (e : H b = some o) : ¬ O' b := fun z => by
  rcases s.sub b z with q | q
  · exact h q
  · rw [q] at e; cases e
theorem Step.keepR {H H' : Hp} {O O' : Ad} (s : Step H O H' O') {b : Addr} {u : HO} (n : ¬ O b) (h : Rd H b u) : Rd H' b u := by
  rcases h with h | ⟨o, h⟩
  · exact .inl (s.keep _ _ n h)
  · exact .inr ⟨o, s.keep _ _ n h⟩
theorem Step.nOR {H H' : Hp} {O O' : Ad} (s : Step H O H' O') {b : Addr} {u : HO} (n : ¬ O b) (h : Rd H b u) : ¬ O' b := by
  rcases h with h | ⟨o, h⟩
  · exact s.nO n h
  · exact s.nO n h
theorem Step.trans {H H1 H2 : Hp} {O O1 O2 : Ad} (s : Step H O H1 O1) (t : Step H1 O1 H2 O2) : Step H O H2 O2 where
  keep := fun b o n e => t.keep b o (s.nO n e) (s.keep b o n e)
  sub := fun a z => by
    rcases t.sub a z with q | q
    · exact s.sub a q
    · by_cases n : O a
      · exact .inl n
      · cases e : H a with
        | none => exact .inr rfl
        | some o => rw [s.keep a o n e] at q; cases q
/-- the heap grows -/
abbrev Ext (H H' : Hp) : Prop := L2.Same H H'
theorem Step.ext {H H' : Hp} {O : Ad} (e : Ext H H') : Step H O H' O := ⟨fun b o _ h => e b o h, fun _ h => .inl h⟩

theorem KtOk.sq {K : PySem.W.Frag} {H : Hp} {O : Ad} {a : Addr} {vs : List V} (h : KtOk K H O a vs) : SqT K H a vs := by
  rcases h with ⟨h | h, _⟩ | ⟨_, o, _, h⟩
  · exact (rd0 h).elim
  · exact .inr h
  · exact .inl (.inr ⟨o, h⟩)
theorem KtOk.mono {K : PySem.W.Frag} {H H' : Hp} {O O' : Ad} {a : Addr} {vs : List V} (s : Step H O H' O') (h : KtOk K H O a vs) : KtOk K H' O' a vs := by
  rcases h with h | ⟨n, o, hd, h⟩
  · exact .inl h
  · exact .inr ⟨s.nO n h, o, hd, s.keep _ _ n h⟩
mutual
theorem Rep.mono {K : PySem.W.Frag} {H H' : Hp} {O O' : Ad} (s : Step H O H' O') : ∀ {d : D} {v : V}, Rep K H O d v → Rep K H' O' d v
  | _, _, .non => .non
  | _, _, .bl b => .bl b
  | _, _, .int i => .int i
  | _, _, .str x h => .str x h
  | _, _, .kt h r => .kt (h.mono s) (RepL.mono s r)
  | _, _, .tup n h r => .tup (s.nO n h) (s.keep _ _ n h) (RepL.mono s r)
  | _, _, .lst n h r => .lst (s.nO n h) (s.keep _ _ n h) (RepL.mono s r)
  | _, _, .sc h => .sc (by
      rcases h with ⟨n, h | ⟨o, h⟩⟩ | h
      · exact .inl ⟨s.nO n h, .inl (s.keep _ _ n h)⟩
      · exact .inl ⟨s.nO n h, .inr ⟨o, s.keep _ _ n h⟩⟩
      · exact .inr h)
  | _, _, .dk n h k r => .dk (s.nOR n h) (s.keepR n h) k (RepL.mono s r)
  | _, _, .dt n h k r => .dt (s.nO n h) (s.keep _ _ n h) k (RepL.mono s r)
theorem RepL.mono {K : PySem.W.Frag} {H H' : Hp} {O O' : Ad} (s : Step H O H' O') : ∀ {ds : List D} {vs : List V}, RepL K H O ds vs → RepL K H' O' ds vs
  | _, _, .nil => .nil
  | _, _, .cons h r => .cons (Rep.mono s h) (RepL.mono s r)
end

theorem RepL.length {K : PySem.W.Frag} {H : Hp} {O : Ad} : ∀ {ds : List D} {vs : List V}, RepL K H O ds vs → ds.length = vs.length
  | _, _, .nil => rfl
  | _, _, .cons _ r => by rw [List.length_cons, List.length_cons, RepL.length r]
theorem RepL.get {K : PySem.W.Frag} {H : Hp} {O : Ad} : ∀ {ds : List D} {vs : List V} {i : Nat} {d : D}, RepL K H O ds vs → ds[i]? = some d → ∃ v, vs[i]? = some v ∧ Rep K H O d v
  | _, _, _, _, .nil, e => by simp at e
  | _, _, 0, _, .cons r _, e => by simp at e; subst e; exact ⟨_, rfl, r⟩
  | _, _, i + 1, _, .cons _ t, e => by
    obtain ⟨v, h1, h2⟩ := RepL.get (i := i) t (by simpa using e)
    exact ⟨v, by simpa using h1, h2⟩
theorem RepL.getV {K : PySem.W.Frag} {H : Hp} {O : Ad} : ∀ {ds : List D} {vs : List V} {i : Nat} {v : V}, RepL K H O ds vs → vs[i]? = some v → ∃ d, ds[i]? = some d ∧ Rep K H O d v
  | _, _, _, _, .nil, e => by simp at e
  | _, _, 0, _, .cons r _, e => by simp at e; subst e; exact ⟨_, rfl, r⟩
  | _, _, i + 1, _, .cons _ t, e => by
    obtain ⟨v, h1, h2⟩ := RepL.getV (i := i) t (by simpa using e)
    exact ⟨v, by simpa using h1, h2⟩
theorem RepL.append {K : PySem.W.Frag} {H : Hp} {O : Ad} : ∀ {ds es : List D} {vs ws : List V}, RepL K H O ds vs → RepL K H O es ws → RepL K H O (ds ++ es) (vs ++ ws)
  | _, _, _, _, .nil, s => s
  | _, _, _, _, .cons r t, s => .cons r (RepL.append t s)
theorem RepL.take {K : PySem.W.Frag} {H : Hp} {O : Ad} : ∀ {ds : List D} {vs : List V} (n : Nat), RepL K H O ds vs → RepL K H O (ds.take n) (vs.take n)
  | _, _, 0, _ => .nil
  | _, _, _ + 1, .nil => .nil
  | _, _, n + 1, .cons r t => .cons r (RepL.take n t)
theorem RepL.drop {K : PySem.W.Frag} {H : Hp} {O : Ad} : ∀ {ds : List D} {vs : List V} (n : Nat), RepL K H O ds vs → RepL K H O (ds.drop n) (vs.drop n)
  | _, _, 0, r => r
  | _, _, _ + 1, .nil => .nil
  | _, _, n + 1, .cons _ t => RepL.drop n t
theorem RepL.reverse {K : PySem.W.Frag} {H : Hp} {O : Ad} : ∀ {ds : List D} {vs : List V}, RepL K H O ds vs → RepL K H O ds.reverse vs.reverse
  | _, _, .nil => .nil
  | _, _, .cons r t => by
    rw [List.reverse_cons, List.reverse_cons]
    exact RepL.append (RepL.reverse t) (.cons r .nil)
theorem RepL.set {K : PySem.W.Frag} {H : Hp} {O : Ad} {d : D} {v : V} (r : Rep K H O d v) : ∀ {ds : List D} {vs : List V} (i : Nat), RepL K H O ds vs → RepL K H O (ds.set i d) (vs.set i v)
  | _, _, _, .nil => .nil
  | _, _, 0, .cons _ t => .cons r t
  | _, _, i + 1, .cons q t => .cons q (RepL.set r i t)
theorem RepL.dropLast {K : PySem.W.Frag} {H : Hp} {O : Ad} {ds : List D} {vs : List V} (r : RepL K H O ds vs) : RepL K H O ds.dropLast vs.dropLast := by
  rw [List.dropLast_eq_take, List.dropLast_eq_take, r.length]
  exact r.take _
theorem RepL.eraseIdx {K : PySem.W.Frag} {H : Hp} {O : Ad} : ∀ {ds : List D} {vs : List V} (n : Nat), RepL K H O ds vs → RepL K H O (ds.eraseIdx n) (vs.eraseIdx n)
  | _, _, _, .nil => .nil
  | _, _, 0, .cons _ t => t
  | _, _, n + 1, .cons r t => .cons r (RepL.eraseIdx n t)
theorem RepL.ints {K : PySem.W.Frag} {H : Hp} {O : Ad} : ∀ (ns : List Int), RepL K H O (ns.map D.int) (ns.map V.int)
  | [] => .nil
  | n :: r => .cons (.int n) (RepL.ints r)

/-- the object at a is owned, its content is data that does not change -/
inductive Own (K : PySem.W.Frag) (H : Hp) (O : Ad) : D → Addr → Prop
  | lst {a : Addr} {vs : List V} {ds : List D} : H a = some (.lst vs) → RepL K H O ds vs → Own K H O (.lst ds) a
  | dk {a : Addr} {kvs : List (Key × D)} {es : List (Key × V)} : H a = some (.dK es) → kvs.map (·.1) = es.map (·.1) → RepL K H O (kvs.map (·.2)) (es.map (·.2)) → Own K H O (.dk kvs) a
  | dt {a : Addr} {kvs : List (List Key × D)} {es : List (List Key × V)} : H a = some (.dT es) → kvs.map (·.1) = es.map (·.1) → RepL K H O (kvs.map (·.2)) (es.map (·.2)) → Own K H O (.dt kvs) a
theorem Own.mono {K : PySem.W.Frag} {H H' : Hp} {O O' : Ad} (s : Step H O H' O') {d : D} {a : Addr} (e : H' a = H a) (h : Own K H O d a) : Own K H' O' d a := by
  cases h with
  | lst h r => exact .lst (e.trans h) (r.mono s)
  | dk h k r => exact .dk (e.trans h) k (r.mono s)
  | dt h k r => exact .dt (e.trans h) k (r.mono s)
theorem Own.some {K : PySem.W.Frag} {H : Hp} {O : Ad} {d : D} {a : Addr} (h : Own K H O d a) : H a ≠ none := by
  cases h with
  | lst h r => rw [h]; intro z; cases z
  | dk h k r => rw [h]; intro z; cases z
  | dt h k r => rw [h]; intro z; cases z
theorem Own.rep {K : PySem.W.Frag} {H : Hp} {O O' : Ad} {d : D} {a : Addr} (h : Own K H O d a) (n : ¬ O' a) (sub : ∀ b, O' b → O b) : Rep K H O' d (.ref a) := by
  have s : Step H O H O' := ⟨fun _ _ _ e => e, fun b z => .inl (sub b z)⟩
  cases h with
  | lst h r => exact .lst n h (r.mono s)
  | dk h k r => exact .dk n (.inl h) k (r.mono s)
  | dt h k r => exact .dt n h k (r.mono s)

/-- owned, to be read: a dict may be locked -/
inductive OwnB (K : PySem.W.Frag) (H : Hp) (O : Ad) : D → Addr → Prop
  | own {d : D} {a : Addr} : Own K H O d a → OwnB K H O d a
  | fdk {a : Addr} {kvs : List (Key × D)} {es : List (Key × V)} {o : Obj} : H a = some (.frz o (.dK es)) → kvs.map (·.1) = es.map (·.1) → RepL K H O (kvs.map (·.2)) (es.map (·.2)) → OwnB K H O (.dk kvs) a
theorem OwnB.mono {K : PySem.W.Frag} {H H' : Hp} {O O' : Ad} (s : Step H O H' O') {d : D} {a : Addr} (e : H' a = H a) (h : OwnB K H O d a) : OwnB K H' O' d a := by
  cases h with
  | own h => exact .own (h.mono s e)
  | fdk h k r => exact .fdk (e.trans h) k (r.mono s)
theorem OwnB.some {K : PySem.W.Frag} {H : Hp} {O : Ad} {d : D} {a : Addr} (h : OwnB K H O d a) : H a ≠ none := by
  cases h with
  | own h => exact h.some
  | fdk h k r => rw [h]; intro z; cases z
/-- read, not kept: it stands still, or is owned by someone -/
def PRep (K : PySem.W.Frag) (H : Hp) (O : Ad) (d : D) (v : V) : Prop := Rep K H O d v ∨ ∃ a, v = .ref a ∧ OwnB K H O d a
theorem PRep.lst {K : PySem.W.Frag} {H : Hp} {O : Ad} {ds : List D} {v : V} (h : PRep K H O (.lst ds) v) : ∃ a vs, v = .ref a ∧ H a = some (.lst vs) ∧ RepL K H O ds vs := by
  rcases h with h | ⟨a, rfl, h⟩
  · cases h with
    | lst n h r => exact ⟨_, _, rfl, h, r⟩
  · cases h with
    | own h =>
      cases h with
      | lst h r => exact ⟨_, _, rfl, h, r⟩
theorem PRep.tup {K : PySem.W.Frag} {H : Hp} {O : Ad} {ds : List D} {v : V} (h : PRep K H O (.tup ds) v) : ∃ a vs, v = .ref a ∧ H a = some (.tup vs) ∧ RepL K H O ds vs := by
  rcases h with h | ⟨a, rfl, h⟩
  · cases h with
    | tup n h r => exact ⟨_, _, rfl, h, r⟩
  · cases h with | own h => cases h
theorem PRep.kt {K : PySem.W.Frag} {H : Hp} {O : Ad} {ds : List D} {v : V} (h : PRep K H O (.kt ds) v) : ∃ a vs, v = .ref a ∧ SqT K H a vs ∧ RepL K H O ds vs := by
  rcases h with h | ⟨a, rfl, h⟩
  · cases h with
    | kt h r => exact ⟨_, _, rfl, h.sq, r⟩
  · cases h with | own h => cases h
theorem PRep.sc {K : PySem.W.Frag} {H : Hp} {O : Ad} {ns : List Int} {v : V} (h : PRep K H O (.sc ns) v) : ∃ a, v = .ref a ∧ SqL K H a (ns.map V.int) := by
  rcases h with h | ⟨a, rfl, h⟩
  · cases h with
    | sc h =>
      rcases h with ⟨_, h⟩ | h | h
      · exact ⟨_, rfl, .inl h⟩
      · exact (rd0 h).elim
      · exact ⟨_, rfl, .inr h⟩
  · cases h with | own h => cases h
theorem PRep.int {K : PySem.W.Frag} {H : Hp} {O : Ad} {i : Int} {v : V} (h : PRep K H O (.int i) v) : v = .int i := by
  rcases h with h | ⟨a, rfl, ⟨h⟩⟩ <;> cases h
  rfl
theorem PRep.str {K : PySem.W.Frag} {H : Hp} {O : Ad} {i : Str} {v : V} (h : PRep K H O (.str i) v) : v = .str i := by
  rcases h with h | ⟨a, rfl, ⟨h⟩⟩ <;> cases h
  rfl
theorem PRep.strOk {K : PySem.W.Frag} {H : Hp} {O : Ad} {i : Str} {v : V} (h : PRep K H O (.str i) v) : PySem.PyData.strOk i = true := by
  rcases h with h | ⟨a, rfl, ⟨h⟩⟩ <;> cases h
  assumption
theorem PRep.bl {K : PySem.W.Frag} {H : Hp} {O : Ad} {i : Bool} {v : V} (h : PRep K H O (.bl i) v) : v = .bl i := by
  rcases h with h | ⟨a, rfl, ⟨h⟩⟩ <;> cases h
  rfl
theorem PRep.non {K : PySem.W.Frag} {H : Hp} {O : Ad} {v : V} (h : PRep K H O .non v) : v = .non := by
  rcases h with h | ⟨a, rfl, ⟨h⟩⟩ <;> cases h
  rfl
theorem PRep.dk {K : PySem.W.Frag} {H : Hp} {O : Ad} {kvs : List (Key × D)} {v : V} (h : PRep K H O (.dk kvs) v) : ∃ a es, v = .ref a ∧ Rd H a (.dK es) ∧ kvs.map (·.1) = es.map (·.1) ∧ RepL K H O (kvs.map (·.2)) (es.map (·.2)) := by
  rcases h with h | ⟨a, rfl, h⟩
  · cases h with
    | dk n h k r => exact ⟨_, _, rfl, h, k, r⟩
  · cases h with
    | own h =>
      cases h with
      | dk h k r => exact ⟨_, _, rfl, .inl h, k, r⟩
    | fdk h k r => exact ⟨_, _, rfl, .inr ⟨_, h⟩, k, r⟩
theorem PRep.dt {K : PySem.W.Frag} {H : Hp} {O : Ad} {kvs : List (List Key × D)} {v : V} (h : PRep K H O (.dt kvs) v) : ∃ a es, v = .ref a ∧ H a = some (.dT es) ∧ kvs.map (·.1) = es.map (·.1) ∧ RepL K H O (kvs.map (·.2)) (es.map (·.2)) := by
  rcases h with h | ⟨a, rfl, h⟩
  · cases h with
    | dt n h k r => exact ⟨_, _, rfl, h, k, r⟩
  · cases h with
    | own h =>
      cases h with
      | dt h k r => exact ⟨_, _, rfl, h, k, r⟩

/-! ### the frame -/
/-- a local name: nothing; data; an owned thing; the caller's thing to be changed; the caller's thing to be read -/
inductive Slot where
  | no | fz (d : D) | ow (d : D) | io (d : D) | br (d : D) | mx (rows : List (List D))
abbrev Ev := List Slot
def Mt (env : Ev) (i : Nat) : Prop := (∃ d, env[i]? = some (.ow d)) ∨ ∃ d, env[i]? = some (.io d)

/-- what is fixed through a body -/
structure Ctx where
  lock : Addr → Option HO
  io : Nat → Option Addr
  br : Nat → Option (V × D)
  O0 : Ad

/-- b belongs to a list of lists that a name owns whole -/
def InMx (H : Hp) (σ : L2.St) (env : Ev) (b : Addr) : Prop := ∃ (i : Nat) (r : List (List D)) (a : Addr) (bs : List Addr), env[i]? = some (.mx r) ∧ σ[i]? = some (some (.ref a)) ∧ H a = some (.lst (bs.map V.ref)) ∧ b ∈ a :: bs
structure MxAll (K : PySem.W.Frag) (C : Ctx) (H : Hp) (O : Ad) (σ : L2.St) (env : Ev) : Prop where
  ats : ∀ (i : Nat) (r : List (List D)), env[i]? = some (.mx r) → ∃ (a : Addr) (bs : List Addr), σ[i]? = some (some (.ref a)) ∧ H a = some (.lst (bs.map V.ref)) ∧ (a :: bs).Nodup ∧ bs.length = r.length ∧ ∀ (k : Nat) (b : Addr), bs[k]? = some b → ∃ ds vs, r[k]? = some ds ∧ H b = some (.lst vs) ∧ RepL K H O ds vs
  own : ∀ b, InMx H σ env b → O b ∧ ¬ C.O0 b ∧ C.lock b = none ∧ ∀ j, Mt env j → σ[j]? ≠ some (some (.ref b))
  one : ∀ (i j : Nat) (r r' : List (List D)), env[i]? = some (.mx r) → env[j]? = some (.mx r') → i = j
section
variable {K : PySem.W.Frag} {C C' : Ctx} {H H' : Hp} {O O' : Ad} {σ σ' : L2.St} {env env' : Ev}
theorem refs_inj : ∀ {xs ys : List Addr}, xs.map V.ref = ys.map V.ref → xs = ys
  | [], [], _ => rfl
  | [], _ :: _, h => by cases h
  | _ :: _, [], h => by cases h
  | x :: xs, y :: ys, h => by
    rw [List.map_cons, List.map_cons] at h
    injection h with h1 h2
    injection h1 with h1
    rw [h1, refs_inj h2]
theorem MxAll.none (h : ∀ (i : Nat) (r : List (List D)), env[i]? ≠ some (.mx r)) : MxAll K C H O σ env :=
  ⟨fun i r e => (h i r e).elim, fun b ⟨i, r, _, _, e, _⟩ => (h i r e).elim, fun i j r _ e => (h i r e).elim⟩
theorem InMx.back (M : MxAll K C H O σ env) (he : ∀ (i : Nat) (r : List (List D)), env'[i]? = some (.mx r) → env[i]? = some (.mx r) ∧ σ'[i]? = σ[i]?) (hb : ∀ b, InMx H σ env b → H' b = H b) {b : Addr} (h : InMx H' σ' env' b) : InMx H σ env b := by
  obtain ⟨i, r, a, bs, e1, e2, e3, hm⟩ := h
  obtain ⟨e4, e5⟩ := he i r e1
  obtain ⟨a', bs', h1, h2, _⟩ := M.ats i r e4
  rw [e5, h1] at e2
  cases e2
  rw [hb a ⟨i, r, a, bs', e4, h1, h2, List.mem_cons_self⟩] at e3
  exact ⟨i, r, a, bs, e4, h1, e3, hm⟩
theorem MxAll.move (M : MxAll K C H O σ env) (s : Step H O H' O') (he : ∀ (i : Nat) (r : List (List D)), env'[i]? = some (.mx r) → env[i]? = some (.mx r) ∧ σ'[i]? = σ[i]?) (hb : ∀ b, InMx H σ env b → H' b = H b)
    (ho : ∀ b, InMx H σ env b → O' b ∧ ¬ C'.O0 b ∧ C'.lock b = Option.none ∧ ∀ j, Mt env' j → σ'[j]? ≠ some (some (.ref b))) : MxAll K C' H' O' σ' env' where
  ats := fun i r e => by
    obtain ⟨e4, e5⟩ := he i r e
    obtain ⟨a, bs, h1, h2, h3, h4, h5⟩ := M.ats i r e4
    have im : ∀ b ∈ a :: bs, InMx H σ env b := fun b hb => ⟨i, r, a, bs, e4, h1, h2, hb⟩
    refine ⟨a, bs, by rw [e5]; exact h1, by rw [hb a (im a List.mem_cons_self)]; exact h2, h3, h4, fun k b hk => ?_⟩
    obtain ⟨ds, vs, q1, q2, q3⟩ := h5 k b hk
    exact ⟨ds, vs, q1, by rw [hb b (im b (List.mem_cons_of_mem _ (List.mem_of_getElem? hk)))]; exact q2, q3.mono s⟩
  own := fun b h => ho b (h.back M he hb)
  one := fun i j r r' e1 e2 => M.one i j r r' (he i r e1).1 (he j r' e2).1
end
structure EnvOk (K : PySem.W.Frag) (C : Ctx) (H : Hp) (O : Ad) (σ : L2.St) (env : Ev) : Prop where
  len : σ.length = env.length
  o0 : ∀ a, C.O0 a → O a
  trk : ∀ a, O a → H a ≠ none
  lock : ∀ a o, C.lock a = some o → H a = some o
  fz : ∀ (i : Nat) (d : D), env[i]? = some (.fz d) → ∃ v, σ[i]? = some (some v) ∧ Rep K H O d v
  ow : ∀ (i : Nat) (d : D), env[i]? = some (.ow d) → ∃ a, σ[i]? = some (some (.ref a)) ∧ O a ∧ ¬ C.O0 a ∧ C.lock a = none ∧ Own K H O d a
  io : ∀ (i : Nat) (d : D), env[i]? = some (.io d) → ∃ a, C.io i = some a ∧ Own K H O d a
  ioS : ∀ (i : Nat) (a : Addr), C.io i = some a → σ[i]? = some (some (.ref a)) ∧ O a ∧ C.lock a = none ∧ ∃ d, env[i]? = some (.io d)
  br : ∀ (i : Nat) (d : D), env[i]? = some (.br d) → ∃ v, C.br i = some (v, d)
  brS : ∀ (i : Nat) (v : V) (d : D), C.br i = some (v, d) → σ[i]? = some (some v) ∧ env[i]? = some (.br d) ∧ (Rep K H O d v ∨ ∃ a, v = .ref a ∧ O a ∧ C.lock a ≠ none ∧ OwnB K H O d a)
  sep : ∀ (i j : Nat) (a : Addr), i ≠ j → Mt env i → Mt env j → σ[i]? = some (some (.ref a)) → σ[j]? ≠ some (some (.ref a))
  mx : MxAll K C H O σ env

section
variable {K : PySem.W.Frag} {C : Ctx} {H H' : Hp} {O O' : Ad} {σ : L2.St} {env : Ev}

/-- a slot that may be written anew -/
def Free (env : Ev) (i : Nat) : Prop := env[i]? = some .no ∨ (∃ d, env[i]? = some (.fz d)) ∨ ∃ d, env[i]? = some (.ow d)
theorem Free.nio {i : Nat} (f : Free env i) (d : D) : env[i]? ≠ some (.io d) := fun e => by
  rcases f with f | ⟨_, f⟩ | ⟨_, f⟩ <;> (rw [e] at f; cases f)
theorem Free.nbr {i : Nat} (f : Free env i) (d : D) : env[i]? ≠ some (.br d) := fun e => by
  rcases f with f | ⟨_, f⟩ | ⟨_, f⟩ <;> (rw [e] at f; cases f)
theorem Free.lt {i : Nat} (f : Free env i) : i < env.length := by
  rcases f with f | ⟨_, f⟩ | ⟨_, f⟩ <;> exact (List.getElem?_eq_some_iff.mp f).1

/-- the heap and the owned set change, the slots' own objects do not -/
theorem EnvOk.step (E : EnvOk K C H O σ env) (s : Step H O H' O') (o0 : ∀ a, C.O0 a → O' a) (trk : ∀ a, O' a → H' a ≠ none) (lock : ∀ a o, C.lock a = some o → H' a = some o)
    (own : ∀ (i : Nat) (a : Addr), Mt env i → σ[i]? = some (some (.ref a)) → O' a ∧ H' a = H a) (br : ∀ (i : Nat) (a : Addr) (d : D), C.br i = some (.ref a, d) → O a → C.lock a ≠ none → O' a ∧ H' a = H a) (mx : ∀ b, InMx H σ env b → O' b ∧ H' b = H b) : EnvOk K C H' O' σ env where
  len := E.len
  o0 := o0
  trk := trk
  lock := lock
  fz := fun i d e => by
    obtain ⟨v, e1, r⟩ := E.fz i d e
    exact ⟨v, e1, r.mono s⟩
  ow := fun i d e => by
    obtain ⟨a, e1, h1, h2, h3, h4⟩ := E.ow i d e
    obtain ⟨q1, q2⟩ := own i a (.inl ⟨d, e⟩) e1
    exact ⟨a, e1, q1, h2, h3, h4.mono s q2⟩
  io := fun i d e => by
    obtain ⟨a, e1, h⟩ := E.io i d e
    obtain ⟨e2, _⟩ := E.ioS i a e1
    obtain ⟨q1, q2⟩ := own i a (.inr ⟨d, e⟩) e2
    exact ⟨a, e1, h.mono s q2⟩
  ioS := fun i a e => by
    obtain ⟨e1, h1, h2, d, h3⟩ := E.ioS i a e
    obtain ⟨q1, _⟩ := own i a (.inr ⟨d, h3⟩) e1
    exact ⟨e1, q1, h2, d, h3⟩
  br := E.br
  brS := fun i v d e => by
    obtain ⟨e1, e2, h⟩ := E.brS i v d e
    refine ⟨e1, e2, ?_⟩
    rcases h with h | ⟨a, rfl, h1, h2, h3⟩
    · exact .inl (h.mono s)
    · obtain ⟨q1, q2⟩ := br i a d e h1 h2
      exact .inr ⟨a, rfl, q1, h2, h3.mono s q2⟩
  sep := E.sep
  mx := E.mx.move s (fun _ _ e => ⟨e, rfl⟩) (fun b h => (mx b h).2) fun b h => ⟨(mx b h).1, (E.mx.own b h).2⟩

/-- only new objects -/
theorem EnvOk.ext (E : EnvOk K C H O σ env) (e : Ext H H') : EnvOk K C H' O σ env := by
  have st : ∀ a, H a ≠ none → H' a = H a := fun a h => by
    cases q : H a with
    | none => exact (h q).elim
    | some o => exact e a o q
  refine E.step (.ext e) E.o0 (fun a h z => E.trk a h ?_) (fun a o h => e a o (E.lock a o h)) (fun i a m h => ?_) (fun i a d _ h _ => ⟨h, st a (E.trk a h)⟩) fun b h => ⟨(E.mx.own b h).1, st b (E.trk b (E.mx.own b h).1)⟩
  · rw [st a (E.trk a h)] at z; exact z
  · rcases m with ⟨d, m⟩ | ⟨d, m⟩
    · obtain ⟨b, e1, h1, _, _, h4⟩ := E.ow i d m
      rw [h] at e1; cases e1
      exact ⟨h1, st a h4.some⟩
    · obtain ⟨b, e1, h4⟩ := E.io i d m
      obtain ⟨e2, h1, _⟩ := E.ioS i b e1
      rw [h] at e2; cases e2
      exact ⟨h1, st a h4.some⟩

/-- owned, in no slot -/
structure Loose (K : PySem.W.Frag) (C : Ctx) (H : Hp) (O : Ad) (σ : L2.St) (env : Ev) (d : D) (a : Addr) : Prop where
  o : O a
  n0 : ¬ C.O0 a
  nl : C.lock a = none
  own : Own K H O d a
  sep : ∀ (i : Nat), Mt env i → σ[i]? ≠ some (some (.ref a))
  nmx : ¬ InMx H σ env a

/-- a new object, owned -/
theorem EnvOk.new (E : EnvOk K C H O σ env) {p : Addr} {o : HO} {d : D} (n : H p = none) (own : ∀ O', Step H O (upd H p o) O' → Own K (upd H p o) O' d p) :
    Step H O (upd H p o) (fun a => O a ∨ a = p) ∧ EnvOk K C (upd H p o) (fun a => O a ∨ a = p) σ env ∧ Loose K C (upd H p o) (fun a => O a ∨ a = p) σ env d p := by
  have e : Ext H (upd H p o) := fun b x q => by rw [upd_ne (ne_of_none q n)]; exact q
  have s : Step H O (upd H p o) (fun a => O a ∨ a = p) := ⟨fun b x _ q => e b x q, fun a z => by
    rcases z with z | rfl
    · exact .inl z
    · exact .inr n⟩
  have np : ∀ {a : Addr}, H a ≠ none → a ≠ p := fun h z => by subst z; exact h n
  have mt : ∀ (i : Nat) (a : Addr), Mt env i → σ[i]? = some (some (.ref a)) → O a ∧ H a ≠ none := fun i a m h => by
    rcases m with ⟨d, m⟩ | ⟨d, m⟩
    · obtain ⟨b, e1, h1, _, _, h4⟩ := E.ow i d m
      rw [h] at e1; cases e1
      exact ⟨h1, h4.some⟩
    · obtain ⟨b, e1, h4⟩ := E.io i d m
      obtain ⟨e2, h1, _⟩ := E.ioS i b e1
      rw [h] at e2; cases e2
      exact ⟨h1, h4.some⟩
  refine ⟨s, E.step s (fun a h => .inl (E.o0 a h)) (fun a z => ?_) (fun a x h => e a x (E.lock a x h)) (fun i a m h => ?_) (fun i a d _ h _ => ⟨.inl h, upd_ne (np (E.trk a h))⟩) fun b h => ⟨.inl (E.mx.own b h).1, upd_ne (np (E.trk b (E.mx.own b h).1))⟩, ⟨.inr rfl, fun z => E.trk p (E.o0 p z) n, ?_, own _ s, fun i m h => ?_, fun h => E.trk p (E.mx.own p (h.back E.mx (fun _ _ e => ⟨e, rfl⟩) fun b h => upd_ne (np (E.trk b (E.mx.own b h).1)))).1 n⟩⟩
  · rcases z with z | rfl
    · rw [upd_ne (np (E.trk a z))]; exact E.trk a z
    · rw [upd_same]; intro q; cases q
  · obtain ⟨h1, h2⟩ := mt i a m h
    exact ⟨.inl h1, upd_ne (np h2)⟩
  · cases q : C.lock p with
    | none => rfl
    | some x => rw [E.lock p x q] at n; cases n
  · exact (mt i p m h).2 n

/-- it is owned no more -/
theorem EnvOk.freeze (E : EnvOk K C H O σ env) {d : D} {a : Addr} (L : Loose K C H O σ env d a) :
    Step H O H (fun b => O b ∧ b ≠ a) ∧ EnvOk K C H (fun b => O b ∧ b ≠ a) σ env ∧ Rep K H (fun b => O b ∧ b ≠ a) d (.ref a) := by
  have s : Step H O H (fun b => O b ∧ b ≠ a) := ⟨fun _ _ _ q => q, fun _ z => .inl z.1⟩
  refine ⟨s, E.step s (fun b h => ⟨E.o0 b h, fun z => L.n0 (z ▸ h)⟩) (fun b z => E.trk b z.1) E.lock (fun i b m h => ⟨⟨?_, fun z => L.sep i m (z ▸ h)⟩, rfl⟩) (fun i b d _ h hl => ⟨⟨h, fun z => hl (z ▸ L.nl)⟩, rfl⟩) (fun b h => ⟨⟨(E.mx.own b h).1, fun z => L.nmx (z ▸ h)⟩, rfl⟩), L.own.rep (fun z => z.2 rfl) fun b z => z.1⟩
  rcases m with ⟨d, m⟩ | ⟨d, m⟩
  · obtain ⟨c, e1, h1, _⟩ := E.ow i d m
    rw [h] at e1; cases e1
    exact h1
  · obtain ⟨c, e1, _⟩ := E.io i d m
    obtain ⟨e2, h1, _⟩ := E.ioS i c e1
    rw [h] at e2; cases e2
    exact h1

theorem get_set {α : Type} {l : List α} {i j : Nat} {x y : α} (h : (l.set i x)[j]? = some y) : (j = i ∧ y = x) ∨ (j ≠ i ∧ l[j]? = some y) := by
  by_cases e : j = i
  · subst e
    refine .inl ⟨rfl, ?_⟩
    by_cases hl : j < l.length
    · rw [List.getElem?_set_self hl] at h
      exact (Option.some.inj h).symm
    · rw [List.getElem?_eq_none (by rw [List.length_set]; omega)] at h
      cases h
  · rw [List.getElem?_set_ne (Ne.symm e)] at h
    exact .inr ⟨e, h⟩

/-- the slot i gets what is no more to be changed through it -/
theorem EnvOk.setQ (E : EnvOk K C H O σ env) {i : Nat} (f : Free env i) {v : V} {x : Slot} (hf : ∀ d, x = .fz d → Rep K H O d v) (ho : ∀ d, x = .ow d → ∃ a, v = .ref a ∧ Loose K C H O σ env d a) (hi : ∀ d, x ≠ .io d) (hb : ∀ d, x ≠ .br d) (hm : ∀ r, x ≠ .mx r) :
    EnvOk K C H O (σ.set i (some v)) (env.set i x) := by
  have hl : i < env.length := f.lt
  have hs : i < σ.length := by rw [E.len]; exact hl
  have cio : ∀ a, C.io i ≠ some a := fun a e => by
    obtain ⟨_, _, _, d, q⟩ := E.ioS i a e
    exact f.nio d q
  have cbr : ∀ z, C.br i ≠ some z := fun ⟨w, d⟩ e => by
    obtain ⟨_, q, _⟩ := E.brS i w d e
    exact f.nbr d q
  have mt : ∀ j, Mt (env.set i x) j → (j = i ∧ ∃ d, x = .ow d) ∨ (j ≠ i ∧ Mt env j) := fun j m => by
    rcases m with ⟨d, m⟩ | ⟨d, m⟩
    · rcases get_set m with ⟨rfl, e⟩ | ⟨n, e⟩
      · exact .inl ⟨rfl, d, e.symm⟩
      · exact .inr ⟨n, .inl ⟨d, e⟩⟩
    · rcases get_set m with ⟨rfl, e⟩ | ⟨n, e⟩
      · exact (hi d e.symm).elim
      · exact .inr ⟨n, .inr ⟨d, e⟩⟩
  have ne : ∀ {j}, j ≠ i → (σ.set i (some v))[j]? = σ[j]? := fun n => List.getElem?_set_ne (Ne.symm n)
  refine ⟨by rw [List.length_set, List.length_set]; exact E.len, E.o0, E.trk, E.lock, fun j d e => ?_, fun j d e => ?_, fun j d e => ?_, fun j a e => ?_, fun j d e => ?_, fun j w d e => ?_, fun j k a njk mj mk e1 e2 => ?_, E.mx.move .refl (fun j r e => ?_) (fun _ _ => rfl) fun b h => ⟨(E.mx.own b h).1, (E.mx.own b h).2.1, (E.mx.own b h).2.2.1, fun j m e => ?_⟩⟩
  · rcases get_set e with ⟨rfl, z⟩ | ⟨n, z⟩
    · exact ⟨v, List.getElem?_set_self hs, hf d z.symm⟩
    · rw [ne n]; exact E.fz j d z
  · rcases get_set e with ⟨rfl, z⟩ | ⟨n, z⟩
    · obtain ⟨a, rfl, L⟩ := ho d z.symm
      exact ⟨a, List.getElem?_set_self hs, L.o, L.n0, L.nl, L.own⟩
    · rw [ne n]; exact E.ow j d z
  · rcases get_set e with ⟨rfl, z⟩ | ⟨n, z⟩
    · exact (hi d z.symm).elim
    · exact E.io j d z
  · have n : j ≠ i := fun z => cio a (z ▸ e)
    rw [ne n, List.getElem?_set_ne (Ne.symm n)]
    exact E.ioS j a e
  · rcases get_set e with ⟨rfl, z⟩ | ⟨n, z⟩
    · exact (hb d z.symm).elim
    · exact E.br j d z
  · have n : j ≠ i := fun z => cbr _ (z ▸ e)
    rw [ne n, List.getElem?_set_ne (Ne.symm n)]
    exact E.brS j w d e
  · rcases mt j mj with ⟨rfl, d, q⟩ | ⟨nj, mj'⟩
    · rcases mt k mk with ⟨rfl, _⟩ | ⟨nk, mk⟩
      · exact njk rfl
      · obtain ⟨b, rfl, L⟩ := ho d q
        rw [List.getElem?_set_self hs] at e1; cases e1
        rw [ne nk] at e2
        exact L.sep k mk e2
    · rcases mt k mk with ⟨rfl, d, q⟩ | ⟨nk, mk'⟩
      · obtain ⟨b, rfl, L⟩ := ho d q
        rw [List.getElem?_set_self hs] at e2; cases e2
        rw [ne nj] at e1
        exact L.sep j mj' e1
      · rw [ne nj] at e1
        rw [ne nk] at e2
        exact E.sep j k a njk mj' mk' e1 e2
  · rcases get_set e with ⟨rfl, z⟩ | ⟨n, z⟩
    · exact (hm r z.symm).elim
    · exact ⟨z, ne n⟩
  · rcases mt j m with ⟨rfl, d, q⟩ | ⟨nj, mj⟩
    · obtain ⟨a, rfl, L⟩ := ho d q
      rw [List.getElem?_set_self hs] at e; cases e
      exact L.nmx h
    · rw [ne nj] at e
      exact (E.mx.own b h).2.2.2 j mj e
theorem EnvOk.setFz (E : EnvOk K C H O σ env) {i : Nat} (f : Free env i) {v : V} {d : D} (r : Rep K H O d v) : EnvOk K C H O (σ.set i (some v)) (env.set i (.fz d)) :=
  E.setQ f (fun _ e => by cases e; exact r) (fun _ e => nomatch e) (fun _ e => nomatch e) (fun _ e => nomatch e) fun _ e => nomatch e
theorem EnvOk.setOw (E : EnvOk K C H O σ env) {i : Nat} (f : Free env i) {a : Addr} {d : D} (L : Loose K C H O σ env d a) : EnvOk K C H O (σ.set i (some (.ref a))) (env.set i (.ow d)) :=
  E.setQ f (fun _ e => nomatch e) (fun _ e => by cases e; exact ⟨a, rfl, L⟩) (fun _ e => nomatch e) (fun _ e => nomatch e) fun _ e => nomatch e
theorem EnvOk.setNo (E : EnvOk K C H O σ env) {i : Nat} (f : Free env i) {v : V} : EnvOk K C H O (σ.set i (some v)) (env.set i .no) :=
  E.setQ f (fun _ e => nomatch e) (fun _ e => nomatch e) (fun _ e => nomatch e) (fun _ e => nomatch e) fun _ e => nomatch e
theorem set_id {α : Type} {l : List α} {i : Nat} {x : α} (h : l[i]? = some x) : l.set i x = l := by
  apply List.ext_getElem?
  intro j
  by_cases e : j = i
  · subst e
    rw [List.getElem?_set_self (List.getElem?_eq_some_iff.mp h).1, h]
  · rw [List.getElem?_set_ne (Ne.symm e)]
/-- an owned name is frozen -/
theorem EnvOk.frz (E : EnvOk K C H O σ env) {i : Nat} {d : D} (e : env[i]? = some (.ow d)) : ∃ v O', σ[i]? = some (some v) ∧ Step H O H O' ∧ EnvOk K C H O' σ (env.set i (.fz d)) ∧ Rep K H O' d v := by
  obtain ⟨a, e1, h1, h2, h3, h4⟩ := E.ow i d e
  have f : Free env i := .inr (.inr ⟨d, e⟩)
  have E1 := E.setNo f (v := .ref a)
  rw [set_id e1] at E1
  have hl : i < env.length := f.lt
  have L : Loose K C H O σ (env.set i .no) d a := ⟨h1, h2, h3, h4, fun j m q => by
    have mj : j ≠ i ∧ Mt env j := by
      rcases m with ⟨d, m⟩ | ⟨d, m⟩
      · rcases get_set m with ⟨rfl, z⟩ | ⟨n, z⟩
        · cases z
        · exact ⟨n, .inl ⟨d, z⟩⟩
      · rcases get_set m with ⟨rfl, z⟩ | ⟨n, z⟩
        · cases z
        · exact ⟨n, .inr ⟨d, z⟩⟩
    exact E.sep j i a mj.1 mj.2 (.inl ⟨d, e⟩) q e1, fun h => (E.mx.own a (h.back E.mx (fun j r z => by
      rcases get_set z with ⟨rfl, w⟩ | ⟨n, w⟩
      · cases w
      · exact ⟨w, rfl⟩) fun _ _ => rfl)).2.2.2 i (.inl ⟨d, e⟩) e1⟩
  obtain ⟨s, E2, r⟩ := E1.freeze L
  have f2 : Free (env.set i .no) i := .inl (List.getElem?_set_self hl)
  have E3 := E2.setFz f2 (v := .ref a) r
  rw [set_id e1, List.set_set] at E3
  exact ⟨.ref a, _, e1, s, E3, r⟩
/-- an owned thing is changed -/
theorem EnvOk.mut (E : EnvOk K C H O σ env) {i : Nat} {a : Addr} {o : HO} {d d' : D} (e1 : σ[i]? = some (some (.ref a))) {x : Slot} (hx : (env[i]? = some (.ow d) ∧ x = .ow d') ∨ (env[i]? = some (.io d) ∧ x = .io d'))
    (own : ∀ O', Step H O (upd H a o) O' → Own K (upd H a o) O' d' a) : Step H O (upd H a o) O ∧ EnvOk K C (upd H a o) O σ (env.set i x) := by
  have mi : Mt env i := by
    rcases hx with ⟨h, _⟩ | ⟨h, _⟩
    · exact .inl ⟨d, h⟩
    · exact .inr ⟨d, h⟩
  have hl : i < env.length := by
    rcases hx with ⟨h, _⟩ | ⟨h, _⟩ <;> exact (List.getElem?_eq_some_iff.mp h).1
  have oa : O a ∧ C.lock a = none := by
    rcases hx with ⟨h, _⟩ | ⟨h, _⟩
    · obtain ⟨b, q, h1, _, h3, _⟩ := E.ow i d h
      rw [e1] at q; cases q
      exact ⟨h1, h3⟩
    · obtain ⟨b, q, _⟩ := E.io i d h
      obtain ⟨q2, h1, h3, _⟩ := E.ioS i b q
      rw [e1] at q2; cases q2
      exact ⟨h1, h3⟩
  have s : Step H O (upd H a o) O := ⟨fun b u n q => by rw [upd_ne (fun z => n (by rw [z]; exact oa.1))]; exact q, fun _ z => .inl z⟩
  have mt : ∀ j, Mt (env.set i x) j → Mt env j := fun j m => by
    by_cases n : j = i
    · subst n; exact mi
    · unfold Mt at m ⊢
      rw [List.getElem?_set_ne (Ne.symm n)] at m
      exact m
  have other : ∀ j b, j ≠ i → Mt env j → σ[j]? = some (some (.ref b)) → b ≠ a := fun j b n m q z => E.sep i j a (Ne.symm n) mi m e1 (z ▸ q)
  have owni := own O s
  refine ⟨s, by rw [List.length_set]; exact E.len, E.o0, fun b z => ?_, fun b u q => ?_, fun j e q => ?_, fun j e q => ?_, fun j e q => ?_, fun j b q => ?_, fun j e q => ?_, fun j w e q => ?_, fun j k b n mj mk => E.sep j k b n (mt j mj) (mt k mk), E.mx.move s (fun j r z => ?_) (fun b h => upd_ne fun z => (E.mx.own b h).2.2.2 i mi (z ▸ e1)) fun b h => ⟨(E.mx.own b h).1, (E.mx.own b h).2.1, (E.mx.own b h).2.2.1, fun j m => (E.mx.own b h).2.2.2 j (mt j m)⟩⟩
  · by_cases n : b = a
    · subst n; rw [upd_same]; intro q; cases q
    · rw [upd_ne n]; exact E.trk b z
  · have n : b ≠ a := fun z => by subst z; rw [oa.2] at q; cases q
    rw [upd_ne n]; exact E.lock b u q
  · rcases get_set q with ⟨rfl, z⟩ | ⟨n, z⟩
    · rcases hx with ⟨_, h⟩ | ⟨_, h⟩ <;> (rw [h] at z; cases z)
    · obtain ⟨v, q1, r⟩ := E.fz j e z
      exact ⟨v, q1, r.mono s⟩
  · rcases get_set q with ⟨rfl, z⟩ | ⟨n, z⟩
    · rcases hx with ⟨h0, h⟩ | ⟨_, h⟩
      · rw [h] at z; cases z
        obtain ⟨b, q1, h1, h2, h3, h4⟩ := E.ow j d h0
        rw [e1] at q1; cases q1
        exact ⟨a, e1, h1, h2, h3, owni⟩
      · rw [h] at z; cases z
    · obtain ⟨b, q1, h1, h2, h3, h4⟩ := E.ow j e z
      exact ⟨b, q1, h1, h2, h3, h4.mono s (upd_ne (other j b n (.inl ⟨e, z⟩) q1))⟩
  · rcases get_set q with ⟨rfl, z⟩ | ⟨n, z⟩
    · rcases hx with ⟨_, h⟩ | ⟨h0, h⟩
      · rw [h] at z; cases z
      · rw [h] at z; cases z
        obtain ⟨b, q1, h4⟩ := E.io j d h0
        obtain ⟨q2, _⟩ := E.ioS j b q1
        rw [e1] at q2; cases q2
        exact ⟨a, q1, owni⟩
    · obtain ⟨b, q1, h4⟩ := E.io j e z
      obtain ⟨q2, _⟩ := E.ioS j b q1
      exact ⟨b, q1, h4.mono s (upd_ne (other j b n (.inr ⟨e, z⟩) q2))⟩
  · obtain ⟨q1, h1, h2, e, h3⟩ := E.ioS j b q
    refine ⟨q1, h1, h2, ?_⟩
    by_cases n : j = i
    · subst n
      rcases hx with ⟨h0, h⟩ | ⟨h0, h⟩
      · rw [h0] at h3; cases h3
      · exact ⟨d', by rw [List.getElem?_set_self hl, h]⟩
    · exact ⟨e, by rw [List.getElem?_set_ne (Ne.symm n)]; exact h3⟩
  · rcases get_set q with ⟨rfl, z⟩ | ⟨n, z⟩
    · rcases hx with ⟨_, h⟩ | ⟨_, h⟩ <;> (rw [h] at z; cases z)
    · exact E.br j e z
  · obtain ⟨q1, q2, h⟩ := E.brS j w e q
    have n : j ≠ i := fun z => by
      subst z
      rcases hx with ⟨h0, _⟩ | ⟨h0, _⟩ <;> (rw [h0] at q2; cases q2)
    refine ⟨q1, by rw [List.getElem?_set_ne (Ne.symm n)]; exact q2, ?_⟩
    rcases h with h | ⟨b, rfl, h1, h2, h3⟩
    · exact .inl (h.mono s)
    · exact .inr ⟨b, rfl, h1, h2, h3.mono s (upd_ne (fun z => h2 (z ▸ oa.2)))⟩
  · rcases get_set z with ⟨rfl, w⟩ | ⟨n, w⟩
    · rcases hx with ⟨_, h⟩ | ⟨_, h⟩ <;> (rw [h] at w; cases w)
    · exact ⟨w, rfl⟩
end
end Z

/-! The data layer, part B: what an expression does to data; the judgements; rules of expressions. -/
namespace Z
open PySem PySem.Spec PyProof.Rows L2

/-- an operand: data, or a name read when the operation runs -/
inductive P where | val (d : D) | slot (i : Nat)
def getS : Option Slot → Option D
  | some (.fz d) => some d
  | some (.ow d) => some d
  | some (.io d) => some d
  | some (.br d) => some d
  | _ => none
def getP (env : Ev) : P → Option D
  | .val d => some d
  | .slot i => getS env[i]?
def getPs (env : Ev) : List P → Option (List D)
  | [] => some []
  | p :: ps => (getP env p).bind fun d => (getPs env ps).bind fun ds => some (d :: ds)
abbrev SE := Ev → Option (D × Ev)
abbrev SQ := Ev → Option (P × Ev)
abbrev SA := Ev → Option (List P × Ev)
abbrev SB := Ev → Option (Bool × Ev)

def PRel (K : PySem.W.Frag) (H : Hp) (O : Ad) (σ : L2.St) : P → V → Prop
  | .val d, v => Rep K H O d v
  | .slot i, v => σ[i]? = some (some v)
inductive PRelL (K : PySem.W.Frag) (H : Hp) (O : Ad) (σ : L2.St) : List P → List V → Prop
  | nil : PRelL K H O σ [] []
  | cons {p : P} {v : V} {ps : List P} {vs : List V} : PRel K H O σ p v → PRelL K H O σ ps vs → PRelL K H O σ (p :: ps) (v :: vs)
inductive PRepL (K : PySem.W.Frag) (H : Hp) (O : Ad) : List D → List V → Prop
  | nil : PRepL K H O [] []
  | cons {d : D} {v : V} {ds : List D} {vs : List V} : PRep K H O d v → PRepL K H O ds vs → PRepL K H O (d :: ds) (v :: vs)

section
variable {K : PySem.W.Frag} {C : Ctx} {H H' : Hp} {O O' : Ad} {σ : L2.St} {env : Ev}
theorem PRel.mono (s : Step H O H' O') {p : P} {v : V} (h : PRel K H O σ p v) : PRel K H' O' σ p v := by
  cases p with
  | val d => exact Rep.mono s h
  | slot i => exact h
theorem PRelL.mono (s : Step H O H' O') {ps : List P} {vs : List V} (h : PRelL K H O σ ps vs) : PRelL K H' O' σ ps vs := by
  induction h with
  | nil => exact .nil
  | cons h _ ih => exact .cons (h.mono s) ih
theorem EnvOk.getS (E : EnvOk K C H O σ env) {i : Nat} {d : D} (h : getS env[i]? = some d) : ∃ v, σ[i]? = some (some v) ∧ PRep K H O d v := by
  cases e : env[i]? with
  | none => rw [e] at h; cases h
  | some x =>
    rw [e] at h
    cases x with
    | no => cases h
    | mx r => cases h
    | fz d' =>
      cases h
      obtain ⟨v, h1, h2⟩ := E.fz i d e
      exact ⟨v, h1, .inl h2⟩
    | ow d' =>
      cases h
      obtain ⟨a, h1, _, _, _, h2⟩ := E.ow i d e
      exact ⟨_, h1, .inr ⟨a, rfl, .own h2⟩⟩
    | io d' =>
      cases h
      obtain ⟨a, h1, h2⟩ := E.io i d e
      obtain ⟨h3, _⟩ := E.ioS i a h1
      exact ⟨_, h3, .inr ⟨a, rfl, .own h2⟩⟩
    | br d' =>
      cases h
      obtain ⟨v, h1⟩ := E.br i d e
      obtain ⟨h2, _, h3⟩ := E.brS i v d h1
      refine ⟨v, h2, ?_⟩
      rcases h3 with h3 | ⟨a, rfl, _, _, h3⟩
      · exact .inl h3
      · exact .inr ⟨a, rfl, h3⟩
theorem EnvOk.getP (E : EnvOk K C H O σ env) {p : P} {d : D} {v : V} (h : getP env p = some d) (r : PRel K H O σ p v) : PRep K H O d v := by
  cases p with
  | val d' => cases h; exact .inl r
  | slot i =>
    obtain ⟨w, h1, h2⟩ := E.getS h
    rw [show σ[i]? = some (some v) from r] at h1
    cases h1
    exact h2
theorem EnvOk.getPs (E : EnvOk K C H O σ env) : ∀ {ps : List P} {ds : List D} {vs : List V}, getPs env ps = some ds → PRelL K H O σ ps vs → PRepL K H O ds vs
  | [], _, _, h, .nil => by cases h; exact .nil
  | p :: ps, ds, _, h, .cons r rs => by
    unfold Z.getPs at h
    cases e : Z.getP env p with
    | none => rw [e] at h; cases h
    | some d =>
      rw [e] at h
      cases e2 : Z.getPs env ps with
      | none => rw [e2] at h; cases h
      | some ds' =>
        rw [e2] at h
        cases h
        exact .cons (E.getP e r) (E.getPs e2 rs)
end

/-! ### readings -/
def rdE (K : PySem.W.Frag) (f : SE) : TE := fun σ H Q => ∃ C O env, EnvOk K C H O σ env ∧ ∃ r, f env = some r ∧ ∀ v H' O', Step H O H' O' → EnvOk K C H' O' σ r.2 → Rep K H' O' r.1 v → Q v H'
/-- a new thing -/
def rdF (K : PySem.W.Frag) (f : SE) : TE := fun σ H Q => ∃ C O env, EnvOk K C H O σ env ∧ ∃ r, f env = some r ∧ ∀ a H' O', Step H O H' O' → EnvOk K C H' O' σ r.2 → Loose K C H' O' σ r.2 r.1 a → Q (.ref a) H'
def rdQ (K : PySem.W.Frag) (f : SQ) : TE := fun σ H Q => ∃ C O env, EnvOk K C H O σ env ∧ ∃ r, f env = some r ∧ ∀ v H' O', Step H O H' O' → EnvOk K C H' O' σ r.2 → PRel K H' O' σ r.1 v → Q v H'
def rdA (K : PySem.W.Frag) (f : SA) : TA := fun σ H Q => ∃ C O env, EnvOk K C H O σ env ∧ ∃ r, f env = some r ∧ ∀ vs H' O', Step H O H' O' → EnvOk K C H' O' σ r.2 → PRelL K H' O' σ r.1 vs → Q vs H'
def rdB (K : PySem.W.Frag) (f : SB) : TT := fun σ H Q => ∃ C O env, EnvOk K C H O σ env ∧ ∃ r, f env = some r ∧ ∀ H' O', Step H O H' O' → EnvOk K C H' O' σ r.2 → Q r.1 H'
structure DE (X : Cx) (e : Expr) (f : SE) : Prop where pe : PE X e (rdE X.K f)
structure DF (X : Cx) (e : Expr) (f : SE) : Prop where pe : PE X e (rdF X.K f)
structure DQ (X : Cx) (e : Expr) (f : SQ) : Prop where pe : PE X e (rdQ X.K f)
structure DA (X : Cx) (es : List Expr) (f : SA) : Prop where pa : PA X es (rdA X.K f)
structure DT (X : Cx) (e : Expr) (f : SB) : Prop where pt : PT X e (rdB X.K f)
structure DW (X : Cx) (e : Expr) (f : SB) : Prop where pw : PW X e (rdB X.K f)

theorem wkE {X : Cx} {e : Expr} {t t' : TE} (h : PE X e t) (w : ∀ σ H Q, t' σ H Q → t σ H Q) : PE X e t' := ⟨fun pins s σ H Q I q => h.run pins s σ H Q I (w σ H Q q)⟩
theorem wkT {X : Cx} {e : Expr} {t t' : TT} (h : PT X e t) (w : ∀ σ H Q, t' σ H Q → t σ H Q) : PT X e t' := ⟨fun pins s σ H Q I q => h.run pins s σ H Q I (w σ H Q q)⟩
theorem wkW {X : Cx} {e : Expr} {t t' : TT} (h : PW X e t) (w : ∀ σ H Q, t' σ H Q → t σ H Q) : PW X e t' := ⟨fun wh pins s σ H Q I q => h.run wh pins s σ H Q I (w σ H Q q)⟩
theorem wkA {X : Cx} {es : List Expr} {t t' : TA} (h : PA X es t) (w : ∀ σ H Q, t' σ H Q → t σ H Q) : PA X es t' := ⟨fun pos pins s σ H Q I q => h.run pos pins s σ H Q I (w σ H Q q)⟩

/-- taking apart a chain of options -/
theorem bindS {α β : Type} {o : Option α} {f : α → Option β} {r : β} (h : o.bind f = some r) : ∃ a, o = some a ∧ f a = some r := by
  cases o with
  | none => cases h
  | some a => exact ⟨a, rfl, h⟩

/-! ### what expressions do to data -/
def eVar (i : Nat) : SE := fun env => match env[i]? with
  | some (.fz d) => some (d, env)
  | some (.ow d) => some (d, env.set i (.fz d))
  | _ => none
def eC (d : D) : SE := fun env => some (d, env)
def qV (f : SE) : SQ := fun env => (f env).bind fun r => some (.val r.1, r.2)
def qS (i : Nat) : SQ := fun env => (getS env[i]?).bind fun _ => some (.slot i, env)
def aN : SA := fun env => some ([], env)
def aC (p : SQ) (a : SA) : SA := fun env => (p env).bind fun r => (a r.2).bind fun s => some (r.1 :: s.1, s.2)
def eOp1 (g : D → Option D) (p : SQ) : SE := fun env => (p env).bind fun r => (getP r.2 r.1).bind fun d => (g d).bind fun z => some (z, r.2)
def eOp2 (g : D → D → Option D) (p q : SQ) : SE := fun env => (p env).bind fun r => (q r.2).bind fun s => (getP s.2 r.1).bind fun x => (getP s.2 s.1).bind fun y => (g x y).bind fun z => some (z, s.2)
def eOps (g : List D → Option D) (a : SA) : SE := fun env => (a env).bind fun r => (getPs r.2 r.1).bind fun ds => (g ds).bind fun z => some (z, r.2)
/-- a value as a truth value -/
def asB : D → Option Bool
  | .bl b => some b
  | _ => none
def bV (f : SE) : SB := fun env => (f env).bind fun r => (asB r.1).bind fun b => some (b, r.2)
def truD : D → Option Bool
  | .non => some false
  | .bl b => some b
  | .int i => some (i != 0)
  | .str x => if x.length ≤ sizeLine then some (x.length != 0) else none
  | .lst ds => some !ds.isEmpty
  | .tup ds => some !ds.isEmpty
  | .kt ds => some !ds.isEmpty
  | .sc ds => some !ds.isEmpty
  | .dk _ => none
  | .dt _ => none
def bQ (p : SQ) : SB := fun env => (p env).bind fun r => (getP r.2 r.1).bind fun d => (truD d).bind fun b => some (b, r.2)
def bNot (f : SB) : SB := fun env => (f env).bind fun r => some (!r.1, r.2)
def bAnd (f g : SB) : SB := fun env => (f env).bind fun r => if r.1 = true then g r.2 else some (false, r.2)
def bOr (f g : SB) : SB := fun env => (f env).bind fun r => if r.1 = true then some (true, r.2) else g r.2
def eIf (t : SB) (f g : SE) : SE := fun env => (t env).bind fun r => if r.1 = true then f r.2 else g r.2
def eB (t : SB) : SE := fun env => (t env).bind fun r => some (.bl r.1, r.2)
/-- f and g, as values (all but the last are truth values) -/
def eAnd (f g : SE) : SE := fun env => (f env).bind fun r => (asB r.1).bind fun b => if b = true then g r.2 else some (.bl false, r.2)
def eOr (f g : SE) : SE := fun env => (f env).bind fun r => (asB r.1).bind fun b => if b = true then some (.bl true, r.2) else g r.2
def eNot (f : SE) : SE := fun env => (f env).bind fun r => (asB r.1).bind fun b => some (.bl !b, r.2)

section
variable {X : Cx} {e a b c : Expr} {pos : Pos} {f g : SE} {p q : SQ}

theorem de_wk {f' : SE} (h : DE X e f) (w : ∀ env, f' env = f env) : DE X e f' := by
  have e : f' = f := funext w
  rw [e]; exact h

theorem de_var (i : Nat) {x : Str} (hN : X.N[i]? = some x) (hv : Vis X.env.scope x) (hd : (x == ("__debug__" : Str)) = false) (hcd : (x == ("__classdict__" : Str)) = false) : DE X (.Name x pos) (eVar i) := by
  refine ⟨wkE (pe_var hN hv hd hcd) fun σ H Q h => ?_⟩
  obtain ⟨C, O, env, E, r, e, k⟩ := h
  unfold eVar at e
  split at e
  · rename_i d hd
    cases e
    obtain ⟨v, h1, h2⟩ := E.fz i d hd
    exact ⟨v, h1, k v H O .refl E h2⟩
  · rename_i d hd
    cases e
    obtain ⟨v, O', h1, s, E', h2⟩ := E.frz hd
    exact ⟨v, h1, k v H O' s E' h2⟩
  · cases e
theorem de_int {i : Int} {j : Nat} : DE X (.Constant (.int i) j pos) (eC (.int i)) := ⟨wkE pe_int fun σ H Q ⟨C, O, env, E, r, e, k⟩ => by cases e; exact k _ H O .refl E (.int i)⟩
theorem de_bl {i : Bool} {j : Nat} : DE X (.Constant (.bool i) j pos) (eC (.bl i)) := ⟨wkE pe_bl fun σ H Q ⟨C, O, env, E, r, e, k⟩ => by cases e; exact k _ H O .refl E (.bl i)⟩
theorem de_non {j : Nat} : DE X (.Constant .none j pos) (eC .non) := ⟨wkE pe_non fun σ H Q ⟨C, O, env, E, r, e, k⟩ => by cases e; exact k _ H O .refl E .non⟩
theorem de_str {i : Str} {j : Nat} (h : PySem.PyData.strOk i = true) : DE X (.Constant (.str i) j pos) (eC (.str i)) := ⟨wkE pe_str fun σ H Q ⟨C, O, env, E, r, e, k⟩ => by cases e; exact k _ H O .refl E (.str i h)⟩
/-- a constant of the module: it stands for data whatever the heap -/
structure GlobD (K : PySem.W.Frag) (mg : Str → Option Value) (x : Str) (d : D) : Prop where
  ex : ∃ u v, mg x = some u ∧ RelV v u ∧ ∀ H O, Rep K H O d v
theorem de_glob {x : Str} {d : D} (G : GlobD X.K X.mg x d) (hg : Gl X x) (hd : (x == ("__debug__" : Str)) = false) : DE X (.Name x pos) (eC d) := by
  obtain ⟨u, v, hm, r, hr⟩ := G.ex
  exact ⟨wkE (pe_glob hg hm r hd) fun σ H Q ⟨C, O, env, E, r, e, k⟩ => by cases e; exact k _ H O .refl E (hr H O)⟩

theorem dq_val (h : DE X e f) : DQ X e (qV f) := by
  refine ⟨wkE h.pe fun σ H Q h => ?_⟩
  obtain ⟨C, O, env, E, r, e, k⟩ := h
  obtain ⟨r1, e1, e2⟩ := bindS e
  cases e2
  exact ⟨C, O, env, E, r1, e1, fun v H' O' s E' rp => k v H' O' s E' rp⟩
theorem dq_slot (i : Nat) {x : Str} (hN : X.N[i]? = some x) (hv : Vis X.env.scope x) (hd : (x == ("__debug__" : Str)) = false) (hcd : (x == ("__classdict__" : Str)) = false) : DQ X (.Name x pos) (qS i) := by
  refine ⟨wkE (pe_var hN hv hd hcd) fun σ H Q h => ?_⟩
  obtain ⟨C, O, env, E, r, e, k⟩ := h
  obtain ⟨d, e1, e2⟩ := bindS e
  cases e2
  obtain ⟨v, h1, h2⟩ := E.getS e1
  exact ⟨v, h1, k v H O .refl E h1⟩
theorem de_new (h : DF X e f) : DE X e f := by
  refine ⟨wkE h.pe fun σ H Q h => ?_⟩
  obtain ⟨C, O, env, E, r, e, k⟩ := h
  refine ⟨C, O, env, E, r, e, fun a H' O' s E' L => ?_⟩
  obtain ⟨s2, E2, rp⟩ := E'.freeze L
  exact k _ H' _ (s.trans s2) E2 rp

theorem da_nil : DA X [] aN := ⟨wkA pa_nil fun σ H Q ⟨C, O, env, E, r, e, k⟩ => by cases e; exact k [] H O .refl E .nil⟩
theorem da_cons {es : List Expr} {as : SA} (ha : DQ X e p) (hr : DA X es as) (hs : starEach (e :: es) X.env = (false, eval e X.env) :: starEach es X.env) : DA X (e :: es) (aC p as) := by
  refine ⟨wkA (pa_cons ha.pe hr.pa hs) fun σ H Q h => ?_⟩
  obtain ⟨C, O, env, E, r, e, k⟩ := h
  obtain ⟨r1, e1, e2⟩ := bindS e
  obtain ⟨r2, e3, e4⟩ := bindS e2
  cases e4
  refine ⟨C, O, env, E, r1, e1, fun v H1 O1 s1 E1 p1 => ⟨C, O1, _, E1, r2, e3, fun vs H2 O2 s2 E2 p2 => ?_⟩⟩
  exact k _ H2 O2 (s1.trans s2) E2 (.cons (p1.mono s2) p2)

/-! ### operations by their rules -/
/-- a two-place operation on data -/
def OpD (X : Cx) (f : Value → Value → Sem Value) (g : D → D → Option D) : Prop := ∃ r : R2, OpR X f r ∧ ∀ (H : Hp) (O : Ad) (x y : D) (u v : V) (z : D) (Q : VK), (∀ a, O a → H a ≠ none) → PRep X.K H O x u → PRep X.K H O y v → g x y = some z →
  (∀ w H', Ext H H' → Rep X.K H' O z w → Q w H') → r u v H Q
def UnD (X : Cx) (f : Value → Sem Value) (g : D → Option D) : Prop := ∃ r : V → Hp → VK → Prop, UnR X f r ∧ ∀ (H : Hp) (O : Ad) (x : D) (u : V) (z : D) (Q : VK), (∀ a, O a → H a ≠ none) → PRep X.K H O x u → g x = some z →
  (∀ w H', Ext H H' → Rep X.K H' O z w → Q w H') → r u H Q
def CallD (X : Cx) (f : Value) (g : List D → Option D) : Prop := ∃ r : List V → Hp → VK → Prop, CallR X f r ∧ ∀ (H : Hp) (O : Ad) (xs : List D) (us : List V) (z : D) (Q : VK), (∀ a, O a → H a ≠ none) → PRepL X.K H O xs us → g xs = some z →
  (∀ w H', Ext H H' → Rep X.K H' O z w → Q w H') → r us H Q
/-- .. that makes a new thing -/
def CallN (X : Cx) (f : Value) (g : List D → Option D) : Prop := ∃ r : List V → Hp → VK → Prop, CallR X f r ∧ ∀ (H : Hp) (O : Ad) (xs : List D) (us : List V) (z : D) (Q : VK), (∀ a, O a → H a ≠ none) → PRepL X.K H O xs us → g xs = some z →
  (∀ p o, H p = none → (∀ O', Step H O (upd H p o) O' → Own X.K (upd H p o) O' z p) → Q (.ref p) (upd H p o)) → r us H Q
def OpN (X : Cx) (f : Value → Value → Sem Value) (g : D → D → Option D) : Prop := ∃ r : R2, OpR X f r ∧ ∀ (H : Hp) (O : Ad) (x y : D) (u v : V) (z : D) (Q : VK), (∀ a, O a → H a ≠ none) → PRep X.K H O x u → PRep X.K H O y v → g x y = some z →
  (∀ p o, H p = none → (∀ O', Step H O (upd H p o) O' → Own X.K (upd H p o) O' z p) → Q (.ref p) (upd H p o)) → r u v H Q

theorem op2 {K : PySem.W.Frag} {gg : D → D → Option D} {p q : SQ} {r : R2} {σ : L2.St} {H : Hp} {Q : VK} (h : rdE K (eOp2 gg p q) σ H Q)
    (hr : ∀ (H : Hp) (O : Ad) (x y : D) (u v : V) (z : D) (Q : VK), (∀ a, O a → H a ≠ none) → PRep K H O x u → PRep K H O y v → gg x y = some z → (∀ w H', Ext H H' → Rep K H' O z w → Q w H') → r u v H Q) : tOp r (rdQ K p) (rdQ K q) σ H Q := by
  obtain ⟨C, O, env, E, z, e, k⟩ := h
  obtain ⟨r1, e1, e2⟩ := bindS e
  obtain ⟨r2, e3, e4⟩ := bindS e2
  obtain ⟨x, e5, e6⟩ := bindS e4
  obtain ⟨y, e7, e8⟩ := bindS e6
  obtain ⟨z, e9, e10⟩ := bindS e8
  cases e10
  refine ⟨C, O, env, E, r1, e1, fun u H1 O1 s1 E1 p1 => ⟨C, O1, _, E1, r2, e3, fun v H2 O2 s2 E2 p2 => ?_⟩⟩
  refine hr H2 O2 x y u v z Q E2.trk (E2.getP e5 (p1.mono s2)) (E2.getP e7 p2) e9 fun w H3 ex rp => ?_
  exact k w H3 O2 (s1.trans (s2.trans (.ext ex))) (E2.ext ex) rp
theorem op2N {K : PySem.W.Frag} {gg : D → D → Option D} {p q : SQ} {r : R2} {σ : L2.St} {H : Hp} {Q : VK} (h : rdF K (eOp2 gg p q) σ H Q)
    (hr : ∀ (H : Hp) (O : Ad) (x y : D) (u v : V) (z : D) (Q : VK), (∀ a, O a → H a ≠ none) → PRep K H O x u → PRep K H O y v → gg x y = some z → (∀ p o, H p = none → (∀ O', Step H O (upd H p o) O' → Own K (upd H p o) O' z p) → Q (.ref p) (upd H p o)) → r u v H Q) : tOp r (rdQ K p) (rdQ K q) σ H Q := by
  obtain ⟨C, O, env, E, z, e, k⟩ := h
  obtain ⟨r1, e1, e2⟩ := bindS e
  obtain ⟨r2, e3, e4⟩ := bindS e2
  obtain ⟨x, e5, e6⟩ := bindS e4
  obtain ⟨y, e7, e8⟩ := bindS e6
  obtain ⟨z, e9, e10⟩ := bindS e8
  cases e10
  refine ⟨C, O, env, E, r1, e1, fun u H1 O1 s1 E1 p1 => ⟨C, O1, _, E1, r2, e3, fun v H2 O2 s2 E2 p2 => ?_⟩⟩
  refine hr H2 O2 x y u v z Q E2.trk (E2.getP e5 (p1.mono s2)) (E2.getP e7 p2) e9 fun p o n ow => ?_
  obtain ⟨s3, E3, L⟩ := E2.new n ow
  exact k p _ _ (s1.trans (s2.trans s3)) E3 L
theorem de_bin {op : Operator} {gg : D → D → Option D} (ho : OpD X (binaryOp op) gg) (ha : DQ X a p) (hb : DQ X b q) : DE X (.BinOp a op b pos) (eOp2 gg p q) := by
  obtain ⟨r, hR, hr⟩ := ho
  exact ⟨wkE (pe_op hR ha.pe hb.pe) fun σ H Q h => op2 h hr⟩
theorem df_bin {op : Operator} {gg : D → D → Option D} (ho : OpN X (binaryOp op) gg) (ha : DQ X a p) (hb : DQ X b q) : DF X (.BinOp a op b pos) (eOp2 gg p q) := by
  obtain ⟨r, hR, hr⟩ := ho
  exact ⟨wkE (pe_op hR ha.pe hb.pe) fun σ H Q h => op2N h hr⟩
theorem de_cmp {op : CmpOp} {gg : D → D → Option D} (ho : OpD X (compareOp op) gg) (ha : DQ X a p) (hb : DQ X b q) (hm : behindInMarks op b = false) : DE X (.Compare a [op] [b] pos) (eOp2 gg p q) := by
  obtain ⟨r, hR, hr⟩ := ho
  exact ⟨wkE (pe_cmpR hR ha.pe hb.pe hm) fun σ H Q h => op2 h hr⟩
theorem toB {K : PySem.W.Frag} {f : SE} {σ : L2.St} {H : Hp} {Q : Bool → Hp → Prop} (h : rdB K (bV f) σ H Q) : rdE K f σ H fun x H' => ∃ k, x = .bl k ∧ Q k H' := by
  obtain ⟨C, O, env, E, z, e, k⟩ := h
  obtain ⟨r1, e1, e2⟩ := bindS e
  obtain ⟨b, e3, e4⟩ := bindS e2
  cases e4
  refine ⟨C, O, env, E, r1, e1, fun v H1 O1 s1 E1 p1 => ?_⟩
  unfold asB at e3
  split at e3
  · rename_i hb
    cases e3
    rw [hb] at p1
    cases p1
    exact ⟨_, rfl, k H1 O1 s1 E1⟩
  · cases e3
theorem dt_cmp {op : CmpOp} {gg : D → D → Option D} (ho : OpD X (compareOp op) gg) (ha : DQ X a p) (hb : DQ X b q) (hm : behindInMarks op b = false) : DT X (.Compare a [op] [b] pos) (bV (eOp2 gg p q)) := by
  obtain ⟨r, hR, hr⟩ := ho
  exact ⟨wkT (pt_cmpR hR ha.pe hb.pe hm) fun σ H Q h => op2 (toB h) hr⟩
theorem dt_val (h : DE X e f) (he : ∀ whole, isTrue e X.env whole = (do let v ← whole; standAt e.pos; holding [v] (truthy v))) : DT X e (bV f) :=
  ⟨wkT (pt_val h.pe he) fun σ H Q h => toB h⟩
theorem dt_truth (h : DQ X e p) (he : ∀ whole, isTrue e X.env whole = (do let v ← whole; standAt e.pos; holding [v] (truthy v))) : DT X e (bQ p) := by
  refine ⟨wkT (pt_truth h.pe he) fun σ H Q h => ?_⟩
  obtain ⟨C, O, env, E, z, e, k⟩ := h
  obtain ⟨r1, e1, e2⟩ := bindS e
  obtain ⟨d, e3, e4⟩ := bindS e2
  obtain ⟨t, e5, e6⟩ := bindS e4
  cases e6
  refine ⟨C, O, env, E, r1, e1, fun v H1 O1 s1 E1 p1 => ⟨t, ?_, k H1 O1 s1 E1⟩⟩
  have r := E1.getP e3 p1
  cases d with
  | non => rw [r.non]; cases e5; rfl
  | bl b => rw [r.bl]; cases e5; rfl
  | int i => rw [r.int]; cases e5; rfl
  | str x =>
    rw [r.str]
    by_cases hl : x.length ≤ sizeLine
    · rw [show truD (.str x) = some (x.length != 0) from if_pos hl] at e5
      cases e5
      refine ⟨hl, ?_⟩
      rw [Bool.eq_iff_iff, bne_iff_ne, bne_iff_ne]
      omega
    · rw [show truD (.str x) = none from if_neg hl] at e5
      cases e5
  | lst ds =>
    obtain ⟨a, vs, rfl, h1, h2⟩ := r.lst
    cases e5
    refine .inl ⟨vs, .inl (.inl h1), ?_⟩
    cases h2 <;> rfl
  | tup ds =>
    obtain ⟨a, vs, rfl, h1, h2⟩ := r.tup
    cases e5
    refine .inr (.inl ⟨vs, .of h1, ?_⟩)
    cases h2 <;> rfl
  | kt ds =>
    obtain ⟨a, vs, rfl, h1, h2⟩ := r.kt
    cases e5
    refine .inr (.inl ⟨vs, h1, ?_⟩)
    cases h2 <;> rfl
  | sc ns =>
    obtain ⟨a, rfl, h1⟩ := r.sc
    cases e5
    refine .inl ⟨_, h1, ?_⟩
    cases ns <;> rfl
  | dk kvs => cases e5
  | dt kvs => cases e5

/-! ### and, or, not, if else -/
variable {tf tg : SB} {rest : List Expr}
theorem dt_w (h : DW X e tf) : DT X e tf := ⟨h.pw.pt⟩
theorem dt_not (h : DT X a tf) : DT X (.UnaryOp .Not a pos) (bNot tf) := by
  refine ⟨wkT (pt_not h.pt) fun σ H Q h => ?_⟩
  obtain ⟨C, O, env, E, z, e, k⟩ := h
  obtain ⟨r1, e1, e2⟩ := bindS e
  cases e2
  exact ⟨C, O, env, E, r1, e1, fun H1 O1 s1 E1 => k H1 O1 s1 E1⟩
theorem dw_and1 (h : DT X a tf) : DW X (.BoolOp .And [a] pos) tf := ⟨pw_and1 h.pt⟩
theorem dw_or1 (h : DT X a tf) : DW X (.BoolOp .Or [a] pos) tf := ⟨pw_or1 h.pt⟩
theorem dw_and (ha : DT X a tf) (hb : DW X (.BoolOp .And (b :: rest) pos) tg) : DW X (.BoolOp .And (a :: b :: rest) pos) (bAnd tf tg) := by
  refine ⟨wkW (pw_and ha.pt hb.pw) fun σ H Q h => ?_⟩
  obtain ⟨C, O, env, E, z, e, k⟩ := h
  obtain ⟨r1, e1, e2⟩ := bindS e
  refine ⟨C, O, env, E, r1, e1, fun H1 O1 s1 E1 => ?_⟩
  cases hb : r1.1 with
  | true =>
    rw [if_pos rfl]
    rw [if_pos hb] at e2
    exact ⟨C, O1, _, E1, z, e2, fun H2 O2 s2 E2 => k H2 O2 (s1.trans s2) E2⟩
  | false =>
    rw [if_neg Bool.false_ne_true]
    rw [if_neg (by rw [hb]; exact Bool.false_ne_true)] at e2
    cases e2
    exact k H1 O1 s1 E1
theorem dw_or (ha : DT X a tf) (hb : DW X (.BoolOp .Or (b :: rest) pos) tg) : DW X (.BoolOp .Or (a :: b :: rest) pos) (bOr tf tg) := by
  refine ⟨wkW (pw_or ha.pt hb.pw) fun σ H Q h => ?_⟩
  obtain ⟨C, O, env, E, z, e, k⟩ := h
  obtain ⟨r1, e1, e2⟩ := bindS e
  refine ⟨C, O, env, E, r1, e1, fun H1 O1 s1 E1 => ?_⟩
  cases hb : r1.1 with
  | false =>
    rw [if_neg Bool.false_ne_true]
    rw [if_neg (by rw [hb]; exact Bool.false_ne_true)] at e2
    exact ⟨C, O1, _, E1, z, e2, fun H2 O2 s2 E2 => k H2 O2 (s1.trans s2) E2⟩
  | true =>
    rw [if_pos rfl]
    rw [if_pos hb] at e2
    cases e2
    exact k H1 O1 s1 E1
theorem de_ifExp (hc : DT X c tf) (ha : DE X a f) (hb : DE X b g) : DE X (.IfExp c a b pos) (eIf tf f g) := by
  refine ⟨wkE (pe_ifExp hc.pt ha.pe hb.pe) fun σ H Q h => ?_⟩
  obtain ⟨C, O, env, E, z, e, k⟩ := h
  obtain ⟨r1, e1, e2⟩ := bindS e
  refine ⟨C, O, env, E, r1, e1, fun H1 O1 s1 E1 => ?_⟩
  cases hb : r1.1 with
  | true =>
    rw [if_pos rfl]
    rw [if_pos hb] at e2
    exact ⟨C, O1, _, E1, z, e2, fun v H2 O2 s2 E2 p => k v H2 O2 (s1.trans s2) E2 p⟩
  | false =>
    rw [if_neg Bool.false_ne_true]
    rw [if_neg (by rw [hb]; exact Bool.false_ne_true)] at e2
    exact ⟨C, O1, _, E1, z, e2, fun v H2 O2 s2 E2 p => k v H2 O2 (s1.trans s2) E2 p⟩
theorem asB_some {d : D} {k : Bool} (h : asB d = some k) : d = .bl k := by
  cases d <;> cases h
  rfl
theorem de_one {op : BoolOp} (h : DE X a f) : DE X (.BoolOp op [a] pos) f := ⟨pe_one h.pe⟩
theorem de_and (ha : DE X a f) (hb : DE X (.BoolOp .And (b :: rest) pos) g) : DE X (.BoolOp .And (a :: b :: rest) pos) (eAnd f g) := by
  refine ⟨wkE (pe_and ha.pe hb.pe) fun σ H Q h => ?_⟩
  obtain ⟨C, O, env, E, z, e, k⟩ := h
  obtain ⟨r1, e1, e2⟩ := bindS e
  obtain ⟨t, e3, e4⟩ := bindS e2
  refine ⟨C, O, env, E, r1, e1, fun v H1 O1 s1 E1 p1 => ?_⟩
  rw [asB_some e3] at p1
  cases p1
  refine ⟨t, rfl, ?_⟩
  cases t with
  | true =>
    rw [if_pos rfl] at e4 ⊢
    exact ⟨C, O1, _, E1, z, e4, fun v H2 O2 s2 E2 p => k v H2 O2 (s1.trans s2) E2 p⟩
  | false =>
    rw [if_neg Bool.false_ne_true] at e4 ⊢
    cases e4
    exact k _ H1 O1 s1 E1 (.bl false)
theorem de_or (ha : DE X a f) (hb : DE X (.BoolOp .Or (b :: rest) pos) g) : DE X (.BoolOp .Or (a :: b :: rest) pos) (eOr f g) := by
  refine ⟨wkE (pe_or ha.pe hb.pe) fun σ H Q h => ?_⟩
  obtain ⟨C, O, env, E, z, e, k⟩ := h
  obtain ⟨r1, e1, e2⟩ := bindS e
  obtain ⟨t, e3, e4⟩ := bindS e2
  refine ⟨C, O, env, E, r1, e1, fun v H1 O1 s1 E1 p1 => ?_⟩
  rw [asB_some e3] at p1
  cases p1
  refine ⟨t, rfl, ?_⟩
  cases t with
  | false =>
    rw [if_neg Bool.false_ne_true] at e4 ⊢
    exact ⟨C, O1, _, E1, z, e4, fun v H2 O2 s2 E2 p => k v H2 O2 (s1.trans s2) E2 p⟩
  | true =>
    rw [if_pos rfl] at e4 ⊢
    cases e4
    exact k _ H1 O1 s1 E1 (.bl true)
theorem de_not (ha : DE X a f) : DE X (.UnaryOp .Not a pos) (eNot f) := by
  refine ⟨wkE (pe_not ha.pe) fun σ H Q h => ?_⟩
  obtain ⟨C, O, env, E, z, e, k⟩ := h
  obtain ⟨r1, e1, e2⟩ := bindS e
  obtain ⟨t, e3, e4⟩ := bindS e2
  cases e4
  refine ⟨C, O, env, E, r1, e1, fun v H1 O1 s1 E1 p1 => ?_⟩
  rw [asB_some e3] at p1
  cases p1
  exact ⟨t, rfl, k _ H1 O1 s1 E1 (.bl _)⟩
theorem de_un {op : UnaryOp} {gg : D → Option D} (ho : UnD X (unaryOp op) gg) (ha : DQ X a p) : DE X (.UnaryOp op a pos) (eOp1 gg p) := by
  obtain ⟨r, hR, hr⟩ := ho
  refine ⟨wkE (pe_un hR ha.pe) fun σ H Q h => ?_⟩
  obtain ⟨C, O, env, E, z, e, k⟩ := h
  obtain ⟨r1, e1, e2⟩ := bindS e
  obtain ⟨x, e5, e6⟩ := bindS e2
  obtain ⟨z, e9, e10⟩ := bindS e6
  cases e10
  refine ⟨C, O, env, E, r1, e1, fun u H1 O1 s1 E1 p1 => ?_⟩
  refine hr H1 O1 x u z Q E1.trk (E1.getP e5 p1) e9 fun w H3 ex rp => ?_
  exact k w H3 O1 (s1.trans (.ext ex)) (E1.ext ex) rp

/-! ### calls of what is built in -/
variable {es : List Expr} {as : SA} {x : Str} {n : Pos}
theorem opsC {K : PySem.W.Frag} {gg : List D → Option D} {r : List V → Hp → VK → Prop} {σ : L2.St} {H : Hp} {Q : VK} (h : rdE K (eOps gg as) σ H Q)
    (hr : ∀ (H : Hp) (O : Ad) (xs : List D) (us : List V) (z : D) (Q : VK), (∀ a, O a → H a ≠ none) → PRepL K H O xs us → gg xs = some z → (∀ w H', Ext H H' → Rep K H' O z w → Q w H') → r us H Q) : tCB r (rdA K as) σ H Q := by
  obtain ⟨C, O, env, E, z, e, k⟩ := h
  obtain ⟨r1, e1, e2⟩ := bindS e
  obtain ⟨x, e5, e6⟩ := bindS e2
  obtain ⟨z, e9, e10⟩ := bindS e6
  cases e10
  refine ⟨C, O, env, E, r1, e1, fun u H1 O1 s1 E1 p1 => ?_⟩
  refine hr H1 O1 x u z Q E1.trk (E1.getPs e5 p1) e9 fun w H3 ex rp => ?_
  exact k w H3 O1 (s1.trans (.ext ex)) (E1.ext ex) rp
theorem opsN {K : PySem.W.Frag} {gg : List D → Option D} {r : List V → Hp → VK → Prop} {σ : L2.St} {H : Hp} {Q : VK} (h : rdF K (eOps gg as) σ H Q)
    (hr : ∀ (H : Hp) (O : Ad) (xs : List D) (us : List V) (z : D) (Q : VK), (∀ a, O a → H a ≠ none) → PRepL K H O xs us → gg xs = some z → (∀ p o, H p = none → (∀ O', Step H O (upd H p o) O' → Own K (upd H p o) O' z p) → Q (.ref p) (upd H p o)) → r us H Q) : tCB r (rdA K as) σ H Q := by
  obtain ⟨C, O, env, E, z, e, k⟩ := h
  obtain ⟨r1, e1, e2⟩ := bindS e
  obtain ⟨x, e5, e6⟩ := bindS e2
  obtain ⟨z, e9, e10⟩ := bindS e6
  cases e10
  refine ⟨C, O, env, E, r1, e1, fun u H1 O1 s1 E1 p1 => ?_⟩
  refine hr H1 O1 x u z Q E1.trk (E1.getPs e5 p1) e9 fun p o n ow => ?_
  obtain ⟨s3, E3, L⟩ := E1.new n ow
  exact k p _ _ (s1.trans s3) E3 L
theorem de_callB {id : String} {gg : List D → Option D} (hc : CallD X (.builtin id) gg) (hg : Gl X x) (hm : X.mg x = none) (hv : bootBuiltins x = some (.builtin id)) (ha : DA X (e :: es) as) (hn : x ≠ "__name__") (hdb : (x == ("__debug__" : Str)) = false)
    (he : starEach (e :: es) X.env = (false, eval e X.env) :: starEach es X.env) (hpl : (backTo pos (starEach es X.env)).any (·.1) = false) : DE X (.Call (.Name x n) (e :: es) [] pos) (eOps gg as) := by
  obtain ⟨r, hR, hr⟩ := hc
  exact ⟨wkE (pe_callB hR hg hm hv ha.pa hn hdb he hpl) fun σ H Q h => opsC h hr⟩
theorem df_callB {id : String} {gg : List D → Option D} (hc : CallN X (.builtin id) gg) (hg : Gl X x) (hm : X.mg x = none) (hv : bootBuiltins x = some (.builtin id)) (ha : DA X (e :: es) as) (hn : x ≠ "__name__") (hdb : (x == ("__debug__" : Str)) = false)
    (he : starEach (e :: es) X.env = (false, eval e X.env) :: starEach es X.env) (hpl : (backTo pos (starEach es X.env)).any (·.1) = false) : DF X (.Call (.Name x n) (e :: es) [] pos) (eOps gg as) := by
  obtain ⟨r, hR, hr⟩ := hc
  exact ⟨wkE (pe_callB hR hg hm hv ha.pa hn hdb he hpl) fun σ H Q h => opsN h hr⟩
theorem de_callTy {T : String} {gg : List D → Option D} (hc : CallD X (.type T) gg) (hg : Gl X x) (hm : X.mg x = none) (hv : bootBuiltins x = some (.type T)) (ha : DA X (e :: es) as) (hn : x ≠ "__name__") (hdb : (x == ("__debug__" : Str)) = false)
    (he : starEach (e :: es) X.env = (false, eval e X.env) :: starEach es X.env) (hpl : (backTo pos (starEach es X.env)).any (·.1) = false) : DE X (.Call (.Name x n) (e :: es) [] pos) (eOps gg as) := by
  obtain ⟨r, hR, hr⟩ := hc
  exact ⟨wkE (pe_callTy hR hg hm hv ha.pa hn hdb he hpl) fun σ H Q h => opsC h hr⟩
theorem df_callTy {T : String} {gg : List D → Option D} (hc : CallN X (.type T) gg) (hg : Gl X x) (hm : X.mg x = none) (hv : bootBuiltins x = some (.type T)) (ha : DA X (e :: es) as) (hn : x ≠ "__name__") (hdb : (x == ("__debug__" : Str)) = false)
    (he : starEach (e :: es) X.env = (false, eval e X.env) :: starEach es X.env) (hpl : (backTo pos (starEach es X.env)).any (·.1) = false) : DF X (.Call (.Name x n) (e :: es) [] pos) (eOps gg as) := by
  obtain ⟨r, hR, hr⟩ := hc
  exact ⟨wkE (pe_callTy hR hg hm hv ha.pa hn hdb he hpl) fun σ H Q h => opsN h hr⟩

/-! ### displays -/
def vals : List P → Option (List D)
  | [] => some []
  | .val d :: ps => (vals ps).bind fun ds => some (d :: ds)
  | .slot _ :: _ => none
def eTup (a : SA) : SE := fun env => (a env).bind fun r => (vals r.1).bind fun ds => if ds.length ≤ sizeLine then some (.tup ds, r.2) else none
def eLst (a : SA) : SE := fun env => (a env).bind fun r => (vals r.1).bind fun ds => if ds.length ≤ sizeLine then some (.lst ds, r.2) else none
theorem PRelL.vals {K : PySem.W.Frag} {H : Hp} {O : Ad} {σ : L2.St} : ∀ {ps : List P} {ds : List D} {vs : List V}, Z.vals ps = some ds → PRelL K H O σ ps vs → RepL K H O ds vs
  | [], _, _, h, .nil => by cases h; exact .nil
  | .val d :: ps, _, _, h, .cons r rs => by
    unfold Z.vals at h
    obtain ⟨ds', e1, e2⟩ := bindS h
    cases e2
    exact .cons r (PRelL.vals e1 rs)
  | .slot i :: ps, _, _, h, _ => by cases h
theorem upd_ext {H : Hp} {p : Addr} {o : HO} (n : H p = none) : Ext H (upd H p o) := fun b x q => by rw [upd_ne (ne_of_none q n)]; exact q
theorem new_tup {K : PySem.W.Frag} {H : Hp} {O : Ad} {p : Addr} {ds : List D} {vs : List V} (t : ∀ a, O a → H a ≠ none) (n : H p = none) (r : RepL K H O ds vs) : Rep K (upd H p (.tup vs)) O (.tup ds) (.ref p) :=
  .tup (fun z => t p z n) upd_same (r.mono (.ext (upd_ext n)))
theorem new_lst {K : PySem.W.Frag} {H : Hp} {O : Ad} {p : Addr} {ds : List D} {vs : List V} (t : ∀ a, O a → H a ≠ none) (n : H p = none) (r : RepL K H O ds vs) : Rep K (upd H p (.lst vs)) O (.lst ds) (.ref p) :=
  .lst (fun z => t p z n) upd_same (r.mono (.ext (upd_ext n)))
theorem own_lst {K : PySem.W.Frag} {H : Hp} {O : Ad} {p : Addr} {ds : List D} {vs : List V} (r : RepL K H O ds vs) : ∀ O', Step H O (upd H p (.lst vs)) O' → Own K (upd H p (.lst vs)) O' (.lst ds) p :=
  fun _ s => .lst upd_same (r.mono s)
theorem de_tup {k : Nat} (h : DA X es as) : DE X (.Tuple es k pos) (eTup as) := by
  refine ⟨wkE (pe_tup h.pa) fun σ H Q h => ?_⟩
  obtain ⟨C, O, env, E, z, e, k⟩ := h
  obtain ⟨r1, e1, e2⟩ := bindS e
  obtain ⟨ds, e3, e4⟩ := bindS e2
  split at e4
  · rename_i hl
    cases e4
    refine ⟨C, O, env, E, r1, e1, fun vs H1 O1 s1 E1 p1 => ?_⟩
    have rl := p1.vals e3
    refine ⟨by rw [← rl.length]; exact hl, fun p n => ?_⟩
    exact k _ _ O1 (s1.trans (.ext (upd_ext n))) (E1.ext (upd_ext n)) (new_tup E1.trk n rl)
  · cases e4
theorem df_lst (h : DA X es as) : DF X (.List es pos) (eLst as) := by
  refine ⟨wkE (pe_lst h.pa) fun σ H Q h => ?_⟩
  obtain ⟨C, O, env, E, z, e, k⟩ := h
  obtain ⟨r1, e1, e2⟩ := bindS e
  obtain ⟨ds, e3, e4⟩ := bindS e2
  split at e4
  · rename_i hl
    cases e4
    refine ⟨C, O, env, E, r1, e1, fun vs H1 O1 s1 E1 p1 => ?_⟩
    have rl := p1.vals e3
    refine ⟨by rw [← rl.length]; exact hl, fun p n => ?_⟩
    obtain ⟨s3, E3, L⟩ := E1.new n (own_lst rl)
    exact k p _ _ (s1.trans s3) E3 L
  · cases e4
end
end Z

/-! The data layer, part C: operations on data and their rules. -/
namespace Z
open PySem PySem.Spec PyProof.Rows L2

/-! ### data as the library's PyData -/
mutual
def py : D → PyData
  | .non => .none
  | .bl b => .bool b
  | .int i => .int i
  | .str x => .str x
  | .tup ds => .tuple (pyL ds)
  | .lst ds => .list (pyL ds)
  | .kt ds => .tuple (pyL ds)
  | .sc _ => .none
  | .dk _ => .none
  | .dt _ => .none
def pyL : List D → List PyData
  | [] => []
  | d :: ds => py d :: pyL ds
end
mutual
/-- data that == looks at: no dicts, at most n deep -/
def ok : Nat → D → Bool
  | _, .non => true
  | _, .bl _ => true
  | _, .int _ => true
  | _, .str _ => true
  | n + 1, .tup ds => okL n ds
  | n + 1, .lst ds => okL n ds
  | n + 1, .kt ds => okL n ds
  | _, _ => false
def okL : Nat → List D → Bool
  | _, [] => true
  | n, d :: ds => ok n d && okL n ds
end
theorem pyL_map : ∀ ds : List D, pyL ds = ds.map py
  | [] => rfl
  | d :: ds => by unfold pyL; rw [pyL_map ds]; rfl

section
variable {K : PySem.W.Frag} {H : Hp} {O : Ad}
theorem kt_sq {a : Addr} {vs : List V} (h : KtOk K H O a vs) : SqT K H a vs := h.sq
mutual
theorem Rep.dp : ∀ {n : Nat} {d : D} {v : V}, Rep K H O d v → ok n d = true → Dp K H v (py d)
  | _, _, _, .non, _ => by unfold py; exact .non
  | _, _, _, .bl b, _ => by unfold py; exact .bl b
  | _, _, _, .int i, _ => by unfold py; exact .int i
  | _, _, _, .str x _, _ => by unfold py; exact .str x
  | n + 1, _, _, .tup _ h r, k => by unfold py; unfold ok at k; exact .tup (.of h) (RepL.dp r k)
  | n + 1, _, _, .lst _ h r, k => by unfold py; unfold ok at k; exact .lst (.of h) (RepL.dp r k)
  | n + 1, _, _, .kt h r, k => by unfold py; unfold ok at k; exact .tup (kt_sq h) (RepL.dp r k)
  | 0, _, _, .tup _ _ _, k => by unfold ok at k; cases k
  | 0, _, _, .lst _ _ _, k => by unfold ok at k; cases k
  | 0, _, _, .kt _ _, k => by unfold ok at k; cases k
  | n, _, _, .sc _, k => by unfold ok at k; cases n <;> cases k
  | n, _, _, .dk _ _ _ _, k => by unfold ok at k; cases n <;> cases k
  | n, _, _, .dt _ _ _ _, k => by unfold ok at k; cases n <;> cases k
theorem RepL.dp : ∀ {n : Nat} {ds : List D} {vs : List V}, RepL K H O ds vs → okL n ds = true → DpAll K H vs (pyL ds)
  | _, _, _, .nil, _ => by unfold pyL; exact .nil
  | n, _, _, .cons h r, k => by
    unfold pyL
    unfold okL at k
    have k := Bool.and_eq_true_iff.mp k
    exact .cons (Rep.dp h k.1) (RepL.dp r k.2)
end
mutual
theorem Rep.lay : ∀ {n : Nat} {d : D} {v : V}, Rep K H O d v → ok n d = true → (py d).canLay0 = true ∧ (py d).depth ≤ n
  | _, _, _, .non, _ => by unfold py; exact ⟨by unfold PyData.canLay0; rfl, by unfold PyData.depth; exact Nat.zero_le _⟩
  | _, _, _, .bl b, _ => by unfold py; exact ⟨by unfold PyData.canLay0; rfl, by unfold PyData.depth; exact Nat.zero_le _⟩
  | _, _, _, .int i, _ => by unfold py; exact ⟨by unfold PyData.canLay0; rfl, by unfold PyData.depth; exact Nat.zero_le _⟩
  | _, _, _, .str x h, _ => by unfold py; exact ⟨by unfold PyData.canLay0; exact h, by unfold PyData.depth; exact Nat.zero_le _⟩
  | n + 1, _, _, .tup _ h r, k => by
    unfold py; unfold ok at k
    obtain ⟨h1, h2⟩ := RepL.lay r k
    exact ⟨by unfold PyData.canLay0; exact h1, by unfold PyData.depth; exact Nat.succ_le_succ h2⟩
  | n + 1, _, _, .lst _ h r, k => by
    unfold py; unfold ok at k
    obtain ⟨h1, h2⟩ := RepL.lay r k
    exact ⟨by unfold PyData.canLay0; exact h1, by unfold PyData.depth; exact Nat.succ_le_succ h2⟩
  | n + 1, _, _, .kt h r, k => by
    unfold py; unfold ok at k
    obtain ⟨h1, h2⟩ := RepL.lay r k
    exact ⟨by unfold PyData.canLay0; exact h1, by unfold PyData.depth; exact Nat.succ_le_succ h2⟩
  | 0, _, _, .tup _ _ _, k => by unfold ok at k; cases k
  | 0, _, _, .lst _ _ _, k => by unfold ok at k; cases k
  | 0, _, _, .kt _ _, k => by unfold ok at k; cases k
  | n, _, _, .sc _, k => by unfold ok at k; cases n <;> cases k
  | n, _, _, .dk _ _ _ _, k => by unfold ok at k; cases n <;> cases k
  | n, _, _, .dt _ _ _ _, k => by unfold ok at k; cases n <;> cases k
theorem RepL.lay : ∀ {n : Nat} {ds : List D} {vs : List V}, RepL K H O ds vs → okL n ds = true → PyData.canLayAll0 (pyL ds) = true ∧ PyData.depthAll (pyL ds) ≤ n
  | _, _, _, .nil, _ => by unfold pyL; exact ⟨by unfold PyData.canLayAll0; rfl, by unfold PyData.depthAll; exact Nat.zero_le _⟩
  | n, _, _, .cons h r, k => by
    unfold pyL
    unfold okL at k
    have k := Bool.and_eq_true_iff.mp k
    obtain ⟨h1, h2⟩ := Rep.lay h k.1
    obtain ⟨h3, h4⟩ := RepL.lay r k.2
    exact ⟨by unfold PyData.canLayAll0; rw [h1, h3]; rfl, by unfold PyData.depthAll; exact Nat.max_le.mpr ⟨h2, h4⟩⟩
end
theorem PRep.dp {n : Nat} {d : D} {v : V} (h : PRep K H O d v) (k : ok n d = true) : Dp K H v (py d) := by
  rcases h with h | ⟨a, rfl, h⟩
  · exact h.dp k
  · cases h with
    | fdk _ _ _ => unfold ok at k; cases n <;> cases k
    | own h => cases h with
    | lst h r =>
      cases n with
      | zero => unfold ok at k; cases k
      | succ n => unfold py; unfold ok at k; exact .lst (.of h) (r.dp k)
    | dk _ _ _ => unfold ok at k; cases n <;> cases k
    | dt _ _ _ => unfold ok at k; cases n <;> cases k
theorem PRep.shaped {n : Nat} {d : D} {v : V} (h : PRep K H O d v) (k : ok n d = true) (hn : n ≤ 64) : SeqAt.shaped (py d) = true := by
  have fin : (py d).canLay0 = true ∧ (py d).depth ≤ n → SeqAt.shaped (py d) = true := fun ⟨h1, h2⟩ => by
    unfold SeqAt.shaped
    rw [h1, decide_eq_true (Nat.le_trans h2 hn)]
    rfl
  rcases h with h | ⟨a, rfl, h⟩
  · exact fin (h.lay k)
  · cases h with
    | fdk _ _ _ => unfold ok at k; cases n <;> cases k
    | own h => cases h with
    | lst h r =>
      cases n with
      | zero => unfold ok at k; cases k
      | succ n =>
        apply fin
        unfold py
        unfold ok at k
        obtain ⟨h1, h2⟩ := r.lay k
        exact ⟨by unfold PyData.canLay0; exact h1, by unfold PyData.depth; exact Nat.succ_le_succ h2⟩
    | dk _ _ _ => unfold ok at k; cases n <;> cases k
    | dt _ _ _ => unfold ok at k; cases n <;> cases k
theorem PRep.tupR {ds : List D} {v : V} (h : PRep K H O (.tup ds) v) : Rep K H O (.tup ds) v := by
  rcases h with h | ⟨a, rfl, ⟨h⟩⟩
  · exact h
  · cases h
/-- a tuple of either kind -/
def asT : D → Option (List D)
  | .tup ds => some ds
  | .kt ds => some ds
  | _ => none
theorem PRep.asT {d : D} {ds : List D} {v : V} (h : PRep K H O d v) (e : asT d = some ds) : ∃ a vs, v = .ref a ∧ SqT K H a vs ∧ RepL K H O ds vs := by
  cases d <;> try cases e
  · obtain ⟨a, vs, h1, h2, h3⟩ := h.tup
    exact ⟨a, vs, h1, .of h2, h3⟩
  · exact h.kt
end

/-! ### strings -/
theorem strOk_append {x y : Str} (h : PyData.strOk x = true) (k : PyData.strOk y = true) : PyData.strOk (x ++ y) = true := by
  have e : (x ++ y).cps = x.cps ++ y.cps := rfl
  unfold PyData.strOk at *
  rw [e, Array.all_append, h, k]
  rfl
theorem strOk_sub {x y : Str} (h : PyData.strOk x = true) (s : ∀ c ∈ y.cps.toList, c ∈ x.cps.toList) : PyData.strOk y = true := by
  unfold PyData.strOk at *
  rw [← Array.all_toList, List.all_eq_true] at *
  exact fun c hc => h c (s c hc)
theorem strOk_cut {x : Str} (lo hi : Option Int) (h : PyData.strOk x = true) : PyData.strOk (cutS x lo hi) = true :=
  strOk_sub h fun c hc => List.mem_of_mem_drop (List.mem_of_mem_take (by simpa [cutS] using hc))
theorem strOk_one {x : Str} {c : Nat} (h : PyData.strOk x = true) (hc : c ∈ x.cps.toList) : PyData.strOk ⟨#[c]⟩ = true :=
  strOk_sub h fun d hd => by
    have : d = c := by simpa using hd
    rw [this]; exact hc
def strRep (x : Str) (n : Nat) : Str := ⟨(List.replicate n x.cps.toList).flatten.toArray⟩
theorem strOk_rep {x : Str} (n : Nat) (h : PyData.strOk x = true) : PyData.strOk (strRep x n) = true :=
  strOk_sub h fun c hc => by
    have hc : c ∈ (List.replicate n x.cps.toList).flatten := hc
    obtain ⟨l, h1, h2⟩ := List.mem_flatten.mp hc
    rw [List.eq_of_mem_replicate h1] at h2
    exact h2

section
variable {X : Cx}
theorem OpR.or {f : Value → Value → Sem Value} {r r' : R2} (h : OpR X f r) (h' : OpR X f r') : OpR X f (fun x y H Q => r x y H Q ∨ r' x y H Q) := by
  intro pins s σ H x y v u Q I rx ry q
  rcases q with q | q
  · exact h pins s σ H x y v u Q I rx ry q
  · exact h' pins s σ H x y v u Q I rx ry q
theorem CallR.or {f : Value} {r r' : List V → Hp → VK → Prop} (h : CallR X f r) (h' : CallR X f r') : CallR X f (fun x H Q => r x H Q ∨ r' x H Q) := by
  intro pins s σ H x v Q I rx q
  rcases q with q | q
  · exact h pins s σ H x v Q I rx q
  · exact h' pins s σ H x v Q I rx q
theorem UnR.or {f : Value → Sem Value} {r r' : V → Hp → VK → Prop} (h : UnR X f r) (h' : UnR X f r') : UnR X f (fun x H Q => r x H Q ∨ r' x H Q) := by
  intro pins s σ H x v Q I rx q
  rcases q with q | q
  · exact h pins s σ H x v Q I rx q
  · exact h' pins s σ H x v Q I rx q

/-! ### + - * // % ** -/
def gAdd : D → D → Option D
  | .int i, .int j => some (.int (i + j))
  | .str x, .str y => if x.length + y.length ≤ sizeLine then some (.str (x ++ y)) else none
  | .tup x, .tup y => if x.length + y.length ≤ sizeLine then some (.tup (x ++ y)) else none
  | .lst x, .lst y => if x.length + y.length ≤ sizeLine then some (.lst (x ++ y)) else none
  | _, _ => none
theorem od_add : OpD X (binaryOp .Add) gAdd := by
  refine ⟨_, OpR.or op_add (OpR.or op_add_str (OpR.or op_catA op_cat)), fun H O x y u v z Q t hx hy e k => ?_⟩
  cases x <;> cases y <;> try (cases e; done)
  · rw [hx.int, hy.int]
    cases e
    exact .inl ⟨_, _, rfl, rfl, k _ H (Same.refl H) (.int _)⟩
  · rename_i a b
    rw [hx.str, hy.str]
    by_cases h : a.length + b.length ≤ sizeLine
    · rw [show gAdd (.str a) (.str b) = some (.str (a ++ b)) from if_pos h] at e
      cases e
      exact .inr (.inl ⟨_, _, rfl, rfl, h, k _ H (Same.refl H) (.str _ (strOk_append hx.strOk hy.strOk))⟩)
    · rw [show gAdd (.str a) (.str b) = none from if_neg h] at e
      cases e
  · rename_i a b
    by_cases h : a.length + b.length ≤ sizeLine
    · rw [show gAdd (.tup a) (.tup b) = some (.tup (a ++ b)) from if_pos h] at e
      cases e
      have rx := hx.tupR
      have ry := hy.tupR
      obtain ⟨p, vs, rfl, h1, h2⟩ := hx.tup
      obtain ⟨q, ws, rfl, h3, h4⟩ := hy.tup
      have el := h2.length
      have el2 := h4.length
      refine .inr (.inr (.inl ⟨p, q, vs, ws, rfl, rfl, .of h1, .of h3, by omega, fun e => ?_, fun _ e => ?_, fun _ _ l n => ?_⟩))
      · subst e
        cases h2
        exact k _ H (Same.refl H) ry
      · subst e
        cases h4
        rw [List.append_nil] at k
        exact k _ H (Same.refl H) rx
      · exact k _ _ (upd_ext n) (new_tup t n (h2.append h4))
    · rw [show gAdd (.tup a) (.tup b) = none from if_neg h] at e
      cases e
  · rename_i a b
    by_cases h : a.length + b.length ≤ sizeLine
    · rw [show gAdd (.lst a) (.lst b) = some (.lst (a ++ b)) from if_pos h] at e
      cases e
      obtain ⟨p, vs, rfl, h1, h2⟩ := hx.lst
      obtain ⟨q, ws, rfl, h3, h4⟩ := hy.lst
      have el := h2.length
      have el2 := h4.length
      exact .inr (.inr (.inr ⟨p, q, vs, ws, rfl, rfl, h1, h3, by omega, fun l n => k _ _ (upd_ext n) (new_lst t n (h2.append h4))⟩))
    · rw [show gAdd (.lst a) (.lst b) = none from if_neg h] at e
      cases e
/-- a new list -/
def gCat : D → D → Option D
  | .lst x, .lst y => if x.length + y.length ≤ sizeLine then some (.lst (x ++ y)) else none
  | _, _ => none
theorem on_cat : OpN X (binaryOp .Add) gCat := by
  refine ⟨_, op_cat, fun H O x y u v z Q t hx hy e k => ?_⟩
  cases x <;> cases y <;> try (cases e; done)
  rename_i a b
  by_cases h : a.length + b.length ≤ sizeLine
  · rw [show gCat (.lst a) (.lst b) = some (.lst (a ++ b)) from if_pos h] at e
    cases e
    obtain ⟨p, vs, rfl, h1, h2⟩ := hx.lst
    obtain ⟨q, ws, rfl, h3, h4⟩ := hy.lst
    have el := h2.length
    have el2 := h4.length
    exact ⟨p, q, vs, ws, rfl, rfl, h1, h3, by omega, fun l n => k _ _ n (own_lst (h2.append h4))⟩
  · rw [show gCat (.lst a) (.lst b) = none from if_neg h] at e
    cases e
def gSub : D → D → Option D
  | .int i, .int j => some (.int (i - j))
  | _, _ => none
theorem od_sub : OpD X (binaryOp .Sub) gSub := by
  refine ⟨_, op_sub, fun H O x y u v z Q t hx hy e k => ?_⟩
  cases x <;> cases y <;> try (cases e; done)
  rw [hx.int, hy.int]
  cases e
  exact ⟨_, _, rfl, rfl, k _ H (Same.refl H) (.int _)⟩
theorem strRep_mul (x : Str) (n : Nat) : Txt.mul x n = strRep x n := by
  have fl : ∀ (m : Nat) (a : Array Nat), (List.replicate m x.cps).foldl (· ++ ·) a = a ++ (List.replicate m x.cps.toList).flatten.toArray := fun m => by
    induction m with
    | zero => intro a; simp
    | succ m ih =>
      intro a
      rw [List.replicate_succ, List.foldl_cons, ih, List.replicate_succ, List.flatten_cons, Array.append_assoc]
      congr 1
      apply Array.toList_inj.mp
      simp
  unfold Txt.mul strRep
  by_cases h : (n : Int) < 1
  · rw [if_pos h]
    have : n = 0 := by omega
    subst this
    rfl
  · rw [if_neg h]
    by_cases h2 : (((n : Int) == 1) || x.length == 0) = true
    · rw [if_pos h2]
      simp only [Bool.or_eq_true, beq_iff_eq] at h2
      rcases h2 with h2 | h2
      · have : n = 1 := by omega
        subst this
        simp
      · have : x.cps.toList = [] := by
          apply List.eq_nil_of_length_eq_zero
          rw [Array.length_toList]
          exact h2
        have e : x.cps = #[] := Array.toList_inj.mp this
        obtain ⟨c⟩ := x
        simp only at e this
        subst e
        congr 1
        simp
    · rw [if_neg h2, Int.toNat_natCast, fl]
      congr 1
      apply Array.toList_inj.mp
      simp
theorem op_mul_str : OpR X (binaryOp .Mult) (fun x y H Q => ∃ i, ∃ n : Nat, x = .str i ∧ y = .int n ∧ i.length * n ≤ 1000000 ∧ n ≤ 1000000 ∧ i.length ≤ 1000000 ∧ Q (.str (strRep i n)) H) := by
  intro pins s σ H x y v u Q I rx ry h
  obtain ⟨i, n, rfl, rfl, h1, h2, h3, q⟩ := h
  obtain ⟨t, rfl⟩ := rx
  obtain ⟨t', rfl⟩ := ry
  refine PySem.SB.mul ⟨?_, fun a b => ?_, fun a b => ?_⟩ fun t' k => ⟨.str (strRep i n), H, ?_, ?_, q⟩
  · rw [decide_eq_false (by omega), decide_eq_false (by omega)]; rfl
  · have : (1000001 : Int) ≤ (2 ^ 63 - 1) / (n : Int) := by
      rw [Int.le_ediv_iff_mul_le (by omega)]
      omega
    omega
  · unfold PySem.Builtin.Str.tooLong
    rw [Int.toNat_natCast]
    first
      | (have := sizeLine_eq; apply decide_eq_false; omega)
      | (simp; omega)
  · exact I.tok _
  · exact ⟨t', by rw [strRep_mul]⟩
instance (i j : Int) : Decidable (CMul i j) := by unfold CMul; infer_instance
def gMul : D → D → Option D
  | .int i, .int j => if CMul i j then some (.int (i * j)) else none
  | .str x, .int n => if 0 ≤ n ∧ x.length * n.toNat ≤ 1000000 ∧ n ≤ 1000000 ∧ x.length ≤ 1000000 then some (.str (strRep x n.toNat)) else none
  | .lst xs, .int n => if 0 ≤ n ∧ n < 2 ^ 62 ∧ xs.length * n.toNat ≤ sizeLine then some (.lst (List.replicate n.toNat xs).flatten) else none
  | _, _ => none
theorem RepL.rep {K : PySem.W.Frag} {H : Hp} {O : Ad} {ds : List D} {vs : List V} (r : RepL K H O ds vs) : ∀ n : Nat, RepL K H O (List.replicate n ds).flatten (List.replicate n vs).flatten
  | 0 => .nil
  | n + 1 => by
    rw [List.replicate_succ, List.replicate_succ, List.flatten_cons, List.flatten_cons]
    exact r.append (RepL.rep r n)
theorem od_mul : OpD X (binaryOp .Mult) gMul := by
  refine ⟨_, OpR.or op_mul (OpR.or op_mul_str op_rep), fun H O x y u v z Q t hx hy e k => ?_⟩
  cases x <;> cases y <;> try (cases e; done)
  · rename_i i j
    rw [hx.int, hy.int]
    by_cases h : CMul i j
    · rw [show gMul (.int i) (.int j) = some (.int (i * j)) from if_pos h] at e
      cases e
      exact .inl ⟨_, _, rfl, rfl, h, k _ H (Same.refl H) (.int _)⟩
    · rw [show gMul (.int i) (.int j) = none from if_neg h] at e
      cases e
  · rename_i i n
    rw [hx.str, hy.int]
    by_cases h : 0 ≤ n ∧ i.length * n.toNat ≤ 1000000 ∧ n ≤ 1000000 ∧ i.length ≤ 1000000
    · rw [show gMul (.str i) (.int n) = some (.str (strRep i n.toNat)) from if_pos h] at e
      cases e
      refine .inr (.inl ⟨i, n.toNat, rfl, by rw [Int.toNat_of_nonneg h.1], h.2.1, by omega, h.2.2.2, k _ H (Same.refl H) (.str _ (strOk_rep _ hx.strOk))⟩)
    · rw [show gMul (.str i) (.int n) = none from if_neg h] at e
      cases e
  · rename_i xs n
    rw [hy.int]
    by_cases h : 0 ≤ n ∧ n < 2 ^ 62 ∧ xs.length * n.toNat ≤ sizeLine
    · rw [show gMul (.lst xs) (.int n) = some (.lst (List.replicate n.toNat xs).flatten) from if_pos h] at e
      cases e
      obtain ⟨p, vs, rfl, h1, h2⟩ := hx.lst
      refine .inr (.inr ⟨p, n, vs, rfl, rfl, h1, by omega, by omega, by rw [← h2.length]; exact h.2.2, fun l nn => k _ _ (upd_ext nn) (new_lst t nn (h2.rep _))⟩)
    · rw [show gMul (.lst xs) (.int n) = none from if_neg h] at e
      cases e
/-- [x] * n, a new list -/
def gRep : D → D → Option D
  | .lst xs, .int n => if 0 ≤ n ∧ n < 2 ^ 62 ∧ xs.length * n.toNat ≤ sizeLine then some (.lst (List.replicate n.toNat xs).flatten) else none
  | _, _ => none
theorem on_rep : OpN X (binaryOp .Mult) gRep := by
  refine ⟨_, op_rep, fun H O x y u v z Q t hx hy e k => ?_⟩
  cases x <;> cases y <;> try (cases e; done)
  rename_i xs n
  rw [hy.int]
  by_cases h : 0 ≤ n ∧ n < 2 ^ 62 ∧ xs.length * n.toNat ≤ sizeLine
  · rw [show gRep (.lst xs) (.int n) = some (.lst (List.replicate n.toNat xs).flatten) from if_pos h] at e
    cases e
    obtain ⟨p, vs, rfl, h1, h2⟩ := hx.lst
    exact ⟨p, n, vs, rfl, rfl, h1, by omega, by omega, by rw [← h2.length]; exact h.2.2, fun l nn => k _ _ nn (own_lst (h2.rep _))⟩
  · rw [show gRep (.lst xs) (.int n) = none from if_neg h] at e
    cases e
def gDiv : D → D → Option D
  | .int i, .int j => if 0 < j ∧ j < 1073741824 then some (.int (i / j)) else none
  | _, _ => none
theorem od_div : OpD X (binaryOp .FloorDiv) gDiv := by
  refine ⟨_, op_fdiv, fun H O x y u v z Q t hx hy e k => ?_⟩
  cases x <;> cases y <;> try (cases e; done)
  rename_i i j
  rw [hx.int, hy.int]
  by_cases h : 0 < j ∧ j < 1073741824
  · rw [show gDiv (.int i) (.int j) = some (.int (i / j)) from if_pos h] at e
    cases e
    exact ⟨_, _, rfl, rfl, h, k _ H (Same.refl H) (.int _)⟩
  · rw [show gDiv (.int i) (.int j) = none from if_neg h] at e
    cases e
def gMod : D → D → Option D
  | .int i, .int j => if 0 < j then some (.int (i % j)) else none
  | _, _ => none
theorem od_mod : OpD X (binaryOp .Mod) gMod := by
  refine ⟨_, op_mod, fun H O x y u v z Q t hx hy e k => ?_⟩
  cases x <;> cases y <;> try (cases e; done)
  rename_i i j
  rw [hx.int, hy.int]
  by_cases h : 0 < j
  · rw [show gMod (.int i) (.int j) = some (.int (i % j)) from if_pos h] at e
    cases e
    exact ⟨_, _, rfl, rfl, h, k _ H (Same.refl H) (.int _)⟩
  · rw [show gMod (.int i) (.int j) = none from if_neg h] at e
    cases e
instance (i j : Int) : Decidable (CPow i j) := by unfold CPow; infer_instance
def gPow : D → D → Option D
  | .int i, .int j => if CPow i j then some (.int (i ^ j.toNat)) else none
  | _, _ => none
theorem od_pow : OpD X (binaryOp .Pow) gPow := by
  refine ⟨_, op_pow, fun H O x y u v z Q t hx hy e k => ?_⟩
  cases x <;> cases y <;> try (cases e; done)
  rename_i i j
  rw [hx.int, hy.int]
  by_cases h : CPow i j
  · rw [show gPow (.int i) (.int j) = some (.int (i ^ j.toNat)) from if_pos h] at e
    cases e
    exact ⟨_, _, rfl, rfl, h, k _ H (Same.refl H) (.int _)⟩
  · rw [show gPow (.int i) (.int j) = none from if_neg h] at e
    cases e
def gNeg : D → Option D
  | .int i => some (.int (-i))
  | _ => none
theorem ud_neg : UnD X (unaryOp .USub) gNeg := by
  refine ⟨_, un_neg, fun H O x u z Q t hx e k => ?_⟩
  cases x <;> try (cases e; done)
  rw [hx.int]
  cases e
  exact ⟨_, rfl, k _ H (Same.refl H) (.int _)⟩

/-! ### comparisons -/
def gLt : D → D → Option D
  | .int i, .int j => some (.bl (decide (i < j)))
  | .str x, .str y => some (.bl (decide (x.cps.toList < y.cps.toList)))
  | _, _ => none
theorem od_lt : OpD X (compareOp .Lt) gLt := by
  refine ⟨_, OpR.or op_lt op_lt_str, fun H O x y u v z Q t hx hy e k => ?_⟩
  cases x <;> cases y <;> try (cases e; done)
  · rw [hx.int, hy.int]; cases e
    exact .inl ⟨_, _, rfl, rfl, k _ H (Same.refl H) (.bl _)⟩
  · rw [hx.str, hy.str]; cases e
    exact .inr ⟨_, _, rfl, rfl, k _ H (Same.refl H) (.bl _)⟩
def gLe : D → D → Option D
  | .int i, .int j => some (.bl (decide (i ≤ j)))
  | .str x, .str y => some (.bl (!decide (y.cps.toList < x.cps.toList)))
  | _, _ => none
theorem od_le : OpD X (compareOp .LtE) gLe := by
  refine ⟨_, OpR.or op_le op_le_str, fun H O x y u v z Q t hx hy e k => ?_⟩
  cases x <;> cases y <;> try (cases e; done)
  · rw [hx.int, hy.int]; cases e
    exact .inl ⟨_, _, rfl, rfl, k _ H (Same.refl H) (.bl _)⟩
  · rw [hx.str, hy.str]; cases e
    exact .inr ⟨_, _, rfl, rfl, k _ H (Same.refl H) (.bl _)⟩
def gGt : D → D → Option D
  | .int i, .int j => some (.bl (decide (j < i)))
  | .str x, .str y => some (.bl (decide (y.cps.toList < x.cps.toList)))
  | _, _ => none
theorem od_gt : OpD X (compareOp .Gt) gGt := by
  refine ⟨_, OpR.or op_gt op_gt_str, fun H O x y u v z Q t hx hy e k => ?_⟩
  cases x <;> cases y <;> try (cases e; done)
  · rw [hx.int, hy.int]; cases e
    exact .inl ⟨_, _, rfl, rfl, k _ H (Same.refl H) (.bl _)⟩
  · rw [hx.str, hy.str]; cases e
    exact .inr ⟨_, _, rfl, rfl, k _ H (Same.refl H) (.bl _)⟩
def gGe : D → D → Option D
  | .int i, .int j => some (.bl (decide (j ≤ i)))
  | .str x, .str y => some (.bl (!decide (x.cps.toList < y.cps.toList)))
  | _, _ => none
theorem od_ge : OpD X (compareOp .GtE) gGe := by
  refine ⟨_, OpR.or op_ge op_ge_str, fun H O x y u v z Q t hx hy e k => ?_⟩
  cases x <;> cases y <;> try (cases e; done)
  · rw [hx.int, hy.int]; cases e
    exact .inl ⟨_, _, rfl, rfl, k _ H (Same.refl H) (.bl _)⟩
  · rw [hx.str, hy.str]; cases e
    exact .inr ⟨_, _, rfl, rfl, k _ H (Same.refl H) (.bl _)⟩
def gEq (x y : D) : Option D := if ok 60 x = true ∧ ok 60 y = true then some (.bl (PyData.eqv (py x) (py y))) else none
def gNe (x y : D) : Option D := if ok 60 x = true ∧ ok 60 y = true then some (.bl (!PyData.eqv (py x) (py y))) else none
theorem od_eq (hu : X.A.units + 64 < cLine) : OpD X (compareOp .Eq) gEq := by
  refine ⟨_, op_eqD hu, fun H O x y u v z Q t hx hy e k => ?_⟩
  unfold gEq at e
  split at e
  · rename_i h
    cases e
    exact ⟨_, _, hx.dp h.1, hy.dp h.2, hx.shaped h.1 (by decide), hy.shaped h.2 (by decide), k _ H (Same.refl H) (.bl _)⟩
  · cases e
theorem od_ne (hu : X.A.units + 64 < cLine) : OpD X (compareOp .NotEq) gNe := by
  refine ⟨_, op_neD hu, fun H O x y u v z Q t hx hy e k => ?_⟩
  unfold gNe at e
  split at e
  · rename_i h
    cases e
    exact ⟨_, _, hx.dp h.1, hy.dp h.2, hx.shaped h.1 (by decide), hy.shaped h.2 (by decide), k _ H (Same.refl H) (.bl _)⟩
  · cases e
def D.isNon : D → Bool
  | .non => true
  | _ => false
theorem PRep.isNon {K : PySem.W.Frag} {H : Hp} {O : Ad} {d : D} {v : V} (h : PRep K H O d v) : decide (v = .non) = d.isNon := by
  rcases h with h | ⟨a, rfl, h⟩
  · cases h <;> first | rfl | exact decide_eq_false (fun q => by cases q)
  · cases h with
    | fdk _ _ _ => exact decide_eq_false (fun q => by cases q)
    | own h => cases h <;> exact decide_eq_false (fun q => by cases q)
def gIs : D → D → Option D
  | x, .non => some (.bl x.isNon)
  | .bl a, .bl b => some (.bl (a == b))
  | _, _ => none
def gIsnt : D → D → Option D
  | x, .non => some (.bl (!x.isNon))
  | .bl a, .bl b => some (.bl (!(a == b)))
  | _, _ => none
theorem od_is : OpD X (compareOp .Is) gIs := by
  refine ⟨_, OpR.or op_isN op_isBl, fun H O x y u v z Q t hx hy e k => ?_⟩
  cases y with
  | non =>
    rw [hy.non]
    have e : some (D.bl x.isNon) = some z := by cases x <;> exact e
    cases e
    refine .inl ⟨rfl, ?_⟩
    rw [hx.isNon]
    exact k _ H (Same.refl H) (.bl _)
  | bl b =>
    cases x <;> try (cases e; done)
    rename_i a
    rw [hx.bl, hy.bl]
    cases e
    refine .inr ⟨a, b, rfl, rfl, ?_⟩
    rw [← Bool.beq_eq_decide_eq]
    exact k _ H (Same.refl H) (.bl _)
  | _ => cases x <;> cases e
theorem od_isnt : OpD X (compareOp .IsNot) gIsnt := by
  refine ⟨_, OpR.or op_notN op_notBl, fun H O x y u v z Q t hx hy e k => ?_⟩
  cases y with
  | non =>
    rw [hy.non]
    have e : some (D.bl (!x.isNon)) = some z := by cases x <;> exact e
    cases e
    refine .inl ⟨rfl, ?_⟩
    rw [hx.isNon]
    exact k _ H (Same.refl H) (.bl _)
  | bl b =>
    cases x <;> try (cases e; done)
    rename_i a
    rw [hx.bl, hy.bl]
    cases e
    refine .inr ⟨a, b, rfl, rfl, ?_⟩
    rw [← Bool.beq_eq_decide_eq]
    exact k _ H (Same.refl H) (.bl _)
  | _ => cases x <;> cases e
end
end Z

/-! The data layer, part D: dicts, in, subscripts, slices, built-in calls, methods. -/
namespace Z
open PySem PySem.Spec PyProof.Rows L2

/-! ### dicts on data -/
section
variable {κ : Type} [DecidableEq κ]
def dget (kvs : List (κ × D)) (k : κ) : Option D := (kvs.find? fun kv => decide (kv.1 = k)).map (·.2)
def dput (kvs : List (κ × D)) (k : κ) (v : D) : List (κ × D) :=
  if (kvs.any fun kv => decide (kv.1 = k)) = true then kvs.map (fun kv => if kv.1 = k then (kv.1, v) else kv) else kvs ++ [(k, v)]
def ddrop (kvs : List (κ × D)) (k : κ) : List (κ × D) := kvs.filter fun kv => decide (kv.1 ≠ k)
end
def keyOf : D → Option Key
  | .int i => some (.inl i)
  | .str x => some (.inr x)
  | _ => none
def keysOf : List D → Option (List Key)
  | [] => some []
  | d :: ds => (keyOf d).bind fun k => (keysOf ds).bind fun ks => some (k :: ks)
/-- the dict kvs stands as es -/
def RepK {κ : Type} (K : PySem.W.Frag) (H : Hp) (O : Ad) (kvs : List (κ × D)) (es : List (κ × V)) : Prop := kvs.map (·.1) = es.map (·.1) ∧ RepL K H O (kvs.map (·.2)) (es.map (·.2))
section
variable {K : PySem.W.Frag} {H H' : Hp} {O O' : Ad} {κ : Type} [DecidableEq κ]
theorem RepK.nil : RepK K H O ([] : List (κ × D)) [] := ⟨rfl, .nil⟩
theorem RepK.cons {k : κ} {d : D} {v : V} {kvs : List (κ × D)} {es : List (κ × V)} (r : Rep K H O d v) (t : RepK K H O kvs es) : RepK K H O ((k, d) :: kvs) ((k, v) :: es) :=
  ⟨by simp [t.1], .cons r t.2⟩
theorem RepK.ind {P : List (κ × D) → List (κ × V) → Prop} (h0 : P [] []) (h1 : ∀ k d v kvs es, Rep K H O d v → RepK K H O kvs es → P kvs es → P ((k, d) :: kvs) ((k, v) :: es)) : ∀ {kvs es}, RepK K H O kvs es → P kvs es
  | [], [], _ => h0
  | [], _ :: _, h => by have := h.1; cases this
  | _ :: _, [], h => by have := h.1; cases this
  | (k, d) :: kvs, (k', v) :: es, h => by
    obtain ⟨e, r⟩ := h
    have e1 : k = k' ∧ kvs.map (·.1) = es.map (·.1) := by simpa using e
    obtain ⟨rfl, e2⟩ := e1
    cases r with
    | cons r t => exact h1 k d v kvs es r ⟨e2, t⟩ (RepK.ind h0 h1 ⟨e2, t⟩)
theorem RepK.mono (s : Step H O H' O') {kvs : List (κ × D)} {es : List (κ × V)} (h : RepK K H O kvs es) : RepK K H' O' kvs es := ⟨h.1, h.2.mono s⟩
theorem RepK.append {kvs ls : List (κ × D)} {es fs : List (κ × V)} (h : RepK K H O kvs es) (t : RepK K H O ls fs) : RepK K H O (kvs ++ ls) (es ++ fs) :=
  ⟨by simp [h.1, t.1], by rw [List.map_append, List.map_append]; exact h.2.append t.2⟩
theorem RepK.length {kvs : List (κ × D)} {es : List (κ × V)} (h : RepK K H O kvs es) : kvs.length = es.length := by
  have := congrArg List.length h.1
  simpa using this
theorem RepK.get {kvs : List (κ × D)} {es : List (κ × V)} (h : RepK K H O kvs es) (k : κ) : (∃ d v, dget kvs k = some d ∧ valV es k = some v ∧ Rep K H O d v) ∨ (dget kvs k = none ∧ valV es k = none) := by
  refine RepK.ind (P := fun kvs es => (∃ d v, dget kvs k = some d ∧ valV es k = some v ∧ Rep K H O d v) ∨ (dget kvs k = none ∧ valV es k = none)) (.inr ⟨rfl, rfl⟩) (fun k' d v kvs es r t ih => ?_) h
  by_cases e : k' = k
  · exact .inl ⟨d, v, by simp [dget, e], by simp [valV, e], r⟩
  · rcases ih with ⟨d, v, h1, h2, h3⟩ | ⟨h1, h2⟩
    · exact .inl ⟨d, v, by simpa [dget, e] using h1, by simpa [valV, e] using h2, h3⟩
    · exact .inr ⟨by simpa [dget, e] using h1, by simpa [valV, e] using h2⟩
theorem RepK.any {kvs : List (κ × D)} {es : List (κ × V)} (h : RepK K H O kvs es) (k : κ) : (kvs.any fun kv => decide (kv.1 = k)) = es.any fun kv => decide (kv.1 = k) := by
  refine RepK.ind (P := fun kvs es => (kvs.any fun kv => decide (kv.1 = k)) = es.any fun kv => decide (kv.1 = k)) rfl (fun k' d v kvs es r t ih => ?_) h
  rw [List.any_cons, List.any_cons, ih]
theorem RepK.put {kvs : List (κ × D)} {es : List (κ × V)} (h : RepK K H O kvs es) (k : κ) {d : D} {v : V} (r : Rep K H O d v) : RepK K H O (dput kvs k d) (putK es k v) := by
  unfold dput putK
  rw [h.any k]
  split
  · refine RepK.ind (P := fun kvs es => RepK K H O (kvs.map fun kv => if kv.1 = k then (kv.1, d) else kv) (es.map fun kv => if kv.1 = k then (kv.1, v) else kv)) .nil (fun k' d' v' kvs es r' t ih => ?_) h
    rw [List.map_cons, List.map_cons]
    by_cases e : k' = k
    · rw [if_pos e, if_pos e]; exact .cons r ih
    · rw [if_neg e, if_neg e]; exact .cons r' ih
  · exact h.append (.cons r .nil)
theorem RepK.drop {kvs : List (κ × D)} {es : List (κ × V)} (h : RepK K H O kvs es) (k : κ) : RepK K H O (ddrop kvs k) (dropK es k) := by
  unfold ddrop dropK
  refine RepK.ind (P := fun kvs es => RepK K H O (kvs.filter fun kv => decide (kv.1 ≠ k)) (es.filter fun kv => decide (kv.1 ≠ k))) .nil (fun k' d' v' kvs es r' t ih => ?_) h
  by_cases e : k' = k
  · rw [List.filter_cons_of_neg (by simp [e]), List.filter_cons_of_neg (by simp [e])]; exact ih
  · rw [List.filter_cons_of_pos (by simp [e]), List.filter_cons_of_pos (by simp [e])]; exact .cons r' ih
theorem PRep.dkR {kvs : List (Key × D)} {v : V} (h : PRep K H O (.dk kvs) v) : ∃ a es, v = .ref a ∧ Rd H a (.dK es) ∧ RepK K H O kvs es := by
  obtain ⟨a, es, h1, h2, h3, h4⟩ := h.dk
  exact ⟨a, es, h1, h2, h3, h4⟩
theorem PRep.dtR {kvs : List (List Key × D)} {v : V} (h : PRep K H O (.dt kvs) v) : ∃ a es, v = .ref a ∧ H a = some (.dT es) ∧ RepK K H O kvs es := by
  obtain ⟨a, es, h1, h2, h3, h4⟩ := h.dt
  exact ⟨a, es, h1, h2, h3, h4⟩
theorem PRep.key {d : D} {k : Key} {v : V} (h : PRep K H O d v) (e : keyOf d = some k) : v = kV k := by
  cases d <;> try (cases e; done)
  · cases e; exact h.int
  · cases e; exact h.str
theorem Rep.key {d : D} {k : Key} {v : V} (h : Rep K H O d v) (e : keyOf d = some k) : v = kV k := PRep.key (.inl h) e
theorem RepL.keys : ∀ {ds : List D} {ks : List Key} {vs : List V}, RepL K H O ds vs → keysOf ds = some ks → vs = ks.map kV
  | [], _, _, .nil, e => by cases e; rfl
  | d :: ds, _, _, .cons r t, e => by
    unfold keysOf at e
    obtain ⟨k, e1, e2⟩ := bindS e
    obtain ⟨ks, e3, e4⟩ := bindS e2
    cases e4
    rw [r.key e1, RepL.keys t e3]
    rfl
/-- what d holds at k -/
def gLook : D → D → Option (Option D)
  | .dk kvs, k => (keyOf k).bind fun k => some (dget kvs k)
  | .dt kvs, .tup ks => (keysOf ks).bind fun ks => some (dget kvs ks)
  | _, _ => none
theorem look_ok {x y : D} {u v : V} {o : Option D} (hx : PRep K H O x u) (hy : PRep K H O y v) (e : gLook x y = some o) : ∃ a r, u = .ref a ∧ DGet H a v r ∧ ((∃ d w, o = some d ∧ r = some w ∧ Rep K H O d w) ∨ (o = none ∧ r = none)) := by
  cases x <;> try (cases e; done)
  · rename_i kvs
    obtain ⟨k, e1, e2⟩ := bindS (show (keyOf y).bind (fun k => some (dget kvs k)) = some o by cases y <;> exact e)
    cases e2
    obtain ⟨a, es, rfl, h1, h2⟩ := hx.dkR
    rw [hy.key e1]
    refine ⟨a, valV es k, rfl, .inl ⟨es, k, h1, rfl, rfl⟩, ?_⟩
    rcases h2.get k with ⟨d, w, q1, q2, q3⟩ | ⟨q1, q2⟩
    · exact .inl ⟨d, w, q1, q2, q3⟩
    · exact .inr ⟨q1, q2⟩
  · cases y <;> try (cases e; done)
    rename_i kvs ds
    obtain ⟨ks, e1, e2⟩ := bindS (show (keysOf ds).bind (fun ks => some (dget kvs ks)) = some o from e)
    cases e2
    obtain ⟨a, es, rfl, h1, h2⟩ := hx.dtR
    obtain ⟨b, vs, rfl, h3, h4⟩ := hy.tup
    rw [h4.keys e1] at h3
    refine ⟨a, _, rfl, DGet.t h1 h3, ?_⟩
    rcases h2.get ks with ⟨d, w, q1, q2, q3⟩ | ⟨q1, q2⟩
    · exact .inl ⟨d, w, q1, q2, q3⟩
    · exact .inr ⟨q1, q2⟩
end

/-! ### in -/
section
variable {X : Cx}
def rInT (K : PySem.W.Frag) : R2 := fun x y H Q => ∃ d ds, Dp K H x d ∧ Dp K H y (.tuple ds) ∧ SeqAt.shaped d = true ∧ SeqAt.shaped (.tuple ds) = true ∧ Q (.bl (ds.any fun z => PyData.eqv z d)) H
def rNotInT (K : PySem.W.Frag) : R2 := fun x y H Q => ∃ d ds, Dp K H x d ∧ Dp K H y (.tuple ds) ∧ SeqAt.shaped d = true ∧ SeqAt.shaped (.tuple ds) = true ∧ Q (.bl (!ds.any fun z => PyData.eqv z d)) H
theorem room_shT {A : Around} {d : PyData} {ds : List PyData} (h : SeqAt.shaped d = true) (hu : A.units + 65 < cLine) : A.units + 1 + min (PyData.depthAll ds) d.depth < cLine := by
  have h1 := SeqAt.depth_of_shaped h
  have h2 : min (PyData.depthAll ds) d.depth ≤ d.depth := Nat.min_le_right _ _
  omega
theorem op_inT (hu : X.A.units + 65 < cLine) : OpR X (compareOp .In) (rInT X.K) := by
  intro pins s σ H x y v u Q I rx ry h
  obtain ⟨d, ds, hd, he, sd, se, q⟩ := h
  obtain ⟨as, r1⟩ := Dp.reads I d x v hd rx
  obtain ⟨bs, r2⟩ := Dp.reads I (.tuple ds) y u he ry
  exact SeqAt.in_tuple_reads r2 r1 (SeqAt.canLay_of_shaped se) (SeqAt.canLay_of_shaped sd) (room_shT sd hu) ⟨.bl _, H, I, rfl, q⟩
theorem op_notInT (hu : X.A.units + 65 < cLine) : OpR X (compareOp .NotIn) (rNotInT X.K) := by
  intro pins s σ H x y v u Q I rx ry h
  obtain ⟨d, ds, hd, he, sd, se, q⟩ := h
  obtain ⟨as, r1⟩ := Dp.reads I d x v hd rx
  obtain ⟨bs, r2⟩ := Dp.reads I (.tuple ds) y u he ry
  exact SeqAt.notIn_tuple_reads r2 r1 (SeqAt.canLay_of_shaped se) (SeqAt.canLay_of_shaped sd) (room_shT sd hu) ⟨.bl _, H, I, rfl, q⟩
def rDin : R2 := fun x y H Q => ∃ a o, y = .ref a ∧ DGet H a x o ∧ Q (.bl o.isSome) H
def rDnot : R2 := fun x y H Q => ∃ a o, y = .ref a ∧ DGet H a x o ∧ Q (.bl (!o.isSome)) H
theorem op_din (hu : X.A.units + 1 < cLine) : OpR X (compareOp .In) rDin := by
  intro pins s σ H x y v u Q I rx ry h
  obtain ⟨a, o, rfl, g, q⟩ := h
  obtain rfl : u = Value.ref a := ry
  exact d_in hu I g rx fun s3 I3 => ⟨.bl o.isSome, H, I3, rfl, q⟩
theorem op_dnot (hu : X.A.units + 1 < cLine) : OpR X (compareOp .NotIn) rDnot := by
  intro pins s σ H x y v u Q I rx ry h
  obtain ⟨a, o, rfl, g, q⟩ := h
  obtain rfl : u = Value.ref a := ry
  exact d_notIn hu I g rx fun s3 I3 => ⟨.bl (!o.isSome), H, I3, rfl, q⟩
/-- is x in y -/
def inD (x : D) : D → Option Bool
  | .lst ys => if ok 60 x = true ∧ ok 60 (.lst ys) = true then some ((pyL ys).any fun z => PyData.eqv z (py x)) else none
  | .tup ys => if ok 60 x = true ∧ ok 60 (.tup ys) = true then some ((pyL ys).any fun z => PyData.eqv z (py x)) else none
  | .kt ys => if ok 60 x = true ∧ ok 60 (.kt ys) = true then some ((pyL ys).any fun z => PyData.eqv z (py x)) else none
  | .str z => match x with
    | .str c => match c.cps.toList with
      | [c] => some (decide (c ∈ z.cps.toList))
      | _ => some (!(Builtin.Str.occurrences z c 0 z.length 1).isEmpty)
    | _ => none
  | .dk kvs => (gLook (.dk kvs) x).bind fun o => some o.isSome
  | .dt kvs => (gLook (.dt kvs) x).bind fun o => some o.isSome
  | _ => none
def gIn (x y : D) : Option D := (inD x y).bind fun b => some (.bl b)
def gNotIn (x y : D) : Option D := (inD x y).bind fun b => some (.bl !b)
theorem one_sign {c : Str} {n : Nat} (h : c.cps.toList = [n]) : c = ⟨#[n]⟩ := by
  obtain ⟨a⟩ := c
  congr 1
  exact Array.toList_inj.mp h
theorem in_all {H : Hp} {O : Ad} {x y : D} {u v : V} {b : Bool} (hx : PRep X.K H O x u) (hy : PRep X.K H O y v) (e : inD x y = some b) (R : R2) (f : Bool → Bool)
    (rl : ∀ {u v H Q d ds}, Dp X.K H u d → Dp X.K H v (.list ds) → SeqAt.shaped d = true → SeqAt.shaped (.list ds) = true → Q (.bl (f (ds.any fun z => PyData.eqv z d))) H → R u v H Q)
    (rt : ∀ {u v H Q d ds}, Dp X.K H u d → Dp X.K H v (.tuple ds) → SeqAt.shaped d = true → SeqAt.shaped (.tuple ds) = true → Q (.bl (f (ds.any fun z => PyData.eqv z d))) H → R u v H Q)
    (rs : ∀ {H : Hp} {Q : VK} (c : Nat) (z : Str), Q (.bl (f (decide (c ∈ z.cps.toList)))) H → R (.str ⟨#[c]⟩) (.str z) H Q)
    (ro : ∀ {H : Hp} {Q : VK} (c : Str) (z : Str), Q (.bl (f (!(Builtin.Str.occurrences z c 0 z.length 1).isEmpty))) H → R (.str c) (.str z) H Q)
    (rd : ∀ {u H Q a o}, DGet H a u o → Q (.bl (f o.isSome)) H → R u (.ref a) H Q) {Q : VK} (q : Q (.bl (f b)) H) : R u v H Q := by
  cases y <;> try (cases e; done)
  · rename_i z
    cases x <;> try (cases e; done)
    rename_i c
    rw [hx.str, hy.str]
    have e : (match c.cps.toList with
      | [c] => some (decide (c ∈ z.cps.toList))
      | _ => some (!(Builtin.Str.occurrences z c 0 z.length 1).isEmpty)) = some b := e
    split at e
    · rename_i n hn
      cases e
      rw [one_sign hn]
      exact rs n z q
    · cases e
      exact ro c z q
  · rename_i ys
    have e : (if ok 60 x = true ∧ ok 60 (.tup ys) = true then some ((pyL ys).any fun z => PyData.eqv z (py x)) else none) = some b := e
    split at e
    · rename_i h
      cases e
      have r1 := hy.dp h.2
      have r2 := hy.shaped h.2 (by decide)
      unfold py at r1 r2
      exact rt (hx.dp h.1) r1 (hx.shaped h.1 (by decide)) r2 q
    · cases e
  · rename_i ys
    have e : (if ok 60 x = true ∧ ok 60 (.lst ys) = true then some ((pyL ys).any fun z => PyData.eqv z (py x)) else none) = some b := e
    split at e
    · rename_i h
      cases e
      have r1 := hy.dp h.2
      have r2 := hy.shaped h.2 (by decide)
      unfold py at r1 r2
      exact rl (hx.dp h.1) r1 (hx.shaped h.1 (by decide)) r2 q
    · cases e
  · rename_i ys
    have e : (if ok 60 x = true ∧ ok 60 (.kt ys) = true then some ((pyL ys).any fun z => PyData.eqv z (py x)) else none) = some b := e
    split at e
    · rename_i h
      cases e
      have r1 := hy.dp h.2
      have r2 := hy.shaped h.2 (by decide)
      unfold py at r1 r2
      exact rt (hx.dp h.1) r1 (hx.shaped h.1 (by decide)) r2 q
    · cases e
  · rename_i kvs
    obtain ⟨o, e1, e2⟩ := bindS (show (gLook (.dk kvs) x).bind (fun o => some o.isSome) = some b from e)
    cases e2
    obtain ⟨a, r, rfl, g, h⟩ := look_ok hy hx e1
    refine rd g ?_
    rcases h with ⟨d, w, rfl, rfl, _⟩ | ⟨rfl, rfl⟩ <;> exact q
  · rename_i kvs
    obtain ⟨o, e1, e2⟩ := bindS (show (gLook (.dt kvs) x).bind (fun o => some o.isSome) = some b from e)
    cases e2
    obtain ⟨a, r, rfl, g, h⟩ := look_ok hy hx e1
    refine rd g ?_
    rcases h with ⟨d, w, rfl, rfl, _⟩ | ⟨rfl, rfl⟩ <;> exact q
theorem od_in (hu : X.A.units + 65 < cLine) : OpD X (compareOp .In) gIn := by
  refine ⟨_, OpR.or (op_inD hu) (OpR.or (op_inT hu) (OpR.or op_in_sign (OpR.or op_in_str (op_din (by omega))))), fun H O x y u v z Q t hx hy e k => ?_⟩
  obtain ⟨b, e1, e2⟩ := bindS e
  cases e2
  refine in_all hx hy e1 (fun x y H Q => rInD X.K x y H Q ∨ rInT X.K x y H Q ∨ (∃ (c : Nat) (z : Str), x = .str ⟨#[c]⟩ ∧ y = .str z ∧ Q (.bl (decide (c ∈ z.cps.toList))) H) ∨
    (∃ i j, x = .str i ∧ y = .str j ∧ Q (.bl (!(Builtin.Str.occurrences j i 0 j.length 1).isEmpty)) H) ∨ rDin x y H Q) id ?_ ?_ ?_ ?_ ?_ (k _ H (Same.refl H) (.bl b))
  · exact fun h1 h2 h3 h4 q => .inl ⟨_, _, h1, h2, h3, h4, q⟩
  · exact fun h1 h2 h3 h4 q => .inr (.inl ⟨_, _, h1, h2, h3, h4, q⟩)
  · exact fun c z q => .inr (.inr (.inl ⟨c, z, rfl, rfl, q⟩))
  · exact fun c z q => .inr (.inr (.inr (.inl ⟨c, z, rfl, rfl, q⟩)))
  · exact fun g q => .inr (.inr (.inr (.inr ⟨_, _, rfl, g, q⟩)))
theorem od_notIn (hu : X.A.units + 65 < cLine) : OpD X (compareOp .NotIn) gNotIn := by
  refine ⟨_, OpR.or (op_notInD hu) (OpR.or (op_notInT hu) (OpR.or op_notIn_sign (OpR.or op_notIn_str (op_dnot (by omega))))), fun H O x y u v z Q t hx hy e k => ?_⟩
  obtain ⟨b, e1, e2⟩ := bindS e
  cases e2
  refine in_all hx hy e1 (fun x y H Q => rNotInD X.K x y H Q ∨ rNotInT X.K x y H Q ∨ (∃ (c : Nat) (z : Str), x = .str ⟨#[c]⟩ ∧ y = .str z ∧ Q (.bl (!decide (c ∈ z.cps.toList))) H) ∨
    (∃ i j, x = .str i ∧ y = .str j ∧ Q (.bl (!(!(Builtin.Str.occurrences j i 0 j.length 1).isEmpty))) H) ∨ rDnot x y H Q) (fun b => !b) ?_ ?_ ?_ ?_ ?_ (k _ H (Same.refl H) (.bl _))
  · exact fun h1 h2 h3 h4 q => .inl ⟨_, _, h1, h2, h3, h4, q⟩
  · exact fun h1 h2 h3 h4 q => .inr (.inl ⟨_, _, h1, h2, h3, h4, q⟩)
  · exact fun c z q => .inr (.inr (.inl ⟨c, z, rfl, rfl, q⟩))
  · exact fun c z q => .inr (.inr (.inr (.inl ⟨c, z, rfl, rfl, q⟩)))
  · exact fun g q => .inr (.inr (.inr (.inr ⟨_, _, rfl, g, q⟩)))

/-! ### subscripts -/
def rIxDG : R2 := fun x y H Q => ∃ a v, x = .ref a ∧ DGet H a y (some v) ∧ Q v H
theorem ix_dict (hu : X.A.units + 1 < cLine) : IxR X rIxDG := by
  intro value slice pins s σ H x y v u Q I rx ry h hs
  obtain ⟨a, r, rfl, g, q⟩ := h
  obtain rfl : v = Value.ref a := rx
  refine tail_any ?_ slot_dict_getitem.lookup (d_getItem hu I g ry fun w' s' I' rw' => ⟨r, H, I', rw', q⟩) hs
  rcases g with ⟨kvs, k, e, _⟩ | ⟨kvs, k, b, e, _⟩
  · exact (isD_at I (.inl ⟨kvs, e⟩)).1
  · exact (isD_at I (.inr ⟨kvs, e⟩)).1
def gIx : D → D → Option D
  | .lst ds, .int i => atI ds i
  | .tup ds, .int i => atI ds i
  | .kt ds, .int i => atI ds i
  | .sc ns, .int i => (atI ns i).bind fun n => some (.int n)
  | .str x, .int i => if x.length ≤ sizeLine then (atI x.cps.toList i).bind fun c => some (.str ⟨#[c]⟩) else none
  | .dk kvs, k => (gLook (.dk kvs) k).bind id
  | .dt kvs, k => (gLook (.dt kvs) k).bind id
  | _, _ => none
theorem atI_rep {K : PySem.W.Frag} {H : Hp} {O : Ad} {ds : List D} {vs : List V} {i : Int} {d : D} (r : RepL K H O ds vs) (e : atI ds i = some d) : ∃ v, atI vs i = some v ∧ Rep K H O d v := by
  unfold atI at e ⊢
  obtain ⟨j, e1, e2⟩ := bindS e
  obtain ⟨v, h1, h2⟩ := r.get e2
  refine ⟨v, ?_, h2⟩
  rw [← r.length, e1]
  exact h1
theorem de_ix (hu : X.A.units + 1 < cLine) {a b : Expr} {p q : SQ} {pos : Pos} (ha : DQ X a p) (hb : DQ X b q) (hs : PlainIx b) : DE X (.Subscript a b pos) (eOp2 gIx p q) := by
  refine ⟨wkE (pe_ix (ix_list.or (ix_tup.or (ix_str.or (ix_dict hu)))) ha.pe hb.pe hs) fun σ H Q h => op2 h fun H O x y u v z Q t hx hy e k => ?_⟩
  have dict : ∀ o, gLook x y = some o → o = some z → ∃ a w, u = .ref a ∧ DGet H a v (some w) ∧ Q w H := fun o e1 e2 => by
    subst e2
    obtain ⟨a, r, rfl, g, h⟩ := look_ok hx hy e1
    rcases h with ⟨d, w, e, rfl, h⟩ | ⟨e, _⟩
    · cases e
      exact ⟨a, w, rfl, g, k w H (Same.refl H) h⟩
    · cases e
  cases x <;> try (cases y <;> cases e; done)
  · cases y <;> try (cases e; done)
    rename_i x i
    rw [hx.str, hy.int]
    by_cases h : x.length ≤ sizeLine
    · rw [show gIx (.str x) (.int i) = (atI x.cps.toList i).bind fun c => some (.str ⟨#[c]⟩) from if_pos h] at e
      obtain ⟨c, e1, e2⟩ := bindS e
      cases e2
      refine .inr (.inr (.inl ⟨x, i, c, rfl, rfl, h, e1, k _ H (Same.refl H) (.str _ (strOk_one hx.strOk ?_))⟩))
      unfold atI at e1
      obtain ⟨j, _, e3⟩ := bindS e1
      exact List.mem_of_getElem? e3
    · rw [show gIx (.str x) (.int i) = none from if_neg h] at e
      cases e
  · cases y <;> try (cases e; done)
    rw [hy.int]
    obtain ⟨a, vs, rfl, h1, h2⟩ := hx.tup
    obtain ⟨w, h3, h4⟩ := atI_rep h2 e
    exact .inr (.inl ⟨a, vs, _, w, rfl, rfl, .of h1, h3, k _ H (Same.refl H) h4⟩)
  · cases y <;> try (cases e; done)
    rw [hy.int]
    obtain ⟨a, vs, rfl, h1, h2⟩ := hx.lst
    obtain ⟨w, h3, h4⟩ := atI_rep h2 e
    exact .inl ⟨a, vs, _, w, rfl, rfl, .of h1, h3, k _ H (Same.refl H) h4⟩
  · cases y <;> try (cases e; done)
    rename_i ns i
    rw [hy.int]
    obtain ⟨n, e1, e2⟩ := bindS (show (atI ns i).bind (fun n => some (D.int n)) = some z from e)
    cases e2
    obtain ⟨a, rfl, h1⟩ := hx.sc
    obtain ⟨w, h3, h4⟩ := atI_rep (K := X.K) (H := H) (O := O) (RepL.ints ns) (i := i) (d := .int n) (by
      unfold atI at e1 ⊢
      obtain ⟨j, e3, e4⟩ := bindS e1
      rw [List.length_map, e3]
      show (ns.map D.int)[j]? = _
      rw [List.getElem?_map, e4]
      rfl)
    exact .inl ⟨a, _, _, w, rfl, rfl, h1, h3, k _ H (Same.refl H) h4⟩
  · cases y <;> try (cases e; done)
    rw [hy.int]
    obtain ⟨a, vs, rfl, h1, h2⟩ := hx.kt
    obtain ⟨w, h3, h4⟩ := atI_rep h2 e
    exact .inr (.inl ⟨a, vs, _, w, rfl, rfl, h1, h3, k _ H (Same.refl H) h4⟩)
  · rename_i kvs
    obtain ⟨o, e1, e2⟩ := bindS (show (gLook (.dk kvs) y).bind id = some z by cases y <;> exact e)
    exact .inr (.inr (.inr (dict o e1 e2)))
  · rename_i kvs
    obtain ⟨o, e1, e2⟩ := bindS (show (gLook (.dt kvs) y).bind id = some z by cases y <;> exact e)
    exact .inr (.inr (.inr (dict o e1 e2)))

/-! ### slices -/
def cutL {α : Type} (xs : List α) (lo hi : Option Int) : List α := (xs.drop (HT.sIx xs.length 0 lo)).take (HT.sIx xs.length xs.length hi - HT.sIx xs.length 0 lo)
theorem cut_rep {K : PySem.W.Frag} {H : Hp} {O : Ad} {ds : List D} {vs : List V} (r : RepL K H O ds vs) (lo hi : Option Int) : RepL K H O (cutL ds lo hi) (cutV vs lo hi) := by
  unfold cutL cutV
  rw [r.length]
  exact (r.drop _).take _
/-- a part of a slice: left out, or an int -/
abbrev SO := Ev → Option (Option Int × Ev)
def oN : SO := fun env => some (none, env)
def asI : D → Option Int
  | .int i => some i
  | _ => none
def oS (p : SE) : SO := fun env => (p env).bind fun r => (asI r.1).bind fun i => some (some i, r.2)
def rdO (K : PySem.W.Frag) (f : SO) : L2.St → Hp → (Option Int → Hp → Prop) → Prop := fun σ H Q => ∃ C O env, EnvOk K C H O σ env ∧ ∃ r, f env = some r ∧ ∀ H' O', Step H O H' O' → EnvOk K C H' O' σ r.2 → Q r.1 H'
structure DO (X : Cx) (e : Option Expr) (f : SO) : Prop where po : PO X e (rdO X.K f)
theorem asI_some {d : D} {i : Int} (h : asI d = some i) : d = .int i := by
  cases d <;> cases h
  rfl
theorem do_none : DO X none oN := ⟨⟨fun pins s σ H Q I ⟨C, O, env, E, r, e, k⟩ => by cases e; exact po_none.run pins s σ H Q I (k H O .refl E)⟩⟩
theorem do_some {e : Expr} {f : SE} (h : DE X e f) : DO X (some e) (oS f) := by
  refine ⟨⟨fun pins s σ H Q I ⟨C, O, env, E, r, e, k⟩ => ?_⟩⟩
  obtain ⟨r1, e1, e2⟩ := bindS e
  obtain ⟨i, e3, e4⟩ := bindS e2
  cases e4
  refine (po_some h.pe).run pins s σ H Q I ?_
  refine ⟨C, O, env, E, r1, e1, fun v H1 O1 s1 E1 p1 => ?_⟩
  rw [asI_some e3] at p1
  cases p1
  exact ⟨i, rfl, k H1 O1 s1 E1⟩
def gSl : D → Option Int → Option Int → Option D
  | .lst ds, lo, hi => some (.lst (cutL ds lo hi))
  | .tup ds, lo, hi => some (.tup (cutL ds lo hi))
  | .kt ds, lo, hi => if HT.sIx ds.length 0 lo = 0 ∧ HT.sIx ds.length ds.length hi = ds.length then some (.kt ds) else some (.tup (cutL ds lo hi))
  | .str x, lo, hi => if x.length ≤ sizeLine then some (.str (cutS x lo hi)) else none
  | _, _, _ => none
def eSl (p : SQ) (lo hi : SO) : SE := fun env => (p env).bind fun r => (lo r.2).bind fun l => (hi l.2).bind fun h => (getP h.2 r.1).bind fun d => (gSl d l.1 h.1).bind fun z => some (z, h.2)
theorem cut_all {α : Type} {xs : List α} {lo hi : Option Int} (h : HT.sIx xs.length 0 lo = 0 ∧ HT.sIx xs.length xs.length hi = xs.length) : cutL xs lo hi = xs := by
  unfold cutL
  rw [h.1, h.2]
  simp
theorem de_slice {a : Expr} {lo hi : Option Expr} {p : SQ} {l h : SO} {pos p2 : Pos} (ha : DQ X a p) (hl : DO X lo l) (hh : DO X hi h) : DE X (.Subscript a (.Slice lo hi none p2) pos) (eSl p l h) := by
  refine ⟨wkE (pe_slice (sl_list.or (sl_tupA.or sl_str)) ha.pe hl.po hh.po) fun σ H Q h => ?_⟩
  obtain ⟨C, O, env, E, z, e, k⟩ := h
  obtain ⟨r1, e1, e2⟩ := bindS e
  obtain ⟨r2, e3, e4⟩ := bindS e2
  obtain ⟨r3, e5, e6⟩ := bindS e4
  obtain ⟨d, e7, e8⟩ := bindS e6
  obtain ⟨z, e9, e10⟩ := bindS e8
  cases e10
  refine ⟨C, O, env, E, r1, e1, fun u H1 O1 s1 E1 p1 => ⟨C, O1, _, E1, r2, e3, fun H2 O2 s2 E2 => ⟨C, O2, _, E2, r3, e5, fun H3 O3 s3 E3 => ?_⟩⟩⟩
  have r := E3.getP e7 (p1.mono (s2.trans s3))
  have fin : ∀ w H', Ext H3 H' → Rep X.K H' O3 z w → Q w H' := fun w H' ex rp => k w H' O3 (s1.trans (s2.trans (s3.trans (.ext ex)))) (E3.ext ex) rp
  cases d <;> try (cases e9; done)
  · rename_i x
    rw [r.str]
    by_cases h : x.length ≤ sizeLine
    · rw [show gSl (.str x) r2.1 r3.1 = some (.str (cutS x r2.1 r3.1)) from if_pos h] at e9
      cases e9
      exact .inr (.inr ⟨x, rfl, h, fin _ H3 (Same.refl _) (.str _ (strOk_cut _ _ r.strOk))⟩)
    · rw [show gSl (.str x) r2.1 r3.1 = none from if_neg h] at e9
      cases e9
  · rename_i ds
    cases e9
    have rr := r.tupR
    obtain ⟨a, vs, rfl, h1, h2⟩ := r.tup
    refine .inr (.inl ⟨a, vs, rfl, .of h1, fun c => ?_, fun c q n => ?_⟩)
    · rw [← h2.length] at c
      rw [cut_all c] at fin
      exact fin _ H3 (Same.refl _) rr
    · exact fin _ _ (upd_ext n) (new_tup E3.trk n (cut_rep h2 _ _))
  · rename_i ds
    cases e9
    obtain ⟨a, vs, rfl, h1, h2⟩ := r.lst
    exact .inl ⟨a, vs, rfl, .of h1, fun q n => fin _ _ (upd_ext n) (new_lst E3.trk n (cut_rep h2 _ _))⟩
  · rename_i ds
    have rr : Rep X.K H3 O3 (.kt ds) u := by
      rcases r with r | ⟨a, rfl, ⟨r⟩⟩
      · exact r
      · cases r
    obtain ⟨a, vs, rfl, h1, h2⟩ := r.kt
    refine .inr (.inl ⟨a, vs, rfl, h1, fun c => ?_, fun c q n => ?_⟩)
    · rw [← h2.length] at c
      rw [show gSl (.kt ds) r2.1 r3.1 = some (.kt ds) from if_pos c] at e9
      cases e9
      exact fin _ H3 (Same.refl _) rr
    · rw [← h2.length] at c
      rw [show gSl (.kt ds) r2.1 r3.1 = some (.tup (cutL ds r2.1 r3.1)) from if_neg c] at e9
      cases e9
      exact fin _ _ (upd_ext n) (new_tup E3.trk n (cut_rep h2 _ _))
end
end Z

/-! The data layer, part E: statements, what is walked, loops, comprehensions. -/
namespace Z
open PySem PySem.Spec PyProof.Rows L2

inductive Out where
  | nx (env : Ev) | bk (env : Ev) | ct (env : Ev) | rt (d : D) (env : Ev) | rn (d : D) (env : Ev)
abbrev SS := Ev → Option Out
/-- what stands behind a statement, by its outcome -/
def OutOk (K : PySem.W.Frag) (C : Ctx) (D : Ends) (H : Hp) (O : Ad) : Out → Prop
  | .nx env => ∀ σ H' O', Step H O H' O' → EnvOk K C H' O' σ env → D.nx σ H'
  | .bk env => ∀ σ H' O', Step H O H' O' → EnvOk K C H' O' σ env → D.bk σ H'
  | .ct env => ∀ σ H' O', Step H O H' O' → EnvOk K C H' O' σ env → D.ct σ H'
  | .rt d env => ∀ σ v H' O', Step H O H' O' → EnvOk K C H' O' σ env → Rep K H' O' d v → D.rt v H'
  | .rn d env => ∀ σ a H' O', Step H O H' O' → EnvOk K C H' O' σ env → Loose K C H' O' σ env d a → D.rt (.ref a) H'
def rdS (K : PySem.W.Frag) (f : SS) : TS := fun D σ H => ∃ C O env, EnvOk K C H O σ env ∧ ∃ o, f env = some o ∧ OutOk K C D H O o
structure DS (X : Cx) (s : Stmt) (f : SS) : Prop where ps : PS X s (rdS X.K f)
structure DSs (X : Cx) (s : List Stmt) (f : SS) : Prop where pss : PSs X s (rdS X.K f)
theorem wkS {X : Cx} {s : Stmt} {t t' : TS} (h : PS X s t) (w : ∀ D σ H, t' D σ H → t D σ H) : PS X s t' := ⟨fun pins s σ H D I q => h.run pins s σ H D I (w D σ H q)⟩
theorem wkSs {X : Cx} {s : List Stmt} {t t' : TS} (h : PSs X s t) (w : ∀ D σ H, t' D σ H → t D σ H) : PSs X s t' := ⟨fun pins s σ H D I q => h.run pins s σ H D I (w D σ H q)⟩
theorem OutOk.step {K : PySem.W.Frag} {C : Ctx} {D : Ends} {H H' : Hp} {O O' : Ad} {o : Out} (h : OutOk K C D H O o) (s : Step H O H' O') : OutOk K C D H' O' o := by
  cases o with
  | nx env => exact fun σ H2 O2 s2 E => h σ H2 O2 (s.trans s2) E
  | bk env => exact fun σ H2 O2 s2 E => h σ H2 O2 (s.trans s2) E
  | ct env => exact fun σ H2 O2 s2 E => h σ H2 O2 (s.trans s2) E
  | rt d env => exact fun σ v H2 O2 s2 E r => h σ v H2 O2 (s.trans s2) E r
  | rn d env => exact fun σ v H2 O2 s2 E r => h σ v H2 O2 (s.trans s2) E r

def sNil : SS := fun env => some (.nx env)
/-- behind o, f goes on -/
def andThen (o : Out) (f : SS) : Option Out := match o with
  | .nx env => f env
  | o => some o
def sSeq (f g : SS) : SS := fun env => (f env).bind fun o => andThen o g
def sIf (t : SB) (f g : SS) : SS := fun env => (t env).bind fun r => if r.1 = true then f r.2 else g r.2
def sBreak : SS := fun env => some (.bk env)
def sCont : SS := fun env => some (.ct env)
def sRet (f : SE) : SS := fun env => (f env).bind fun r => some (.rt r.1 r.2)
def sRetF (f : SE) : SS := fun env => (f env).bind fun r => some (.rn r.1 r.2)
def sRetN : SS := fun env => some (.rt .non env)
def sExpr (f : SE) : SS := fun env => (f env).bind fun r => some (.nx r.2)
/-- may slot i be written -/
def free (env : Ev) (i : Nat) : Bool := match env[i]? with
  | some .no => true
  | some (.fz _) => true
  | some (.ow _) => true
  | _ => false
theorem free_ok {env : Ev} {i : Nat} (h : free env i = true) : Free env i := by
  unfold free at h
  split at h
  · exact .inl (by assumption)
  · exact .inr (.inl ⟨_, by assumption⟩)
  · exact .inr (.inr ⟨_, by assumption⟩)
  · cases h
def putFz (env : Ev) (i : Nat) (d : D) : Option Ev := if free env i = true then some (env.set i (.fz d)) else none
def putOw (env : Ev) (i : Nat) (d : D) : Option Ev := if free env i = true then some (env.set i (.ow d)) else none
def sSet (i : Nat) (f : SE) : SS := fun env => (f env).bind fun r => (putFz r.2 i r.1).bind fun e => some (.nx e)
def sSetN (i : Nat) (f : SE) : SS := fun env => (f env).bind fun r => (putOw r.2 i r.1).bind fun e => some (.nx e)
/-- targets -/
abbrev SG := D → Ev → Option Ev
abbrev SGs := List D → Ev → Option Ev
def gName (i : Nat) : SG := fun d env => putFz env i d
def gsNil : SGs := fun ds env => match ds with
  | [] => some env
  | _ => none
def gsCons (g : SG) (gs : SGs) : SGs := fun ds env => match ds with
  | d :: ds => (g d env).bind fun e => gs ds e
  | [] => none
/-- the items of a tuple or a list -/
def asU : D → Option (List D)
  | .lst ds => some ds
  | d => asT d
def gTup (n : Nat) (gs : SGs) : SG := fun d env => (asU d).bind fun ds => if ds.length = n then gs ds env else none
def sAsg (f : SE) (g : SG) : SS := fun env => (f env).bind fun r => (g r.1 r.2).bind fun e => some (.nx e)

section
variable {X : Cx}
/-- but for the slots sl -/
def But (sl : List Nat) (σ σ' : L2.St) : Prop := σ'.length = σ.length ∧ ∀ j, j ∉ sl → σ'[j]? = σ[j]?
def rdG (K : PySem.W.Frag) (g : SG) (sl : List Nat) : TG := fun v σ H Q => ∃ C O env d, EnvOk K C H O σ env ∧ Rep K H O d v ∧ ∃ env', g d env = some env' ∧ ∀ σ' H' O', Step H O H' O' → EnvOk K C H' O' σ' env' → But sl σ σ' → Q σ' H'
def rdGs (K : PySem.W.Frag) (g : SGs) (sl : List Nat) : TGs := fun vs σ H Q => ∃ C O env ds, EnvOk K C H O σ env ∧ RepL K H O ds vs ∧ ∃ env', g ds env = some env' ∧ ∀ σ' H' O', Step H O H' O' → EnvOk K C H' O' σ' env' → But sl σ σ' → Q σ' H'
structure DG (X : Cx) (e : Expr) (g : SG) (sl : List Nat) : Prop where pg : PG X e (rdG X.K g sl)
structure DGs (X : Cx) (e : List Expr) (g : SGs) (sl : List Nat) : Prop where pgs : PGs X e (rdGs X.K g sl)
theorem wkG {e : Expr} {t t' : TG} (h : PG X e t) (w : ∀ v σ H Q, t' v σ H Q → t v σ H Q) : PG X e t' := ⟨fun pins s σ H v u Q I r q => h.run pins s σ H v u Q I r (w v σ H Q q)⟩
theorem wkGs {e : List Expr} {t t' : TGs} (h : PGs X e t) (w : ∀ v σ H Q, t' v σ H Q → t v σ H Q) : PGs X e t' := ⟨fun pins s σ H v u Q I r q => h.run pins s σ H v u Q I r (w v σ H Q q)⟩
variable {e : Expr} {es : List Expr} {pos : Pos} {f : SE} {g : SG} {gs : SGs} {sl sl' : List Nat}
theorem dg_name (i : Nat) {x : Str} (hN : X.N.Nodup) (hi : X.N[i]? = some x) (hx : Loc X.env.scope x) (hf : X.fn x = true ∨ X.env.scope.names.lookup x = some .local) : DG X (.Name x pos) (gName i) [i] := by
  refine ⟨wkG (pg_name hN hi hx hf) fun v σ H Q ⟨C, O, env, d, E, r, env', e, k⟩ => ?_⟩
  unfold gName putFz at e
  split at e
  · rename_i h
    cases e
    exact k _ H O .refl (E.setFz (free_ok h) r) ⟨List.length_set, fun j hj => List.getElem?_set_ne (fun z => hj (by simp [z]))⟩
  · cases e
theorem dgs_nil : DGs X [] gsNil [] := by
  refine ⟨wkGs pgs_nil fun v σ H Q ⟨C, O, env, ds, E, r, env', e, k⟩ => ?_⟩
  cases r with
  | nil => cases e; exact ⟨rfl, k σ H O .refl E ⟨rfl, fun _ _ => rfl⟩⟩
  | cons r t => cases e
theorem dgs_cons (h : DG X e g sl) (t : DGs X es gs sl') (hs : (assignEach (e :: es) X.env).map (·.2) = assign e X.env :: (assignEach es X.env).map (·.2)) : DGs X (e :: es) (gsCons g gs) (sl ++ sl') := by
  refine ⟨wkGs (pgs_cons h.pg t.pgs hs) fun v σ H Q ⟨C, O, env, ds, E, r, env', e, k⟩ => ?_⟩
  cases r with
  | nil => cases e
  | cons r t =>
    obtain ⟨env1, e1, e2⟩ := bindS e
    refine ⟨_, _, rfl, C, O, env, _, E, r, env1, e1, fun σ1 H1 O1 s1 E1 b1 => ⟨C, O1, env1, _, E1, t.mono s1, env', e2, fun σ2 H2 O2 s2 E2 b2 => k σ2 H2 O2 (s1.trans s2) E2 ⟨b2.1.trans b1.1, fun j hj => (b2.2 j fun z => hj (List.mem_append_right _ z)).trans (b1.2 j fun z => hj (List.mem_append_left _ z))⟩⟩⟩
theorem Rep.asT {K : PySem.W.Frag} {H : Hp} {O : Ad} {d : D} {ds : List D} {v : V} (h : Rep K H O d v) (e : asT d = some ds) : ∃ a vs, v = .ref a ∧ SqT K H a vs ∧ RepL K H O ds vs := PRep.asT (.inl h) e
theorem dg_tup {k n : Nat} (hc : X.calm = true) (h : DGs X es gs sl) (hn : (assignEach es X.env).length = n) (hst : (assignEach es X.env).findIdx? (·.1) = none) : DG X (.Tuple es k pos) (gTup n gs) sl := by
  refine ⟨wkG (t := fun v σ H Q => L2.gTup X.K n (rdGs X.K gs sl) v σ H Q ∨ L2.gUnl X.K n (rdGs X.K gs sl) v σ H Q) ⟨fun pins s σ H v u Q I r hw => hw.elim ((pg_tup hc h.pgs hn hst).run pins s σ H v u Q I r) ((pg_unl hc h.pgs hn hst).run pins s σ H v u Q I r)⟩ fun v σ H Q ⟨C, O, env, d, E, r, env', e, k⟩ => ?_⟩
  obtain ⟨ds, e1, e2⟩ := bindS e
  split at e2
  · rename_i hl
    cases d with
    | lst ds' =>
      cases e1
      obtain ⟨a, vs, rfl, h1, h2⟩ := PRep.lst (.inl r)
      exact .inr ⟨a, vs, rfl, .inl (.inl h1), by rw [← h2.length]; exact hl, C, O, env, ds, E, h2, env', e2, k⟩
    | tup ds' =>
      obtain ⟨a, vs, rfl, h1, h2⟩ := r.asT e1
      exact .inl ⟨a, vs, rfl, h1, by rw [← h2.length]; exact hl, C, O, env, ds, E, h2, env', e2, k⟩
    | kt ds' =>
      obtain ⟨a, vs, rfl, h1, h2⟩ := r.asT e1
      exact .inl ⟨a, vs, rfl, h1, by rw [← h2.length]; exact hl, C, O, env, ds, E, h2, env', e2, k⟩
    | _ => cases e1
  · cases e2

/-! ### blocks -/
variable {s : Stmt} {ss : List Stmt} {u v : SS} {t : SB}
theorem dss_nil : DSs X [] sNil := ⟨wkSs pss_nil fun D σ H ⟨C, O, env, E, o, e, k⟩ => by cases e; exact k σ H O .refl E⟩
theorem dss_cons (h1 : DS X s u) (h2 : DSs X ss v) : DSs X (s :: ss) (sSeq u v) := by
  refine ⟨wkSs (pss_cons h1.ps h2.pss) fun D σ H ⟨C, O, env, E, o, e, k⟩ => ?_⟩
  obtain ⟨o1, e1, e2⟩ := bindS e
  refine ⟨C, O, env, E, o1, e1, ?_⟩
  cases o1 with
  | nx env1 => exact fun σ1 H1 O1 s1 E1 => ⟨C, O1, env1, E1, o, e2, k.step s1⟩
  | bk env1 => cases e2; exact k
  | ct env1 => cases e2; exact k
  | rt d env1 => cases e2; exact k
  | rn d env1 => cases e2; exact k
theorem dss_one (h1 : DS X s u) : DSs X [s] u := ⟨pss_one h1.ps⟩
theorem ds_pass : DS X (.Pass pos) sNil := ⟨wkS ps_pass fun D σ H ⟨C, O, env, E, o, e, k⟩ => by cases e; exact k σ H O .refl E⟩
theorem ds_break : DS X (.Break pos) sBreak := ⟨wkS ps_break fun D σ H ⟨C, O, env, E, o, e, k⟩ => by cases e; exact k σ H O .refl E⟩
theorem ds_cont : DS X (.Continue pos) sCont := ⟨wkS ps_continue fun D σ H ⟨C, O, env, E, o, e, k⟩ => by cases e; exact k σ H O .refl E⟩
theorem ds_expr (h : DE X e f) (hs : swapsWith e none pos.line X.env = pure false) : DS X (.Expr e pos) (sExpr f) := by
  refine ⟨wkS (ps_expr h.pe hs) fun D σ H ⟨C, O, env, E, o, e, k⟩ => ?_⟩
  obtain ⟨r1, e1, e2⟩ := bindS e
  cases e2
  exact ⟨C, O, env, E, r1, e1, fun w H1 O1 s1 E1 _ => k σ H1 O1 s1 E1⟩
theorem ds_ret (h : DE X e f) : DS X (.Return (some e) pos) (sRet f) := by
  refine ⟨wkS (ps_ret h.pe) fun D σ H ⟨C, O, env, E, o, e, k⟩ => ?_⟩
  obtain ⟨r1, e1, e2⟩ := bindS e
  cases e2
  exact ⟨C, O, env, E, r1, e1, fun w H1 O1 s1 E1 p => k σ w H1 O1 s1 E1 p⟩
theorem ds_retN : DS X (.Return none pos) sRetN := ⟨wkS ps_retN fun D σ H ⟨C, O, env, E, o, e, k⟩ => by cases e; exact k σ _ H O .refl E .non⟩
/-- return of something new -/
theorem ds_retF (h : DF X e f) : DS X (.Return (some e) pos) (sRetF f) := by
  refine ⟨wkS (ps_ret h.pe) fun D σ H ⟨C, O, env, E, o, e, k⟩ => ?_⟩
  obtain ⟨r1, e1, e2⟩ := bindS e
  cases e2
  exact ⟨C, O, env, E, r1, e1, fun a H1 O1 s1 E1 p => k σ a H1 O1 s1 E1 p⟩
/-- return x, x the def's own -/
def sRetO (i : Nat) : SS := fun env => match env[i]? with
  | some (.ow d) => some (.rn d (env.set i .no))
  | _ => none
theorem EnvOk.let {K : PySem.W.Frag} {C : Ctx} {H : Hp} {O : Ad} {σ : L2.St} {env : Ev} (E : EnvOk K C H O σ env) {i : Nat} {d : D} (e : env[i]? = some (.ow d)) :
    ∃ a, σ[i]? = some (some (.ref a)) ∧ EnvOk K C H O σ (env.set i .no) ∧ Loose K C H O σ (env.set i .no) d a := by
  obtain ⟨a, e1, h1, h2, h3, h4⟩ := E.ow i d e
  have f : Free env i := .inr (.inr ⟨d, e⟩)
  have E1 := E.setNo f (v := .ref a)
  rw [set_id e1] at E1
  refine ⟨a, e1, E1, ⟨h1, h2, h3, h4, fun j m q => ?_, fun h => (E.mx.own a (h.back E.mx (fun j r z => by
      rcases get_set z with ⟨rfl, w⟩ | ⟨n, w⟩
      · cases w
      · exact ⟨w, rfl⟩) fun _ _ => rfl)).2.2.2 i (.inl ⟨d, e⟩) e1⟩⟩
  have mj : j ≠ i ∧ Mt env j := by
    rcases m with ⟨d, m⟩ | ⟨d, m⟩
    · rcases get_set m with ⟨rfl, z⟩ | ⟨n, z⟩
      · cases z
      · exact ⟨n, .inl ⟨d, z⟩⟩
    · rcases get_set m with ⟨rfl, z⟩ | ⟨n, z⟩
      · cases z
      · exact ⟨n, .inr ⟨d, z⟩⟩
  exact E.sep j i a mj.1 mj.2 (.inl ⟨d, e⟩) q e1
theorem ds_retO (i : Nat) {x : Str} {p : Pos} (hN : X.N[i]? = some x) (hv : Vis X.env.scope x) (hd : (x == ("__debug__" : Str)) = false) (hcd : (x == ("__classdict__" : Str)) = false) : DS X (.Return (some (.Name x p)) pos) (sRetO i) := by
  refine ⟨wkS (ps_ret (pe_var hN hv hd hcd)) fun D σ H ⟨C, O, env, E, o, e, k⟩ => ?_⟩
  unfold sRetO at e
  split at e
  · rename_i d hd
    cases e
    obtain ⟨a, e1, E1, L⟩ := E.let hd
    exact ⟨_, e1, k σ a H O .refl E1 L⟩
  · cases e
theorem ds_if {c : Expr} {a b : List Stmt} (hc : DT X c t) (ha : DSs X a u) (hb : DSs X b v) : DS X (.If c a b pos) (sIf t u v) := by
  refine ⟨wkS (ps_if hc.pt ha.pss hb.pss) fun D σ H ⟨C, O, env, E, o, e, k⟩ => ?_⟩
  obtain ⟨r1, e1, e2⟩ := bindS e
  refine ⟨C, O, env, E, r1, e1, fun H1 O1 s1 E1 => ?_⟩
  cases hb : r1.1 with
  | true =>
    rw [if_pos rfl]
    rw [if_pos hb] at e2
    exact ⟨C, O1, _, E1, o, e2, k.step s1⟩
  | false =>
    rw [if_neg Bool.false_ne_true]
    rw [if_neg (by rw [hb]; exact Bool.false_ne_true)] at e2
    exact ⟨C, O1, _, E1, o, e2, k.step s1⟩
theorem ds_set (i : Nat) {x : Str} {p : Pos} (hN : X.N.Nodup) (hi : X.N[i]? = some x) (hx : Loc X.env.scope x) (h : DE X e f) (hf : X.fn x = true ∨ X.env.scope.names.lookup x = some .local) (hs : swapsWith e (some (.Name x p)) pos.line X.env = pure false) :
    DS X (.Assign [.Name x p] e pos) (sSet i f) := by
  refine ⟨wkS (ps_set hN hi hx h.pe hs hf) fun D σ H ⟨C, O, env, E, o, e, k⟩ => ?_⟩
  obtain ⟨r1, e1, e2⟩ := bindS e
  obtain ⟨e', e3, e4⟩ := bindS e2
  cases e4
  unfold putFz at e3
  split at e3
  · rename_i hf
    cases e3
    exact ⟨C, O, env, E, r1, e1, fun w H1 O1 s1 E1 p => k _ H1 O1 s1 (E1.setFz (free_ok hf) p)⟩
  · cases e3
theorem ds_setN (i : Nat) {x : Str} {p : Pos} (hN : X.N.Nodup) (hi : X.N[i]? = some x) (hx : Loc X.env.scope x) (h : DF X e f) (hf : X.fn x = true ∨ X.env.scope.names.lookup x = some .local) (hs : swapsWith e (some (.Name x p)) pos.line X.env = pure false) :
    DS X (.Assign [.Name x p] e pos) (sSetN i f) := by
  refine ⟨wkS (ps_set hN hi hx h.pe hs hf) fun D σ H ⟨C, O, env, E, o, e, k⟩ => ?_⟩
  obtain ⟨r1, e1, e2⟩ := bindS e
  obtain ⟨e', e3, e4⟩ := bindS e2
  cases e4
  unfold putOw at e3
  split at e3
  · rename_i hf
    cases e3
    exact ⟨C, O, env, E, r1, e1, fun a H1 O1 s1 E1 p => k _ H1 O1 s1 (E1.setOw (free_ok hf) p)⟩
  · cases e3
theorem ds_asg {tg : Expr} (h : DE X e f) (hg : DG X tg g sl) (hs : swapsWithSole [tg] e pos.line X.env = pure false) (hw : swappedStores [tg] e X.env = pure none)
    (h1 : (assignEach [tg] X.env).map (·.2) = [assign tg X.env]) : DS X (.Assign [tg] e pos) (sAsg f g) := by
  refine ⟨wkS (ps_asg h.pe hg.pg hs hw h1) fun D σ H ⟨C, O, env, E, o, e, k⟩ => ?_⟩
  obtain ⟨r1, e1, e2⟩ := bindS e
  obtain ⟨e', e3, e4⟩ := bindS e2
  cases e4
  exact ⟨C, O, env, E, r1, e1, fun w H1 O1 s1 E1 p => ⟨C, O1, _, _, E1, p, e', e3, fun σ2 H2 O2 s2 E2 _ => k σ2 H2 O2 (s1.trans s2) E2⟩⟩
/-- a, b = x, y -/
def sPar (i j : Nat) (a : SA) : SS := fun env => (a env).bind fun r => (vals r.1).bind fun ds => match ds with
  | [d, e] => (putFz r.2 i d).bind fun e1 => (putFz e1 j e).bind fun e2 => some (.nx e2)
  | _ => none
theorem ds_par (i j : Nat) {x y : Str} {a b : Expr} {as : SA} {px py pt : Pos} {kt k2 pt2} (hc : X.calm = true) (hN : X.N.Nodup) (hi : X.N[i]? = some x) (hj : X.N[j]? = some y) (hij : i ≠ j)
    (hx : X.env.scope.names.lookup x = some .local) (hy : X.env.scope.names.lookup y = some .local) (ha : DA X [a, b] as)
    (hw : swappedStores [.Tuple [.Name x px, .Name y py] kt pt] (.Tuple [a, b] k2 pt2) X.env = pure (some [x, y]))
    (hs : swapsWithSole [.Tuple [.Name x px, .Name y py] kt pt] (.Tuple [a, b] k2 pt2) pos.line X.env = pure false) :
    DS X (.Assign [.Tuple [.Name x px, .Name y py] kt pt] (.Tuple [a, b] k2 pt2) pos) (sPar i j as) := by
  refine ⟨wkS (ps_par hc hN hi hj hij hx hy ha.pa hw hs) fun D σ H ⟨C, O, env, E, o, e, k⟩ => ?_⟩
  obtain ⟨r1, e1, e2⟩ := bindS e
  obtain ⟨ds, e3, e4⟩ := bindS e2
  split at e4
  · rename_i d e
    obtain ⟨e1', e5, e6⟩ := bindS e4
    obtain ⟨e2', e7, e8⟩ := bindS e6
    cases e8
    refine ⟨C, O, env, E, r1, e1, fun vs H1 O1 s1 E1 p1 => ?_⟩
    have rl := p1.vals e3
    cases rl with
    | cons ra rl =>
      cases rl with
      | cons rb rl =>
        cases rl
        refine ⟨_, _, rfl, ?_⟩
        unfold putFz at e5 e7
        split at e5
        · rename_i f1
          cases e5
          split at e7
          · rename_i f2
            cases e7
            exact k _ H1 O1 s1 ((E1.setFz (free_ok f1) ra).setFz (free_ok f2) rb)
          · cases e7
        · cases e5
  · cases e4

/-! ### what is changed -/
def getM (env : Ev) (i : Nat) : Option D := match env[i]? with
  | some (.ow d) => some d
  | some (.io d) => some d
  | _ => none
def setM (env : Ev) (i : Nat) (d : D) : Ev := match env[i]? with
  | some (.ow _) => env.set i (.ow d)
  | some (.io _) => env.set i (.io d)
  | _ => env
theorem EnvOk.mutM {K : PySem.W.Frag} {C : Ctx} {H : Hp} {O : Ad} {σ : L2.St} {env : Ev} (E : EnvOk K C H O σ env) {i : Nat} {d : D} (e : getM env i = some d) :
    ∃ a, σ[i]? = some (some (.ref a)) ∧ Own K H O d a ∧ ∀ o d', (∀ O', Step H O (upd H a o) O' → Own K (upd H a o) O' d' a) → Step H O (upd H a o) O ∧ EnvOk K C (upd H a o) O σ (setM env i d') := by
  unfold getM at e
  split at e
  · rename_i d1 h
    cases e
    obtain ⟨a, e1, _, _, _, h4⟩ := E.ow i d h
    refine ⟨a, e1, h4, fun o d' ow => ?_⟩
    have r := E.mut (d := d) (x := .ow d') e1 (.inl ⟨h, rfl⟩) ow
    unfold setM
    rw [h]
    exact r
  · rename_i d1 h
    cases e
    obtain ⟨a, e1, h4⟩ := E.io i d h
    obtain ⟨e2, _⟩ := E.ioS i a e1
    refine ⟨a, e2, h4, fun o d' ow => ?_⟩
    have r := E.mut (d := d) (x := .io d') e2 (.inr ⟨h, rfl⟩) ow
    unfold setM
    rw [h]
    exact r
  · cases e
def tyD (T : String) : D → Bool
  | .lst _ => T == "list"
  | .dk _ => T == "dict"
  | .dt _ => T == "dict"
  | _ => false
theorem tyD_ok {K : PySem.W.Frag} {H : Hp} {O : Ad} {T : String} {d : D} {a : Addr} (h : tyD T d = true) (ow : Own K H O d a) : tyV K T (.ref a) H := by
  cases ow with
  | lst h1 _ => exact .inl ⟨eq_of_beq h, _, .of h1⟩
  | dk h1 _ _ => exact .inr (.inr (.inl ⟨eq_of_beq h, .inl ⟨_, h1⟩⟩))
  | dt h1 _ _ => exact .inr (.inr (.inl ⟨eq_of_beq h, .inr ⟨_, h1⟩⟩))
/-- a built-in method that changes its receiver -/
def MutD (X : Cx) (id : String) (g : D → List D → Option (D × D)) : Prop := ∃ r : V → List V → Hp → VK → Prop, MtR X id r ∧ ∀ (H : Hp) (O : Ad) (a : Addr) (d : D) (ds : List D) (us : List V) (z : D × D) (Q : VK), Own X.K H O d a → RepL X.K H O ds us → g d ds = some z →
  (∀ w o, (∀ O', Step H O (upd H a o) O' → Own X.K (upd H a o) O' z.2 a ∧ Rep X.K (upd H a o) O' z.1 w) → Q w (upd H a o)) → r (.ref a) us H Q
def eMut (T : String) (i : Nat) (a : SA) (g : D → List D → Option (D × D)) : SE := fun env => (getM env i).bind fun d0 => if tyD T d0 = true then (a env).bind fun r => (vals r.1).bind fun ds => (getM r.2 i).bind fun d => (g d ds).bind fun z => some (z.1, setM r.2 i z.2) else none
theorem eMut_ok {K : PySem.W.Frag} {T : String} {i : Nat} {as : SA} {gg : D → List D → Option (D × D)} {r : V → List V → Hp → VK → Prop} {σ : L2.St} {H : Hp} {Q : VK}
    (hr : ∀ (H : Hp) (O : Ad) (a : Addr) (d : D) (ds : List D) (us : List V) (z : D × D) (Q : VK), Own K H O d a → RepL K H O ds us → gg d ds = some z →
      (∀ w o, (∀ O', Step H O (upd H a o) O' → Own K (upd H a o) O' z.2 a ∧ Rep K (upd H a o) O' z.1 w) → Q w (upd H a o)) → r (.ref a) us H Q)
    (h : rdE K (eMut T i as gg) σ H Q) : ∃ x, σ[i]? = some (some x) ∧ tyV K T x H ∧ rdA K as σ H fun xs H2 => r x xs H2 Q := by
  obtain ⟨C, O, env, E, z, e, k⟩ := h
  obtain ⟨d0, e1, e2⟩ := bindS e
  split at e2
  · rename_i ht
    obtain ⟨r1, e3, e4⟩ := bindS e2
    obtain ⟨ds, e5, e6⟩ := bindS e4
    obtain ⟨d, e7, e8⟩ := bindS e6
    obtain ⟨z, e9, e10⟩ := bindS e8
    cases e10
    obtain ⟨a, h1, h2, _⟩ := E.mutM e1
    refine ⟨_, h1, tyD_ok ht h2, C, O, env, E, r1, e3, fun us H1 O1 s1 E1 p1 => ?_⟩
    obtain ⟨a', h3, h4, h5⟩ := E1.mutM e7
    rw [h1] at h3
    cases h3
    refine hr H1 O1 a d ds us z Q h4 (p1.vals e5) e9 fun w o how => ?_
    obtain ⟨s2, E2⟩ := h5 o z.2 fun O' s => (how O' s).1
    exact k w _ O1 (s1.trans s2) E2 (how O1 s2).2
  · cases e2
variable {as : SA} {T id : String} {name x : Str} {apos cpos vpos : Pos} {gg : D → List D → Option (D × D)}
theorem de_mut (i : Nat) (pa : PlainAttrs T) (slot : PySem.Slot T name id) (hty : typeOf (.builtin id) = pure (.type "method_descriptor")) (hm : MutD X id gg) (hN : X.N[i]? = some x) (hv : Vis X.env.scope x) (ha : DA X (e :: es) as)
    (hbase : attributeBase (.Name x vpos) name X.env (eval (.Name x vpos) X.env) = eval (.Name x vpos) X.env)
    (hfew : ((backTo cpos (starEach (e :: es) X.env)).all (fun x => !x.1) && (backToKw cpos (keywordEach [] X.env)).all (fun x => x.1.isSome)
      && decide ((e :: es).length + ([] : List Keyword).length + (if ([] : List Keyword).isEmpty then 0 else 1) < 30)) = true)
    (hline : (apos.endLine == cpos.line) = true) (hs : starEach (e :: es) X.env = (false, eval e X.env) :: starEach es X.env) (hplain : (backTo cpos (starEach es X.env)).any (·.1) = false)
    (hd : (x == ("__debug__" : Str)) = false) (hcd : (x == ("__classdict__" : Str)) = false) :
    DE X (.Call (.Attribute (.Name x vpos) name apos) (e :: es) [] cpos) (eMut T i as gg) := by
  obtain ⟨r, hR, hr⟩ := hm
  refine ⟨wkE (pe_bm pa slot hty hR (pe_var hN hv hd hcd) ha.pa hbase hfew hline hs hplain) fun σ H Q h => ?_⟩
  obtain ⟨y, h1, h2, h3⟩ := eMut_ok hr h
  exact ⟨y, h1, h2, h3⟩
theorem de_mut0 (i : Nat) (pa : PlainAttrs T) (slot : PySem.Slot T name id) (hty : typeOf (.builtin id) = pure (.type "method_descriptor")) (hm : MutD X id gg) (hN : X.N[i]? = some x) (hv : Vis X.env.scope x)
    (hbase : attributeBase (.Name x vpos) name X.env (eval (.Name x vpos) X.env) = eval (.Name x vpos) X.env) (hline : (apos.endLine == cpos.line) = true)
    (hd : (x == ("__debug__" : Str)) = false) (hcd : (x == ("__classdict__" : Str)) = false) :
    DE X (.Call (.Attribute (.Name x vpos) name apos) [] [] cpos) (eMut T i aN gg) := by
  obtain ⟨r, hR, hr⟩ := hm
  refine ⟨wkE (pe_bm0 pa slot hty hR (pe_var hN hv hd hcd) hbase hline) fun σ H Q h => ?_⟩
  obtain ⟨y, h1, h2, C, O, env, E, z, e, k⟩ := eMut_ok hr h
  cases e
  exact ⟨y, h1, h2, k [] H O .refl E .nil⟩
def mAppend : D → List D → Option (D × D)
  | .lst ds, [d] => if ds.length < sizeLine then some (.non, .lst (ds ++ [d])) else none
  | _, _ => none
theorem md_append : MutD X "list.append" mAppend := by
  refine ⟨_, mt_append, fun H O a d ds us z Q ow r e k => ?_⟩
  cases ow <;> try (cases e; done)
  rename_i vs ds' h2 h1
  cases r with
  | nil => cases e
  | cons r t =>
    cases t with
    | cons _ _ => cases e
    | nil =>
      rename_i d' v'
      by_cases hl : ds'.length < sizeLine
      · rw [show mAppend (.lst ds') [d'] = some (.non, .lst (ds' ++ [d'])) from if_pos hl] at e
        cases e
        exact ⟨a, vs, v', rfl, rfl, h1, by rw [← h2.length]; exact hl, k .non _ fun O' s => ⟨.lst upd_same ((h2.mono s).append (.cons (r.mono s) .nil)), .non⟩⟩
      · rw [show mAppend (.lst ds') [d'] = none from if_neg hl] at e
        cases e
def mPop : D → List D → Option (D × D)
  | .lst ds, [] => (ds[ds.length - 1]?).bind fun d => some (d, .lst ds.dropLast)
  | _, _ => none
theorem md_pop : MutD X "list.pop" mPop := by
  refine ⟨_, mt_pop, fun H O a d ds us z Q ow r e k => ?_⟩
  cases ow <;> try (cases e; done)
  rename_i vs ds' h2 h1
  cases r with
  | cons _ _ => cases e
  | nil =>
    obtain ⟨d', e1, e2⟩ := bindS (show (ds'[ds'.length - 1]?).bind (fun d => some (d, D.lst ds'.dropLast)) = some z from e)
    cases e2
    obtain ⟨v', h3, h4⟩ := h2.get e1
    exact ⟨a, vs, v', rfl, rfl, h1, by rw [← h2.length]; exact h3, k v' _ fun O' s => ⟨.lst upd_same ((h2.mono s).dropLast), h4.mono s⟩⟩
def mReverse : D → List D → Option (D × D)
  | .lst ds, [] => some (.non, .lst ds.reverse)
  | _, _ => none
theorem md_reverse : MutD X "list.reverse" mReverse := by
  refine ⟨_, mt_reverse, fun H O a d ds us z Q ow r e k => ?_⟩
  cases ow <;> try (cases e; done)
  rename_i vs ds' h2 h1
  cases r with
  | cons _ _ => cases e
  | nil =>
    cases e
    exact ⟨a, vs, rfl, rfl, h1, k .non _ fun O' s => ⟨.lst upd_same ((h2.mono s).reverse), .non⟩⟩
def mPopAt : D → List D → Option (D × D)
  | .lst ds, [.int i] => if -(2 ^ 62) ≤ i ∧ i < 2 ^ 62 then (ixN ds.length i).bind fun k => (ds[k]?).bind fun d => some (d, .lst (ds.eraseIdx k)) else none
  | _, _ => none
theorem md_popAt : MutD X "list.pop" mPopAt := by
  refine ⟨_, mt_popAt, fun H O a d ds us z Q ow r e k => ?_⟩
  cases ow <;> try (cases e; done)
  rename_i vs ds' h2 h1
  cases r with
  | nil => cases e
  | cons r t =>
    rename_i d1 v1 _ _
    cases d1 <;> try (cases t <;> cases e; done)
    cases t with
    | cons _ _ => cases e
    | nil =>
      rename_i i
      cases r
      have e : (if -(2 ^ 62) ≤ i ∧ i < 2 ^ 62 then (ixN ds'.length i).bind fun k => (ds'[k]?).bind fun d => some (d, D.lst (ds'.eraseIdx k)) else none) = some z := e
      split at e
      · rename_i hi
        obtain ⟨j, e1, e2⟩ := bindS e
        obtain ⟨d', e3, e4⟩ := bindS e2
        cases e4
        obtain ⟨v', h3, h4⟩ := h2.get e3
        rw [h2.length] at e1
        exact ⟨a, vs, i, j, v', rfl, rfl, h1, by omega, by omega, (ixN_seq e1).1, h3, k v' _ fun O' s => ⟨.lst upd_same ((h2.mono s).eraseIdx _), h4.mono s⟩⟩
      · cases e

/-! ### x[i] = e -/
theorem PSet.or {t t' : TSet} (h : PSet X t) (h' : PSet X t') : PSet X fun o i v H Q => t o i v H Q ∨ t' o i v H Q := by
  intro pins s σ H o i v ov iv u Q I r1 r2 r3 q
  rcases q with q | q
  · exact h pins s σ H o i v ov iv u Q I r1 r2 r3 q
  · exact h' pins s σ H o i v ov iv u Q I r1 r2 r3 q
def tSetD : TSet := fun o i v H Q => ∃ a H', o = .ref a ∧ DPut H a i v H' ∧ Q H'
theorem set_dict (hu : X.A.units + 1 < cLine) : PSet X tSetD := by
  intro pins s σ H o i v ov iv u Q I r1 r2 r3 h
  obtain ⟨a, H', rfl, g, q⟩ := h
  obtain rfl : ov = Value.ref a := r1
  exact d_setItem hu I g r2 r3 fun s' I' => ⟨H', I', q⟩
def gSet : D → D → D → Option D
  | .lst ds, .int i, v => (ixN ds.length i).bind fun j => some (.lst (ds.set j v))
  | .dk kvs, k, v => (keyOf k).bind fun k => if kvs.length < sizeLine then some (.dk (dput kvs k v)) else none
  | .dt kvs, .tup ks, v => (keysOf ks).bind fun ks => if kvs.length < sizeLine then some (.dt (dput kvs ks v)) else none
  | _, _, _ => none
def sPut (i : Nat) (ix : SE) (f : SE) : SS := fun env => (f env).bind fun r => (getM r.2 i).bind fun _ => (ix r.2).bind fun r2 => (getM r2.2 i).bind fun d => (gSet d r2.1 r.1).bind fun d' => some (.nx (setM r2.2 i d'))
theorem ds_put (hu : X.A.units + 1 < cLine) (i : Nat) {ie : Expr} {ix : SE} {p : Pos} (hN : X.N[i]? = some x) (hv : Vis X.env.scope x) (hi : DE X ie ix) (h : DE X e f)
    (ha : ∀ v, assign (.Subscript (.Name x vpos) ie p) X.env v = (do
      let ov ← holding [v] (eval (.Name x vpos) X.env)
      let iv ← holding [v, ov] (eval ie X.env)
      standAt p
      holding [v, ov, iv] (setItem ov iv v)
      release [v, ov, iv] []))
    (hs : swapsWithSole [.Subscript (.Name x vpos) ie p] e pos.line X.env = pure false) (hw : swappedStores [.Subscript (.Name x vpos) ie p] e X.env = pure none)
    (h1 : (assignEach [.Subscript (.Name x vpos) ie p] X.env).map (·.2) = [assign (.Subscript (.Name x vpos) ie p) X.env])
    (hd : (x == ("__debug__" : Str)) = false) (hcd : (x == ("__classdict__" : Str)) = false) :
    DS X (.Assign [.Subscript (.Name x vpos) ie p] e pos) (sPut i ix f) := by
  refine ⟨wkS (ps_asg h.pe (pg_sub (pe_var hN hv hd hcd) hi.pe (PSet.or set_list (set_dict hu)) ha) hs hw h1) fun D σ H ⟨C, O, env, E, o, e, k⟩ => ?_⟩
  obtain ⟨r1, e1, e2⟩ := bindS e
  obtain ⟨d0, e3, e4⟩ := bindS e2
  obtain ⟨r2, e5, e6⟩ := bindS e4
  obtain ⟨d, e7, e8⟩ := bindS e6
  obtain ⟨d', e9, e10⟩ := bindS e8
  cases e10
  refine ⟨C, O, env, E, r1, e1, fun w H1 O1 s1 E1 p1 => ?_⟩
  obtain ⟨a, h1, _, _⟩ := E1.mutM e3
  refine ⟨_, h1, C, O1, _, E1, r2, e5, fun iv H2 O2 s2 E2 p2 => ?_⟩
  obtain ⟨a', h3, h4, h5⟩ := E2.mutM e7
  rw [h1] at h3
  cases h3
  have pw := p1.mono s2
  have fin : ∀ o, (∀ O', Step H2 O2 (upd H2 a o) O' → Own X.K (upd H2 a o) O' d' a) → D.nx σ (upd H2 a o) := fun o ow => by
    obtain ⟨s3, E3⟩ := h5 o d' ow
    exact k σ _ O2 (s1.trans (s2.trans s3)) E3
  cases h4 with
  | lst g1 g2 =>
    rename_i vs ds
    cases hr : r2.1 <;> (rw [hr] at e9) <;> try (cases e9; done)
    rw [hr] at p2
    cases p2
    rename_i ii
    obtain ⟨j, e11, e12⟩ := bindS (show (ixN ds.length ii).bind (fun j => some (Z.D.lst (ds.set j r1.1))) = some d' from e9)
    cases e12
    rw [g2.length] at e11
    exact .inl ⟨a, vs, ii, j, rfl, rfl, g1, e11, fin _ fun O' s => .lst upd_same (RepL.set (pw.mono s) j (g2.mono s))⟩
  | dk g1 g2 g3 =>
    rename_i kvs es
    obtain ⟨kk, e11, e12⟩ := bindS (show (keyOf r2.1).bind (fun k => if kvs.length < sizeLine then some (Z.D.dk (dput kvs k r1.1)) else none) = some d' by cases hr : r2.1 <;> (rw [hr] at e9; exact e9))
    split at e12
    · rename_i hl
      cases e12
      rw [p2.key e11]
      have rk : RepK X.K H2 O2 kvs es := ⟨g2, g3⟩
      exact .inr ⟨a, _, rfl, DPut.k g1 (by rw [← rk.length]; exact hl), fin _ fun O' s => by
        have q := (rk.mono s).put kk (pw.mono s)
        exact .dk upd_same q.1 q.2⟩
    · cases e12
  | dt g1 g2 g3 =>
    rename_i kvs es
    cases hr : r2.1 <;> (rw [hr] at e9) <;> try (cases e9; done)
    rename_i ks
    rw [hr] at p2
    obtain ⟨kk, e11, e12⟩ := bindS (show (keysOf ks).bind (fun ks => if kvs.length < sizeLine then some (Z.D.dt (dput kvs ks r1.1)) else none) = some d' from e9)
    split at e12
    · rename_i hl
      cases e12
      have rk : RepK X.K H2 O2 kvs es := ⟨g2, g3⟩
      obtain ⟨b, vs, rfl, q1, q2⟩ := (show PRep X.K H2 O2 (.tup ks) iv from .inl p2).tup
      rw [q2.keys e11] at q1
      exact .inr ⟨a, _, rfl, DPut.t g1 q1 (by rw [← rk.length]; exact hl), fin _ fun O' s => by
        have q := (rk.mono s).put kk (pw.mono s)
        exact .dt upd_same q.1 q.2⟩
    · cases e12
end
end Z

/-! The data layer, part F: what is walked, for, while, comprehensions. -/
namespace Z
open PySem PySem.Spec PyProof.Rows L2

section
variable {K : PySem.W.Frag} {C : Ctx} {H H' : Hp} {O O' : Ad} {σ : L2.St} {env : Ev}
/-- a (it holds o) is neither changed nor taken -/
def Ctx.hide (C : Ctx) (a : Addr) (o : HO) : Ctx := { C with lock := fun b => if b = a then some o else C.lock b, O0 := fun b => C.O0 b ∨ b = a }
theorem EnvOk.hide (E : EnvOk K C H O σ env) {d : D} {a : Addr} {o : HO} (L : Loose K C H O σ env d a) (h : H a = some o) : EnvOk K (C.hide a o) H O σ env where
  len := E.len
  o0 := fun b z => by
    rcases z with z | rfl
    · exact E.o0 b z
    · exact L.o
  trk := E.trk
  lock := fun b u z => by
    have z : (if b = a then some o else C.lock b) = some u := z
    split at z
    · rename_i q; cases z; rw [q]; exact h
    · exact E.lock b u z
  fz := E.fz
  ow := fun i e q => by
    obtain ⟨b, q1, h1, h2, h3, h4⟩ := E.ow i e q
    have n : b ≠ a := fun z => L.sep i (.inl ⟨e, q⟩) (z ▸ q1)
    refine ⟨b, q1, h1, fun z => ?_, ?_, h4⟩
    · rcases z with z | z
      · exact h2 z
      · exact n z
    · show (if b = a then some o else C.lock b) = none
      rw [if_neg n]; exact h3
  io := E.io
  ioS := fun i b q => by
    obtain ⟨q1, h1, h2, e, h3⟩ := E.ioS i b q
    have n : b ≠ a := fun z => L.sep i (.inr ⟨e, h3⟩) (z ▸ q1)
    refine ⟨q1, h1, ?_, e, h3⟩
    show (if b = a then some o else C.lock b) = none
    rw [if_neg n]; exact h2
  br := E.br
  brS := fun i v e q => by
    obtain ⟨q1, q2, h⟩ := E.brS i v e q
    refine ⟨q1, q2, ?_⟩
    rcases h with h | ⟨b, rfl, h1, h2, h3⟩
    · exact .inl h
    · refine .inr ⟨b, rfl, h1, ?_, h3⟩
      have n : b ≠ a := fun z => h2 (z ▸ L.nl)
      show (if b = a then some o else C.lock b) ≠ none
      rw [if_neg n]; exact h2
  sep := E.sep
  mx := E.mx.move .refl (fun _ _ e => ⟨e, rfl⟩) (fun _ _ => rfl) fun b hb => by
    have n : b ≠ a := fun z => L.nmx (z ▸ hb)
    obtain ⟨h1, h2, h3, h4⟩ := E.mx.own b hb
    refine ⟨h1, fun z => ?_, ?_, h4⟩
    · rcases z with z | z
      · exact h2 z
      · exact n z
    · show (if b = a then some o else C.lock b) = none
      rw [if_neg n]; exact h3
/-- no read name stands for what is owned at a -/
def NoBr (K : PySem.W.Frag) (C : Ctx) (a : Addr) : Prop := ∀ i d, C.br i = some (.ref a, d) → ∀ H O, ¬ OwnB K H O d a
theorem EnvOk.noBr (E : EnvOk K C H O σ env) {a : Addr} (h : H a = none) : NoBr K C a := fun i d e H2 O2 ow => by
  obtain ⟨_, _, q⟩ := E.brS i _ d e
  rcases q with q | ⟨b, z, _, _, q⟩
  · cases ow with
    | fdk _ _ _ => cases q with | dk n q _ _ => rcases q with q | ⟨_, q⟩ <;> (rw [h] at q; cases q)
    | own ow => cases ow with
    | lst _ _ => cases q with | lst n q _ => rw [h] at q; cases q
    | dk _ _ _ => cases q with | dk n q _ _ => rcases q with q | ⟨_, q⟩ <;> (rw [h] at q; cases q)
    | dt _ _ _ => cases q with | dt n q _ _ => rw [h] at q; cases q
  · cases z
    exact q.some h
theorem EnvOk.unhide {a : Addr} {o : HO} (E : EnvOk K (C.hide a o) H O σ env) {d : D} (n0 : ¬ C.O0 a) (nl : C.lock a = none) (nb : NoBr K C a) (ow : Own K H O d a) : EnvOk K C H O σ env ∧ Loose K C H O σ env d a := by
  have la : (C.hide a o).lock a = some o := if_pos rfl
  have mt : ∀ i, Mt env i → σ[i]? ≠ some (some (.ref a)) := fun i m q => by
    rcases m with ⟨e, m⟩ | ⟨e, m⟩
    · obtain ⟨b, q1, _, h2, _⟩ := E.ow i e m
      rw [q] at q1; cases q1
      exact h2 (.inr rfl)
    · obtain ⟨b, q1, _⟩ := E.io i e m
      obtain ⟨q2, _, h2, _⟩ := E.ioS i b q1
      rw [q] at q2; cases q2
      rw [la] at h2; cases h2
  refine ⟨⟨E.len, fun b z => E.o0 b (.inl z), E.trk, fun b u z => E.lock b u ?_, E.fz, fun i e q => ?_, E.io, fun i b q => ?_, E.br, fun i v e q => ?_, E.sep, E.mx.move .refl (fun _ _ e => ⟨e, rfl⟩) (fun _ _ => rfl) fun b hb => ?_⟩, ⟨E.o0 a (.inr rfl), n0, nl, ow, mt, fun h => (E.mx.own a h).2.1 (.inr rfl)⟩⟩
  · show (if b = a then some o else C.lock b) = some u
    rw [if_neg (fun q => by rw [q, nl] at z; cases z)]; exact z
  · obtain ⟨b, q1, h1, h2, h3, h4⟩ := E.ow i e q
    refine ⟨b, q1, h1, fun z => h2 (.inl z), ?_, h4⟩
    have h3 : (if b = a then some o else C.lock b) = none := h3
    split at h3
    · cases h3
    · exact h3
  · obtain ⟨q1, h1, h2, h3⟩ := E.ioS i b q
    refine ⟨q1, h1, ?_, h3⟩
    have h2 : (if b = a then some o else C.lock b) = none := h2
    split at h2
    · cases h2
    · exact h2
  · obtain ⟨q1, q2, h⟩ := E.brS i v e q
    refine ⟨q1, q2, ?_⟩
    rcases h with h | ⟨b, rfl, h1, h2, h3⟩
    · exact .inl h
    · refine .inr ⟨b, rfl, h1, ?_, h3⟩
      have n : b ≠ a := fun z => nb i e (z ▸ q) H O (z ▸ h3)
      have h2 : (if b = a then some o else C.lock b) ≠ none := h2
      rw [if_neg n] at h2
      exact h2
  · obtain ⟨h1, h2, h3, h4⟩ := E.mx.own b hb
    refine ⟨h1, fun z => h2 (.inl z), ?_, h4⟩
    have h3 : (if b = a then some o else C.lock b) = none := h3
    split at h3
    · cases h3
    · exact h3
/-- what is hidden changes -/
theorem EnvOk.rehide {a : Addr} {o o' : HO} (E : EnvOk K (C.hide a o) H O σ env) (nb : NoBr K C a) : Step H O (upd H a o') O ∧ EnvOk K (C.hide a o') (upd H a o') O σ env := by
  have oa : O a := E.o0 a (.inr rfl)
  have s : Step H O (upd H a o') O := ⟨fun b u n q => by rw [upd_ne (fun z => n (by rw [z]; exact oa))]; exact q, fun _ z => .inl z⟩
  refine ⟨s, E.len, E.o0, fun b z => ?_, fun b u z => ?_, fun i e q => ?_, fun i e q => ?_, fun i e q => ?_, fun i b q => ?_, E.br, fun i v e q => ?_, E.sep, E.mx.move s (fun _ _ e => ⟨e, rfl⟩) (fun b hb => upd_ne fun z => (E.mx.own b hb).2.1 (.inr z)) fun b hb => ?_⟩
  · by_cases n : b = a
    · rw [n, upd_same]; intro q; cases q
    · rw [upd_ne n]; exact E.trk b z
  · have z : (if b = a then some o' else C.lock b) = some u := z
    split at z
    · rename_i n; cases z; rw [n]; exact upd_same
    · rename_i n
      rw [upd_ne n]
      exact E.lock b u (show (if b = a then some o else C.lock b) = some u by rw [if_neg n]; exact z)
  · obtain ⟨v, q1, r⟩ := E.fz i e q
    exact ⟨v, q1, r.mono s⟩
  · obtain ⟨b, q1, h1, h2, h3, h4⟩ := E.ow i e q
    have n : b ≠ a := fun z => h2 (.inr z)
    refine ⟨b, q1, h1, h2, ?_, h4.mono s (upd_ne n)⟩
    have h3 : (if b = a then some o else C.lock b) = none := h3
    show (if b = a then some o' else C.lock b) = none
    rw [if_neg n] at h3 ⊢
    exact h3
  · obtain ⟨b, q1, h4⟩ := E.io i e q
    obtain ⟨_, _, h2, _⟩ := E.ioS i b q1
    have h2 : (if b = a then some o else C.lock b) = none := h2
    have n : b ≠ a := fun z => by rw [if_pos z] at h2; cases h2
    exact ⟨b, q1, h4.mono s (upd_ne n)⟩
  · obtain ⟨q1, h1, h2, h3⟩ := E.ioS i b q
    have h2 : (if b = a then some o else C.lock b) = none := h2
    have n : b ≠ a := fun z => by rw [if_pos z] at h2; cases h2
    refine ⟨q1, h1, ?_, h3⟩
    show (if b = a then some o' else C.lock b) = none
    rw [if_neg n] at h2 ⊢
    exact h2
  · obtain ⟨q1, q2, h⟩ := E.brS i v e q
    refine ⟨q1, q2, ?_⟩
    rcases h with h | ⟨b, rfl, h1, h2, h3⟩
    · exact .inl (h.mono s)
    · have n : b ≠ a := fun z => nb i e (z ▸ q) H O (z ▸ h3)
      refine .inr ⟨b, rfl, h1, ?_, h3.mono s (upd_ne n)⟩
      have h2 : (if b = a then some o else C.lock b) ≠ none := h2
      show (if b = a then some o' else C.lock b) ≠ none
      rw [if_neg n] at h2 ⊢
      exact h2
  · obtain ⟨h1, h2, h3, h4⟩ := E.mx.own b hb
    have n : b ≠ a := fun z => h2 (.inr z)
    refine ⟨h1, h2, ?_, h4⟩
    have h3 : (if b = a then some o else C.lock b) = none := h3
    show (if b = a then some o' else C.lock b) = none
    rw [if_neg n] at h3 ⊢
    exact h3

/-! ### a name that is walked: it is only read meanwhile -/
def lockE (env : Ev) : Option Nat → Ev
  | none => env
  | some i => match getM env i with
    | some d => env.set i (.br d)
    | none => env
def unlockE (e0 e2 : Ev) : Option Nat → Ev
  | none => e2
  | some i => match e0[i]? with
    | some x => e2.set i x
    | none => e2
def Back (K : PySem.W.Frag) (C C' : Ctx) (e0 : Ev) (li : Option Nat) : Prop := ∀ H2 O2 σ2 env2, EnvOk K C' H2 O2 σ2 env2 → EnvOk K C H2 O2 σ2 (unlockE e0 env2 li) ∧ ∀ d a, Loose K C' H2 O2 σ2 env2 d a → Loose K C H2 O2 σ2 (unlockE e0 env2 li) d a
theorem back_none : Back K C C env none := fun H2 O2 σ2 env2 E => ⟨E, fun d a L => L⟩
theorem EnvOk.lockM (E : EnvOk K C H O σ env) {i : Nat} {d : D} (e : getM env i = some d) :
    ∃ a C' o, σ[i]? = some (some (.ref a)) ∧ H a = some o ∧ Own K H O d a ∧ C'.lock a = some o ∧ C'.O0 a ∧ EnvOk K C' H O σ (lockE env (some i)) ∧ Back K C C' env (some i) := by
  have mi : Mt env i := by
    unfold getM at e
    split at e
    · exact .inl ⟨_, by assumption⟩
    · exact .inr ⟨_, by assumption⟩
    · cases e
  obtain ⟨a, e1, ow, _⟩ := E.mutM e
  obtain ⟨o, ho⟩ : ∃ o, H a = some o := by
    cases q : H a with
    | none => exact (ow.some q).elim
    | some o => exact ⟨o, rfl⟩
  have oa : O a ∧ C.lock a = none := by
    rcases mi with ⟨d', m⟩ | ⟨d', m⟩
    · obtain ⟨b, q, h1, _, h3, _⟩ := E.ow i d' m
      rw [e1] at q; cases q
      exact ⟨h1, h3⟩
    · obtain ⟨b, q, _⟩ := E.io i d' m
      obtain ⟨q2, h1, h3, _⟩ := E.ioS i b q
      rw [e1] at q2; cases q2
      exact ⟨h1, h3⟩
  have hl : i < env.length := by
    rcases mi with ⟨_, m⟩ | ⟨_, m⟩ <;> exact (List.getElem?_eq_some_iff.mp m).1
  have le : lockE env (some i) = env.set i (.br d) := by
    show (match getM env i with
      | some d => env.set i (.br d)
      | none => env) = _
    rw [e]
  let C' : Ctx := { lock := fun b => if b = a then some o else C.lock b, io := fun j => if j = i then none else C.io j, br := fun j => if j = i then some (.ref a, d) else C.br j, O0 := fun b => C.O0 b ∨ b = a }
  have mt : ∀ j, Mt (env.set i (.br d)) j → j ≠ i ∧ Mt env j := fun j m => by
    rcases m with ⟨d', m⟩ | ⟨d', m⟩
    · rcases get_set m with ⟨_, z⟩ | ⟨n, z⟩
      · cases z
      · exact ⟨n, .inl ⟨d', z⟩⟩
    · rcases get_set m with ⟨_, z⟩ | ⟨n, z⟩
      · cases z
      · exact ⟨n, .inr ⟨d', z⟩⟩
  refine ⟨a, C', o, e1, ho, ow, if_pos rfl, .inr rfl, ?_, ?_⟩
  · rw [le]
    refine ⟨by rw [List.length_set]; exact E.len, fun b z => ?_, E.trk, fun b u z => ?_, fun j d' q => ?_, fun j d' q => ?_, fun j d' q => ?_, fun j b q => ?_, fun j d' q => ?_, fun j v d' q => ?_, fun j k b n mj mk => E.sep j k b n (mt j mj).2 (mt k mk).2, E.mx.move .refl (fun j r z => ?_) (fun _ _ => rfl) fun b hb => ?_⟩
    · rcases z with z | rfl
      · exact E.o0 b z
      · exact oa.1
    · have z : (if b = a then some o else C.lock b) = some u := z
      split at z
      · rename_i n; cases z; rw [n]; exact ho
      · exact E.lock b u z
    · rcases get_set q with ⟨_, z⟩ | ⟨n, z⟩
      · cases z
      · exact E.fz j d' z
    · rcases get_set q with ⟨_, z⟩ | ⟨n, z⟩
      · cases z
      · obtain ⟨b, q1, h1, h2, h3, h4⟩ := E.ow j d' z
        have nb : b ≠ a := fun y => E.sep j i b n (.inl ⟨d', z⟩) mi q1 (y ▸ e1)
        refine ⟨b, q1, h1, fun y => ?_, ?_, h4⟩
        · rcases y with y | y
          · exact h2 y
          · exact nb y
        · show (if b = a then some o else C.lock b) = none
          rw [if_neg nb]; exact h3
    · rcases get_set q with ⟨_, z⟩ | ⟨n, z⟩
      · cases z
      · obtain ⟨b, q1, h4⟩ := E.io j d' z
        exact ⟨b, by show (if j = i then none else C.io j) = some b; rw [if_neg n]; exact q1, h4⟩
    · have q : (if j = i then none else C.io j) = some b := q
      split at q
      · cases q
      · rename_i n
        obtain ⟨q1, h1, h2, d', h3⟩ := E.ioS j b q
        have nb : b ≠ a := fun y => E.sep j i b n (.inr ⟨d', h3⟩) mi q1 (y ▸ e1)
        refine ⟨q1, h1, ?_, d', by rw [List.getElem?_set_ne (Ne.symm n)]; exact h3⟩
        show (if b = a then some o else C.lock b) = none
        rw [if_neg nb]; exact h2
    · rcases get_set q with ⟨rfl, z⟩ | ⟨n, z⟩
      · cases z
        exact ⟨.ref a, if_pos rfl⟩
      · obtain ⟨v, q1⟩ := E.br j d' z
        exact ⟨v, by show (if j = i then some (V.ref a, d) else C.br j) = some (v, d'); rw [if_neg n]; exact q1⟩
    · have q : (if j = i then some (V.ref a, d) else C.br j) = some (v, d') := q
      split at q
      · rename_i n
        cases q
        rw [n]
        refine ⟨e1, List.getElem?_set_self hl, .inr ⟨a, rfl, oa.1, ?_, .own ow⟩⟩
        show (if a = a then some o else C.lock a) ≠ none
        rw [if_pos rfl]; intro z; cases z
      · rename_i n
        obtain ⟨q1, q2, h⟩ := E.brS j v d' q
        refine ⟨q1, by rw [List.getElem?_set_ne (Ne.symm n)]; exact q2, ?_⟩
        rcases h with h | ⟨b, rfl, h1, h2, h3⟩
        · exact .inl h
        · refine .inr ⟨b, rfl, h1, ?_, h3⟩
          have nb : b ≠ a := fun z => h2 (z ▸ oa.2)
          show (if b = a then some o else C.lock b) ≠ none
          rw [if_neg nb]; exact h2
    · rcases get_set z with ⟨_, w⟩ | ⟨n, w⟩
      · cases w
      · exact ⟨w, rfl⟩
    · obtain ⟨h1, h2, h3, h4⟩ := E.mx.own b hb
      have nb : b ≠ a := fun z => h4 i mi (z ▸ e1)
      refine ⟨h1, fun z => ?_, ?_, fun j m => h4 j (mt j m).2⟩
      · rcases z with z | z
        · exact h2 z
        · exact nb z
      · show (if b = a then some o else C.lock b) = none
        rw [if_neg nb]; exact h3
  · intro H2 O2 σ2 env2 E2
    obtain ⟨x, hx⟩ : ∃ x, env[i]? = some x := by
      rcases mi with ⟨_, m⟩ | ⟨_, m⟩ <;> exact ⟨_, m⟩
    have xe : (x = .ow d) ∨ (x = .io d) := by
      unfold getM at e
      rw [hx] at e
      cases x <;> first | (cases e; done) | (cases e; exact .inl rfl) | (cases e; exact .inr rfl)
    have ue : unlockE env env2 (some i) = env2.set i x := by
      show (match env[i]? with
        | some x => env2.set i x
        | none => env2) = _
      rw [hx]
    rw [ue]
    have O2a : O2 a := E2.o0 a (.inr rfl)
    obtain ⟨b1, b2, b3⟩ := E2.brS i (.ref a) d (if_pos rfl)
    have hl2 : i < env2.length := (List.getElem?_eq_some_iff.mp b2).1
    have ow2 : Own K H2 O2 d a := by
      rcases b3 with r | ⟨b, z, _, _, r⟩
      · cases ow with
        | lst _ _ => cases r with | lst n _ _ => exact (n O2a).elim
        | dk _ _ _ => cases r with | dk n _ _ _ => exact (n O2a).elim
        | dt _ _ _ => cases r with | dt n _ _ _ => exact (n O2a).elim
      · cases z
        cases r with
        | own r => exact r
        | fdk h4 _ _ =>
          have h5 := E2.lock a o (if_pos rfl)
          rw [h5] at h4
          cases h4
          cases ow with
          | dk h6 _ _ => rw [ho] at h6; cases h6
    have mt2 : ∀ j, Mt (env2.set i x) j → j = i ∨ (j ≠ i ∧ Mt env2 j) := fun j m => by
      by_cases n : j = i
      · exact .inl n
      · refine .inr ⟨n, ?_⟩
        unfold Mt at m ⊢
        rw [List.getElem?_set_ne (Ne.symm n)] at m
        exact m
    have nea : ∀ j, j ≠ i → Mt env2 j → σ2[j]? ≠ some (some (.ref a)) := fun j n m q => by
      rcases m with ⟨d', m⟩ | ⟨d', m⟩
      · obtain ⟨b, q1, _, h2, _⟩ := E2.ow j d' m
        rw [q] at q1; cases q1
        exact h2 (.inr rfl)
      · obtain ⟨b, q1, _⟩ := E2.io j d' m
        obtain ⟨q2, _, h2, _⟩ := E2.ioS j b q1
        rw [q] at q2; cases q2
        have h2 : (if a = a then some o else C.lock a) = none := h2
        rw [if_pos rfl] at h2; cases h2
    have lk : ∀ {b : Addr}, (if b = a then some o else C.lock b) = none → C.lock b = none := fun {b} h => by
      split at h
      · cases h
      · exact h
    refine ⟨⟨by rw [List.length_set]; exact E2.len, fun b z => E2.o0 b (.inl z), E2.trk, fun b u z => E2.lock b u ?_, fun j d' q => ?_, fun j d' q => ?_, fun j d' q => ?_, fun j b q => ?_, fun j d' q => ?_, fun j v d' q => ?_, fun j k b n mj mk q1 q2 => ?_, E2.mx.move .refl (fun j r z => ?_) (fun _ _ => rfl) fun b hb => ?_⟩, fun d' a' L => ?_⟩
    · show (if b = a then some o else C.lock b) = some u
      rw [if_neg (fun q => by rw [q, oa.2] at z; cases z)]; exact z
    · rcases get_set q with ⟨_, z⟩ | ⟨n, z⟩
      · rcases xe with r | r <;> (rw [r] at z; cases z)
      · exact E2.fz j d' z
    · rcases get_set q with ⟨rfl, z⟩ | ⟨n, z⟩
      · rcases xe with r | r
        · rw [r] at z; cases z
          rw [r] at hx
          obtain ⟨b, q1, h1, h2, h3, h4⟩ := E.ow j d hx
          rw [e1] at q1; cases q1
          exact ⟨a, b1, O2a, h2, h3, ow2⟩
        · rw [r] at z; cases z
      · obtain ⟨b, q1, h1, h2, h3, h4⟩ := E2.ow j d' z
        exact ⟨b, q1, h1, fun y => h2 (.inl y), lk h3, h4⟩
    · rcases get_set q with ⟨rfl, z⟩ | ⟨n, z⟩
      · rcases xe with r | r
        · rw [r] at z; cases z
        · rw [r] at z; cases z
          rw [r] at hx
          obtain ⟨b, q1, h4⟩ := E.io j d hx
          obtain ⟨q2, _⟩ := E.ioS j b q1
          rw [e1] at q2; cases q2
          exact ⟨a, q1, ow2⟩
      · obtain ⟨b, q1, h4⟩ := E2.io j d' z
        have q1 : (if j = i then none else C.io j) = some b := q1
        rw [if_neg n] at q1
        exact ⟨b, q1, h4⟩
    · by_cases n : j = i
      · subst n
        obtain ⟨q2, _, h2, d', h3⟩ := E.ioS j b q
        rw [e1] at q2; cases q2
        rcases xe with r | r
        · rw [hx, r] at h3; cases h3
        · exact ⟨b1, O2a, h2, d, by rw [List.getElem?_set_self hl2, r]⟩
      · obtain ⟨q1, h1, h2, d', h3⟩ := E2.ioS j b (show (if j = i then none else C.io j) = some b by rw [if_neg n]; exact q)
        exact ⟨q1, h1, lk h2, d', by rw [List.getElem?_set_ne (Ne.symm n)]; exact h3⟩
    · rcases get_set q with ⟨_, z⟩ | ⟨n, z⟩
      · rcases xe with r | r <;> (rw [r] at z; cases z)
      · obtain ⟨v, q1⟩ := E2.br j d' z
        have q1 : (if j = i then some (V.ref a, d) else C.br j) = some (v, d') := q1
        rw [if_neg n] at q1
        exact ⟨v, q1⟩
    · have n : j ≠ i := fun z => by
        subst z
        obtain ⟨_, q2, _⟩ := E.brS j v d' q
        rw [hx] at q2
        rcases xe with r | r <;> (rw [r] at q2; cases q2)
      obtain ⟨q1, q2, h⟩ := E2.brS j v d' (show (if j = i then some (V.ref a, d) else C.br j) = some (v, d') by rw [if_neg n]; exact q)
      refine ⟨q1, by rw [List.getElem?_set_ne (Ne.symm n)]; exact q2, ?_⟩
      rcases h with h | ⟨b, rfl, h1, h2, h3⟩
      · exact .inl h
      · by_cases y : b = a
        · obtain ⟨_, _, h⟩ := E.brS j _ d' q
          rcases h with h | ⟨c, z, _, h5, _⟩
          · -- it stood still at first, so it is not owned
            exfalso
            rw [y] at h3 h
            cases h3 with
            | fdk _ _ _ => cases h with | dk nn _ _ _ => exact nn oa.1
            | own h3 => cases h3 with
            | lst _ _ => cases h with | lst nn _ _ => exact nn oa.1
            | dk _ _ _ => cases h with | dk nn _ _ _ => exact nn oa.1
            | dt _ _ _ => cases h with | dt nn _ _ _ => exact nn oa.1
          · cases z
            rw [y, oa.2] at h5
            exact (h5 rfl).elim
        · have h2 : (if b = a then some o else C.lock b) ≠ none := h2
          rw [if_neg y] at h2
          exact .inr ⟨b, rfl, h1, h2, h3⟩
    · rcases mt2 j mj with rfl | ⟨nj, mj'⟩
      · rcases mt2 k mk with rfl | ⟨nk, mk'⟩
        · exact n rfl
        · rw [b1] at q1; cases q1
          exact nea k nk mk' q2
      · rcases mt2 k mk with rfl | ⟨nk, mk'⟩
        · rw [b1] at q2; cases q2
          exact nea j nj mj' q1
        · exact E2.sep j k b n mj' mk' q1 q2
    · rcases get_set z with ⟨_, w⟩ | ⟨n, w⟩
      · rcases xe with r | r <;> (rw [r] at w; cases w)
      · exact ⟨w, rfl⟩
    · obtain ⟨h1, h2, h3, h4⟩ := E2.mx.own b hb
      refine ⟨h1, fun z => h2 (.inl z), lk h3, fun j m q => ?_⟩
      rcases mt2 j m with rfl | ⟨nj, mj⟩
      · rw [b1] at q; cases q
        exact h2 (.inr rfl)
      · exact h4 j mj q
    · refine ⟨L.o, fun z => L.n0 (.inl z), lk L.nl, L.own, fun j m q => ?_, fun h => L.nmx (h.back E2.mx (fun j r z => ?_) fun _ _ => rfl)⟩
      · rcases mt2 j m with rfl | ⟨nj, mj⟩
        · rw [b1] at q; cases q
          exact L.n0 (.inr rfl)
        · exact L.sep j mj q
      · rcases get_set z with ⟨_, w⟩ | ⟨n, w⟩
        · rcases xe with r | r <;> (rw [r] at w; cases w)
        · exact ⟨w, rfl⟩
end

/-! ### what is walked -/
structure ItD (K : PySem.W.Frag) (C : Ctx) (J : It) (Src : Hp → Ad → Prop) (ds : List D) : Prop where
  keep : ∀ H O H' O', Src H O → Step H O H' O' → (∀ a o, C.lock a = some o → H' a = some o) → Src H' O'
  go : ∀ i H O, Src H O → i < ds.length → J.go i H
  yld : ∀ i H O x H', Src H O → (∀ a, O a → H a ≠ none) → i < ds.length → J.yld i H x H' → Ext H H' ∧ ∃ d, ds[i]? = some d ∧ Rep K H' O d x
  stop : ∀ H O, Src H O → J.stop ds.length H
/-- the items, the name that is walked, the frame -/
abbrev SI := Ev → Option (List D × Option Nat × Ev)
def rdI (K : PySem.W.Frag) (f : SI) : TI := fun σ H R => ∃ C O env, EnvOk K C H O σ env ∧ ∃ r, f env = some r ∧ ∀ J H' O' Src C', Step H O H' O' → EnvOk K C' H' O' σ (lockE r.2.2 r.2.1) → Back K C C' r.2.2 r.2.1 → ItD K C' J Src r.1 → Src H' O' → R J H'
structure DI (X : Cx) (tg iter : Expr) (f : SI) : Prop where pi : PI X tg iter (rdI X.K f)
theorem PI.or {X : Cx} {tg iter : Expr} {w w' : TI} (h : PI X tg iter w) (h' : PI X tg iter w') : PI X tg iter fun σ H R => w σ H R ∨ w' σ H R := by
  refine ⟨fun pins s σ H R I q => ?_⟩
  rcases q with q | q
  · exact h.run pins s σ H R I q
  · exact h'.run pins s σ H R I q
theorem wkI {X : Cx} {tg iter : Expr} {t t' : TI} (h : PI X tg iter t) (w : ∀ σ H R, t' σ H R → t σ H R) : PI X tg iter t' := ⟨fun pins s σ H R I q => h.run pins s σ H R I (w σ H R q)⟩

def signs (x : Str) : List D := x.cps.toList.map fun c => .str ⟨#[c]⟩
def itemsD : D → Option (List D)
  | .lst ds => some ds
  | .tup ds => some ds
  | .kt ds => some ds
  | .sc ns => some (ns.map D.int)
  | .str x => some (signs x)
  | _ => none
/-- a value is walked -/
def iV (f : SE) : SI := fun env => (f env).bind fun r => (itemsD r.1).bind fun ds => some (ds, none, r.2)
/-- a name is walked -/
def iS (i : Nat) : SI := fun env => match env[i]? with
  | some (.fz d) => (itemsD d).bind fun ds => some (ds, none, env)
  | some (.br d) => (itemsD d).bind fun ds => some (ds, none, env)
  | some (.ow d) => (itemsD d).bind fun ds => some (ds, some i, env)
  | some (.io d) => (itemsD d).bind fun ds => some (ds, some i, env)
  | _ => none
section
variable {X : Cx} {C : Ctx} {ds : List D}
theorem it_list {a : Addr} {vs : List V} : ItD X.K C (Itl X.K a) (fun H O => ¬ O a ∧ H a = some (.lst vs) ∧ RepL X.K H O ds vs) ds where
  keep := fun H O H' O' ⟨n, h, r⟩ s _ => ⟨s.nO n h, s.keep _ _ n h, r.mono s⟩
  go := fun i H O ⟨n, h, r⟩ hi => by
    obtain ⟨v, h1, h2⟩ := r.get (List.getElem?_eq_getElem hi)
    exact ⟨vs, v, .of h, h1⟩
  yld := fun i H O x H' ⟨n, h, r⟩ t hi y => by
    obtain ⟨rfl, y⟩ := y
    obtain ⟨d, h1, h2⟩ := r.getV (y vs (.of h))
    exact ⟨Same.refl _, d, h1, h2⟩
  stop := fun H O ⟨n, h, r⟩ => ⟨vs, .of h, by rw [r.length]; exact Nat.le_refl _⟩
theorem it_tup {a : Addr} {vs : List V} : ItD X.K C (Itt X.K a) (fun H O => ¬ O a ∧ H a = some (.tup vs) ∧ RepL X.K H O ds vs) ds where
  keep := fun H O H' O' ⟨n, h, r⟩ s _ => ⟨s.nO n h, s.keep _ _ n h, r.mono s⟩
  go := fun i H O ⟨n, h, r⟩ hi => by
    obtain ⟨v, h1, h2⟩ := r.get (List.getElem?_eq_getElem hi)
    exact ⟨vs, v, .of h, h1⟩
  yld := fun i H O x H' ⟨n, h, r⟩ t hi y => by
    obtain ⟨rfl, y⟩ := y
    obtain ⟨d, h1, h2⟩ := r.getV (y vs (.of h))
    exact ⟨Same.refl _, d, h1, h2⟩
  stop := fun H O ⟨n, h, r⟩ => ⟨vs, .of h, by rw [r.length]; exact Nat.le_refl _⟩
theorem it_kt {a : Addr} {vs : List V} : ItD X.K C (Itt X.K a) (fun H O => KtOk X.K H O a vs ∧ RepL X.K H O ds vs) ds where
  keep := fun H O H' O' ⟨h, r⟩ s _ => ⟨h.mono s, r.mono s⟩
  go := fun i H O ⟨h, r⟩ hi => by
    obtain ⟨v, h1, h2⟩ := r.get (List.getElem?_eq_getElem hi)
    exact ⟨vs, v, kt_sq h, h1⟩
  yld := fun i H O x H' ⟨h, r⟩ t hi y => by
    obtain ⟨rfl, y⟩ := y
    obtain ⟨d, h1, h2⟩ := r.getV (y vs (kt_sq h))
    exact ⟨Same.refl _, d, h1, h2⟩
  stop := fun H O ⟨h, r⟩ => ⟨vs, kt_sq h, by rw [r.length]; exact Nat.le_refl _⟩
theorem it_sc {a : Addr} {ns : List Int} : ItD X.K C (Itl X.K a) (fun H O => (¬ O a ∧ Rd H a (.lst (ns.map V.int))) ∨ SqL X.K H0 a (ns.map V.int)) (ns.map D.int) := by
  have sq : ∀ {H : Hp} {O : Ad}, ((¬ O a ∧ Rd H a (.lst (ns.map V.int))) ∨ SqL X.K H0 a (ns.map V.int)) → SqL X.K H a (ns.map V.int) := fun h => by
    rcases h with ⟨_, h⟩ | h | h
    · exact .inl h
    · exact (rd0 h).elim
    · exact .inr h
  refine ⟨fun H O H' O' h s _ => ?_, fun i H O h hi => ?_, fun i H O x H' h t hi y => ?_, fun H O h => ?_⟩
  · rcases h with ⟨n, h | ⟨o, h⟩⟩ | h
    · exact .inl ⟨s.nO n h, .inl (s.keep _ _ n h)⟩
    · exact .inl ⟨s.nO n h, .inr ⟨o, s.keep _ _ n h⟩⟩
    · exact .inr h
  · rw [List.length_map] at hi
    exact ⟨_, .int ns[i], sq h, by simp [hi]⟩
  · obtain ⟨rfl, y⟩ := y
    have y := y _ (sq h)
    rw [List.length_map] at hi
    refine ⟨Same.refl _, .int ns[i], by simp [hi], ?_⟩
    have : x = .int ns[i] := by
      rw [List.getElem?_map, List.getElem?_eq_getElem hi] at y
      exact (Option.some.inj y).symm
    rw [this]
    exact .int _
  · exact ⟨_, sq h, by rw [List.length_map, List.length_map]; exact Nat.le_refl _⟩
theorem it_str {x : Str} (hx : PyData.strOk x = true) : ItD X.K C (Its x) (fun _ _ => True) (signs x) := by
  have hl : (signs x).length = x.cps.size := by simp [signs]
  refine ⟨fun _ _ _ _ _ _ _ => True.intro, fun i H O _ hi => ?_, fun i H O v H' _ t hi y => ?_, fun H O _ => ?_⟩
  · rw [hl] at hi; exact hi
  · obtain ⟨rfl, c, h1, rfl⟩ := y
    have hc : x.cps.toList[i]? = some c := by simpa using h1
    refine ⟨Same.refl _, .str ⟨#[c]⟩, ?_, .str _ (strOk_one hx (List.mem_of_getElem? hc))⟩
    unfold signs
    rw [List.getElem?_map, hc]
    rfl
  · show x.cps.size ≤ (signs x).length
    rw [hl]
    exact Nat.le_refl _
/-- an owned list -/
theorem it_own {a : Addr} {vs : List V} (hl : C.lock a = some (.lst vs)) (h0 : C.O0 a) : ItD X.K C (Itl X.K a) (fun H O => H a = some (.lst vs) ∧ RepL X.K H O ds vs) ds where
  keep := fun H O H' O' ⟨h, r⟩ s lk => ⟨lk _ _ hl, r.mono s⟩
  go := fun i H O ⟨h, r⟩ hi => by
    obtain ⟨v, h1, h2⟩ := r.get (List.getElem?_eq_getElem hi)
    exact ⟨vs, v, .of h, h1⟩
  yld := fun i H O x H' ⟨h, r⟩ t hi y => by
    obtain ⟨rfl, y⟩ := y
    obtain ⟨d, h1, h2⟩ := r.getV (y vs (.of h))
    exact ⟨Same.refl _, d, h1, h2⟩
  stop := fun H O ⟨h, r⟩ => ⟨vs, .of h, by rw [r.length]; exact Nat.le_refl _⟩

variable {tg l : Expr} {f : SE} {pos : Pos}
def iSeqT (K : PySem.W.Frag) (t : TE) : TI := fun σ H R => iList K t σ H R ∨ iTup K t σ H R ∨ iStr t σ H R
theorem pi_seq {t : TE} (h : PE X l t) : PI X tg l (iSeqT X.K t) := PI.or (pi_list h) (PI.or (pi_tup h) (pi_str h))
/-- a value that stands still is walked -/
theorem walk_still {H : Hp} {O : Ad} {C : Ctx} {d : D} {v : V} {R : It → Hp → Prop} (r : Rep X.K H O d v) (e : itemsD d = some ds) (k : ∀ J Src, ItD X.K C J Src ds → Src H O → R J H) :
    (∃ a, v = .ref a ∧ (∃ xs, SqL X.K H a xs) ∧ R (Itl X.K a) H) ∨ (∃ a, v = .ref a ∧ (∃ xs, SqT X.K H a xs) ∧ R (Itt X.K a) H) ∨ ∃ x, v = .str x ∧ R (Its x) H := by
  cases r <;> try (cases e; done)
  · rename_i x hx
    cases e
    exact .inr (.inr ⟨x, rfl, k _ _ (it_str hx) True.intro⟩)
  · rename_i a vs ds' h r
    cases e
    exact .inr (.inl ⟨a, rfl, ⟨vs, kt_sq h⟩, k _ _ it_kt ⟨h, r⟩⟩)
  · rename_i a vs ds' n h r
    cases e
    exact .inr (.inl ⟨a, rfl, ⟨vs, .of h⟩, k _ _ it_tup ⟨n, h, r⟩⟩)
  · rename_i a vs ds' n h r
    cases e
    exact .inl ⟨a, rfl, ⟨vs, .of h⟩, k _ _ it_list ⟨n, h, r⟩⟩
  · rename_i a ns h
    cases e
    refine .inl ⟨a, rfl, ⟨ns.map V.int, ?_⟩, k _ _ it_sc h⟩
    rcases h with ⟨_, h⟩ | h | h
    · exact .inl h
    · exact (rd0 h).elim
    · exact .inr h
theorem di_val (h : DE X l f) : DI X tg l (iV f) := by
  refine ⟨wkI (pi_seq h.pe) fun σ H R ⟨C, O, env, E, r, e, k⟩ => ?_⟩
  obtain ⟨r1, e1, e2⟩ := bindS e
  obtain ⟨ds, e3, e4⟩ := bindS e2
  cases e4
  have main : ∀ v H' O', Step H O H' O' → EnvOk X.K C H' O' σ r1.2 → Rep X.K H' O' r1.1 v →
      (∃ a, v = .ref a ∧ (∃ xs, SqL X.K H' a xs) ∧ R (Itl X.K a) H') ∨ (∃ a, v = .ref a ∧ (∃ xs, SqT X.K H' a xs) ∧ R (Itt X.K a) H') ∨ ∃ x, v = .str x ∧ R (Its x) H' := fun v H' O' s E' rp =>
    walk_still (C := C) rp e3 fun J Src it hs => k J H' O' Src C s E' back_none it hs
  cases hd : r1.1 <;> (rw [hd] at e3) <;> try (cases e3; done)
  · refine .inr (.inr ⟨C, O, env, E, r1, e1, fun v H' O' s E' rp => ?_⟩)
    rcases main v H' O' s E' rp with ⟨a, rfl, _⟩ | ⟨a, rfl, _⟩ | q
    · rw [hd] at rp; cases rp
    · rw [hd] at rp; cases rp
    · exact q
  · refine .inr (.inl ⟨C, O, env, E, r1, e1, fun v H' O' s E' rp => ?_⟩)
    rw [hd] at rp
    cases rp with
    | @tup a vs _ n h rl =>
      cases e3
      exact ⟨_, rfl, ⟨_, .of h⟩, k _ H' O' _ C s E' back_none (it_tup (a := a) (vs := vs)) ⟨n, h, rl⟩⟩
  · refine .inl ⟨C, O, env, E, r1, e1, fun v H' O' s E' rp => ?_⟩
    rw [hd] at rp
    cases rp with
    | @lst a vs _ n h rl =>
      cases e3
      exact ⟨_, rfl, ⟨_, .of h⟩, k _ H' O' _ C s E' back_none (it_list (a := a) (vs := vs)) ⟨n, h, rl⟩⟩
  · rename_i ns
    refine .inl ⟨C, O, env, E, r1, e1, fun v H' O' s E' rp => ?_⟩
    rw [hd] at rp
    cases rp with
    | @sc a _ h =>
      cases e3
      refine ⟨_, rfl, ⟨ns.map V.int, ?_⟩, k _ H' O' _ C s E' back_none (it_sc (a := a) (ns := ns)) h⟩
      rcases h with ⟨_, h⟩ | h | h
      · exact .inl h
      · exact (rd0 h).elim
      · exact .inr h
  · refine .inr (.inl ⟨C, O, env, E, r1, e1, fun v H' O' s E' rp => ?_⟩)
    rw [hd] at rp
    cases rp with
    | @kt a vs _ h rl =>
      cases e3
      exact ⟨_, rfl, ⟨_, kt_sq h⟩, k _ H' O' _ C s E' back_none (it_kt (a := a) (vs := vs)) ⟨h, rl⟩⟩
theorem di_slot (i : Nat) {x : Str} {p : Pos} (hN : X.N[i]? = some x) (hv : Vis X.env.scope x) (hd : (x == ("__debug__" : Str)) = false) (hcd : (x == ("__classdict__" : Str)) = false) : DI X tg (.Name x p) (iS i) := by
  refine ⟨wkI (pi_seq (pe_var hN hv hd hcd)) fun σ H R ⟨C, O, env, E, r, e, k⟩ => ?_⟩
  have go : ∀ v, σ[i]? = some (some v) → ((∃ a, v = .ref a ∧ (∃ xs, SqL X.K H a xs) ∧ R (Itl X.K a) H) ∨ (∃ a, v = .ref a ∧ (∃ xs, SqT X.K H a xs) ∧ R (Itt X.K a) H) ∨ ∃ x, v = .str x ∧ R (Its x) H) → iSeqT X.K (tVar i) σ H R := fun v h q => by
    rcases q with q | q | q
    · exact .inl ⟨v, h, q⟩
    · exact .inr (.inl ⟨v, h, q⟩)
    · exact .inr (.inr ⟨v, h, q⟩)
  have owned : ∀ d, getM env i = some d → ((itemsD d).bind fun ds => some (ds, some i, env)) = some r → iSeqT X.K (tVar i) σ H R := fun d hg e => by
    obtain ⟨ds, e3, e4⟩ := bindS e
    cases e4
    obtain ⟨a, C', o, h1, h2, h3, h4, h5, h6, h7⟩ := E.lockM hg
    refine go _ h1 ?_
    cases h3 with
    | lst q1 q2 =>
      rw [q1] at h2
      cases h2
      cases e3
      exact .inl ⟨a, rfl, ⟨_, .of q1⟩, k _ H O _ C' .refl h6 h7 (it_own h4 h5) ⟨q1, q2⟩⟩
    | dk _ _ _ => cases e3
    | dt _ _ _ => cases e3
  unfold iS at e
  split at e
  · rename_i d h
    obtain ⟨ds, e3, e4⟩ := bindS e
    cases e4
    obtain ⟨v, h1, h2⟩ := E.fz i d h
    exact go v h1 (walk_still (C := C) h2 e3 fun J Src it hs => k J H O Src C .refl E back_none it hs)
  · rename_i d h
    obtain ⟨ds, e3, e4⟩ := bindS e
    cases e4
    obtain ⟨v, h1⟩ := E.br i d h
    obtain ⟨h2, _, h3⟩ := E.brS i v d h1
    refine go v h2 ?_
    rcases h3 with h3 | ⟨a, rfl, oa, hl, h3⟩
    · exact walk_still (C := C) h3 e3 fun J Src it hs => k J H O Src C .refl E back_none it hs
    · cases h3 with
      | fdk _ _ _ => cases e3
      | own h3 => cases h3 with
      | lst q1 q2 =>
        cases e3
        obtain ⟨u, hu⟩ : ∃ u, C.lock a = some u := by
          cases q : C.lock a with
          | none => exact (hl q).elim
          | some u => exact ⟨u, rfl⟩
        have := E.lock a u hu
        rw [q1] at this
        cases this
        -- the place stays owned as long as it is locked: read it through the lock
        refine .inl ⟨a, rfl, ⟨_, .of q1⟩, k _ H O (fun H' O' => H' a = some (.lst _) ∧ RepL X.K H' O' _ _) C .refl E back_none ⟨fun H O H' O' h s lk => ⟨lk _ _ hu, h.2.mono s⟩, fun j H O h hj => ?_, fun j H O x H' h t hj y => ?_, fun H O h => ⟨_, .of h.1, by rw [h.2.length]; exact Nat.le_refl _⟩⟩ ⟨q1, q2⟩⟩
        · obtain ⟨v, h1, h2⟩ := h.2.get (List.getElem?_eq_getElem hj)
          exact ⟨_, v, .of h.1, h1⟩
        · obtain ⟨rfl, y⟩ := y
          obtain ⟨d, h1, h2⟩ := h.2.getV (y _ (.of h.1))
          exact ⟨Same.refl _, d, h1, h2⟩
      | dk _ _ _ => cases e3
      | dt _ _ _ => cases e3
  · rename_i d h
    exact owned d (by unfold getM; rw [h]) e
  · rename_i d h
    exact owned d (by unfold getM; rw [h]) e
  · cases e
/-- range(a), range(a, b) -/
def iR1 (p : SE) : SI := fun env => (p env).bind fun r => (asI r.1).bind fun j => if -(2 ^ 62) ≤ j ∧ j < 2 ^ 62 then some ((List.range j.toNat).map fun i => .int (i : Nat), none, r.2) else none
def iR2 (p q : SE) : SI := fun env => (p env).bind fun r => (q r.2).bind fun s => (asI r.1).bind fun i => (asI s.1).bind fun j => if (-(2 ^ 62) ≤ i ∧ i < 2 ^ 62) ∧ -(2 ^ 62) ≤ j ∧ j < 2 ^ 62 then some ((List.range (j - i).toNat).map fun (n : Nat) => .int (i + (n : Int)), none, s.2) else none
theorem it_range {lo : Int} {n : Nat} : ItD X.K C (Itr lo n) (fun _ _ => True) ((List.range n).map fun (i : Nat) => D.int (lo + (i : Int))) := by
  have hl : ((List.range n).map fun (i : Nat) => D.int (lo + (i : Int))).length = n := by simp
  refine ⟨fun _ _ _ _ _ _ _ => True.intro, fun i H O _ hi => by rw [hl] at hi; exact hi, fun i H O x H' _ t hi y => ?_, fun H O _ => by rw [hl]; exact Nat.le_refl _⟩
  obtain ⟨rfl, rfl⟩ := y
  rw [hl] at hi
  exact ⟨Same.refl _, .int (lo + (i : Int)), by simp [hi], .int _⟩
theorem di_range1 {a : Expr} {p : Pos} (hg : Gl X "range") (hm : X.mg "range" = none) (ha : DE X a f) (hs : starEach [a] X.env = [(false, eval a X.env)]) : DI X tg (.Call (.Name "range" p) [a] [] pos) (iR1 f) := by
  have hA : DA X [a] (aC (qV f) aN) := da_cons (dq_val ha) da_nil hs
  refine ⟨wkI (pi_range1 hg hm hA.pa hs) fun σ H R ⟨C, O, env, E, r, e, k⟩ => ?_⟩
  obtain ⟨r1, e1, e2⟩ := bindS e
  obtain ⟨j, e3, e4⟩ := bindS e2
  split at e4
  · rename_i hj
    cases e4
    refine ⟨C, O, env, E, ([.val r1.1], r1.2), by unfold aC qV aN; rw [e1]; rfl, fun vs H' O' s E' p => ?_⟩
    cases p with
    | cons p1 p2 =>
      cases p2
      have p1 : Rep X.K H' O' r1.1 _ := p1
      rw [asI_some e3] at p1
      cases p1
      refine ⟨j, rfl, hj.1, hj.2, k _ H' O' (fun _ _ => True) C s E' back_none ?_ True.intro⟩
      have := it_range (X := X) (C := C) (lo := 0) (n := j.toNat)
      simpa using this
  · cases e4
theorem di_range2 {a b : Expr} {g : SE} {p : Pos} (hg : Gl X "range") (hm : X.mg "range" = none) (ha : DE X a f) (hb : DE X b g) (hs : starEach [a, b] X.env = [(false, eval a X.env), (false, eval b X.env)]) (hs2 : starEach [b] X.env = [(false, eval b X.env)]) :
    DI X tg (.Call (.Name "range" p) [a, b] [] pos) (iR2 f g) := by
  have hA : DA X [a, b] (aC (qV f) (aC (qV g) aN)) := da_cons (dq_val ha) (da_cons (dq_val hb) da_nil hs2) (by rw [hs, hs2])
  refine ⟨wkI (pi_range2 hg hm hA.pa hs hs2) fun σ H R ⟨C, O, env, E, r, e, k⟩ => ?_⟩
  obtain ⟨r1, e1, e2⟩ := bindS e
  obtain ⟨r2, e5, e6⟩ := bindS e2
  obtain ⟨i, e7, e8⟩ := bindS e6
  obtain ⟨j, e3, e4⟩ := bindS e8
  split at e4
  · rename_i hj
    cases e4
    refine ⟨C, O, env, E, ([.val r1.1, .val r2.1], r2.2), by
      have h1 : qV f env = some (.val r1.1, r1.2) := by unfold qV; rw [e1]; rfl
      have h2 : qV g r1.2 = some (.val r2.1, r2.2) := by unfold qV; rw [e5]; rfl
      have h3 : aC (qV g) aN r1.2 = some ([.val r2.1], r2.2) := by unfold aC; rw [h2]; rfl
      show (qV f env).bind _ = _
      rw [h1]
      show (aC (qV g) aN r1.2).bind _ = _
      rw [h3]
      rfl, fun vs H' O' s E' p => ?_⟩
    cases p with
    | cons p1 p2 =>
      cases p2 with
      | cons p2 p3 =>
        cases p3
        have p1 : Rep X.K H' O' r1.1 _ := p1
        have p2 : Rep X.K H' O' r2.1 _ := p2
        rw [asI_some e7] at p1
        rw [asI_some e3] at p2
        cases p1
        cases p2
        exact ⟨i, j, rfl, ⟨hj.1.1, hj.1.2, hj.2.1, hj.2.2⟩, k _ H' O' (fun _ _ => True) C s E' back_none it_range True.intro⟩
  · cases e4
end

/-! ### for -/
def forL (g : SG) (body : SS) : List D → Ev → Option Out
  | [], env => some (.nx env)
  | d :: ds, env => (g d env).bind fun e1 => (body e1).bind fun o => match o with
    | .nx e2 => forL g body ds e2
    | .ct e2 => forL g body ds e2
    | .bk e2 => some (.nx e2)
    | .rt d e2 => some (.rt d e2)
    | .rn d e2 => some (.rn d e2)
def unO (e0 : Ev) (li : Option Nat) : Out → Out
  | .nx e => .nx (unlockE e0 e li)
  | .ct e => .ct (unlockE e0 e li)
  | .bk e => .bk (unlockE e0 e li)
  | .rt d e => .rt d (unlockE e0 e li)
  | .rn d e => .rn d (unlockE e0 e li)
def sFor (it : SI) (g : SG) (body : SS) : SS := fun env => (it env).bind fun r => (forL g body r.1 (lockE r.2.2 r.2.1)).bind fun o => some (unO r.2.2 r.2.1 o)
section
variable {X : Cx} {tg iter : Expr} {body : List Stmt} {it : SI} {g : SG} {sl : List Nat} {b : SS} {pos : Pos}
theorem ds_for (hp : PassesOwn (model X.prog X.w) X.A X.env X.xe) (hc : X.calm = true) (hi : DI X tg iter it) (hg : DG X tg g sl) (hb : DSs X body b)
    (hs : ∀ x, foldedSetIterable iter X.env x = pure x) : DS X (.For tg iter body [] pos) (sFor it g b) := by
  refine ⟨wkS (ps_for hp hc hi.pi hg.pg hb.pss hs) fun N σ H ⟨C, O, env, E, o, e, k⟩ => ?_⟩
  obtain ⟨r, e1, e2⟩ := bindS e
  obtain ⟨o', e3, e4⟩ := bindS e2
  cases e4
  refine ⟨C, O, env, E, r, e1, fun J H1 O1 Src C' s1 E1 back itd src => ?_⟩
  have k := k.step s1
  refine ⟨fun i m σ H => ∃ O env, EnvOk X.K C' H O σ env ∧ Step H1 O1 H O ∧ Src H O ∧ i + m = r.1.length ∧ forL g b (r.1.drop i) env = some o', ⟨r.1.length, O1, _, E1, .refl, src, by omega, e3⟩, fun i m σ2 H2 hW => ?_⟩
  obtain ⟨O2, env2, E2, s2, src2, hm, e5⟩ := hW
  by_cases hi : i < r.1.length
  · rw [List.drop_eq_getElem_cons hi] at e5
    obtain ⟨e6, h1, h2⟩ := bindS e5
    obtain ⟨o1, h3, h4⟩ := bindS h2
    refine .inr ⟨itd.go i H2 O2 src2 hi, fun σ H => ∃ O env, EnvOk X.K C' H O σ env ∧ Step H1 O1 H O ∧ Src H O ∧ forL g b (r.1.drop (i + 1)) env = some o', fun σ' H' ⟨O', env', q1, q2, q3, q4⟩ => ⟨m - 1, by omega, O', env', q1, q2, q3, by omega, q4⟩, fun x H' y => ?_⟩
    obtain ⟨ex, d, hd, rp⟩ := itd.yld i H2 O2 x H' src2 E2.trk hi y
    rw [List.getElem?_eq_getElem hi] at hd
    cases hd
    have s3 : Step H2 O2 H' O2 := .ext ex
    refine ⟨C', O2, env2, _, E2.ext ex, rp, e6, h1, fun σ4 H4 O4 s4 E4 _ => ⟨C', O4, e6, E4, o1, h3, ?_⟩⟩
    have src4 : Src H4 O4 := itd.keep _ _ _ _ src2 (s3.trans s4) E4.lock
    have s14 : Step H1 O1 H4 O4 := s2.trans (s3.trans s4)
    cases o1 with
    | nx e7 => exact fun σ5 H5 O5 s5 E5 => ⟨O5, e7, E5, s14.trans s5, itd.keep _ _ _ _ src4 s5 E5.lock, h4⟩
    | ct e7 => exact fun σ5 H5 O5 s5 E5 => ⟨O5, e7, E5, s14.trans s5, itd.keep _ _ _ _ src4 s5 E5.lock, h4⟩
    | bk e7 =>
      cases h4
      exact fun σ5 H5 O5 s5 E5 => k σ5 H5 O5 (s14.trans s5) (back _ _ _ _ E5).1
    | rt d e7 =>
      cases h4
      exact fun σ5 v H5 O5 s5 E5 rp => k σ5 v H5 O5 (s14.trans s5) (back _ _ _ _ E5).1 rp
    | rn d e7 =>
      cases h4
      exact fun σ5 a H5 O5 s5 E5 L => k σ5 a H5 O5 (s14.trans s5) (back _ _ _ _ E5).1 ((back _ _ _ _ E5).2 _ _ L)
  · have hi : i = r.1.length := by omega
    rw [hi, List.drop_length] at e5
    cases e5
    exact .inl ⟨by rw [hi]; exact itd.stop H2 O2 src2, k σ2 H2 O2 s2 (back _ _ _ _ E2).1⟩
end

/-! ### while -/
def whileN (t : SB) (body : SS) : Nat → Ev → Option Out
  | 0, _ => none
  | n + 1, env => (t env).bind fun r => if r.1 = true then (body r.2).bind fun o => match o with
      | .nx e => whileN t body n e
      | .ct e => whileN t body n e
      | .bk e => some (.nx e)
      | .rt d e => some (.rt d e)
      | .rn d e => some (.rn d e)
    else some (.nx r.2)
open Classical in
noncomputable def sWhile (t : SB) (body : SS) : SS := fun env => if h : ∃ n, (whileN t body n env).isSome = true then whileN t body (choose h) env else none
section
variable {t : SB} {b : SS}
theorem whileN_mono : ∀ {n m : Nat} {env : Ev} {o : Out}, n ≤ m → whileN t b n env = some o → whileN t b m env = some o
  | 0, _, _, _, _, h => by cases h
  | n + 1, 0, _, _, l, _ => by omega
  | n + 1, m + 1, env, o, l, h => by
    obtain ⟨r, e1, e2⟩ := bindS h
    show (t env).bind _ = _
    rw [e1]
    show (if r.1 = true then _ else _) = _
    split at e2
    · rename_i hr
      obtain ⟨o1, e3, e4⟩ := bindS e2
      rw [if_pos hr, e3]
      cases o1 with
      | nx e => exact whileN_mono (by omega) e4
      | ct e => exact whileN_mono (by omega) e4
      | bk e => exact e4
      | rt d e => exact e4
      | rn d e => exact e4
    · rename_i hr
      rw [if_neg hr]
      exact e2
open Classical in
theorem sWhile_iff {env : Ev} {o : Out} : sWhile t b env = some o ↔ ∃ n, whileN t b n env = some o := by
  unfold sWhile
  constructor
  · intro h
    split at h
    · exact ⟨_, h⟩
    · cases h
  · rintro ⟨n, h⟩
    have hx : ∃ n, (whileN t b n env).isSome = true := ⟨n, by rw [h]; rfl⟩
    rw [dif_pos hx]
    have hc := choose_spec hx
    obtain ⟨o', ho⟩ := Option.isSome_iff_exists.mp hc
    have h1 := whileN_mono (Nat.le_max_left n (choose hx)) h
    have h2 := whileN_mono (Nat.le_max_right n (choose hx)) ho
    rw [ho, ← h2, h1]
/-- one turn -/
theorem sWhile_eq (env : Ev) : sWhile t b env = (t env).bind fun r => if r.1 = true then (b r.2).bind fun o => match o with
      | .nx e => sWhile t b e
      | .ct e => sWhile t b e
      | .bk e => some (.nx e)
      | .rt d e => some (.rt d e)
      | .rn d e => some (.rn d e)
    else some (.nx r.2) := by
  apply Option.ext
  intro o
  rw [sWhile_iff]
  constructor
  · rintro ⟨n, h⟩
    cases n with
    | zero => cases h
    | succ n =>
      obtain ⟨r, e1, e2⟩ := bindS h
      rw [e1]
      show (if r.1 = true then _ else _) = _
      split at e2
      · rename_i hr
        obtain ⟨o1, e3, e4⟩ := bindS e2
        rw [if_pos hr, e3]
        cases o1 with
        | nx e => exact sWhile_iff.mpr ⟨n, e4⟩
        | ct e => exact sWhile_iff.mpr ⟨n, e4⟩
        | bk e => exact e4
        | rt d e => exact e4
        | rn d e => exact e4
      · rename_i hr
        rw [if_neg hr]
        exact e2
  · intro h
    obtain ⟨r, e1, e2⟩ := bindS h
    split at e2
    · rename_i hr
      obtain ⟨o1, e3, e4⟩ := bindS e2
      have fin : ∀ n, (match o1 with
          | .nx e => whileN t b n e
          | .ct e => whileN t b n e
          | .bk e => some (.nx e)
          | .rt d e => some (.rt d e)
          | .rn d e => some (.rn d e)) = some o → ∃ n, whileN t b n env = some o := fun n hn => by
        refine ⟨n + 1, ?_⟩
        show (t env).bind _ = _
        rw [e1]
        show (if r.1 = true then _ else _) = _
        rw [if_pos hr, e3]
        exact hn
      cases o1 with
      | nx e =>
        obtain ⟨n, hn⟩ := sWhile_iff.mp e4
        exact fin n hn
      | ct e =>
        obtain ⟨n, hn⟩ := sWhile_iff.mp e4
        exact fin n hn
      | bk e => exact fin 0 e4
      | rt d e => exact fin 0 e4
      | rn d e => exact fin 0 e4
    · rename_i hr
      refine ⟨1, ?_⟩
      show (t env).bind _ = _
      rw [e1]
      show (if r.1 = true then _ else _) = _
      rw [if_neg hr]
      exact e2
variable {X : Cx} {c : Expr} {body : List Stmt} {pos : Pos}
theorem ds_while (hp : PassesOwn (model X.prog X.w) X.A X.env X.xe) (hc : DT X c t) (hb : DSs X body b) : DS X (.While c body [] pos) (sWhile t b) := by
  refine ⟨wkS (ps_while hp hc.pt hb.pss) fun N σ H ⟨C, O, env, E, o, e, k⟩ => ?_⟩
  obtain ⟨n, e⟩ := sWhile_iff.mp e
  refine ⟨fun m σ H => ∃ O env, EnvOk X.K C H O σ env ∧ whileN t b m env = some o ∧ OutOk X.K C N H O o, ⟨n, O, env, E, e, k⟩, fun m σ2 H2 hW => ?_⟩
  obtain ⟨O2, env2, E2, e2, k2⟩ := hW
  cases m with
  | zero => cases e2
  | succ m =>
    obtain ⟨r, h1, h2⟩ := bindS e2
    refine ⟨C, O2, env2, E2, r, h1, fun H3 O3 s3 E3 => ?_⟩
    have k3 := k2.step s3
    show if r.1 = true then _ else _
    by_cases hr : r.1 = true
    · rw [if_pos hr] at h2 ⊢
      obtain ⟨o1, h3, h4⟩ := bindS h2
      refine ⟨fun σ H => ∃ O env, EnvOk X.K C H O σ env ∧ whileN t b m env = some o ∧ OutOk X.K C N H O o, fun σ' H' q => ⟨m, Nat.lt_succ_self m, q⟩, C, O3, _, E3, o1, h3, ?_⟩
      cases o1 with
      | nx e7 => exact fun σ5 H5 O5 s5 E5 => ⟨O5, e7, E5, h4, k3.step s5⟩
      | ct e7 => exact fun σ5 H5 O5 s5 E5 => ⟨O5, e7, E5, h4, k3.step s5⟩
      | bk e7 => cases h4; exact fun σ5 H5 O5 s5 E5 => k3 σ5 H5 O5 s5 E5
      | rt d e7 => cases h4; exact fun σ5 v H5 O5 s5 E5 rp => k3 σ5 v H5 O5 s5 E5 rp
      | rn d e7 => cases h4; exact fun σ5 v H5 O5 s5 E5 rp => k3 σ5 v H5 O5 s5 E5 rp
    · rw [if_neg hr] at h2 ⊢
      cases h2
      exact k3 σ2 H3 O3 .refl E3
end
end Z

/-! The data layer, part G: comprehensions. -/
namespace Z
open PySem PySem.Spec PyProof.Rows L2

/-! ### the block's own names -/
def wipeE (env : Ev) : List Nat → Ev
  | [] => env
  | v :: vs => (wipeE env vs).set v .no
/-- the own names get back what they had -/
def restore (e0 e2 : Ev) : List Nat → Ev
  | [] => e2
  | v :: vs => (restore e0 e2 vs).set v (e0.getD v .no)
def wipeOk (env : Ev) (own : List Nat) : Bool := own.all fun v => match env[v]? with
  | some .no => true
  | some (.fz _) => true
  | _ => false
section
variable {K : PySem.W.Frag} {C : Ctx} {H H' : Hp} {O O' : Ad} {σ : L2.St} {env : Ev}
theorem wipeE_len (env : Ev) : ∀ vs, (wipeE env vs).length = env.length
  | [] => rfl
  | v :: vs => by unfold wipeE; rw [List.length_set, wipeE_len env vs]
theorem restore_len (e0 e2 : Ev) : ∀ vs, (restore e0 e2 vs).length = e2.length
  | [] => rfl
  | v :: vs => by unfold restore; rw [List.length_set, restore_len e0 e2 vs]
theorem wipeE_in {env : Ev} : ∀ {vs : List Nat} {j : Nat}, j ∈ vs → j < env.length → (wipeE env vs)[j]? = some .no
  | v :: vs, j, h, hl => by
    unfold wipeE
    by_cases e : j = v
    · subst e; rw [List.getElem?_set_self (by rw [wipeE_len]; exact hl)]
    · rw [List.getElem?_set_ne (Ne.symm e)]
      exact wipeE_in ((List.mem_cons.mp h).resolve_left e) hl
theorem wipeE_out {env : Ev} : ∀ {vs : List Nat} {j : Nat}, j ∉ vs → (wipeE env vs)[j]? = env[j]?
  | [], _, _ => rfl
  | v :: vs, j, h => by
    unfold wipeE
    rw [List.getElem?_set_ne (fun e => h (by rw [← e]; exact List.mem_cons_self))]
    exact wipeE_out fun z => h (List.mem_cons_of_mem _ z)
theorem wipe_out {σ : L2.St} : ∀ {vs : List Nat} {j : Nat}, j ∉ vs → (wipe σ vs)[j]? = σ[j]?
  | [], _, _ => rfl
  | v :: vs, j, h => by
    unfold wipe
    rw [List.getElem?_set_ne (fun e => h (by rw [← e]; exact List.mem_cons_self))]
    exact wipe_out fun z => h (List.mem_cons_of_mem _ z)
theorem wipe_in {σ : L2.St} : ∀ {vs : List Nat} {j : Nat}, j ∈ vs → j < σ.length → (wipe σ vs)[j]? = some none
  | v :: vs, j, h, hl => by
    unfold wipe
    by_cases e : j = v
    · subst e; rw [List.getElem?_set_self (by rw [wipe_length]; exact hl)]
    · rw [List.getElem?_set_ne (Ne.symm e)]
      exact wipe_in ((List.mem_cons.mp h).resolve_left e) hl
theorem restore_in {e0 e2 : Ev} : ∀ {vs : List Nat} {j : Nat}, j ∈ vs → j < e2.length → (restore e0 e2 vs)[j]? = some (e0.getD j .no)
  | v :: vs, j, h, hl => by
    unfold restore
    by_cases e : j = v
    · subst e; rw [List.getElem?_set_self (by rw [restore_len]; exact hl)]
    · rw [List.getElem?_set_ne (Ne.symm e)]
      exact restore_in ((List.mem_cons.mp h).resolve_left e) hl
theorem restore_out {e0 e2 : Ev} : ∀ {vs : List Nat} {j : Nat}, j ∉ vs → (restore e0 e2 vs)[j]? = e2[j]?
  | [], _, _ => rfl
  | v :: vs, j, h => by
    unfold restore
    rw [List.getElem?_set_ne (fun e => h (by rw [← e]; exact List.mem_cons_self))]
    exact restore_out fun z => h (List.mem_cons_of_mem _ z)
theorem wipeOk_at {own : List Nat} (h : wipeOk env own = true) {j : Nat} (hj : j ∈ own) : env[j]? = some .no ∨ ∃ d, env[j]? = some (.fz d) := by
  have := List.all_eq_true.mp h j hj
  split at this
  · exact .inl (by assumption)
  · exact .inr ⟨_, by assumption⟩
  · cases this
theorem EnvOk.wipe (E : EnvOk K C H O σ env) {own : List Nat} (h : wipeOk env own = true) : EnvOk K C H O (wipe σ own) (wipeE env own) := by
  have out : ∀ {j : Nat} {x : Slot}, (wipeE env own)[j]? = some x → x ≠ .no → j ∉ own := fun {j x} e n hj => by
    have hl : j < env.length := by
      have := (List.getElem?_eq_some_iff.mp e).1
      rw [wipeE_len] at this
      exact this
    rw [wipeE_in hj hl] at e
    exact n (Option.some.inj e).symm
  have mt : ∀ {j : Nat}, Mt (wipeE env own) j → j ∉ own ∧ Mt env j := fun {j} m => by
    have n : j ∉ own := by
      rcases m with ⟨d, m⟩ | ⟨d, m⟩
      · exact out m (fun z => nomatch z)
      · exact out m (fun z => nomatch z)
    unfold Mt at m
    rw [wipeE_out n] at m
    exact ⟨n, m⟩
  have nio : ∀ {j : Nat} {a : Addr}, C.io j = some a → j ∉ own := fun {j a} e hj => by
    obtain ⟨_, _, _, d, q⟩ := E.ioS j a e
    rcases wipeOk_at h hj with z | ⟨d', z⟩ <;> (rw [z] at q; cases q)
  have nbr : ∀ {j : Nat} {v : V} {d : D}, C.br j = some (v, d) → j ∉ own := fun {j v d} e hj => by
    obtain ⟨_, q, _⟩ := E.brS j v d e
    rcases wipeOk_at h hj with z | ⟨d', z⟩ <;> (rw [z] at q; cases q)
  refine ⟨by rw [wipe_length, wipeE_len]; exact E.len, E.o0, E.trk, E.lock, fun j d e => ?_, fun j d e => ?_, fun j d e => ?_, fun j a e => ?_, fun j d e => ?_, fun j v d e => ?_, fun j k a n mj mk => ?_, E.mx.move .refl (fun j r e => ?_) (fun _ _ => rfl) fun b hb => ⟨(E.mx.own b hb).1, (E.mx.own b hb).2.1, (E.mx.own b hb).2.2.1, fun j m q => ?_⟩⟩
  · have n := out e (fun z => nomatch z)
    rw [wipeE_out n] at e
    rw [wipe_out n]
    exact E.fz j d e
  · have n := out e (fun z => nomatch z)
    rw [wipeE_out n] at e
    rw [wipe_out n]
    exact E.ow j d e
  · have n := out e (fun z => nomatch z)
    rw [wipeE_out n] at e
    exact E.io j d e
  · have n := nio e
    rw [wipe_out n, wipeE_out n]
    exact E.ioS j a e
  · have n := out e (fun z => nomatch z)
    rw [wipeE_out n] at e
    exact E.br j d e
  · have n := nbr e
    rw [wipe_out n, wipeE_out n]
    exact E.brS j v d e
  · rw [wipe_out (mt mj).1, wipe_out (mt mk).1]
    exact E.sep j k a n (mt mj).2 (mt mk).2
  · have n := out e (fun z => nomatch z)
    rw [wipeE_out n] at e
    exact ⟨e, wipe_out n⟩
  · rw [wipe_out (mt m).1] at q
    exact (E.mx.own b hb).2.2.2 j (mt m).2 q
/-- behind a turn of the block -/
theorem EnvOk.restore (E : EnvOk K C H O σ env) {own : List Nat} (h : wipeOk env own = true) (s : Step H O H' O') {σ2 : L2.St} {e2 : Ev} (E2 : EnvOk K C H' O' σ2 e2) (hw : L2.wipe σ2 own = L2.wipe σ own) :
    EnvOk K C H' O' σ (restore env e2 own) := by
  have hlen : e2.length = env.length := by
    rw [← E2.len, ← E.len, ← wipe_length σ2 own, hw, wipe_length]
  have sg : ∀ {j : Nat}, j ∉ own → σ2[j]? = σ[j]? := fun {j} n => by
    rw [← wipe_out (σ := σ2) n, hw, wipe_out n]
  have inn : ∀ {j : Nat} {x : Slot}, j ∈ own → (Z.restore env e2 own)[j]? = some x → env[j]? = some x ∧ (x = .no ∨ ∃ d, x = .fz d) := fun {j x} hj e => by
    have hl : j < e2.length := by
      have := (List.getElem?_eq_some_iff.mp e).1
      rw [restore_len] at this
      exact this
    rw [restore_in hj hl] at e
    have e := Option.some.inj e
    rcases wipeOk_at h hj with z | ⟨d, z⟩
    · rw [List.getD_eq_getElem?_getD, z] at e
      subst e
      exact ⟨z, .inl rfl⟩
    · rw [List.getD_eq_getElem?_getD, z] at e
      subst e
      exact ⟨z, .inr ⟨d, rfl⟩⟩
  have out : ∀ {j : Nat} {x : Slot}, (Z.restore env e2 own)[j]? = some x → x ≠ .no → (∀ d, x ≠ .fz d) → j ∉ own := fun {j x} e n1 n2 hj => by
    obtain ⟨_, q | ⟨d, q⟩⟩ := inn hj e
    · exact n1 q
    · exact n2 d q
  have mt : ∀ {j : Nat}, Mt (Z.restore env e2 own) j → j ∉ own ∧ Mt e2 j := fun {j} m => by
    have n : j ∉ own := by
      rcases m with ⟨d, m⟩ | ⟨d, m⟩
      · exact out m (fun z => nomatch z) (fun _ z => nomatch z)
      · exact out m (fun z => nomatch z) (fun _ z => nomatch z)
    unfold Mt at m
    rw [restore_out n] at m
    exact ⟨n, m⟩
  have nio : ∀ {j : Nat} {a : Addr}, C.io j = some a → j ∉ own := fun {j a} e hj => by
    obtain ⟨_, _, _, d, q⟩ := E.ioS j a e
    rcases wipeOk_at h hj with z | ⟨d', z⟩ <;> (rw [z] at q; cases q)
  have nbr : ∀ {j : Nat} {v : V} {d : D}, C.br j = some (v, d) → j ∉ own := fun {j v d} e hj => by
    obtain ⟨_, q, _⟩ := E.brS j v d e
    rcases wipeOk_at h hj with z | ⟨d', z⟩ <;> (rw [z] at q; cases q)
  refine ⟨by rw [restore_len, hlen]; exact E.len, E2.o0, E2.trk, E2.lock, fun j d e => ?_, fun j d e => ?_, fun j d e => ?_, fun j a e => ?_, fun j d e => ?_, fun j v d e => ?_, fun j k a n mj mk => ?_, E2.mx.move .refl (fun j r e => ?_) (fun _ _ => rfl) fun b hb => ⟨(E2.mx.own b hb).1, (E2.mx.own b hb).2.1, (E2.mx.own b hb).2.2.1, fun j m q => ?_⟩⟩
  · by_cases hj : j ∈ own
    · obtain ⟨z, _⟩ := inn hj e
      obtain ⟨v, h1, h2⟩ := E.fz j d z
      exact ⟨v, h1, h2.mono s⟩
    · rw [restore_out hj] at e
      rw [← sg hj]
      exact E2.fz j d e
  · have n := out e (fun z => nomatch z) (fun _ z => nomatch z)
    rw [restore_out n] at e
    rw [← sg n]
    exact E2.ow j d e
  · have n := out e (fun z => nomatch z) (fun _ z => nomatch z)
    rw [restore_out n] at e
    exact E2.io j d e
  · have n := nio e
    rw [← sg n, restore_out n]
    exact E2.ioS j a e
  · have n := out e (fun z => nomatch z) (fun _ z => nomatch z)
    rw [restore_out n] at e
    exact E2.br j d e
  · have n := nbr e
    rw [← sg n, restore_out n]
    exact E2.brS j v d e
  · rw [← sg (mt mj).1, ← sg (mt mk).1]
    exact E2.sep j k a n (mt mj).2 (mt mk).2
  · have n := out e (fun z => nomatch z) (fun _ z => nomatch z)
    rw [restore_out n] at e
    exact ⟨e, (sg n).symm⟩
  · rw [← sg (mt m).1] at q
    exact (E2.mx.own b hb).2.2.2 j (mt m).2 q
end

/-! ### [e for x in xs if t] -/
def compL (own : List Nat) (g : SG) (t : SB) (f : SE) : List D → List D → Ev → Option (List D × Ev)
  | [], acc, env => some (acc, env)
  | d :: ds, acc, env => if wipeOk env own = true then (g d (wipeE env own)).bind fun e1 => (t e1).bind fun r => if r.1 = true then (f r.2).bind fun z => if acc.length < sizeLine then compL own g t f ds (acc ++ [z.1]) (restore env z.2 own) else none
      else compL own g t f ds acc (restore env r.2 own)
    else none
def eComp (own : List Nat) (it : SI) (g : SG) (t : SB) (f : SE) : SE := fun env => (it env).bind fun r => (compL own g t f r.1 [] (lockE r.2.2 r.2.1)).bind fun z => some (.lst z.1, unlockE r.2.2 z.2 r.2.1)
def tTrue : SB := fun env => some (true, env)
structure DTs (X : Cx) (ifs : List Expr) (t : SB) : Prop where pts : PTs X ifs (rdB X.K t)
theorem dts_nil {X : Cx} : DTs X [] tTrue := ⟨⟨fun pins s σ H Q I ⟨C, O, env, E, r, e, k⟩ => by cases e; exact pts_nil.run pins s σ H Q I (k H O .refl E)⟩⟩
theorem dts_one {X : Cx} {c : Expr} {t : SB} (h : DT X c t) : DTs X [c] t := ⟨pts_one h.pt⟩
abbrev Blk (X : Cx) (scope : Scope) (P : Cx → Prop) : Prop := ∀ (s : Shared) (H : Hp) (C : Addr) (cl : List (Str × Addr)) (fp : List Addr), P (X.blk s H scope (compEnvC scope cl C X.env) fp)
section
variable {X : Cx} {elt tg iter : Expr} {ifs : List Expr} {scope : Scope} {own : List (Str × Nat)} {pos : Pos} {it : SI} {g : SG} {t : SB} {f : SE}
theorem comp_read {σ : L2.St} {H : Hp} {Q : VK} {vs : List Nat} {sl : List Nat} (hsl : ∀ j ∈ sl, j ∈ vs) (h : rdF X.K (eComp vs it g t f) σ H Q) : tLc (rdI X.K it) (rdG X.K g sl) (rdB X.K t) (rdE X.K f) vs σ H Q := by
  obtain ⟨C, O, env, E, z, e, k⟩ := h
  obtain ⟨r, e1, e2⟩ := bindS e
  obtain ⟨y, e3, e4⟩ := bindS e2
  cases e4
  refine ⟨C, O, env, E, r, e1, fun J H1 O1 Src C' s1 E1 back itd src => fun L hL => ?_⟩
  obtain ⟨s2, E2, L2'⟩ := E1.new (o := .lst []) hL fun O' s => .lst upd_same .nil
  have nb : NoBr X.K C' L := E1.noBr hL
  have n0 : ¬ C'.O0 L := L2'.n0
  have nl : C'.lock L = none := L2'.nl
  have E3 := E2.hide L2' upd_same
  refine ⟨fun i m H => ∃ O env acc vs', EnvOk X.K (C'.hide L (.lst vs')) H O σ env ∧ Step H1 O1 H O ∧ Src H O ∧ RepL X.K H O acc vs' ∧ i + m = r.1.length ∧ compL vs g t f (r.1.drop i) acc env = some y, ⟨r.1.length, _, _, [], [], E3, s2, itd.keep _ _ _ _ src s2 fun a o ha => ?_, .nil, by omega, e3⟩, fun i m H3 hW => ?_⟩
  · exact E2.lock a o ha
  obtain ⟨O3, env3, acc, vs', E4, s4, src4, racc, hm, e5⟩ := hW
  have lkC : ∀ {vs' : List V} {H : Hp} {O : Ad} {σ : L2.St} {env : Ev}, EnvOk X.K (C'.hide L (.lst vs')) H O σ env → ∀ a o, C'.lock a = some o → H a = some o := fun E a o ha => E.lock a o (by
    show (if a = L then some _ else C'.lock a) = some o
    rw [if_neg (fun z => by rw [z, nl] at ha; cases ha)]; exact ha)
  have atL : ∀ {vs' : List V} {H : Hp} {O : Ad} {σ : L2.St} {env : Ev}, EnvOk X.K (C'.hide L (.lst vs')) H O σ env → H L = some (.lst vs') := fun E => E.lock L _ (if_pos rfl)
  by_cases hi : i < r.1.length
  · rw [List.drop_eq_getElem_cons hi] at e5
    have e5 : (if wipeOk env3 vs = true then (g r.1[i] (wipeE env3 vs)).bind fun e1 => (t e1).bind fun q => if q.1 = true then (f q.2).bind fun z => if acc.length < sizeLine then compL vs g t f (r.1.drop (i + 1)) (acc ++ [z.1]) (restore env3 z.2 vs) else none
      else compL vs g t f (r.1.drop (i + 1)) acc (restore env3 q.2 vs)
    else none) = some y := e5
    split at e5
    · rename_i hwo
      obtain ⟨e6, h1, h2⟩ := bindS e5
      obtain ⟨q, h3, h4⟩ := bindS h2
      refine .inr ⟨itd.go i H3 O3 src4 hi, fun H => ∃ O env acc vs', EnvOk X.K (C'.hide L (.lst vs')) H O σ env ∧ Step H1 O1 H O ∧ Src H O ∧ RepL X.K H O acc vs' ∧ compL vs g t f (r.1.drop (i + 1)) acc env = some y, fun H' ⟨O', env', a', v', q1, q2, q3, q4, q5⟩ => ⟨m - 1, by omega, O', env', a', v', q1, q2, q3, q4, by omega, q5⟩, fun x H' yy => ?_⟩
      obtain ⟨ex, d, hd, rp⟩ := itd.yld i H3 O3 x H' src4 E4.trk hi yy
      rw [List.getElem?_eq_getElem hi] at hd
      cases hd
      have s5 : Step H3 O3 H' O3 := .ext ex
      refine ⟨C'.hide L (.lst vs'), O3, _, _, (E4.ext ex).wipe hwo, rp, e6, h1, fun σ2 H4 O4 s6 E6 but => ⟨?_, ?_⟩⟩
      · apply List.ext_getElem?
        intro j
        by_cases hj : j ∈ vs
        · by_cases hl : j < σ.length
          · rw [wipe_in hj hl, wipe_in hj (by rw [but.1, wipe_length]; exact hl)]
          · rw [List.getElem?_eq_none (by rw [wipe_length, but.1, wipe_length]; omega), List.getElem?_eq_none (by rw [wipe_length]; omega)]
        · rw [wipe_out hj, but.2 j (fun z => hj (hsl j z))]
      · have s46 : Step H3 O3 H4 O4 := s5.trans s6
        have hw : L2.wipe σ2 vs = L2.wipe σ vs := by
          apply List.ext_getElem?
          intro j
          by_cases hj : j ∈ vs
          · by_cases hl : j < σ.length
            · rw [wipe_in hj hl, wipe_in hj (by rw [but.1, wipe_length]; exact hl)]
            · rw [List.getElem?_eq_none (by rw [wipe_length, but.1, wipe_length]; omega), List.getElem?_eq_none (by rw [wipe_length]; omega)]
          · rw [wipe_out hj, but.2 j (fun z => hj (hsl j z))]
        refine ⟨C'.hide L (.lst vs'), O4, e6, E6, q, h3, fun H5 O5 s7 E7 => ?_⟩
        have s57 : Step H3 O3 H5 O5 := s46.trans s7
        show if q.1 = true then _ else _
        by_cases hq : q.1 = true
        · rw [if_pos hq]
          rw [if_pos hq] at h4
          obtain ⟨zz, h5, h6⟩ := bindS h4
          split at h6
          · rename_i hlen
            refine ⟨C'.hide L (.lst vs'), O5, q.2, E7, zz, h5, fun y6 H6 O6 s8 E8 rp8 => ?_⟩
            have s68 : Step H3 O3 H6 O6 := s57.trans s8
            have E9 := E4.restore hwo s68 E8 hw
            obtain ⟨s9, E10⟩ := E9.rehide (o' := .lst (vs' ++ [y6])) nb
            have r6 := (racc.mono (s68.trans s9)).append (.cons (rp8.mono s9) .nil)
            refine ⟨vs', atL E8, by rw [← racc.length]; exact hlen, O6, _, acc ++ [zz.1], vs' ++ [y6], E10, s4.trans (s68.trans s9), ?_, r6, h6⟩
            exact itd.keep _ _ _ _ src4 (s68.trans s9) (lkC E10)
          · cases h6
        · rw [if_neg hq]
          rw [if_neg hq] at h4
          have E9 := E4.restore hwo s57 E7 hw
          exact ⟨O5, _, acc, vs', E9, s4.trans s57, itd.keep _ _ _ _ src4 s57 (lkC E9), racc.mono s57, h4⟩
    · cases e5
  · have hi : i = r.1.length := by omega
    rw [hi, List.drop_length] at e5
    cases e5
    obtain ⟨E7, L7⟩ := E4.unhide n0 nl nb (.lst (atL E4) racc)
    obtain ⟨b1, b2⟩ := back _ _ _ _ E7
    exact .inl ⟨by rw [hi]; exact itd.stop H3 O3 src4, k L H3 O3 (s1.trans s4) b1 (b2 _ _ L7)⟩
variable {sl vs : List Nat}
theorem df_comp (hc : X.calm = true) (hN : X.N.Nodup) (hi : DI X tg iter it) (ok : BlkOk X.N X.env.scope scope own) (hvs : own.map (·.2) = vs) (hsl : ∀ j ∈ sl, j ∈ vs) (hg : Blk X scope fun Y => DG Y tg g sl) (ht : Blk X scope fun Y => DTs Y ifs t) (he : Blk X scope fun Y => DE Y elt f)
    (hs : ∀ x, foldedSetIterable iter X.env x = pure x) : DF X (.ListComp elt [⟨tg, iter, ifs, 0⟩] scope pos) (eComp vs it g t f) :=
  ⟨wkE (pe_lc (g := rdG X.K g sl) (tt := rdB X.K t) (te := rdE X.K f) hc hN hi.pi ok (fun s H C cl fp => (hg s H C cl fp).pg) (fun s H C cl fp => (ht s H C cl fp).pts) (fun s H C cl fp => (he s H C cl fp).pe) hs) fun σ H Q h => by rw [hvs]; exact comp_read hsl h⟩
/-- y = [..]: y is the def's own -/
theorem ds_setLcN {i : Nat} {y : Str} {py : Pos} {spos : Pos} (hc : X.calm = true) (hN : X.N.Nodup) (hy : X.N[i]? = some y) (hyl : X.env.scope.names.lookup y = some .local)
    (hsw : swapsWith (.ListComp elt [⟨tg, iter, ifs, 0⟩] scope pos) (some (.Name y py)) spos.line X.env = pure true) (hi : DI X tg iter it) (ok : BlkOk X.N X.env.scope scope own) (hvs : own.map (·.2) = vs) (hsl : ∀ j ∈ sl, j ∈ vs) (hg : Blk X scope fun Y => DG Y tg g sl) (ht : Blk X scope fun Y => DTs Y ifs t) (he : Blk X scope fun Y => DE Y elt f)
    (hs : ∀ x, foldedSetIterable iter X.env x = pure x) : DS X (.Assign [.Name y py] (.ListComp elt [⟨tg, iter, ifs, 0⟩] scope pos) spos) (sSetN i (eComp vs it g t f)) := by
  refine ⟨wkS (ps_setLc (g := rdG X.K g sl) (tt := rdB X.K t) (te := rdE X.K f) hc hN hy hyl hsw hi.pi ok (fun s H C cl fp => (hg s H C cl fp).pg) (fun s H C cl fp => (ht s H C cl fp).pts) (fun s H C cl fp => (he s H C cl fp).pe) hs) fun N σ H ⟨C, O, env, E, o, e, k⟩ => ?_⟩
  obtain ⟨r1, e1, e2⟩ := bindS e
  obtain ⟨e', e3, e4⟩ := bindS e2
  cases e4
  unfold putOw at e3
  split at e3
  · rename_i hf
    cases e3
    rw [hvs]
    exact comp_read hsl ⟨C, O, env, E, r1, e1, fun a H1 O1 s1 E1 p => k _ H1 O1 s1 (E1.setOw (free_ok hf) p)⟩
  · cases e3
/-- y = [..]: y stands still -/
theorem ds_setLc {i : Nat} {y : Str} {py : Pos} {spos : Pos} (hc : X.calm = true) (hN : X.N.Nodup) (hy : X.N[i]? = some y) (hyl : X.env.scope.names.lookup y = some .local)
    (hsw : swapsWith (.ListComp elt [⟨tg, iter, ifs, 0⟩] scope pos) (some (.Name y py)) spos.line X.env = pure true) (hi : DI X tg iter it) (ok : BlkOk X.N X.env.scope scope own) (hvs : own.map (·.2) = vs) (hsl : ∀ j ∈ sl, j ∈ vs) (hg : Blk X scope fun Y => DG Y tg g sl) (ht : Blk X scope fun Y => DTs Y ifs t) (he : Blk X scope fun Y => DE Y elt f)
    (hs : ∀ x, foldedSetIterable iter X.env x = pure x) : DS X (.Assign [.Name y py] (.ListComp elt [⟨tg, iter, ifs, 0⟩] scope pos) spos) (sSet i (eComp vs it g t f)) := by
  refine ⟨wkS (ps_setLc (g := rdG X.K g sl) (tt := rdB X.K t) (te := rdE X.K f) hc hN hy hyl hsw hi.pi ok (fun s H C cl fp => (hg s H C cl fp).pg) (fun s H C cl fp => (ht s H C cl fp).pts) (fun s H C cl fp => (he s H C cl fp).pe) hs) fun N σ H ⟨C, O, env, E, o, e, k⟩ => ?_⟩
  obtain ⟨r1, e1, e2⟩ := bindS e
  obtain ⟨e', e3, e4⟩ := bindS e2
  cases e4
  unfold putFz at e3
  split at e3
  · rename_i hf
    cases e3
    rw [hvs]
    refine comp_read hsl ⟨C, O, env, E, r1, e1, fun a H1 O1 s1 E1 p => ?_⟩
    obtain ⟨s2, E2, rp⟩ := E1.freeze p
    exact k _ H1 _ (s1.trans s2) (E2.setFz (free_ok hf) rp)
  · cases e3
end
end Z

/-! The data layer, part H: defs and their calls. -/
namespace Z
open PySem PySem.Spec PyProof.Rows L2

/-- how a parameter is given: a value; the caller's own thing, to be changed; the caller's thing, to be read -/
inductive Mode | v | io | br
  deriving DecidableEq

structure ArgsOk (K : PySem.W.Frag) (H : Hp) (O : Ad) (ms : List Mode) (ds : List D) (vs : List V) : Prop where
  l1 : ds.length = ms.length
  l2 : vs.length = ms.length
  v : ∀ (i : Nat) (d : D) (x : V), ms[i]? = some .v → ds[i]? = some d → vs[i]? = some x → Rep K H O d x
  io : ∀ (i : Nat) (d : D) (x : V), ms[i]? = some .io → ds[i]? = some d → vs[i]? = some x → ∃ a, x = .ref a ∧ O a ∧ Own K H O d a
  br : ∀ (i : Nat) (d : D) (x : V), ms[i]? = some .br → ds[i]? = some d → vs[i]? = some x → Rep K H O d x ∨ ∃ a, x = .ref a ∧ O a ∧ OwnB K H O d a
  sep : ∀ (i j : Nat) (a : Addr), i ≠ j → ms[i]? = some .io → vs[i]? = some (.ref a) → vs[j]? = some (.ref a) → ms[j]? = some .v ∨ (ms[j]? = some .br ∧ ∀ d, ds[j]? = some d → Rep K H O d (.ref a))
/-- a is to be changed -/
def IsIo (ms : List Mode) (vs : List V) (a : Addr) : Prop := ∃ i : Nat, ms[i]? = some .io ∧ vs[i]? = some (.ref a)
/-- behind a call: res the result, outs what the io parameters hold -/
structure Post (K : PySem.W.Frag) (H : Hp) (O : Ad) (ms : List Mode) (vs : List V) (fr : Bool) (res : D) (outs : List D) (v : V) (H' : Hp) (O' : Ad) : Prop where
  keep : ∀ b o, ¬ IsIo ms vs b → H b = some o → H' b = some o
  le : ∀ a, O a → O' a
  sub : ∀ a, O' a → O a ∨ H a = none
  trk : ∀ a, O' a → H' a ≠ none
  io : ∀ (i : Nat) (a : Addr), ms[i]? = some .io → vs[i]? = some (.ref a) → ∃ d, outs[i]? = some d ∧ Own K H' O' d a
  res : if fr = true then ∃ a, v = .ref a ∧ O' a ∧ ¬ O a ∧ H a = none ∧ Own K H' O' res a else Rep K H' O' res v ∧ ∀ a, O' a → O a
def spD (K : PySem.W.Frag) (ms : List Mode) (fr : Bool) (F : List D → Option (D × List D)) : Sp := fun vs H Q _ =>
  ∃ O ds, ArgsOk K H O ms ds vs ∧ (∀ a, O a → H a ≠ none) ∧ ∃ z, F ds = some z ∧ ∀ v H' O', Post K H O ms vs fr z.1 z.2 v H' O' → Q v H'

/-! ### a def's own frame -/
def argSlot : Mode → D → Slot
  | .v, d => .fz d
  | .io, d => .io d
  | .br, d => .br d
def env0 : List Mode → List D → Nat → Ev
  | m :: ms, d :: ds, n => argSlot m d :: env0 ms ds (n - 1)
  | _, _, n => List.replicate n .no
def outsOf : List Mode → Ev → List D
  | .io :: ms, .io d :: env => d :: outsOf ms env
  | _ :: ms, _ :: env => .non :: outsOf ms env
  | _, _ => []
/-- what a def does -/
def runDef (fr : Bool) (ms : List Mode) (n : Nat) (body : SS) : List D → Option (D × List D) := fun ds =>
  if ds.length = ms.length then (body (env0 ms ds n)).bind fun o => match o with
    | .nx env => if fr = true then none else some (.non, outsOf ms env)
    | .rt d env => if fr = true then none else some (d, outsOf ms env)
    | .rn d env => some (d, outsOf ms env)
    | _ => none
  else none

theorem env0_at : ∀ {ms : List Mode} {ds : List D} {n i : Nat} {m : Mode} {d : D}, ds.length = ms.length → ms[i]? = some m → ds[i]? = some d → (env0 ms ds n)[i]? = some (argSlot m d)
  | [], _, _, _, _, _, _, h, _ => by simp at h
  | _ :: _, [], _, _, _, _, h, _, _ => by simp at h
  | m :: ms, d :: ds, n, 0, _, _, _, h1, h2 => by
    simp at h1 h2; subst h1 h2; rfl
  | m :: ms, d :: ds, n, i + 1, _, _, h, h1, h2 => by
    have := env0_at (ms := ms) (ds := ds) (n := n - 1) (i := i) (by simpa using h) (by simpa using h1) (by simpa using h2)
    exact this
theorem env0_out : ∀ {ms : List Mode} {ds : List D} {n i : Nat} {x : Slot}, ds.length = ms.length → ms[i]? = none → (env0 ms ds n)[i]? = some x → x = .no
  | [], [], n, i, x, _, _, h => by
    have h : (List.replicate n Slot.no)[i]? = some x := h
    exact List.eq_of_mem_replicate (List.mem_of_getElem? h)
  | [], _ :: _, _, _, _, h, _, _ => by simp at h
  | _ :: _, [], _, _, _, h, _, _ => by simp at h
  | m :: ms, d :: ds, n, 0, _, _, h1, _ => by simp at h1
  | m :: ms, d :: ds, n, i + 1, x, h, h1, h2 => env0_out (ms := ms) (ds := ds) (n := n - 1) (i := i) (by simpa using h) (by simpa using h1) h2
theorem env0_len : ∀ {ms : List Mode} {ds : List D} {n : Nat}, ds.length = ms.length → ms.length ≤ n → (env0 ms ds n).length = n
  | [], [], n, _, _ => by show (List.replicate n Slot.no).length = n; rw [List.length_replicate]
  | [], _ :: _, _, h, _ => by simp at h
  | _ :: _, [], _, h, _ => by simp at h
  | m :: ms, d :: ds, n, h, l => by
    show (env0 ms ds (n - 1)).length + 1 = n
    rw [env0_len (by simpa using h) (by simp at l; omega)]
    simp at l; omega
theorem outsOf_at : ∀ {ms : List Mode} {env : Ev} {i : Nat} {d : D}, ms[i]? = some .io → env[i]? = some (.io d) → (outsOf ms env)[i]? = some d
  | [], _, _, _, h, _ => by simp at h
  | _ :: _, [], _, _, _, h => by simp at h
  | m :: ms, x :: env, 0, d, h1, h2 => by
    simp at h1 h2; subst h1 h2; rfl
  | m :: ms, x :: env, i + 1, d, h1, h2 => by
    have ih := outsOf_at (ms := ms) (env := env) (i := i) (d := d) (by simpa using h1) (by simpa using h2)
    cases m <;> cases x <;> exact ih

section
variable {K : PySem.W.Frag}
open Classical in
/-- the frame at a def's entry -/
theorem entry {H : Hp} {O : Ad} {ms : List Mode} {ds : List D} {vs : List V} {N : List Str} (A : ArgsOk K H O ms ds vs) (t : ∀ a, O a → H a ≠ none) (hn : ms.length ≤ N.length) :
    ∃ C : Ctx, C.O0 = O ∧ (∀ b, C.lock b = if IsIo ms vs b then none else H b) ∧ (∀ i a, C.io i = some a ↔ ms[i]? = some .io ∧ vs[i]? = some (.ref a)) ∧ EnvOk K C H O (L2.start N vs) (env0 ms ds N.length) := by
  have dat : ∀ {i : Nat} {m : Mode}, ms[i]? = some m → ∃ d x, ds[i]? = some d ∧ vs[i]? = some x := fun {i m} h => by
    have := (List.getElem?_eq_some_iff.mp h).1
    exact ⟨ds[i]'(by rw [A.l1]; exact this), vs[i]'(by rw [A.l2]; exact this), by simp [A.l1, this], by simp [A.l2, this]⟩
  have sat : ∀ {i : Nat} {x : V}, vs[i]? = some x → (L2.start N vs)[i]? = some (some x) := fun {i x} h => by
    unfold L2.start
    have hl := (List.getElem?_eq_some_iff.mp h).1
    rw [List.getElem?_append_left (by rw [List.length_map]; exact hl), List.getElem?_map, h]
    rfl
  have eat : ∀ {i : Nat} {m : Mode} {d : D}, ms[i]? = some m → ds[i]? = some d → (env0 ms ds N.length)[i]? = some (argSlot m d) := fun h1 h2 => env0_at A.l1 h1 h2
  have inv : ∀ {i : Nat} {x : Slot}, (env0 ms ds N.length)[i]? = some x → x ≠ .no → ∃ m d v, ms[i]? = some m ∧ ds[i]? = some d ∧ vs[i]? = some v ∧ x = argSlot m d := fun {i x} e n => by
    cases hm : ms[i]? with
    | none => exact (n (env0_out A.l1 hm e)).elim
    | some m =>
      obtain ⟨d, v, h1, h2⟩ := dat hm
      rw [eat hm h1] at e
      exact ⟨m, d, v, rfl, h1, h2, (Option.some.inj e).symm⟩
  let fio : Nat → Option Addr := fun i => match ms[i]?, vs[i]? with
    | some .io, some (.ref a) => some a
    | _, _ => none
  let fbr : Nat → Option (V × D) := fun i => match ms[i]?, vs[i]?, ds[i]? with
    | some .br, some v, some d => some (v, d)
    | _, _, _ => none
  let C : Ctx := { lock := fun b => if IsIo ms vs b then none else H b, io := fio, br := fbr, O0 := O }
  have cio : ∀ i a, C.io i = some a ↔ ms[i]? = some .io ∧ vs[i]? = some (.ref a) := fun i a => by
    show (match ms[i]?, vs[i]? with
      | some .io, some (.ref a) => some a
      | _, _ => none) = some a ↔ _
    constructor
    · intro h
      split at h
      · rename_i b h1 h2
        cases h
        exact ⟨h1, h2⟩
      · cases h
    · rintro ⟨h1, h2⟩
      rw [h1, h2]
  have cbr : ∀ i v d, C.br i = some (v, d) ↔ ms[i]? = some .br ∧ vs[i]? = some v ∧ ds[i]? = some d := fun i v d => by
    show (match ms[i]?, vs[i]?, ds[i]? with
      | some .br, some v, some d => some (v, d)
      | _, _, _ => none) = some (v, d) ↔ _
    constructor
    · intro h
      split at h
      · rename_i v' d' h1 h2 h3
        cases h
        exact ⟨h1, h2, h3⟩
      · cases h
    · rintro ⟨h1, h2, h3⟩
      rw [h1, h2, h3]
  have mt : ∀ {i : Nat}, Mt (env0 ms ds N.length) i → ms[i]? = some .io := fun {i} m => by
    rcases m with ⟨d, m⟩ | ⟨d, m⟩
    · obtain ⟨m', d', v, h1, _, _, h4⟩ := inv m (fun z => nomatch z)
      cases m' <;> cases h4
    · obtain ⟨m', d', v, h1, _, _, h4⟩ := inv m (fun z => nomatch z)
      cases m' <;> cases h4
      exact h1
  refine ⟨C, rfl, fun _ => rfl, cio, ⟨?_, fun _ h => h, t, fun b o h => ?_, fun i d e => ?_, fun i d e => ?_, fun i d e => ?_, fun i a e => ?_, fun i d e => ?_, fun i v d e => ?_, fun i j a n mi mj e1 e2 => ?_, .none fun i r e => ?_⟩⟩
  · rw [env0_len A.l1 hn]
    unfold L2.start
    rw [List.length_append, List.length_map, List.length_replicate, A.l2]
    omega
  · have h : (if IsIo ms vs b then none else H b) = some o := h
    split at h
    · cases h
    · exact h
  · obtain ⟨m', d', v, h1, h2, h3, h4⟩ := inv e (fun z => nomatch z)
    cases m' <;> cases h4
    exact ⟨v, sat h3, A.v i _ v h1 h2 h3⟩
  · obtain ⟨m', d', v, h1, h2, h3, h4⟩ := inv e (fun z => nomatch z)
    cases m' <;> cases h4
  · obtain ⟨m', d', v, h1, h2, h3, h4⟩ := inv e (fun z => nomatch z)
    cases m' <;> cases h4
    obtain ⟨a, rfl, h5, h6⟩ := A.io i _ v h1 h2 h3
    exact ⟨a, (cio i a).mpr ⟨h1, h3⟩, h6⟩
  · obtain ⟨h1, h2⟩ := (cio i a).mp e
    obtain ⟨d, v, h3, h4⟩ := dat h1
    obtain ⟨a', e', h5, h6⟩ := A.io i d (.ref a) h1 h3 h2
    cases e'
    refine ⟨sat h2, h5, ?_, d, eat h1 h3⟩
    show (if IsIo ms vs a then none else H a) = none
    rw [if_pos ⟨i, h1, h2⟩]
  · obtain ⟨m', d', v, h1, h2, h3, h4⟩ := inv e (fun z => nomatch z)
    cases m' <;> cases h4
    exact ⟨v, (cbr i v _).mpr ⟨h1, h3, h2⟩⟩
  · obtain ⟨h1, h2, h3⟩ := (cbr i v d).mp e
    refine ⟨sat h2, eat h1 h3, ?_⟩
    rcases A.br i d v h1 h3 h2 with h | ⟨a, rfl, h4, h5⟩
    · exact .inl h
    · by_cases hi : IsIo ms vs a
      · obtain ⟨j, q1, q2⟩ := hi
        have n : j ≠ i := fun z => by rw [z, h1] at q1; cases q1
        rcases A.sep j i a n q1 q2 h2 with q | ⟨q, r⟩
        · rw [h1] at q; cases q
        · exact .inl (r d h3)
      · refine .inr ⟨a, rfl, h4, ?_, h5⟩
        show (if IsIo ms vs a then none else H a) ≠ none
        rw [if_neg hi]; exact t a h4
  · have h1 := mt mi
    have h2 := mt mj
    obtain ⟨_, v1, _, h3⟩ := dat h1
    obtain ⟨_, v2, _, h4⟩ := dat h2
    rw [sat h3] at e1
    rw [sat h4] at e2
    cases e1
    cases e2
    rcases A.sep i j a n h1 h3 h4 with q | ⟨q, _⟩
    · rw [h2] at q; cases q
    · rw [h2] at q; cases q
  · obtain ⟨m', d', v, h1, h2, h3, h4⟩ := inv e (fun z => nomatch z)
    cases m' <;> cases h4
/-- what a def leaves -/
theorem leave {C : Ctx} {H H' : Hp} {O O' : Ad} {ms : List Mode} {vs : List V} {σ : L2.St} {env : Ev} (h0 : C.O0 = O) (hl : ∀ b, ¬ IsIo ms vs b → C.lock b = H b) (hio : ∀ i a, C.io i = some a ↔ ms[i]? = some .io ∧ vs[i]? = some (.ref a))
    (s : Step H O H' O') (E : EnvOk K C H' O' σ env) : (∀ b o, ¬ IsIo ms vs b → H b = some o → H' b = some o) ∧ (∀ a, O a → O' a) ∧ (∀ a, O' a → O a ∨ H a = none) ∧ (∀ a, O' a → H' a ≠ none) ∧
      ∀ (i : Nat) (a : Addr), ms[i]? = some .io → vs[i]? = some (.ref a) → ∃ d, (outsOf ms env)[i]? = some d ∧ Own K H' O' d a := by
  refine ⟨fun b o n h => E.lock b o (by rw [hl b n]; exact h), fun a h => E.o0 a (by rw [h0]; exact h), s.sub, E.trk, fun i a h1 h2 => ?_⟩
  have e := (hio i a).mpr ⟨h1, h2⟩
  obtain ⟨_, _, _, d, h3⟩ := E.ioS i a e
  obtain ⟨a', e', h4⟩ := E.io i d h3
  rw [e] at e'
  cases e'
  exact ⟨d, outsOf_at h1 h3, h4⟩
/-- only what was owned at the entry is owned -/
theorem shrink {C : Ctx} {H : Hp} {O : Ad} {σ : L2.St} {env : Ev} (E : EnvOk K C H O σ env) : Step H O H C.O0 := ⟨fun _ _ _ h => h, fun a h => .inl (E.o0 a h)⟩
end

/-- a def of the module, its data function F -/
structure DefOk (P : Program) (w : World) (K : PySem.W.Frag) (mg : Str → Option Value) (base : Heap) (k : Nat) (x : Str) (ms : List Mode) (fr : Bool) (F : List D → Option (D × List D)) : Prop where
  ex : ∃ f fd ps, FnOk P w K mg base CX0 k f fd ps (spD K ms fr F) ∧ mg x = some (.ref f) ∧ PySem.W.keepIn K (.ref f) = true ∧ Binds K fd ps []
section
variable {P : Program} {w : World} {K : PySem.W.Frag} {mg : Str → Option Value} {base : Heap}
theorem DefOk.mono {j k : Nat} {x : Str} {ms : List Mode} {fr : Bool} {F : List D → Option (D × List D)} (h : DefOk P w K mg base j x ms fr F) (l : j ≤ k) : DefOk P w K mg base k x ms fr F := by
  obtain ⟨f, fd, ps, h1, h2, h3, h4⟩ := h.ex
  exact ⟨f, fd, ps, h1.mono l, h2, h3, h4⟩
theorem def_fn {x qual : Str} {st : Stmt} {f : Addr} {fd : FuncData} {N ps : List Str} {k : Nat} {ms : List Mode} {fr : Bool} {body : SS} (F : Fun K x qual st f fd) (S : FnScope N ps (defScope st)) (hp : ps.length = ms.length)
    (hbody : ∀ (cdv : Value) (A : Around) (outer : List Env) (s : Shared) (H : Hp) (E : XK), Room k (A.deeper (envOfC qual (defScope st) s.heap.objs.size f cdv)) →
      DSs (cxOf CX0 P w K mg base N qual (defScope st) f cdv A outer s H E).nox (defBody st) body) : FnOk P w K mg base CX0 (k + 1) f fd ps (spD K ms fr (runDef fr ms N.length body)) := by
  refine F.ok S (fun vs H Q E h => ?_) fun cdv A outer s H vs Q E hr h => ?_
  · obtain ⟨O, ds, h1, _⟩ := h
    rw [h1.l2, hp]
  · obtain ⟨O, ds, A1, t, z, e, q⟩ := h
    have hn : ms.length ≤ N.length := by
      have := congrArg List.length S.pre
      rw [List.length_take] at this
      omega
    refine ⟨_, (hbody cdv A outer s H E hr).pss, ?_⟩
    obtain ⟨C, c0, cl, cio, E1⟩ := entry (N := N) A1 t hn
    have hl : ∀ b, ¬ IsIo ms vs b → C.lock b = H b := fun b n => by rw [cl b, if_neg n]
    unfold runDef at e
    rw [if_pos A1.l1] at e
    obtain ⟨o, e1, e2⟩ := bindS e
    refine ⟨C, O, _, E1, o, e1, ?_⟩
    have fin : ∀ {d : D} {env : Ev} {σ : L2.St} {v : V} {H' : Hp} {O' : Ad}, fr = false → z = (d, outsOf ms env) → Step H O H' O' → EnvOk K C H' O' σ env → Rep K H' O' d v → Q v H' := fun {d env σ v H' O'} hf hz s E' rp => by
      obtain ⟨p1, p2, p3, p4, p5⟩ := leave c0 hl cio s E'
      have s2 := shrink E'
      rw [c0] at s2
      refine q v H' O ⟨p1, fun a h => h, fun a h => .inl h, fun a h => p4 a (p2 a h), fun i a h1 h2 => ?_, ?_⟩
      · obtain ⟨d', h3, h4⟩ := p5 i a h1 h2
        exact ⟨d', by rw [hz]; exact h3, h4.mono s2 rfl⟩
      · rw [hf, if_neg Bool.false_ne_true, hz]
        exact ⟨rp.mono s2, fun a h => h⟩
    cases o with
    | nx env =>
      have e2 : (if fr = true then none else some (Z.D.non, outsOf ms env)) = some z := e2
      have hf : fr = false := by
        cases fr with
        | true => rw [if_pos rfl] at e2; cases e2
        | false => rfl
      rw [hf, if_neg Bool.false_ne_true] at e2
      exact fun σ H' O' s E' => fin hf (Option.some.inj e2).symm s E' .non
    | rt d env =>
      have e2 : (if fr = true then none else some (d, outsOf ms env)) = some z := e2
      have hf : fr = false := by
        cases fr with
        | true => rw [if_pos rfl] at e2; cases e2
        | false => rfl
      rw [hf, if_neg Bool.false_ne_true] at e2
      exact fun σ v H' O' s E' rp => fin hf (Option.some.inj e2).symm s E' rp
    | rn d env =>
      have hz : z = (d, outsOf ms env) := (Option.some.inj e2).symm
      intro σ a H' O' s E' L
      cases hf : fr with
      | false =>
        obtain ⟨s2, E2, rp⟩ := E'.freeze L
        exact fin hf hz (s.trans s2) E2 rp
      | true =>
        obtain ⟨p1, p2, p3, p4, p5⟩ := leave c0 hl cio s E'
        have na : ¬ O a := by rw [← c0]; exact L.n0
        have s2 : Step H' O' H' (fun b => O b ∨ b = a) := ⟨fun _ _ _ h => h, fun b h => by
          rcases h with h | rfl
          · exact .inl (p2 b h)
          · exact .inl L.o⟩
        refine q (.ref a) H' (fun b => O b ∨ b = a) ⟨p1, fun b h => .inl h, fun b h => ?_, fun b h => ?_, fun i b h1 h2 => ?_, ?_⟩
        · rcases h with h | rfl
          · exact .inl h
          · exact p3 b L.o
        · rcases h with h | rfl
          · exact p4 b (p2 b h)
          · exact p4 b L.o
        · obtain ⟨d', h3, h4⟩ := p5 i b h1 h2
          exact ⟨d', by rw [hz]; exact h3, h4.mono s2 rfl⟩
        · rw [hf, if_pos rfl, hz]
          exact ⟨a, rfl, .inr rfl, na, (p3 a L.o).resolve_left na, L.own.mono s2 rfl⟩
    | bk env => cases e2
    | ct env => cases e2
theorem def_ok {x qual : Str} {st : Stmt} {f : Addr} {fd : FuncData} {N ps : List Str} {k : Nat} {ms : List Mode} {fr : Bool} {body : SS} (F : Fun K x qual st f fd) (S : FnScope N ps (defScope st)) (hp : ps.length = ms.length)
    (hm : mg x = some (.ref f)) (hb : Binds K fd ps [])
    (hbody : ∀ (cdv : Value) (A : Around) (outer : List Env) (s : Shared) (H : Hp) (E : XK), Room k (A.deeper (envOfC qual (defScope st) s.heap.objs.size f cdv)) →
      DSs (cxOf CX0 P w K mg base N qual (defScope st) f cdv A outer s H E).nox (defBody st) body) : DefOk P w K mg base (k + 1) x ms fr (runDef fr ms N.length body) :=
  ⟨f, fd, ps, def_fn F S hp hbody, hm, F.kp, hb⟩
/-- the law's own end -/
theorem law_end {F : List D → Option (D × List D)} {ns : List Int} {H : Hp} {a : Addr} {E : XK} {outs : List D} (h : F [.sc ns] = some (.bl true, outs)) (hS : SqL K H a (ns.map V.int)) : spD K [.v] false F [.ref a] H (fun v _ => v = .bl true) E := by
  refine ⟨fun _ => False, [.sc ns], ⟨rfl, rfl, fun i d x h1 h2 h3 => ?_, fun i d x h1 h2 h3 => ?_, fun i d x h1 h2 h3 => ?_, fun i j a n h1 h2 h3 => ?_⟩, fun a h => h.elim, _, h, fun v H' O' p => ?_⟩
  · cases i with
    | zero =>
      cases h2
      cases h3
      rcases hS with hS | hS
      · exact .sc (.inl ⟨fun z => z, hS⟩)
      · exact .sc (.inr (.inr hS))
    | succ i => cases h2
  · cases i with
    | zero => cases h1
    | succ i => cases h1
  · cases i with
    | zero => cases h1
    | succ i => cases h1
  · cases i with
    | zero => cases h1
    | succ i => cases h1
  · have r := p.res
    rw [if_neg Bool.false_ne_true] at r
    have r := r.1
    cases r
    rfl
theorem hu64 {k : Nat} {A : Around} (hr : Room k A) : A.units + 64 < cLine := hr.units
theorem hu65 {k : Nat} {A : Around} (hr : Room k A) : A.units + 65 < cLine := by have := hr.un; omega
theorem hu1 {k : Nat} {A : Around} (hr : Room k A) : A.units + 1 < cLine := by have := hr.un; omega
end

/-! ### a call -/
def argDs (env : Ev) : List Mode → List P → Option (List D)
  | [], [] => some []
  | .v :: ms, .val d :: ps => (argDs env ms ps).bind fun ds => some (d :: ds)
  | .v :: ms, .slot i :: ps => match env[i]? with
    | some (.fz d) => (argDs env ms ps).bind fun ds => some (d :: ds)
    | _ => none
  | .io :: ms, .slot i :: ps => (getM env i).bind fun d => (argDs env ms ps).bind fun ds => some (d :: ds)
  | .br :: ms, p :: ps => (getP env p).bind fun d => (argDs env ms ps).bind fun ds => some (d :: ds)
  | _, _ => none
/-- the slots of the io arguments -/
def ioSlots : List Mode → List P → List Nat
  | .io :: ms, .slot i :: ps => i :: ioSlots ms ps
  | _ :: ms, _ :: ps => ioSlots ms ps
  | _, _ => []
def brSlots : List Mode → List P → List Nat
  | .br :: ms, .slot i :: ps => i :: brSlots ms ps
  | _ :: ms, _ :: ps => brSlots ms ps
  | _, _ => []
def apart (ms : List Mode) (ps : List P) : Bool := decide (ioSlots ms ps).Nodup && (ioSlots ms ps).all fun i => !(brSlots ms ps).contains i
def setOuts : List Mode → List P → List D → Ev → Ev
  | .io :: ms, .slot i :: ps, d :: ds, env => setM (setOuts ms ps ds env) i d
  | _ :: ms, _ :: ps, _ :: ds, env => setOuts ms ps ds env
  | _, _, _, env => env
def eCall (ms : List Mode) (F : List D → Option (D × List D)) (a : SA) : SE := fun env => (a env).bind fun r => if apart ms r.1 = true then (argDs r.2 ms r.1).bind fun ds => (F ds).bind fun z => some (z.1, setOuts ms r.1 z.2 r.2) else none
def ArgRel (env : Ev) : Mode → P → D → Prop
  | .v, p, d => p = .val d ∨ ∃ j, p = .slot j ∧ env[j]? = some (.fz d)
  | .io, p, d => ∃ j, p = .slot j ∧ getM env j = some d
  | .br, p, d => getP env p = some d
theorem argDs_at {env : Ev} : ∀ {ms : List Mode} {ps : List P} {ds : List D}, argDs env ms ps = some ds → ds.length = ms.length ∧ ps.length = ms.length ∧ ∀ (i : Nat) (m : Mode) (p : P) (d : D), ms[i]? = some m → ps[i]? = some p → ds[i]? = some d →
    ArgRel env m p d
  | [], [], ds, h => by cases h; exact ⟨rfl, rfl, fun i m p d h => by simp at h⟩
  | [], _ :: _, _, h => by cases h
  | m :: ms, [], _, h => by cases m <;> cases h
  | m :: ms, p :: ps, ds, h => by
    have fin : ∀ d0 ds', argDs env ms ps = some ds' → ds = d0 :: ds' → ArgRel env m p d0 → ds.length = (m :: ms).length ∧ (p :: ps).length = (m :: ms).length ∧ ∀ (i : Nat) (m' : Mode) (p' : P) (d : D), (m :: ms)[i]? = some m' → (p :: ps)[i]? = some p' → ds[i]? = some d →
        ArgRel env m' p' d := fun d0 ds' h1 h2 h3 => by
      subst h2
      obtain ⟨l1, l2, ih⟩ := argDs_at h1
      refine ⟨by simp [l1], by simp [l2], fun i m' p' d a1 a2 a3 => ?_⟩
      cases i with
      | zero => simp at a1 a2 a3; subst a1 a2 a3; exact h3
      | succ i => exact ih i m' p' d (by simpa using a1) (by simpa using a2) (by simpa using a3)
    cases m with
    | v =>
      cases p with
      | val d =>
        obtain ⟨ds', e1, e2⟩ := bindS (show (argDs env ms ps).bind (fun ds => some (d :: ds)) = some ds from h)
        exact fin d ds' e1 (Option.some.inj e2).symm (.inl rfl)
      | slot j =>
        have h : (match env[j]? with
          | some (.fz d) => (argDs env ms ps).bind fun ds => some (d :: ds)
          | _ => none) = some ds := h
        split at h
        · rename_i d hd
          obtain ⟨ds', e1, e2⟩ := bindS h
          exact fin d ds' e1 (Option.some.inj e2).symm (.inr ⟨j, rfl, hd⟩)
        · cases h
    | io =>
      cases p with
      | val d => cases h
      | slot j =>
        obtain ⟨d, e1, e2⟩ := bindS (show (getM env j).bind (fun d => (argDs env ms ps).bind fun ds => some (d :: ds)) = some ds from h)
        obtain ⟨ds', e3, e4⟩ := bindS e2
        exact fin d ds' e3 (Option.some.inj e4).symm ⟨j, rfl, e1⟩
    | br =>
      obtain ⟨d, e1, e2⟩ := bindS (show (getP env p).bind (fun d => (argDs env ms ps).bind fun ds => some (d :: ds)) = some ds from h)
      obtain ⟨ds', e3, e4⟩ := bindS e2
      exact fin d ds' e3 (Option.some.inj e4).symm e1
theorem ioSlots_mem : ∀ {ms : List Mode} {ps : List P} {i j : Nat}, ms[i]? = some .io → ps[i]? = some (.slot j) → j ∈ ioSlots ms ps
  | [], _, _, _, h, _ => by simp at h
  | _ :: _, [], _, _, _, h => by simp at h
  | m :: ms, p :: ps, 0, j, h1, h2 => by
    simp at h1 h2; subst h1 h2; exact List.mem_cons_self
  | m :: ms, p :: ps, i + 1, j, h1, h2 => by
    have ih := ioSlots_mem (ms := ms) (ps := ps) (i := i) (j := j) (by simpa using h1) (by simpa using h2)
    cases m <;> cases p <;> first | exact ih | exact List.mem_cons_of_mem _ ih
theorem ioSlots_of : ∀ {ms : List Mode} {ps : List P} {j : Nat}, j ∈ ioSlots ms ps → ∃ i : Nat, ms[i]? = some .io ∧ ps[i]? = some (.slot j)
  | [], _, _, h => by cases h
  | m :: ms, [], _, h => by cases m <;> cases h
  | m :: ms, p :: ps, j, h => by
    have up : j ∈ ioSlots ms ps → ∃ i : Nat, (m :: ms)[i]? = some .io ∧ (p :: ps)[i]? = some (.slot j) := fun h => by
      obtain ⟨i, h1, h2⟩ := ioSlots_of h
      exact ⟨i + 1, by simpa using h1, by simpa using h2⟩
    cases m with
    | v => cases p <;> exact up h
    | br => cases p <;> exact up h
    | io =>
      cases p with
      | val d => exact up h
      | slot k =>
        rcases List.mem_cons.mp h with rfl | h
        · exact ⟨0, rfl, rfl⟩
        · exact up h
theorem ioSlots_inj : ∀ {ms : List Mode} {ps : List P} {i k j : Nat}, (ioSlots ms ps).Nodup → ms[i]? = some .io → ps[i]? = some (.slot j) → ms[k]? = some .io → ps[k]? = some (.slot j) → i = k
  | [], _, _, _, _, _, h, _, _, _ => by simp at h
  | _ :: _, [], _, _, _, _, _, h, _, _ => by simp at h
  | m :: ms, p :: ps, 0, 0, _, _, _, _, _, _ => rfl
  | m :: ms, p :: ps, 0, k + 1, j, nd, h1, h2, h3, h4 => by
    simp at h1 h2; subst h1 h2
    have : j ∈ ioSlots ms ps := ioSlots_mem (by simpa using h3) (by simpa using h4)
    exact absurd this (List.nodup_cons.mp nd).1
  | m :: ms, p :: ps, i + 1, 0, j, nd, h1, h2, h3, h4 => by
    simp at h3 h4; subst h3 h4
    have : j ∈ ioSlots ms ps := ioSlots_mem (by simpa using h1) (by simpa using h2)
    exact absurd this (List.nodup_cons.mp nd).1
  | m :: ms, p :: ps, i + 1, k + 1, j, nd, h1, h2, h3, h4 => by
    have nd' : (ioSlots ms ps).Nodup := by
      cases m <;> cases p <;> first | exact nd | exact (List.nodup_cons.mp nd).2
    have := ioSlots_inj (i := i) (k := k) (j := j) nd' (by simpa using h1) (by simpa using h2) (by simpa using h3) (by simpa using h4)
    omega
theorem brSlots_mem : ∀ {ms : List Mode} {ps : List P} {i j : Nat}, ms[i]? = some .br → ps[i]? = some (.slot j) → j ∈ brSlots ms ps
  | [], _, _, _, h, _ => by simp at h
  | _ :: _, [], _, _, _, h => by simp at h
  | m :: ms, p :: ps, 0, j, h1, h2 => by
    simp at h1 h2; subst h1 h2; exact List.mem_cons_self
  | m :: ms, p :: ps, i + 1, j, h1, h2 => by
    have ih := brSlots_mem (ms := ms) (ps := ps) (i := i) (j := j) (by simpa using h1) (by simpa using h2)
    cases m <;> cases p <;> first | exact ih | exact List.mem_cons_of_mem _ ih
theorem setM_len (env : Ev) (i : Nat) (d : D) : (setM env i d).length = env.length := by
  unfold setM
  split <;> first | exact List.length_set | rfl
theorem setM_ne (env : Ev) {i j : Nat} (d : D) (n : j ≠ i) : (setM env i d)[j]? = env[j]? := by
  unfold setM
  split <;> first | exact List.getElem?_set_ne (Ne.symm n) | rfl
theorem setM_ow {env : Ev} {i : Nat} {d d0 : D} (h : env[i]? = some (.ow d0)) : (setM env i d)[i]? = some (.ow d) := by
  have hl := (List.getElem?_eq_some_iff.mp h).1
  unfold setM
  rw [h]
  exact List.getElem?_set_self hl
theorem setM_io {env : Ev} {i : Nat} {d d0 : D} (h : env[i]? = some (.io d0)) : (setM env i d)[i]? = some (.io d) := by
  have hl := (List.getElem?_eq_some_iff.mp h).1
  unfold setM
  rw [h]
  exact List.getElem?_set_self hl
theorem setOuts_len {env : Ev} : ∀ {ms : List Mode} {ps : List P} {ds : List D}, (setOuts ms ps ds env).length = env.length
  | [], _, _ => by unfold setOuts; rfl
  | m :: ms, [], ds => by cases m <;> rfl
  | m :: ms, p :: ps, [] => by cases m <;> cases p <;> rfl
  | m :: ms, p :: ps, d :: ds => by
    have ih := setOuts_len (env := env) (ms := ms) (ps := ps) (ds := ds)
    cases m with
    | v => cases p <;> exact ih
    | br => cases p <;> exact ih
    | io =>
      cases p with
      | val _ => exact ih
      | slot i => exact (setM_len _ _ _).trans ih
theorem setOuts_out {env : Ev} : ∀ {ms : List Mode} {ps : List P} {ds : List D} {j : Nat}, j ∉ ioSlots ms ps → (setOuts ms ps ds env)[j]? = env[j]?
  | [], _, _, _, _ => by unfold setOuts; rfl
  | m :: ms, [], ds, _, _ => by cases m <;> rfl
  | m :: ms, p :: ps, [], _, _ => by cases m <;> cases p <;> rfl
  | m :: ms, p :: ps, d :: ds, j, h => by
    have ih := setOuts_out (env := env) (ms := ms) (ps := ps) (ds := ds) (j := j)
    cases m with
    | v => cases p <;> exact ih h
    | br => cases p <;> exact ih h
    | io =>
      cases p with
      | val _ => exact ih h
      | slot i => exact (setM_ne _ _ fun z => h (by rw [z]; exact List.mem_cons_self)).trans (ih fun z => h (List.mem_cons_of_mem _ z))
theorem setOuts_in {env : Ev} : ∀ {ms : List Mode} {ps : List P} {ds : List D} {i j : Nat} {d : D}, (ioSlots ms ps).Nodup → ms[i]? = some .io → ps[i]? = some (.slot j) → ds[i]? = some d →
    (∀ d0, env[j]? = some (.ow d0) → (setOuts ms ps ds env)[j]? = some (.ow d)) ∧ ∀ d0, env[j]? = some (.io d0) → (setOuts ms ps ds env)[j]? = some (.io d)
  | [], _, _, _, _, _, _, h, _, _ => by simp at h
  | _ :: _, [], _, _, _, _, _, _, h, _ => by simp at h
  | _ :: _, _ :: _, [], _, _, _, _, _, _, h => by simp at h
  | m :: ms, p :: ps, d' :: ds, 0, j, d, nd, h1, h2, h3 => by
    simp at h1 h2 h3; subst h1 h2 h3
    have nj := (List.nodup_cons.mp nd).1
    exact ⟨fun d0 h => setM_ow ((setOuts_out nj).trans h), fun d0 h => setM_io ((setOuts_out nj).trans h)⟩
  | m :: ms, p :: ps, d' :: ds, i + 1, j, d, nd, h1, h2, h3 => by
    have nd' : (ioSlots ms ps).Nodup := by
      cases m <;> cases p <;> first | exact nd | exact (List.nodup_cons.mp nd).2
    have hj : j ∈ ioSlots ms ps := ioSlots_mem (by simpa using h1) (by simpa using h2)
    have ih := setOuts_in (env := env) (ds := ds) nd' (by simpa using h1) (by simpa using h2) (show ds[i]? = some d by simpa using h3)
    cases m with
    | v => cases p <;> exact ih
    | br => cases p <;> exact ih
    | io =>
      cases p with
      | val _ => exact ih
      | slot k =>
        have n : j ≠ k := fun z => (List.nodup_cons.mp nd).1 (z ▸ hj)
        exact ⟨fun d0 h => (setM_ne _ _ n).trans (ih.1 d0 h), fun d0 h => (setM_ne _ _ n).trans (ih.2 d0 h)⟩
theorem PRelL.get {K : PySem.W.Frag} {H : Hp} {O : Ad} {σ : L2.St} : ∀ {ps : List P} {vs : List V}, PRelL K H O σ ps vs → ps.length = vs.length ∧ ∀ (i : Nat) (p : P) (v : V), ps[i]? = some p → vs[i]? = some v → PRel K H O σ p v
  | _, _, .nil => ⟨rfl, fun i p v h => by simp at h⟩
  | _, _, .cons r t => by
    obtain ⟨l, ih⟩ := PRelL.get t
    refine ⟨by simp [l], fun i p v h1 h2 => ?_⟩
    cases i with
    | zero => simp at h1 h2; subst h1 h2; exact r
    | succ i => exact ih i p v (by simpa using h1) (by simpa using h2)

section
variable {K : PySem.W.Frag} {C : Ctx} {H H' : Hp} {O O' : Ad} {σ : L2.St} {env : Ev} {ms : List Mode} {ps : List P} {ds : List D} {vs : List V}
theorem getM_mt {i : Nat} {d : D} (h : getM env i = some d) : Mt env i := by
  unfold getM at h
  split at h
  · exact .inl ⟨_, by assumption⟩
  · exact .inr ⟨_, by assumption⟩
  · cases h
theorem args_ok (E : EnvOk K C H O σ env) (ap : apart ms ps = true) (h : argDs env ms ps = some ds) (r : PRelL K H O σ ps vs) : ArgsOk K H O ms ds vs := by
  obtain ⟨l1, l2, at_⟩ := argDs_at h
  obtain ⟨l3, rel⟩ := r.get
  have ap := Bool.and_eq_true_iff.mp ap
  have nd := of_decide_eq_true ap.1
  have pat : ∀ {i : Nat} {v : V}, vs[i]? = some v → ∃ p, ps[i]? = some p := fun {i v} h => by
    have := (List.getElem?_eq_some_iff.mp h).1
    exact ⟨ps[i]'(by omega), by simp [l3, this]⟩
  have dat : ∀ {i : Nat} {v : V}, vs[i]? = some v → ∃ d, ds[i]? = some d := fun {i v} h => by
    have := (List.getElem?_eq_some_iff.mp h).1
    exact ⟨ds[i]'(by omega), by simp [show i < ds.length by omega]⟩
  have owned : ∀ {j : Nat} {d : D} {v : V}, getM env j = some d → σ[j]? = some (some v) → ∃ a, v = .ref a ∧ O a ∧ C.lock a = none ∧ Own K H O d a := fun {j d v} h1 h2 => by
    unfold getM at h1
    split at h1
    · rename_i d1 h
      cases h1
      obtain ⟨a, e1, h3, _, h5, h4⟩ := E.ow j d h
      rw [h2] at e1; cases e1
      exact ⟨a, rfl, h3, h5, h4⟩
    · rename_i d1 h
      cases h1
      obtain ⟨a, e1, h4⟩ := E.io j d h
      obtain ⟨e2, h3, h5, _⟩ := E.ioS j a e1
      rw [h2] at e2; cases e2
      exact ⟨a, rfl, h3, h5, h4⟩
    · cases h1
  refine ⟨l1, by omega, fun i d x h1 h2 h3 => ?_, fun i d x h1 h2 h3 => ?_, fun i d x h1 h2 h3 => ?_, fun i j a n h1 h2 h3 => ?_⟩
  · obtain ⟨p, hp⟩ := pat h3
    rcases at_ i _ p d h1 hp h2 with rfl | ⟨j, rfl, hj⟩
    · exact rel i _ x hp h3
    · obtain ⟨v, q1, q2⟩ := E.fz j d hj
      have q3 : σ[j]? = some (some x) := rel i _ x hp h3
      rw [q3] at q1; cases q1
      exact q2
  · obtain ⟨p, hp⟩ := pat h3
    obtain ⟨j, rfl, hj⟩ := at_ i _ p d h1 hp h2
    obtain ⟨a, q1, q2, _, q4⟩ := owned hj (rel i _ x hp h3)
    exact ⟨a, q1, q2, q4⟩
  · obtain ⟨p, hp⟩ := pat h3
    have hg := at_ i _ p d h1 hp h2
    cases p with
    | val d' => cases hg; exact .inl (rel i _ x hp h3)
    | slot j =>
      have hs : σ[j]? = some (some x) := rel i _ x hp h3
      have hg : getS env[j]? = some d := hg
      cases e : env[j]? with
      | none => rw [e] at hg; cases hg
      | some y =>
        rw [e] at hg
        cases y with
        | no => cases hg
        | mx r => cases hg
        | fz d' =>
          cases hg
          obtain ⟨v, q1, q2⟩ := E.fz j d e
          rw [hs] at q1; cases q1
          exact .inl q2
        | ow d' =>
          cases hg
          obtain ⟨a, q1, q2, _, q4⟩ := owned (show getM env j = some d by unfold getM; rw [e]) hs
          exact .inr ⟨a, q1, q2, .own q4⟩
        | io d' =>
          cases hg
          obtain ⟨a, q1, q2, _, q4⟩ := owned (show getM env j = some d by unfold getM; rw [e]) hs
          exact .inr ⟨a, q1, q2, .own q4⟩
        | br d' =>
          cases hg
          obtain ⟨v, q1⟩ := E.br j d e
          obtain ⟨q2, _, q3⟩ := E.brS j v d q1
          rw [hs] at q2; cases q2
          rcases q3 with q3 | ⟨a, q4, q5, _, q6⟩
          · exact .inl q3
          · exact .inr ⟨a, q4, q5, q6⟩
  · obtain ⟨p, hp⟩ := pat h2
    obtain ⟨d, hd⟩ := dat h2
    obtain ⟨s, rfl, hs⟩ := at_ i _ p d h1 hp hd
    have rs : σ[s]? = some (some (.ref a)) := rel i _ _ hp h2
    have ms_ : Mt env s := getM_mt hs
    obtain ⟨a', e', _, lk, _⟩ := owned hs rs
    cases e'
    obtain ⟨p2, hp2⟩ := pat h3
    have hm : ∃ m, ms[j]? = some m := by
      have := (List.getElem?_eq_some_iff.mp h3).1
      exact ⟨ms[j]'(by omega), by simp [show j < ms.length by omega]⟩
    obtain ⟨m, hm⟩ := hm
    cases m with
    | v => exact .inl hm
    | io =>
      exfalso
      obtain ⟨d2, hd2⟩ := dat h3
      obtain ⟨s2, rfl, hs2⟩ := at_ j _ p2 d2 hm hp2 hd2
      have ns : s ≠ s2 := fun z => n (ioSlots_inj nd h1 hp hm (z ▸ hp2))
      exact E.sep s s2 a ns ms_ (getM_mt hs2) rs (rel j _ _ hp2 h3)
    | br =>
      refine .inr ⟨hm, fun d2 hd2 => ?_⟩
      have hg := at_ j _ p2 d2 hm hp2 hd2
      cases p2 with
      | val d' => cases hg; exact rel j _ _ hp2 h3
      | slot s2 =>
        have ns : s ≠ s2 := fun z => by
          have hi := ioSlots_mem h1 hp
          have hb := brSlots_mem hm hp2
          have := List.all_eq_true.mp ap.2 s hi
          rw [z] at this
          rw [List.contains_iff_mem.mpr hb] at this
          cases this
        have hs2 : σ[s2]? = some (some (.ref a)) := rel j _ _ hp2 h3
        have hg : getS env[s2]? = some d2 := hg
        cases e : env[s2]? with
        | none => rw [e] at hg; cases hg
        | some y =>
          rw [e] at hg
          cases y with
          | no => cases hg
          | mx r => cases hg
          | fz d' =>
            cases hg
            obtain ⟨v, q1, q2⟩ := E.fz s2 d2 e
            rw [hs2] at q1; cases q1
            exact q2
          | ow d' => exact (E.sep s s2 a ns ms_ (.inl ⟨d', e⟩) rs hs2).elim
          | io d' => exact (E.sep s s2 a ns ms_ (.inr ⟨d', e⟩) rs hs2).elim
          | br d' =>
            cases hg
            obtain ⟨v, q1⟩ := E.br s2 d2 e
            obtain ⟨q2, _, q3⟩ := E.brS s2 v d2 q1
            rw [hs2] at q2; cases q2
            rcases q3 with q3 | ⟨b, q4, q5, q6, _⟩
            · exact q3
            · cases q4
              exact (q6 lk).elim
theorem after (E : EnvOk K C H O σ env) (ap : apart ms ps = true) (h : argDs env ms ps = some ds) (r : PRelL K H O σ ps vs) {fr : Bool} {res : D} {outs : List D} {v : V} (p : Post K H O ms vs fr res outs v H' O') :
    Step H O H' O' ∧ EnvOk K C H' O' σ (setOuts ms ps outs env) ∧ (∀ a, ¬ O a → O' a → H a = none → ¬ InMx H' σ (setOuts ms ps outs env) a ∧ ∀ i, Mt (setOuts ms ps outs env) i → σ[i]? ≠ some (some (.ref a))) := by
  obtain ⟨l1, l2, at_⟩ := argDs_at h
  obtain ⟨l3, rel⟩ := r.get
  have A := args_ok E ap h r
  have ap' := Bool.and_eq_true_iff.mp ap
  have nd := of_decide_eq_true ap'.1
  have ioO : ∀ a, IsIo ms vs a → O a := fun a ⟨i, h1, h2⟩ => by
    have := (List.getElem?_eq_some_iff.mp h1).1
    obtain ⟨b, e, q, _⟩ := A.io i (ds[i]'(by omega)) (.ref a) h1 (by simp [show i < ds.length by omega]) h2
    cases e; exact q
  have s : Step H O H' O' := ⟨fun b o n q => p.keep b o (fun z => n (ioO b z)) q, p.sub⟩
  -- a slot that is given to be changed
  have inn : ∀ {j : Nat}, j ∈ ioSlots ms ps → ∃ (i : Nat) (a : Addr) (d' : D), ms[i]? = some .io ∧ ps[i]? = some (.slot j) ∧ vs[i]? = some (.ref a) ∧ σ[j]? = some (some (.ref a)) ∧ Mt env j ∧ outs[i]? = some d' ∧ Own K H' O' d' a ∧ O a := fun {j} hj => by
    obtain ⟨i, h1, h2⟩ := ioSlots_of hj
    have hl := (List.getElem?_eq_some_iff.mp h1).1
    have hd : ds[i]? = some (ds[i]'(by omega)) := by simp [show i < ds.length by omega]
    have hv : vs[i]? = some (vs[i]'(by omega)) := by simp [show i < vs.length by omega]
    obtain ⟨j', e, hg⟩ := at_ i _ _ _ h1 h2 hd
    cases e
    obtain ⟨a, e, oa, _⟩ := A.io i _ _ h1 hd hv
    rw [e] at hv
    obtain ⟨d', h3, h4⟩ := p.io i a h1 hv
    exact ⟨i, a, d', h1, h2, hv, rel i _ _ h2 hv, getM_mt hg, h3, h4, oa⟩
  have noio : ∀ {j : Nat} {a : Addr}, j ∉ ioSlots ms ps → Mt env j → σ[j]? = some (some (.ref a)) → ¬ IsIo ms vs a := fun {j a} hj mj hs ⟨i, h1, h2⟩ => by
    have hl := (List.getElem?_eq_some_iff.mp h1).1
    have hp : ps[i]? = some (ps[i]'(by omega)) := by simp [show i < ps.length by omega]
    have hd : ds[i]? = some (ds[i]'(by omega)) := by simp [show i < ds.length by omega]
    obtain ⟨k, e, hg⟩ := at_ i _ _ _ h1 hp hd
    rw [e] at hp
    have nk : k ≠ j := fun z => hj (z ▸ ioSlots_mem h1 hp)
    exact E.sep k j a nk (getM_mt hg) mj (rel i _ _ hp h2) hs
  have kept : ∀ {a : Addr}, ¬ IsIo ms vs a → H a ≠ none → H' a = H a := fun {a} n ha => by
    cases q : H a with
    | none => exact (ha q).elim
    | some o => exact p.keep a o n q
  have lockio : ∀ {a : Addr}, IsIo ms vs a → C.lock a = none := fun {a} ⟨i, h1, h2⟩ => by
    have hl := (List.getElem?_eq_some_iff.mp h1).1
    have hp : ps[i]? = some (ps[i]'(by omega)) := by simp [show i < ps.length by omega]
    have hd : ds[i]? = some (ds[i]'(by omega)) := by simp [show i < ds.length by omega]
    obtain ⟨k, e, hg⟩ := at_ i _ _ _ h1 hp hd
    rw [e] at hp
    have hs : σ[k]? = some (some (.ref a)) := rel i _ _ hp h2
    rcases getM_mt hg with ⟨d, m⟩ | ⟨d, m⟩
    · obtain ⟨b, q, _, _, q3, _⟩ := E.ow k d m
      rw [hs] at q; cases q
      exact q3
    · obtain ⟨b, q, _⟩ := E.io k d m
      obtain ⟨q2, _, q3, _⟩ := E.ioS k b q
      rw [hs] at q2; cases q2
      exact q3
  have inOw : ∀ {j : Nat} {d : D}, j ∈ ioSlots ms ps → (setOuts ms ps outs env)[j]? = some (.ow d) → ∃ a d0, env[j]? = some (.ow d0) ∧ σ[j]? = some (some (.ref a)) ∧ Own K H' O' d a := fun {j d} hj e => by
    obtain ⟨i, a, d', h1, h2, h3, h4, h5, h6, h7, _⟩ := inn hj
    obtain ⟨q1, q2⟩ := setOuts_in (env := env) nd h1 h2 h6
    rcases h5 with ⟨d0, m⟩ | ⟨d0, m⟩
    · rw [q1 d0 m] at e; cases e
      exact ⟨a, d0, m, h4, h7⟩
    · rw [q2 d0 m] at e; cases e
  have inIo : ∀ {j : Nat} {d : D}, j ∈ ioSlots ms ps → (setOuts ms ps outs env)[j]? = some (.io d) → ∃ a d0, env[j]? = some (.io d0) ∧ σ[j]? = some (some (.ref a)) ∧ Own K H' O' d a := fun {j d} hj e => by
    obtain ⟨i, a, d', h1, h2, h3, h4, h5, h6, h7, _⟩ := inn hj
    obtain ⟨q1, q2⟩ := setOuts_in (env := env) nd h1 h2 h6
    rcases h5 with ⟨d0, m⟩ | ⟨d0, m⟩
    · rw [q1 d0 m] at e; cases e
    · rw [q2 d0 m] at e; cases e
      exact ⟨a, d0, m, h4, h7⟩
  have neither : ∀ {j : Nat} {x : Slot}, j ∈ ioSlots ms ps → (setOuts ms ps outs env)[j]? = some x → (∃ d, x = .ow d) ∨ ∃ d, x = .io d := fun {j x} hj e => by
    obtain ⟨i, a, d', h1, h2, h3, h4, h5, h6, h7, _⟩ := inn hj
    obtain ⟨q1, q2⟩ := setOuts_in (env := env) nd h1 h2 h6
    rcases h5 with ⟨d0, m⟩ | ⟨d0, m⟩
    · rw [q1 d0 m] at e; exact .inl ⟨d', (Option.some.inj e).symm⟩
    · rw [q2 d0 m] at e; exact .inr ⟨d', (Option.some.inj e).symm⟩
  have mt : ∀ {j : Nat}, Mt (setOuts ms ps outs env) j → Mt env j := fun {j} m => by
    by_cases hj : j ∈ ioSlots ms ps
    · obtain ⟨_, _, _, _, _, _, _, h5, _⟩ := inn hj
      exact h5
    · unfold Mt at m ⊢
      rw [setOuts_out hj] at m
      exact m
  have mxe : ∀ (j : Nat) (r : List (List Z.D)), (setOuts ms ps outs env)[j]? = some (.mx r) → env[j]? = some (.mx r) ∧ σ[j]? = σ[j]? := fun j r e => by
    by_cases hj : j ∈ ioSlots ms ps
    · rcases neither hj e with ⟨_, z⟩ | ⟨_, z⟩ <;> cases z
    · rw [setOuts_out hj] at e
      exact ⟨e, rfl⟩
  have mxb : ∀ b, InMx H σ env b → H' b = H b := fun b h => kept (fun ⟨i, h1, h2⟩ => by
    have hl := (List.getElem?_eq_some_iff.mp h1).1
    have hp : ps[i]? = some (ps[i]'(by omega)) := by simp [show i < ps.length by omega]
    have hd : ds[i]? = some (ds[i]'(by omega)) := by simp [show i < ds.length by omega]
    obtain ⟨k, e, hg⟩ := at_ i _ _ _ h1 hp hd
    rw [e] at hp
    exact (E.mx.own b h).2.2.2 k (getM_mt hg) (rel i _ _ hp h2)) (E.trk b (E.mx.own b h).1)
  refine ⟨s, ⟨by rw [setOuts_len]; exact E.len, fun a z => p.le a (E.o0 a z), p.trk, fun a o z => ?_, fun j d e => ?_, fun j d e => ?_, fun j d e => ?_, fun j a e => ?_, fun j d e => ?_, fun j w d e => ?_, fun j k a n mj mk => E.sep j k a n (mt mj) (mt mk), E.mx.move s mxe mxb fun b h => ⟨p.le b (E.mx.own b h).1, (E.mx.own b h).2.1, (E.mx.own b h).2.2.1, fun j m => (E.mx.own b h).2.2.2 j (mt m)⟩⟩, fun a n1 n2 n3 => ⟨fun h => (E.trk a (E.mx.own a (h.back E.mx mxe mxb)).1) n3, fun i m q => ?_⟩⟩
  · exact p.keep a o (fun q => by rw [lockio q] at z; cases z) (E.lock a o z)
  · by_cases hj : j ∈ ioSlots ms ps
    · rcases neither hj e with ⟨_, z⟩ | ⟨_, z⟩ <;> cases z
    · rw [setOuts_out hj] at e
      obtain ⟨w, q1, q2⟩ := E.fz j d e
      exact ⟨w, q1, q2.mono s⟩
  · by_cases hj : j ∈ ioSlots ms ps
    · obtain ⟨a, d0, m, h4, h7⟩ := inOw hj e
      obtain ⟨b, q1, q2, q3, q4, _⟩ := E.ow j d0 m
      rw [h4] at q1; cases q1
      exact ⟨a, h4, p.le a q2, q3, q4, h7⟩
    · rw [setOuts_out hj] at e
      obtain ⟨b, q1, q2, q3, q4, q5⟩ := E.ow j d e
      exact ⟨b, q1, p.le b q2, q3, q4, q5.mono s (kept (noio hj (.inl ⟨d, e⟩) q1) q5.some)⟩
  · by_cases hj : j ∈ ioSlots ms ps
    · obtain ⟨a, d0, m, h4, h7⟩ := inIo hj e
      obtain ⟨b, q1, _⟩ := E.io j d0 m
      obtain ⟨q2, _⟩ := E.ioS j b q1
      rw [h4] at q2; cases q2
      exact ⟨a, q1, h7⟩
    · rw [setOuts_out hj] at e
      obtain ⟨b, q1, q5⟩ := E.io j d e
      obtain ⟨q2, _⟩ := E.ioS j b q1
      exact ⟨b, q1, q5.mono s (kept (noio hj (.inr ⟨d, e⟩) q2) q5.some)⟩
  · obtain ⟨q1, q2, q3, d, q4⟩ := E.ioS j a e
    refine ⟨q1, p.le a q2, q3, ?_⟩
    by_cases hj : j ∈ ioSlots ms ps
    · obtain ⟨i, a', d', h1, h2, h3, h4, h5, h6, h7, _⟩ := inn hj
      exact ⟨d', (setOuts_in (env := env) nd h1 h2 h6).2 d q4⟩
    · exact ⟨d, by rw [setOuts_out hj]; exact q4⟩
  · by_cases hj : j ∈ ioSlots ms ps
    · rcases neither hj e with ⟨_, z⟩ | ⟨_, z⟩ <;> cases z
    · rw [setOuts_out hj] at e
      exact E.br j d e
  · obtain ⟨q1, q2, q3⟩ := E.brS j w d e
    have hj : j ∉ ioSlots ms ps := fun z => by
      obtain ⟨_, _, _, _, _, _, _, h5, _⟩ := inn z
      rcases h5 with ⟨d0, m⟩ | ⟨d0, m⟩ <;> (rw [q2] at m; cases m)
    refine ⟨q1, by rw [setOuts_out hj]; exact q2, ?_⟩
    rcases q3 with q3 | ⟨a, rfl, q4, q5, q6⟩
    · exact .inl (q3.mono s)
    · exact .inr ⟨a, rfl, p.le a q4, q5, q6.mono s (kept (fun z => q5 (lockio z)) q6.some)⟩
  · rcases mt m with ⟨d, m⟩ | ⟨d, m⟩
    · obtain ⟨b, q1, _, _, _, q5⟩ := E.ow i d m
      rw [q] at q1; cases q1
      exact q5.some n3
    · obtain ⟨b, q1, q5⟩ := E.io i d m
      obtain ⟨q2, _⟩ := E.ioS i b q1
      rw [q] at q2; cases q2
      exact q5.some n3
end

section
variable {X : Cx} {k : Nat} {x : Str} {ms : List Mode} {F : List D → Option (D × List D)} {e : Expr} {es : List Expr} {as : SA} {n pos : Pos}
theorem call_read {K : PySem.W.Frag} {σ : L2.St} {H : Hp} {Q : VK} (h : rdE K (eCall ms F as) σ H Q) : tCall (spD K ms false F) [] E0 (rdA K as) σ H Q := by
  obtain ⟨C, O, env, E, z, e, k⟩ := h
  obtain ⟨r, e1, e2⟩ := bindS e
  split at e2
  · rename_i ap
    obtain ⟨ds, e3, e4⟩ := bindS e2
    obtain ⟨y, e5, e6⟩ := bindS e4
    cases e6
    refine ⟨C, O, env, E, r, e1, fun vs H1 O1 s1 E1 p1 => ?_⟩
    show spD K ms false F (vs ++ []) H1 Q E0
    rw [List.append_nil]
    refine ⟨O1, ds, args_ok E1 ap e3 p1, E1.trk, y, e5, fun v H2 O2 p2 => ?_⟩
    obtain ⟨s2, E2, _⟩ := after E1 ap e3 p1 p2
    have rs := p2.res
    rw [if_neg Bool.false_ne_true] at rs
    exact k v H2 O2 (s1.trans s2) E2 rs.1
  · cases e2
theorem call_readN {K : PySem.W.Frag} {σ : L2.St} {H : Hp} {Q : VK} (h : rdF K (eCall ms F as) σ H Q) : tCall (spD K ms true F) [] E0 (rdA K as) σ H Q := by
  obtain ⟨C, O, env, E, z, e, k⟩ := h
  obtain ⟨r, e1, e2⟩ := bindS e
  split at e2
  · rename_i ap
    obtain ⟨ds, e3, e4⟩ := bindS e2
    obtain ⟨y, e5, e6⟩ := bindS e4
    cases e6
    refine ⟨C, O, env, E, r, e1, fun vs H1 O1 s1 E1 p1 => ?_⟩
    show spD K ms true F (vs ++ []) H1 Q E0
    rw [List.append_nil]
    refine ⟨O1, ds, args_ok E1 ap e3 p1, E1.trk, y, e5, fun v H2 O2 p2 => ?_⟩
    obtain ⟨s2, E2, sep⟩ := after E1 ap e3 p1 p2
    have rs := p2.res
    rw [if_pos rfl] at rs
    obtain ⟨a, rfl, h1, h2, h3, h4⟩ := rs
    refine k a H2 O2 (s1.trans s2) E2 ⟨h1, fun z => h2 (E1.o0 a z), ?_, h4, (sep a h2 h1 h3).2, (sep a h2 h1 h3).1⟩
    cases q : C.lock a with
    | none => rfl
    | some o => rw [E1.lock a o q] at h3; cases h3
  · cases e2
theorem de_call (G : DefOk X.prog X.w X.K X.mg X.base k x ms false F) (hr : Room k X.A) (hg : Gl X x) (ha : DA X (e :: es) as) (hdb : (x == ("__debug__" : Str)) = false)
    (he : starEach (e :: es) X.env = (false, eval e X.env) :: starEach es X.env) (hpl : (backTo pos (starEach es X.env)).any (·.1) = false) : DE X (.Call (.Name x n) (e :: es) [] pos) (eCall ms F as) := by
  obtain ⟨f, fd, ps, h1, h2, h3, h4⟩ := G.ex
  exact ⟨wkE (pe_call h1 hr hg h2 h3 h4 .nil pass0 ha.pa hdb he hpl) fun σ H Q h => call_read h⟩
theorem df_call (G : DefOk X.prog X.w X.K X.mg X.base k x ms true F) (hr : Room k X.A) (hg : Gl X x) (ha : DA X (e :: es) as) (hdb : (x == ("__debug__" : Str)) = false)
    (he : starEach (e :: es) X.env = (false, eval e X.env) :: starEach es X.env) (hpl : (backTo pos (starEach es X.env)).any (·.1) = false) : DF X (.Call (.Name x n) (e :: es) [] pos) (eCall ms F as) := by
  obtain ⟨f, fd, ps, h1, h2, h3, h4⟩ := G.ex
  exact ⟨wkE (pe_call h1 hr hg h2 h3 h4 .nil pass0 ha.pa hdb he hpl) fun σ H Q h => call_readN h⟩
theorem de_call0 (G : DefOk X.prog X.w X.K X.mg X.base k x ms false F) (hr : Room k X.A) (hg : Gl X x) (hdb : (x == ("__debug__" : Str)) = false) : DE X (.Call (.Name x n) [] [] pos) (eCall ms F aN) := by
  obtain ⟨f, fd, ps, h1, h2, h3, h4⟩ := G.ex
  refine ⟨wkE (pe_call0 h1 hr hg h2 h3 h4 .nil pass0 hdb) fun σ H Q h => ?_⟩
  obtain ⟨C, O, env, E, r, e, q⟩ := call_read h
  cases e
  exact q [] H O .refl E .nil
end
end Z

/-! The data layer, part I: built-in calls and methods. -/
namespace Z
open PySem PySem.Spec PyProof.Rows L2

def intsOf : List D → Option (List Int)
  | [] => some []
  | .int i :: ds => (intsOf ds).bind fun ns => some (i :: ns)
  | _ => none
def blsOf : List D → Option (List Bool)
  | [] => some []
  | .bl b :: ds => (blsOf ds).bind fun bs => some (b :: bs)
  | _ => none
def strsOf : List D → Option (List Str)
  | [] => some []
  | .str x :: ds => (strsOf ds).bind fun xs => some (x :: xs)
  | _ => none
@[simp] theorem intsOf_map : ∀ ns : List Int, intsOf (ns.map D.int) = some ns
  | [] => rfl
  | n :: r => by
    show (intsOf (r.map D.int)).bind _ = _
    rw [intsOf_map r]; rfl
@[simp] theorem blsOf_map : ∀ ns : List Bool, blsOf (ns.map D.bl) = some ns
  | [] => rfl
  | n :: r => by
    show (blsOf (r.map D.bl)).bind _ = _
    rw [blsOf_map r]; rfl
@[simp] theorem strsOf_map : ∀ ns : List Str, strsOf (ns.map D.str) = some ns
  | [] => rfl
  | n :: r => by
    show (strsOf (r.map D.str)).bind _ = _
    rw [strsOf_map r]; rfl
theorem intsOf_eq : ∀ {ds : List D} {ns : List Int}, intsOf ds = some ns → ds = ns.map D.int
  | [], _, h => by cases h; rfl
  | d :: ds, ns, h => by
    cases d <;> try (cases h; done)
    rename_i i
    obtain ⟨ms, e1, e2⟩ := bindS (show (intsOf ds).bind (fun ns => some (i :: ns)) = some ns from h)
    cases e2
    rw [intsOf_eq e1]; rfl
theorem blsOf_eq : ∀ {ds : List D} {ns : List Bool}, blsOf ds = some ns → ds = ns.map D.bl
  | [], _, h => by cases h; rfl
  | d :: ds, ns, h => by
    cases d <;> try (cases h; done)
    rename_i i
    obtain ⟨ms, e1, e2⟩ := bindS (show (blsOf ds).bind (fun ns => some (i :: ns)) = some ns from h)
    cases e2
    rw [blsOf_eq e1]; rfl
theorem strsOf_eq : ∀ {ds : List D} {ns : List Str}, strsOf ds = some ns → ds = ns.map D.str
  | [], _, h => by cases h; rfl
  | d :: ds, ns, h => by
    cases d <;> try (cases h; done)
    rename_i i
    obtain ⟨ms, e1, e2⟩ := bindS (show (strsOf ds).bind (fun ns => some (i :: ns)) = some ns from h)
    cases e2
    rw [strsOf_eq e1]; rfl
section
variable {K : PySem.W.Frag} {H : Hp} {O : Ad}
theorem RepL.intsV : ∀ {ns : List Int} {vs : List V}, RepL K H O (ns.map D.int) vs → vs = ns.map V.int
  | [], _, .nil => rfl
  | n :: r, _, .cons a t => by cases a; rw [RepL.intsV t]; rfl
theorem RepL.blsV : ∀ {ns : List Bool} {vs : List V}, RepL K H O (ns.map D.bl) vs → vs = ns.map V.bl
  | [], _, .nil => rfl
  | n :: r, _, .cons a t => by cases a; rw [RepL.blsV t]; rfl
theorem RepL.strsV : ∀ {ns : List Str} {vs : List V}, RepL K H O (ns.map D.str) vs → vs = ns.map V.str ∧ ∀ x ∈ ns, PyData.strOk x = true
  | [], _, .nil => ⟨rfl, fun _ h => nomatch h⟩
  | n :: r, _, .cons a t => by
    cases a with
    | str _ h =>
      obtain ⟨e, k⟩ := RepL.strsV t
      refine ⟨by rw [e]; rfl, fun x hx => ?_⟩
      rcases List.mem_cons.mp hx with rfl | hx
      · exact h
      · exact k x hx
theorem RepL.strs : ∀ {ns : List Str}, (∀ x ∈ ns, PyData.strOk x = true) → RepL K H O (ns.map D.str) (ns.map V.str)
  | [], _ => .nil
  | n :: r, h => .cons (.str n (h n List.mem_cons_self)) (RepL.strs fun x hx => h x (List.mem_cons_of_mem _ hx))
theorem PRepL.one {d : D} {vs : List V} (h : PRepL K H O [d] vs) : ∃ v, vs = [v] ∧ PRep K H O d v := by
  cases h with
  | cons r t => cases t; exact ⟨_, rfl, r⟩
theorem PRepL.two {d e : D} {vs : List V} (h : PRepL K H O [d, e] vs) : ∃ v w, vs = [v, w] ∧ PRep K H O d v ∧ PRep K H O e w := by
  cases h with
  | cons r t => cases t with | cons q t => cases t; exact ⟨_, _, rfl, r, q⟩
end
/-- what a list, a tuple, the script hold -/
def seqD : D → Option (List D)
  | .lst ds => some ds
  | .tup ds => some ds
  | .kt ds => some ds
  | .sc ns => some (ns.map D.int)
  | _ => none
theorem seq_ok {K : PySem.W.Frag} {H : Hp} {O : Ad} {d : D} {ds : List D} {v : V} (h : PRep K H O d v) (e : seqD d = some ds) : ∃ a vs, v = .ref a ∧ (SqL K H a vs ∨ SqT K H a vs) ∧ RepL K H O ds vs := by
  cases d <;> try (cases e; done)
  · cases e
    obtain ⟨a, vs, h1, h2, h3⟩ := h.tup
    exact ⟨a, vs, h1, .inr (.of h2), h3⟩
  · cases e
    obtain ⟨a, vs, h1, h2, h3⟩ := h.lst
    exact ⟨a, vs, h1, .inl (.of h2), h3⟩
  · cases e
    obtain ⟨a, h1, h2⟩ := h.sc
    exact ⟨a, _, h1, .inl h2, RepL.ints _⟩
  · cases e
    obtain ⟨a, vs, h1, h2, h3⟩ := h.kt
    exact ⟨a, vs, h1, .inr h2, h3⟩
def lstD : D → Option (List D)
  | .lst ds => some ds
  | .sc ns => some (ns.map D.int)
  | _ => none
theorem lst_ok {K : PySem.W.Frag} {H : Hp} {O : Ad} {d : D} {ds : List D} {v : V} (h : PRep K H O d v) (e : lstD d = some ds) : ∃ a vs, v = .ref a ∧ SqL K H a vs ∧ RepL K H O ds vs := by
  cases d <;> try (cases e; done)
  · cases e
    obtain ⟨a, vs, h1, h2, h3⟩ := h.lst
    exact ⟨a, vs, h1, .of h2, h3⟩
  · cases e
    obtain ⟨a, h1, h2⟩ := h.sc
    exact ⟨a, _, h1, h2, RepL.ints _⟩

section
variable {X : Cx}
def gLen : List D → Option D
  | [.str x] => if x.length ≤ sizeLine then some (.int x.length) else none
  | [.dk kvs] => some (.int kvs.length)
  | [.dt kvs] => some (.int kvs.length)
  | [d] => (seqD d).bind fun ds => some (.int ds.length)
  | _ => none
/-- len of a dict, locked or not -/
theorem call_lenRd : CallR X (.builtin "len") (fun xs H Q => ∃ p kvs, xs = [V.ref p] ∧ Rd H p (.dK kvs) ∧ Q (.int kvs.length) H) := by
  intro pins s σ H xs us Q I r h
  obtain ⟨p, kvs, rfl, hp, q⟩ := h
  obtain ⟨u, rfl, ru⟩ := vals1 r
  cases ru
  exact d_len I hp fun tt s2 I2 => ⟨.int kvs.length, H, I2, ⟨tt, rfl⟩, q⟩
theorem cd_len : CallD X (.builtin "len") gLen := by
  refine ⟨_, CallR.or call_len_seq (CallR.or call_len_str (CallR.or call_lenRd call_len_dT)), fun H O xs us z Q t hx e k => ?_⟩
  cases xs with
  | nil => cases e
  | cons d ds =>
    cases ds with
    | cons _ _ => cases d <;> cases e
    | nil =>
      obtain ⟨v, rfl, r⟩ := hx.one
      have seq : (seqD d).bind (fun ds => some (D.int ds.length)) = some z → (∃ p ys, [v] = [.ref p] ∧ (SqL X.K H p ys ∨ SqT X.K H p ys) ∧ Q (.int ys.length) H) := fun e => by
        obtain ⟨ds, e1, e2⟩ := bindS e
        cases e2
        obtain ⟨a, vs, rfl, h1, h2⟩ := seq_ok r e1
        refine ⟨a, vs, rfl, h1, ?_⟩
        rw [← h2.length]
        exact k _ H (Same.refl H) (.int _)
      cases d <;> try (exact .inl (seq e))
      · rename_i x
        have e : (if x.length ≤ sizeLine then some (D.int x.length) else none) = some z := e
        split at e
        · cases e
          rw [r.str]
          exact .inr (.inl ⟨x, rfl, by assumption, k _ H (Same.refl H) (.int _)⟩)
        · cases e
      · cases e
        obtain ⟨a, es, rfl, h1, h2⟩ := r.dkR
        refine .inr (.inr (.inl ⟨a, es, rfl, h1, ?_⟩))
        rw [← h2.length]
        exact k _ H (Same.refl H) (.int _)
      · cases e
        obtain ⟨a, es, rfl, h1, h2⟩ := r.dtR
        refine .inr (.inr (.inr ⟨a, es, rfl, h1, ?_⟩))
        rw [← h2.length]
        exact k _ H (Same.refl H) (.int _)
def gInt : List D → Option D
  | [.int i] => some (.int i)
  | [.bl b] => some (.int (if b then 1 else 0))
  | [.str x] => if x.length ≤ 640 then (PySem.intText? x).bind fun n => some (.int n) else none
  | _ => none
theorem cd_int : CallD X (.type "int") gInt := by
  refine ⟨_, CallR.or call_int1 call_int_str, fun H O xs us z Q t hx e k => ?_⟩
  cases xs with
  | nil => cases e
  | cons d ds =>
    cases ds with
    | cons _ _ => cases d <;> cases e
    | nil =>
      obtain ⟨v, rfl, r⟩ := hx.one
      cases d <;> try (cases e; done)
      · rw [r.bl]
        cases e
        exact .inl (.inr ⟨_, rfl, k _ H (Same.refl H) (.int _)⟩)
      · rw [r.int]
        cases e
        exact .inl (.inl ⟨_, rfl, k _ H (Same.refl H) (.int _)⟩)
      · rename_i x
        have e : (if x.length ≤ 640 then (PySem.intText? x).bind fun n => some (D.int n) else none) = some z := e
        split at e
        · rename_i hl
          obtain ⟨n, e1, e2⟩ := bindS e
          cases e2
          rw [r.str]
          exact .inr ⟨x, n, rfl, e1, hl, k _ H (Same.refl H) (.int _)⟩
        · cases e
/-- list(x): a new list -/
def gList : List D → Option D
  | [d] => (seqD d).bind fun ds => some (.lst ds)
  | _ => none
theorem cn_list : CallN X (.type "list") gList := by
  refine ⟨_, call_list_of, fun H O xs us z Q t hx e k => ?_⟩
  cases xs with
  | nil => cases e
  | cons d ds =>
    cases ds with
    | cons _ _ => cases e
    | nil =>
      obtain ⟨v, rfl, r⟩ := hx.one
      obtain ⟨ds, e1, e2⟩ := bindS (show (seqD d).bind (fun ds => some (D.lst ds)) = some z from e)
      cases e2
      obtain ⟨a, vs, rfl, h1, h2⟩ := seq_ok r e1
      exact ⟨a, vs, rfl, h1, fun l n => k l _ n (own_lst h2)⟩
/-- tuple(x) -/
def gTuple : List D → Option D
  | [.tup ds] => some (.tup ds)
  | [.kt ds] => some (.kt ds)
  | [d] => (lstD d).bind fun ds => some (.tup ds)
  | _ => none
theorem cd_tuple : CallD X (.type "tuple") gTuple := by
  refine ⟨_, call_tuple_of, fun H O xs us z Q t hx e k => ?_⟩
  cases xs with
  | nil => cases e
  | cons d ds =>
    cases ds with
    | cons _ _ => cases d <;> cases e
    | nil =>
      obtain ⟨v, rfl, r⟩ := hx.one
      have lst : (lstD d).bind (fun ds => some (D.tup ds)) = some z → (∃ p ys, [v] = [.ref p] ∧ ((SqL X.K H p ys ∧ ∀ l, H l = none → Q (.ref l) (upd H l (.tup ys))) ∨ (SqT X.K H p ys ∧ Q (.ref p) H))) := fun e => by
        obtain ⟨ds, e1, e2⟩ := bindS e
        cases e2
        obtain ⟨a, vs, rfl, h1, h2⟩ := lst_ok r e1
        exact ⟨a, vs, rfl, .inl ⟨h1, fun l n => k _ _ (upd_ext n) (new_tup t n h2)⟩⟩
      cases d <;> try (exact lst e)
      · cases e
        have rr := r.tupR
        obtain ⟨a, vs, rfl, h1, h2⟩ := r.tup
        exact ⟨a, vs, rfl, .inr ⟨.of h1, k _ H (Same.refl H) rr⟩⟩
      · cases e
        rename_i ds'
        have rr : Rep X.K H O (.kt ds') v := by
          rcases r with r | ⟨a, rfl, ⟨r⟩⟩
          · exact r
          · cases r
        obtain ⟨a, vs, rfl, h1, h2⟩ := r.kt
        exact ⟨a, vs, rfl, .inr ⟨h1, k _ H (Same.refl H) rr⟩⟩
def gSum : List D → Option D
  | [d] => (lstD d).bind fun ds => (intsOf ds).bind fun ns => some (.int ns.sum)
  | _ => none
theorem cd_sum (hc : X.calm = true) : CallD X (.builtin "sum") gSum := by
  refine ⟨_, cr_sum hc, fun H O xs us z Q t hx e k => ?_⟩
  cases xs with
  | nil => cases e
  | cons d ds =>
    cases ds with
    | cons _ _ => cases e
    | nil =>
      obtain ⟨v, rfl, r⟩ := hx.one
      obtain ⟨ds, e1, e2⟩ := bindS (show (lstD d).bind (fun ds => (intsOf ds).bind fun ns => some (D.int ns.sum)) = some z from e)
      obtain ⟨ns, e3, e4⟩ := bindS e2
      cases e4
      obtain ⟨a, vs, rfl, h1, h2⟩ := lst_ok r e1
      rw [intsOf_eq e3] at h2
      rw [h2.intsV] at h1
      exact ⟨a, ns, rfl, h1, k _ H (Same.refl H) (.int _)⟩
def gAll : List D → Option D
  | [d] => (lstD d).bind fun ds => (blsOf ds).bind fun ns => some (.bl (ns.all id))
  | _ => none
theorem cd_all (hc : X.calm = true) : CallD X (.builtin "all") gAll := by
  refine ⟨_, cr_all hc, fun H O xs us z Q t hx e k => ?_⟩
  cases xs with
  | nil => cases e
  | cons d ds =>
    cases ds with
    | cons _ _ => cases e
    | nil =>
      obtain ⟨v, rfl, r⟩ := hx.one
      obtain ⟨ds, e1, e2⟩ := bindS (show (lstD d).bind (fun ds => (blsOf ds).bind fun ns => some (D.bl (ns.all id))) = some z from e)
      obtain ⟨ns, e3, e4⟩ := bindS e2
      cases e4
      obtain ⟨a, vs, rfl, h1, h2⟩ := lst_ok r e1
      rw [blsOf_eq e3] at h2
      rw [h2.blsV] at h1
      exact ⟨a, ns, rfl, h1, k _ H (Same.refl H) (.bl _)⟩
def gAny : List D → Option D
  | [d] => (lstD d).bind fun ds => (blsOf ds).bind fun ns => some (.bl (ns.any id))
  | _ => none
theorem cd_any (hc : X.calm = true) : CallD X (.builtin "any") gAny := by
  refine ⟨_, cr_any hc, fun H O xs us z Q t hx e k => ?_⟩
  cases xs with
  | nil => cases e
  | cons d ds =>
    cases ds with
    | cons _ _ => cases e
    | nil =>
      obtain ⟨v, rfl, r⟩ := hx.one
      obtain ⟨ds, e1, e2⟩ := bindS (show (lstD d).bind (fun ds => (blsOf ds).bind fun ns => some (D.bl (ns.any id))) = some z from e)
      obtain ⟨ns, e3, e4⟩ := bindS e2
      cases e4
      obtain ⟨a, vs, rfl, h1, h2⟩ := lst_ok r e1
      rw [blsOf_eq e3] at h2
      rw [h2.blsV] at h1
      exact ⟨a, ns, rfl, h1, k _ H (Same.refl H) (.bl _)⟩
def gMax : List D → Option D
  | [.int i, .int j] => some (.int (if j > i then j else i))
  | [d] => (lstD d).bind fun ds => (intsOf ds).bind fun ns => (ns.max?).bind fun m => some (.int m)
  | _ => none
theorem cd_max (hc : X.calm = true) : CallD X (.builtin "max") gMax := by
  refine ⟨_, CallR.or (cr_max hc) (call_max2 hc), fun H O xs us z Q t hx e k => ?_⟩
  cases xs with
  | nil => cases e
  | cons d ds =>
    cases ds with
    | cons d2 ds =>
      cases ds with
      | cons _ _ => cases d <;> cases d2 <;> cases e
      | nil =>
        obtain ⟨v, w, rfl, r, q⟩ := hx.two
        cases d <;> cases d2 <;> try (cases e; done)
        rw [r.int, q.int]
        cases e
        exact .inr ⟨_, _, rfl, k _ H (Same.refl H) (.int _)⟩
    | nil =>
      obtain ⟨v, rfl, r⟩ := hx.one
      obtain ⟨ds, e1, e2⟩ := bindS (show (lstD d).bind (fun ds => (intsOf ds).bind fun ns => (ns.max?).bind fun m => some (D.int m)) = some z by cases d <;> exact e)
      obtain ⟨ns, e3, e4⟩ := bindS e2
      obtain ⟨m, e5, e6⟩ := bindS e4
      cases e6
      obtain ⟨a, vs, rfl, h1, h2⟩ := lst_ok r e1
      rw [intsOf_eq e3] at h2
      rw [h2.intsV] at h1
      obtain ⟨q1, q2⟩ := List.max?_eq_some_iff.mp e5
      refine .inl ⟨a, ns, rfl, h1, List.length_pos_of_mem q1, fun m' h3 h4 => ?_⟩
      have : m' = m := Int.le_antisymm (q2 m' h3) (h4 m q1)
      rw [this]
      exact k _ H (Same.refl H) (.int _)
def gMin : List D → Option D
  | [.int i, .int j] => some (.int (if j < i then j else i))
  | [d] => (lstD d).bind fun ds => (intsOf ds).bind fun ns => (ns.min?).bind fun m => some (.int m)
  | _ => none
theorem cd_min (hc : X.calm = true) : CallD X (.builtin "min") gMin := by
  refine ⟨_, CallR.or (cr_min hc) (call_min2 hc), fun H O xs us z Q t hx e k => ?_⟩
  cases xs with
  | nil => cases e
  | cons d ds =>
    cases ds with
    | cons d2 ds =>
      cases ds with
      | cons _ _ => cases d <;> cases d2 <;> cases e
      | nil =>
        obtain ⟨v, w, rfl, r, q⟩ := hx.two
        cases d <;> cases d2 <;> try (cases e; done)
        rw [r.int, q.int]
        cases e
        exact .inr ⟨_, _, rfl, k _ H (Same.refl H) (.int _)⟩
    | nil =>
      obtain ⟨v, rfl, r⟩ := hx.one
      obtain ⟨ds, e1, e2⟩ := bindS (show (lstD d).bind (fun ds => (intsOf ds).bind fun ns => (ns.min?).bind fun m => some (D.int m)) = some z by cases d <;> exact e)
      obtain ⟨ns, e3, e4⟩ := bindS e2
      obtain ⟨m, e5, e6⟩ := bindS e4
      cases e6
      obtain ⟨a, vs, rfl, h1, h2⟩ := lst_ok r e1
      rw [intsOf_eq e3] at h2
      rw [h2.intsV] at h1
      obtain ⟨q1, q2⟩ := List.min?_eq_some_iff.mp e5
      refine .inl ⟨a, ns, rfl, h1, List.length_pos_of_mem q1, fun m' h3 h4 => ?_⟩
      have : m' = m := Int.le_antisymm (h4 m q1) (q2 m' h3)
      rw [this]
      exact k _ H (Same.refl H) (.int _)
def gAbs : List D → Option D
  | [.int i] => some (.int (if i < 0 then -i else i))
  | _ => none
theorem cd_abs : CallD X (.builtin "abs") gAbs := by
  refine ⟨_, call_abs, fun H O xs us z Q t hx e k => ?_⟩
  cases xs with
  | nil => cases e
  | cons d ds =>
    cases ds with
    | cons _ _ => cases d <;> cases e
    | nil =>
      obtain ⟨v, rfl, r⟩ := hx.one
      cases d <;> try (cases e; done)
      rw [r.int]
      cases e
      exact ⟨_, rfl, k _ H (Same.refl H) (.int _)⟩
/-- sorted(x) of ints, of texts -/
def sortI (ns : List Int) : List Int := ns.mergeSort fun a b => decide (a ≤ b)
def strLe (x y : Str) : Bool := !decide (y.cps.toList < x.cps.toList)
def sortS (xs : List Str) : List Str := xs.mergeSort strLe
def gSorted : List D → Option D
  | [d] => (lstD d).bind fun ds => match intsOf ds with
    | some ns => some (.lst ((sortI ns).map D.int))
    | none => (strsOf ds).bind fun xs => if xs.length < 64 then some (.lst ((sortS xs).map D.str)) else none
  | _ => none
theorem strLe_total (x y : Str) : (strLe x y || strLe y x) = true := by
  unfold strLe
  rw [Bool.or_eq_true]
  by_cases h : y.cps.toList < x.cps.toList
  · right
    rw [decide_eq_false (fun q => List.lt_irrefl _ (List.lt_trans h q))]; rfl
  · left
    rw [decide_eq_false h]; rfl
theorem strLe_iff {x y : Str} : strLe x y = true ↔ x.cps.toList ≤ y.cps.toList := by
  unfold strLe
  rw [Bool.not_eq_true', decide_eq_false_iff_not, List.not_lt]
theorem strLe_trans (x y z : Str) (h : strLe x y = true) (k : strLe y z = true) : strLe x z = true := by
  rw [strLe_iff] at *
  exact List.le_trans h k
theorem strLe_antisymm {x y : Str} (h : strLe x y = true) (k : strLe y x = true) : x = y := by
  rw [strLe_iff] at *
  have e := List.le_antisymm h k
  obtain ⟨a⟩ := x
  obtain ⟨b⟩ := y
  congr 1
  exact Array.toList_inj.mp e
theorem rising_pair : ∀ {xs : List Str} {p : Str}, PyProof.Rows.risingS p xs = true → (p :: xs).Pairwise fun a b => strLe a b = true
  | [], p, _ => by simp
  | x :: r, p, h => by
    have h : (!ltCps x.cps.toList p.cps.toList && PyProof.Rows.risingS x r) = true := h
    obtain ⟨h1, h2⟩ := Bool.and_eq_true_iff.mp h
    have ih := rising_pair h2
    have px : strLe p x = true := by
      unfold strLe
      rw [← ltCps_eq]; exact h1
    refine List.pairwise_cons.mpr ⟨fun y hy => ?_, ih⟩
    rcases List.mem_cons.mp hy with rfl | hy
    · exact px
    · exact strLe_trans _ _ _ px ((List.pairwise_cons.mp ih).1 y hy)
theorem sortedS_pair {xs : List Str} (h : PyProof.Rows.sortedS xs = true) : xs.Pairwise fun a b => strLe a b = true := by
  cases xs with
  | nil => exact .nil
  | cons x r => exact rising_pair h
theorem sortS_eq {xs ys : List Str} (p : ys.Perm xs) (s : ys.Pairwise fun a b => strLe a b = true) : ys = sortS xs :=
  List.Perm.eq_of_pairwise (le := fun a b => strLe a b = true) (fun a b _ _ h k => strLe_antisymm h k) s (List.pairwise_mergeSort strLe_trans strLe_total xs) (p.trans (List.mergeSort_perm xs strLe).symm)
theorem sortI_eq {xs ys : List Int} (p : ys.Perm xs) (s : ys.Pairwise (· ≤ ·)) : ys = sortI xs := by
  have h := List.pairwise_mergeSort (le := fun a b : Int => decide (a ≤ b)) (fun a b c h k => by simp at *; omega) (fun a b => by simp; omega) xs
  refine List.Perm.eq_of_pairwise (le := fun a b : Int => a ≤ b) (fun a b _ _ h k => Int.le_antisymm h k) s ?_ (p.trans (List.mergeSort_perm xs _).symm)
  exact h.imp fun {a b} q => by simpa using q
theorem cn_sorted : CallN X (.builtin "sorted") gSorted := by
  refine ⟨_, CallR.or cr_sortedI cr_sortedS, fun H O xs us z Q t hx e k => ?_⟩
  cases xs with
  | nil => cases e
  | cons d ds =>
    cases ds with
    | cons _ _ => cases e
    | nil =>
      obtain ⟨v, rfl, r⟩ := hx.one
      obtain ⟨ds, e1, e2⟩ := bindS (show (lstD d).bind (fun ds => match intsOf ds with
        | some ns => some (D.lst ((sortI ns).map D.int))
        | none => (strsOf ds).bind fun xs => if xs.length < 64 then some (D.lst ((sortS xs).map D.str)) else none) = some z from e)
      obtain ⟨a, vs, rfl, h1, h2⟩ := lst_ok r e1
      split at e2
      · rename_i ns hn
        cases e2
        rw [intsOf_eq hn] at h2
        rw [h2.intsV] at h1
        refine .inl ⟨a, ns, rfl, h1, fun ns' p q1 q2 q3 => ?_⟩
        rw [sortI_eq q1 q2]
        exact k p _ q3 (own_lst (O := O) (RepL.ints _))
      · obtain ⟨ss, e3, e4⟩ := bindS e2
        split at e4
        · rename_i hl
          cases e4
          rw [strsOf_eq e3] at h2
          obtain ⟨e5, e6⟩ := h2.strsV
          rw [e5] at h1
          refine .inr ⟨a, ss, rfl, h1, hl, fun ss' p q1 q2 q3 => ?_⟩
          rw [sortS_eq q1 (sortedS_pair q2)]
          refine k p _ q3 (own_lst (O := O) (RepL.strs fun x hx => e6 x ?_))
          exact (List.mergeSort_perm ss strLe).mem_iff.mp hx
        · cases e4

/-! ### isinstance -/
def isiD (n : String) : D → Option Bool
  | .int _ => some (n == "int")
  | .bl _ => some (n == "int" || n == "bool")
  | .str _ => some (n == "str")
  | .non => some false
  | .tup _ => some (n == "tuple")
  | .kt _ => some (n == "tuple")
  | .lst _ => some (n == "list")
  | _ => none

/-! ### sep.join(xs) -/
def gJoin (a : Str) : D → Option D := fun d => (seqD d).bind fun ds => (strsOf ds).bind fun xs => if (xs.map (·.length)).sum + xs.length * a.length ≤ 16777216 then some (.str (Str.join a xs)) else none
theorem strOk_join {a : Str} (ha : PyData.strOk a = true) : ∀ {xs : List Str}, (∀ x ∈ xs, PyData.strOk x = true) → PyData.strOk (Str.join a xs) = true
  | [], _ => show PyData.strOk Str.empty = true by decide +kernel
  | [x], h => h x List.mem_cons_self
  | x :: y :: r, h => strOk_append (strOk_append (h x List.mem_cons_self) ha) (strOk_join ha fun z hz => h z (List.mem_cons_of_mem _ hz))
theorem de_join {a : Str} {e : Expr} {q : SQ} {j : Nat} {apos pos cp : Pos} (ha : PyData.strOk a = true) (he : DQ X e q) (hs : starEach [e] X.env = [(false, eval e X.env)]) (hbase : attributeBase (.Constant (.str a) j cp) "join" X.env (eval (.Constant (.str a) j cp) X.env) = eval (.Constant (.str a) j cp) X.env) (hline : (apos.endLine == pos.line) = true) :
    DE X (.Call (.Attribute (.Constant (.str a) j cp) "join" apos) [e] [] pos) (eOp1 (gJoin a) q) := by
  refine ⟨wkE (pe_join pe_str he.pe hs hbase hline) fun σ H Q h => ?_⟩
  obtain ⟨C, O, env, E, z, e, k⟩ := h
  obtain ⟨r1, e1, e2⟩ := bindS e
  obtain ⟨x, e5, e6⟩ := bindS e2
  obtain ⟨z, e9, e10⟩ := bindS e6
  cases e10
  refine ⟨⟨a, rfl⟩, C, O, env, E, r1, e1, fun u H1 O1 s1 E1 p1 => ?_⟩
  obtain ⟨ds, e11, e12⟩ := bindS (show (seqD x).bind (fun ds => (strsOf ds).bind fun xs => if (xs.map (·.length)).sum + xs.length * a.length ≤ 16777216 then some (D.str (Str.join a xs)) else none) = some z from e9)
  obtain ⟨xs, e13, e14⟩ := bindS e12
  split at e14
  · rename_i hl
    cases e14
    obtain ⟨b, vs, rfl, h1, h2⟩ := seq_ok (E1.getP e5 p1) e11
    rw [strsOf_eq e13] at h2
    obtain ⟨e15, e16⟩ := h2.strsV
    rw [e15] at h1
    refine ⟨a, b, xs, rfl, rfl, h1, hl, ?_⟩
    rw [TL.join_eq]
    exact k _ H1 O1 s1 E1 (.str _ (strOk_join ha e16))
  · cases e14
end
end Z

/-! The data layer, part K: evaluation of data functions (equations that fire on a written frame). -/
namespace Z
open PySem PySem.Spec PyProof.Rows L2
section
variable {s : Slot} {e : Ev} {f g h : SE} {p q : SQ} {a : SA} {t u : SB} {x y : SS} {i j : Nat} {d : D}
theorem ev_eC : eC d (s :: e) = some (d, s :: e) := rfl
theorem ev_qV : qV f (s :: e) = (f (s :: e)).bind fun r => some (.val r.1, r.2) := rfl
theorem ev_qS : qS i (s :: e) = (getS (s :: e)[i]?).bind fun _ => some (.slot i, s :: e) := rfl
theorem ev_aN : aN (s :: e) = some ([], s :: e) := rfl
theorem ev_aC : aC p a (s :: e) = (p (s :: e)).bind fun r => (a r.2).bind fun s => some (r.1 :: s.1, s.2) := rfl
theorem ev_eVar : eVar i (s :: e) = match (s :: e)[i]? with
  | some (.fz d) => some (d, s :: e)
  | some (.ow d) => some (d, (s :: e).set i (.fz d))
  | _ => none := rfl
theorem ev_eOp1 {g : D → Option D} : eOp1 g p (s :: e) = (p (s :: e)).bind fun r => (getP r.2 r.1).bind fun d => (g d).bind fun z => some (z, r.2) := rfl
theorem ev_eOp2 {g : D → D → Option D} : eOp2 g p q (s :: e) = (p (s :: e)).bind fun r => (q r.2).bind fun s => (getP s.2 r.1).bind fun x => (getP s.2 s.1).bind fun y => (g x y).bind fun z => some (z, s.2) := rfl
theorem ev_eOps {g : List D → Option D} : eOps g a (s :: e) = (a (s :: e)).bind fun r => (getPs r.2 r.1).bind fun ds => (g ds).bind fun z => some (z, r.2) := rfl
theorem ev_bV : bV f (s :: e) = (f (s :: e)).bind fun r => (asB r.1).bind fun b => some (b, r.2) := rfl
theorem ev_bQ : bQ p (s :: e) = (p (s :: e)).bind fun r => (getP r.2 r.1).bind fun d => (truD d).bind fun b => some (b, r.2) := rfl
theorem ev_bNot : bNot t (s :: e) = (t (s :: e)).bind fun r => some (!r.1, r.2) := rfl
theorem ev_bAnd : bAnd t u (s :: e) = (t (s :: e)).bind fun r => if r.1 = true then u r.2 else some (false, r.2) := rfl
theorem ev_bOr : bOr t u (s :: e) = (t (s :: e)).bind fun r => if r.1 = true then some (true, r.2) else u r.2 := rfl
theorem ev_eIf : eIf t f g (s :: e) = (t (s :: e)).bind fun r => if r.1 = true then f r.2 else g r.2 := rfl
theorem ev_eB : eB t (s :: e) = (t (s :: e)).bind fun r => some (.bl r.1, r.2) := rfl
theorem ev_eAnd : eAnd f g (s :: e) = (f (s :: e)).bind fun r => (asB r.1).bind fun b => if b = true then g r.2 else some (.bl false, r.2) := rfl
theorem ev_eOr : eOr f g (s :: e) = (f (s :: e)).bind fun r => (asB r.1).bind fun b => if b = true then some (.bl true, r.2) else g r.2 := rfl
theorem ev_eNot : eNot f (s :: e) = (f (s :: e)).bind fun r => (asB r.1).bind fun b => some (.bl !b, r.2) := rfl
theorem ev_eTup : eTup a (s :: e) = (a (s :: e)).bind fun r => (vals r.1).bind fun ds => if ds.length ≤ sizeLine then some (.tup ds, r.2) else none := rfl
theorem ev_eLst : eLst a (s :: e) = (a (s :: e)).bind fun r => (vals r.1).bind fun ds => if ds.length ≤ sizeLine then some (.lst ds, r.2) else none := rfl
theorem ev_oN : oN (s :: e) = some (none, s :: e) := rfl
theorem ev_oS : oS f (s :: e) = (f (s :: e)).bind fun r => (asI r.1).bind fun i => some (some i, r.2) := rfl
theorem ev_eSl {l h : SO} : eSl p l h (s :: e) = (p (s :: e)).bind fun r => (l r.2).bind fun l => (h l.2).bind fun h => (getP h.2 r.1).bind fun d => (gSl d l.1 h.1).bind fun z => some (z, h.2) := rfl
theorem ev_sNil : sNil (s :: e) = some (.nx (s :: e)) := rfl
theorem ev_sSeq : sSeq x y (s :: e) = (x (s :: e)).bind fun o => andThen o y := rfl
theorem ev_sIf : sIf t x y (s :: e) = (t (s :: e)).bind fun r => if r.1 = true then x r.2 else y r.2 := rfl
theorem ev_sBreak : sBreak (s :: e) = some (.bk (s :: e)) := rfl
theorem ev_sCont : sCont (s :: e) = some (.ct (s :: e)) := rfl
theorem ev_sRet : sRet f (s :: e) = (f (s :: e)).bind fun r => some (.rt r.1 r.2) := rfl
theorem ev_sRetF : sRetF f (s :: e) = (f (s :: e)).bind fun r => some (.rn r.1 r.2) := rfl
theorem ev_sRetN : sRetN (s :: e) = some (.rt .non (s :: e)) := rfl
theorem ev_sRetO : sRetO i (s :: e) = match (s :: e)[i]? with
  | some (.ow d) => some (.rn d ((s :: e).set i .no))
  | _ => none := rfl
theorem ev_sExpr : sExpr f (s :: e) = (f (s :: e)).bind fun r => some (.nx r.2) := rfl
theorem ev_sSet : sSet i f (s :: e) = (f (s :: e)).bind fun r => (putFz r.2 i r.1).bind fun e => some (.nx e) := rfl
theorem ev_sSetN : sSetN i f (s :: e) = (f (s :: e)).bind fun r => (putOw r.2 i r.1).bind fun e => some (.nx e) := rfl
theorem ev_putFz : putFz (s :: e) i d = if free (s :: e) i = true then some ((s :: e).set i (.fz d)) else none := rfl
theorem ev_putOw : putOw (s :: e) i d = if free (s :: e) i = true then some ((s :: e).set i (.ow d)) else none := rfl
/-- may this slot be written -/
def fre : Slot → Bool
  | .no => true
  | .fz _ => true
  | .ow _ => true
  | _ => false
def freO : Option Slot → Bool
  | some x => fre x
  | none => false
theorem ev_free : free (s :: e) i = freO (s :: e)[i]? := by
  unfold free freO fre
  cases (s :: e)[i]? with
  | none => rfl
  | some x => cases x <;> rfl
theorem ev_freO {x : Slot} : freO (some x) = fre x := rfl
theorem ev_freH {x : Slot} (h : fre x = true) : freO (some x) = true := h
theorem ev_fre0 : fre .no = true := rfl
theorem ev_fre1 : fre (.fz d) = true := rfl
theorem ev_fre2 : fre (.ow d) = true := rfl
theorem ev_gName : Z.gName i d (s :: e) = putFz (s :: e) i d := rfl
theorem ev_gsNil : gsNil [] e = some e := rfl
theorem ev_gsCons {g : SG} {gs : SGs} {ds : List D} : gsCons g gs (d :: ds) e = (g d e).bind fun e => gs ds e := rfl
theorem ev_gTup {n : Nat} {gs : SGs} {ds : List D} : Z.gTup n gs (.tup ds) e = if ds.length = n then gs ds e else none := rfl
theorem ev_gTupK {n : Nat} {gs : SGs} {ds : List D} : Z.gTup n gs (.kt ds) e = if ds.length = n then gs ds e else none := rfl
theorem ev_gTupL {n : Nat} {gs : SGs} {ds : List D} : Z.gTup n gs (.lst ds) e = if ds.length = n then gs ds e else none := rfl
theorem ev_sAsg {g : SG} : sAsg f g (s :: e) = (f (s :: e)).bind fun r => (g r.1 r.2).bind fun e => some (.nx e) := rfl
theorem ev_sPar : sPar i j a (s :: e) = (a (s :: e)).bind fun r => (vals r.1).bind fun ds => match ds with
  | [d, e] => (putFz r.2 i d).bind fun e1 => (putFz e1 j e).bind fun e2 => some (.nx e2)
  | _ => none := rfl
theorem ev_getM : getM (s :: e) i = match (s :: e)[i]? with
  | some (.ow d) => some d
  | some (.io d) => some d
  | _ => none := rfl
theorem ev_setM : setM (s :: e) i d = match (s :: e)[i]? with
  | some (.ow _) => (s :: e).set i (.ow d)
  | some (.io _) => (s :: e).set i (.io d)
  | _ => (s :: e) := rfl
theorem ev_eMut {T : String} {g : D → List D → Option (D × D)} : eMut T i a g (s :: e) = (getM (s :: e) i).bind fun d0 => if tyD T d0 = true then (a (s :: e)).bind fun r => (vals r.1).bind fun ds => (getM r.2 i).bind fun d => (g d ds).bind fun z => some (z.1, setM r.2 i z.2) else none := rfl
theorem ev_sPut : sPut i f g (s :: e) = (g (s :: e)).bind fun r => (getM r.2 i).bind fun _ => (f r.2).bind fun r2 => (getM r2.2 i).bind fun d => (gSet d r2.1 r.1).bind fun d' => some (.nx (setM r2.2 i d')) := rfl
theorem ev_iV : iV f (s :: e) = (f (s :: e)).bind fun r => (itemsD r.1).bind fun ds => some (ds, none, r.2) := rfl
theorem ev_iS : iS i (s :: e) = match (s :: e)[i]? with
  | some (.fz d) => (itemsD d).bind fun ds => some (ds, none, s :: e)
  | some (.br d) => (itemsD d).bind fun ds => some (ds, none, s :: e)
  | some (.ow d) => (itemsD d).bind fun ds => some (ds, some i, s :: e)
  | some (.io d) => (itemsD d).bind fun ds => some (ds, some i, s :: e)
  | _ => none := rfl
theorem ev_iR1 : iR1 f (s :: e) = (f (s :: e)).bind fun r => (asI r.1).bind fun j => if -(2 ^ 62) ≤ j ∧ j < 2 ^ 62 then some ((List.range j.toNat).map fun (i : Nat) => .int (i : Int), none, r.2) else none := rfl
theorem ev_iR2 : iR2 f g (s :: e) = (f (s :: e)).bind fun r => (g r.2).bind fun s => (asI r.1).bind fun i => (asI s.1).bind fun j => if (-(2 ^ 62) ≤ i ∧ i < 2 ^ 62) ∧ -(2 ^ 62) ≤ j ∧ j < 2 ^ 62 then some ((List.range (j - i).toNat).map fun (n : Nat) => .int (i + (n : Int)), none, s.2) else none := rfl
theorem ev_sFor {it : SI} {g : SG} : sFor it g x (s :: e) = (it (s :: e)).bind fun r => (forL g x r.1 (lockE r.2.2 r.2.1)).bind fun o => some (unO r.2.2 r.2.1 o) := rfl
theorem ev_eComp {own : List Nat} {it : SI} {g : SG} : eComp own it g t f (s :: e) = (it (s :: e)).bind fun r => (compL own g t f r.1 [] (lockE r.2.2 r.2.1)).bind fun z => some (.lst z.1, unlockE r.2.2 z.2 r.2.1) := rfl
theorem ev_eCall {ms : List Mode} {F : List D → Option (D × List D)} : eCall ms F a (s :: e) = (a (s :: e)).bind fun r => if apart ms r.1 = true then (argDs r.2 ms r.1).bind fun ds => (F ds).bind fun z => some (z.1, setOuts ms r.1 z.2 r.2) else none := rfl
theorem ev_lock0 : lockE e none = e := rfl
theorem ev_lockS : lockE (s :: e) (some i) = match getM (s :: e) i with
    | some d => (s :: e).set i (.br d)
    | none => (s :: e) := rfl
theorem ev_unlock0 {e2 : Ev} : unlockE e e2 none = e2 := rfl
theorem ev_unlockS {e2 : Ev} : unlockE (s :: e) e2 (some i) = match (s :: e)[i]? with
    | some x => e2.set i x
    | none => e2 := rfl
theorem ev_unO_nx {li : Option Nat} {e0 : Ev} : unO e0 li (.nx e) = .nx (unlockE e0 e li) := rfl
theorem ev_unO_rt {li : Option Nat} {e0 : Ev} : unO e0 li (.rt d e) = .rt d (unlockE e0 e li) := rfl
theorem ev_unO_rn {li : Option Nat} {e0 : Ev} : unO e0 li (.rn d e) = .rn d (unlockE e0 e li) := rfl
theorem ev_and_nx : andThen (.nx e) x = x e := rfl
theorem ev_and_bk : andThen (.bk e) x = some (.bk e) := rfl
theorem ev_and_ct : andThen (.ct e) x = some (.ct e) := rfl
theorem ev_and_rt : andThen (.rt d e) x = some (.rt d e) := rfl
theorem ev_and_rn : andThen (.rn d e) x = some (.rn d e) := rfl
theorem bind_ite {α β : Type} {c : Prop} [Decidable c] {a b : Option α} {f : α → Option β} : (if c then a else b).bind f = if c then a.bind f else b.bind f := by
  split <;> rfl
theorem ev_eq_int {i j : Int} : gEq (.int i) (.int j) = some (.bl (i == j)) := rfl
theorem ev_ne_int {i j : Int} : gNe (.int i) (.int j) = some (.bl (!(i == j))) := rfl
theorem ev_eq_str {i j : Str} : gEq (.str i) (.str j) = some (.bl (i == j)) := rfl
theorem ev_ne_str {i j : Str} : gNe (.str i) (.str j) = some (.bl (!(i == j))) := rfl
theorem ev_fi1 {a : D} : gIs a .non = some (.bl a.isNon) := by cases a <;> rfl
theorem ev_fi2 {a : D} : gIsnt a .non = some (.bl (!a.isNon)) := by cases a <;> rfl
theorem ev_fi3 {a b : Bool} : gIs (.bl a) (.bl b) = some (.bl (a == b)) := rfl
theorem ev_fi4 {a b : Bool} : gIsnt (.bl a) (.bl b) = some (.bl (!(a == b))) := rfl
end

/-! ### conditions by omega -/
theorem sizeN {n : Nat} : n ≤ sizeLine ↔ n ≤ 16777216 := by rw [sizeLine_eq]
theorem sizeNl {n : Nat} : n < sizeLine ↔ n < 16777216 := by rw [sizeLine_eq]
theorem ev_mul_r {i j : Int} (h : -18446744073709551616 < j ∧ j < 18446744073709551616) : gMul (.int i) (.int j) = some (.int (i * j)) := if_pos (.inr ⟨by omega, by omega⟩)
theorem ev_mul_l {i j : Int} (h : -18446744073709551616 < i ∧ i < 18446744073709551616) : gMul (.int i) (.int j) = some (.int (i * j)) := if_pos (.inl ⟨by omega, by omega⟩)
theorem ev_mod {i j : Int} (h : 0 < j) : gMod (.int i) (.int j) = some (.int (i % j)) := if_pos h
theorem ev_div {i j : Int} (h : 0 < j ∧ j < 1073741824) : gDiv (.int i) (.int j) = some (.int (i / j)) := if_pos h
theorem ev_add_int {i j : Int} : gAdd (.int i) (.int j) = some (.int (i + j)) := rfl
theorem ev_sub_int {i j : Int} : Z.gSub (.int i) (.int j) = some (.int (i - j)) := rfl
theorem ev_neg_int {i : Int} : gNeg (.int i) = some (.int (-i)) := rfl
theorem ev_add_str {x y : Str} (h : x.length + y.length ≤ 16777216) : gAdd (.str x) (.str y) = some (.str (x ++ y)) := if_pos (sizeN.mpr h)
theorem ev_add_tup {x y : List D} (h : x.length + y.length ≤ 16777216) : gAdd (.tup x) (.tup y) = some (.tup (x ++ y)) := if_pos (sizeN.mpr h)
theorem ev_add_lst {x y : List D} (h : x.length + y.length ≤ 16777216) : gAdd (.lst x) (.lst y) = some (.lst (x ++ y)) := if_pos (sizeN.mpr h)
theorem ev_cat {x y : List D} (h : x.length + y.length ≤ 16777216) : gCat (.lst x) (.lst y) = some (.lst (x ++ y)) := if_pos (sizeN.mpr h)
theorem ev_lt_int {i j : Int} : gLt (.int i) (.int j) = some (.bl (decide (i < j))) := rfl
theorem ev_le_int {i j : Int} : gLe (.int i) (.int j) = some (.bl (decide (i ≤ j))) := rfl
theorem ev_gt_int {i j : Int} : gGt (.int i) (.int j) = some (.bl (decide (j < i))) := rfl
theorem ev_ge_int {i j : Int} : gGe (.int i) (.int j) = some (.bl (decide (j ≤ i))) := rfl
theorem ev_lt_str {x y : Str} : gLt (.str x) (.str y) = some (.bl (decide (x.cps.toList < y.cps.toList))) := rfl
theorem ev_len_str {x : Str} (h : x.length ≤ 16777216) : gLen [.str x] = some (.int x.length) := if_pos (sizeN.mpr h)
theorem ev_len_lst {ds : List D} : gLen [.lst ds] = some (.int ds.length) := rfl
theorem ev_len_tup {ds : List D} : gLen [.tup ds] = some (.int ds.length) := rfl
theorem ev_len_dk {kvs : List (Key × D)} : gLen [.dk kvs] = some (.int kvs.length) := rfl
theorem ev_int_int {i : Int} : gInt [.int i] = some (.int i) := rfl
theorem ev_list_lst {ds : List D} : gList [.lst ds] = some (.lst ds) := rfl
theorem ev_list_tup {ds : List D} : gList [.tup ds] = some (.lst ds) := rfl
theorem ev_tuple_lst {ds : List D} : gTuple [.lst ds] = some (.tup ds) := rfl
theorem ev_tuple_tup {ds : List D} : gTuple [.tup ds] = some (.tup ds) := rfl
theorem ev_append {ds : List D} {d : D} (h : ds.length < 16777216) : mAppend (.lst ds) [d] = some (.non, .lst (ds ++ [d])) := if_pos (sizeNl.mpr h)
theorem ev_append_int {xs : List Int} {i : Int} (h : xs.length < 16777216) : mAppend (.lst (xs.map D.int)) [.int i] = some (.non, .lst ((xs ++ [i]).map D.int)) := by
  rw [ev_append (by rw [List.length_map]; exact h), List.map_append]; rfl
theorem ev_reverse {ds : List D} : mReverse (.lst ds) [] = some (.non, .lst ds.reverse) := rfl
theorem ev_reverse_int {xs : List Int} : mReverse (.lst (xs.map D.int)) [] = some (.non, .lst (xs.reverse.map D.int)) := by
  rw [ev_reverse, List.map_reverse]
theorem ev_pop_snoc {xs : List Int} {i : Int} : mPop (.lst ((xs ++ [i]).map D.int)) [] = some (.int i, .lst (xs.map D.int)) := by
  show (((xs ++ [i]).map D.int)[((xs ++ [i]).map D.int).length - 1]?).bind (fun d => some (d, D.lst ((xs ++ [i]).map D.int).dropLast)) = _
  rw [List.map_append, List.map_singleton, List.dropLast_concat, List.length_append, List.length_singleton, Nat.add_sub_cancel, List.getElem?_append_right (Nat.le_refl _), Nat.sub_self]
  rfl
theorem atI_of {α : Type} {xs : List α} {i : Int} (h0 : 0 ≤ i) (h1 : i < xs.length) : atI xs i = xs[i.toNat]? := by
  unfold atI ixN
  rw [if_pos h0, if_pos h1]
  rfl
theorem ev_ix_ints {xs : List Int} {i : Int} (h : 0 ≤ i ∧ i < xs.length) : gIx (.lst (xs.map D.int)) (.int i) = some (.int (xs.getD i.toNat 0)) := by
  show atI (xs.map D.int) i = _
  rw [atI_of h.1 (by rw [List.length_map]; exact h.2), List.getElem?_map, List.getD_eq_getElem?_getD, List.getElem?_eq_getElem (by omega)]
  rfl
theorem ev_set_ints {xs : List Int} {i v : Int} (h : 0 ≤ i ∧ i < xs.length) : gSet (.lst (xs.map D.int)) (.int i) (.int v) = some (.lst ((xs.set i.toNat v).map D.int)) := by
  show (ixN (xs.map D.int).length i).bind (fun j => some (D.lst ((xs.map D.int).set j (.int v)))) = _
  unfold ixN
  rw [if_pos h.1, List.length_map, if_pos h.2, Option.bind_some, List.map_set]
theorem ev_pow {i j : Int} (h : CPow i j) : gPow (.int i) (.int j) = some (.int (i ^ j.toNat)) := if_pos h
theorem ev_tup_len {ds : List D} {env : Ev} : (if ds.length ≤ sizeLine then some (D.tup ds, env) else none) = if ds.length ≤ 16777216 then some (D.tup ds, env) else none := by
  rw [sizeLine_eq]
theorem ev_all {bs : List Bool} : gAll [.lst (bs.map D.bl)] = some (.bl (bs.all id)) := by
  show (blsOf (bs.map D.bl)).bind _ = _
  rw [blsOf_map]; rfl
theorem ev_any {bs : List Bool} : gAny [.lst (bs.map D.bl)] = some (.bl (bs.any id)) := by
  show (blsOf (bs.map D.bl)).bind _ = _
  rw [blsOf_map]; rfl
theorem ev_sum {bs : List Int} : gSum [.lst (bs.map D.int)] = some (.int bs.sum) := by
  show (intsOf (bs.map D.int)).bind _ = _
  rw [intsOf_map]; rfl
theorem ev_items_lst {ds : List D} : itemsD (.lst ds) = some ds := rfl
theorem ev_items_tup {ds : List D} : itemsD (.tup ds) = some ds := rfl
theorem ev_items_kt {ds : List D} : itemsD (.kt ds) = some ds := rfl
theorem ev_items_sc {ns : List Int} : itemsD (.sc ns) = some (ns.map D.int) := rfl
theorem ev_items_str {x : Str} : itemsD (.str x) = some (signs x) := rfl

/-! ### what an answer gives -/
def Gv {α : Type} (o : Option α) (Q : α → Prop) : Prop := ∃ r, o = some r ∧ Q r
theorem gv_some {α : Type} {r : α} {Q : α → Prop} (h : Q r) : Gv (some r) Q := ⟨r, rfl, h⟩
theorem gv_bind {α β : Type} {x : Option α} {k : α → Option β} {P : α → Prop} {Q : β → Prop} (h : Gv x P) (h2 : ∀ r, P r → Gv (k r) Q) : Gv (x.bind k) Q := by
  obtain ⟨r, h, p⟩ := h
  rw [h]
  exact h2 r p
theorem gv_mono {α : Type} {x : Option α} {P Q : α → Prop} (h : Gv x P) (h2 : ∀ r, P r → Q r) : Gv x Q := by
  obtain ⟨r, h, p⟩ := h
  exact ⟨r, h, h2 r p⟩
theorem gv_ite {α : Type} {c : Prop} [Decidable c] {x y : Option α} {Q : α → Prop} (h1 : c → Gv x Q) (h2 : ¬c → Gv y Q) : Gv (if c then x else y) Q := by
  split
  · exact h1 ‹_›
  · exact h2 ‹_›
theorem gv_eq {α : Type} {o : Option α} {a : α} (h : Gv o fun r => r = a) : o = some a := by
  obtain ⟨r, h, rfl⟩ := h
  exact h
theorem ev_gv {α : Type} {r : α} {Q : α → Prop} : Gv (some r) Q ↔ Q r := ⟨fun ⟨_, h, q⟩ => by cases h; exact q, gv_some⟩
/-- one turn of a comprehension -/
def oneC (own : List Nat) (g : SG) (t : SB) (f : SE) (d : D) (env : Ev) : Option (Option D × Ev) := if wipeOk env own = true then (g d (wipeE env own)).bind fun e1 => (t e1).bind fun r => if r.1 = true then (f r.2).bind fun z => some (some z.1, restore env z.2 own) else some (none, restore env r.2 own) else none
theorem compL_cons {own : List Nat} {g : SG} {t : SB} {f : SE} {d : D} {ds acc : List D} {env : Ev} (h : acc.length < 16777216) : compL own g t f (d :: ds) acc env = (oneC own g t f d env).bind fun r => compL own g t f ds (acc ++ r.1.toList) r.2 := by
  show (if wipeOk env own = true then (g d (wipeE env own)).bind _ else none) = _
  unfold oneC
  split
  · cases g d (wipeE env own) with
    | none => rfl
    | some e1 =>
      rw [Option.bind_some, Option.bind_some]
      cases t e1 with
      | none => rfl
      | some r =>
        rw [Option.bind_some, Option.bind_some]
        split
        · cases f r.2 with
          | none => rfl
          | some z =>
            rw [Option.bind_some, Option.bind_some, Option.bind_some, if_pos (by rw [sizeLine_eq]; exact h)]
            rfl
        · rw [Option.bind_some]
          show _ = compL own g t f ds (acc ++ []) _
          rw [List.append_nil]
  · rfl
theorem ev_oneC {own : List Nat} {g : SG} {t : SB} {f : SE} {d : D} {s : Slot} {env : Ev} : oneC own g t f d (s :: env) = if wipeOk (s :: env) own = true then (g d (wipeE (s :: env) own)).bind fun e1 => (t e1).bind fun r => if r.1 = true then (f r.2).bind fun z => some (some z.1, restore (s :: env) z.2 own) else some (none, restore (s :: env) r.2 own) else none := rfl
theorem compL_each {α : Type} {own : List Nat} {g : SG} {t : SB} {f : SE} {env : Ev} (enc : α → D) (φ : α → Option D) : ∀ (xs : List α) (acc : List D), acc.length + xs.length ≤ 16777216 →
    (∀ x ∈ xs, oneC own g t f (enc x) env = some (φ x, env)) → compL own g t f (xs.map enc) acc env = some (acc ++ xs.filterMap φ, env)
  | [], acc, _, _ => by rw [List.filterMap_nil, List.append_nil]; rfl
  | x :: xs, acc, hl, h => by
    rw [List.length_cons] at hl
    rw [List.map_cons, compL_cons (by omega), h x List.mem_cons_self, Option.bind_some, List.filterMap_cons]
    show compL own g t f (xs.map enc) (acc ++ (φ x).toList) env = _
    rw [compL_each enc φ xs _ (by have : (φ x).toList.length ≤ 1 := by cases φ x <;> simp
                                  rw [List.length_append]; omega) fun y hy => h y (List.mem_cons_of_mem _ hy)]
    cases φ x with
    | none => simp
    | some d => simp
theorem filterMap_some {α β : Type} (φ : α → β) (xs : List α) : xs.filterMap (fun x => some (φ x)) = xs.map φ := by
  induction xs with
  | nil => rfl
  | cons x xs ih => rw [List.filterMap_cons, ih]; rfl
theorem filterMap_if {α β : Type} (c : α → Bool) (φ : α → β) (xs : List α) : xs.filterMap (fun x => if c x = true then some (φ x) else none) = (xs.filter c).map φ := by
  induction xs with
  | nil => rfl
  | cons x xs ih =>
    rw [List.filterMap_cons, ih, List.filter_cons]
    split <;> rename_i h <;> cases hc : c x <;> simp_all
/-- .. every turn gives one, the frame stays -/
theorem comp_map {α : Type} {own : List Nat} {g : SG} {t : SB} {f : SE} {env : Ev} {xs : List α} (enc : α → D) (φ : α → D) (hl : xs.length ≤ 16777216) (h : ∀ x ∈ xs, oneC own g t f (enc x) env = some (some (φ x), env)) :
    compL own g t f (xs.map enc) [] env = some (xs.map φ, env) := by
  rw [compL_each enc (fun x => some (φ x)) xs [] (by rw [List.length_nil]; omega) h, filterMap_some]
  rfl
theorem comp_filter {α : Type} {own : List Nat} {g : SG} {t : SB} {f : SE} {env : Ev} {xs : List α} (enc : α → D) (c : α → Bool) (φ : α → D) (hl : xs.length ≤ 16777216) (h : ∀ x ∈ xs, oneC own g t f (enc x) env = some (if c x = true then some (φ x) else none, env)) :
    compL own g t f (xs.map enc) [] env = some ((xs.filter c).map φ, env) := by
  rw [compL_each enc (fun x => if c x = true then some (φ x) else none) xs [] (by rw [List.length_nil]; omega) h, filterMap_if]
  rfl
theorem gv_map {α β : Type} {own : List Nat} {g : SG} {t : SB} {f : SE} {env : Ev} {xs : List α} {k : List D × Ev → Option β} {Q : β → Prop} (enc : α → D) (φ : α → D) (hl : xs.length ≤ 16777216)
    (h : ∀ x ∈ xs, oneC own g t f (enc x) env = some (some (φ x), env)) (hk : Gv (k (xs.map φ, env)) Q) :
    Gv ((compL own g t f (xs.map enc) [] env).bind k) Q := by
  rw [comp_map enc φ hl h]
  exact hk
theorem gv_filter {α β : Type} {own : List Nat} {g : SG} {t : SB} {f : SE} {env : Ev} {xs : List α} {k : List D × Ev → Option β} {Q : β → Prop} (enc : α → D) (c : α → Bool) (φ : α → D) (hl : xs.length ≤ 16777216)
    (h : ∀ x ∈ xs, oneC own g t f (enc x) env = some (if c x = true then some (φ x) else none, env)) (hk : Gv (k ((xs.filter c).map φ, env)) Q) :
    Gv ((compL own g t f (xs.map enc) [] env).bind k) Q := by
  rw [comp_filter enc c φ hl h]
  exact hk
/-- a comprehension with something carried along -/
theorem gv_compI {α : Type} {own : List Nat} {g : SG} {t : SB} {f : SE} (enc : α → D) (J : Nat → List D → Ev → Prop) : ∀ (xs : List α) (k : Nat) (acc : List D) (env : Ev), acc.length + xs.length ≤ 16777216 → J k acc env →
    (∀ (i : Nat) (x : α) acc env, xs[i]? = some x → J (k + i) acc env → Gv (oneC own g t f (enc x) env) fun r => J (k + i + 1) (acc ++ r.1.toList) r.2) →
    Gv (compL own g t f (xs.map enc) acc env) fun r => J (k + xs.length) r.1 r.2
  | [], k, acc, env, _, h0, _ => ⟨(acc, env), rfl, h0⟩
  | x :: xs, k, acc, env, hl, h0, h => by
    rw [List.length_cons] at hl
    rw [List.map_cons, compL_cons (by omega), List.length_cons, show k + (xs.length + 1) = k + 1 + xs.length by omega]
    refine gv_bind (h 0 x acc env rfl h0) fun r hr => gv_compI enc J xs (k + 1) _ _ ?_ hr fun i y acc env hy hj => ?_
    · have : r.1.toList.length ≤ 1 := by cases r.1 <;> simp
      rw [List.length_append]; omega
    · have := h (i + 1) y acc env (by simpa using hy) (by rw [show k + (i + 1) = k + 1 + i by omega]; exact hj)
      rw [show k + (i + 1) + 1 = k + 1 + i + 1 by omega] at this
      exact this
theorem gv_comp {α β : Type} {own : List Nat} {g : SG} {t : SB} {f : SE} {env : Ev} {xs : List α} {k : List D × Ev → Option β} {Q : β → Prop} (enc : α → D) (J : Nat → List D → Ev → Prop) (hl : xs.length ≤ 16777216) (h0 : J 0 [] env)
    (h : ∀ (i : Nat) (x : α) acc env, xs[i]? = some x → J i acc env → Gv (oneC own g t f (enc x) env) fun r => J (i + 1) (acc ++ r.1.toList) r.2)
    (hk : ∀ acc env, J xs.length acc env → Gv (k (acc, env)) Q) : Gv ((compL own g t f (xs.map enc) [] env).bind k) Q :=
  gv_bind (gv_compI enc J xs 0 [] env (by rw [List.length_nil]; omega) h0 (by simpa using h)) fun r hr => hk r.1 r.2 (by rw [Nat.zero_add] at hr; exact hr)
theorem range_get {n i x : Nat} (h : (List.range n)[i]? = some x) : x = i ∧ i < n := by
  obtain ⟨h1, h2⟩ := List.getElem?_eq_some_iff.mp h
  rw [List.getElem_range] at h2
  rw [List.length_range] at h1
  exact ⟨h2.symm, h1⟩
/-- one turn of a for -/
def oneL (g : SG) (body : SS) (d : D) (env : Ev) : Option Out := (g d env).bind body
theorem ev_oneL {g : SG} {body : SS} {d : D} {s : Slot} {env : Ev} : oneL g body d (s :: env) = (g d (s :: env)).bind body := rfl
theorem forL_cons {g : SG} {body : SS} {d : D} {ds : List D} {env : Ev} : forL g body (d :: ds) env = (oneL g body d env).bind fun o => match o with
    | .nx e2 => forL g body ds e2
    | .ct e2 => forL g body ds e2
    | .bk e2 => some (.nx e2)
    | .rt d e2 => some (.rt d e2)
    | .rn d e2 => some (.rn d e2) := by
  show (g d env).bind _ = _
  unfold oneL
  cases g d env with
  | none => rfl
  | some e => rfl
/-- the turn goes on, to a frame with J -/
def Fwd (J : Ev → Prop) : Out → Prop
  | .nx e => J e
  | .ct e => J e
  | _ => False
/-- a for with an invariant: J k env behind k turns -/
theorem gv_forI {α : Type} {g : SG} {body : SS} (enc : α → D) (J : Nat → Ev → Prop) : ∀ (xs : List α) (k : Nat) (env : Ev), J k env →
    (∀ (i : Nat) (x : α) (env : Ev), xs[i]? = some x → J (k + i) env → Gv (oneL g body (enc x) env) (Fwd (J (k + i + 1)))) → Gv (forL g body (xs.map enc) env) fun o => ∃ e, o = .nx e ∧ J (k + xs.length) e
  | [], k, env, h0, _ => ⟨.nx env, rfl, env, rfl, h0⟩
  | x :: xs, k, env, h0, h => by
    rw [List.map_cons, forL_cons]
    refine gv_bind (h 0 x env rfl h0) fun o ho => ?_
    rw [List.length_cons, show k + (xs.length + 1) = k + 1 + xs.length by omega]
    have hh : ∀ (i : Nat) (y : α) (env : Ev), xs[i]? = some y → J (k + 1 + i) env → Gv (oneL g body (enc y) env) (Fwd (J (k + 1 + i + 1))) := fun i y env hy hj => by
      have := h (i + 1) y env (by simpa using hy) (by rw [show k + (i + 1) = k + 1 + i by omega]; exact hj)
      rw [show k + (i + 1) + 1 = k + 1 + i + 1 by omega] at this
      exact this
    cases o with
    | nx e => exact gv_forI enc J xs (k + 1) e ho hh
    | ct e => exact gv_forI enc J xs (k + 1) e ho hh
    | bk e => exact ho.elim
    | rt d e => exact ho.elim
    | rn d e => exact ho.elim
theorem gv_for {α β : Type} {g : SG} {body : SS} {env : Ev} {xs : List α} {k : Out → Option β} {Q : β → Prop} (enc : α → D) (J : Nat → Ev → Prop) (h0 : J 0 env)
    (h : ∀ (i : Nat) (x : α) (env : Ev), xs[i]? = some x → J i env → Gv (oneL g body (enc x) env) (Fwd (J (i + 1)))) (hk : ∀ env, J xs.length env → Gv (k (.nx env)) Q) :
    Gv ((forL g body (xs.map enc) env).bind k) Q :=
  gv_bind (gv_forI enc J xs 0 env h0 (by simpa using h)) fun o ho => by
    obtain ⟨e, rfl, he⟩ := ho
    rw [Nat.zero_add] at he
    exact hk e he
/-- .. that may end early: W says what an early end leaves -/
def FwdOr (J : Ev → Prop) (W : Out → Prop) : Out → Prop
  | .nx e => J e
  | .ct e => J e
  | .bk e => W (.nx e)
  | .rt d e => W (.rt d e)
  | .rn d e => W (.rn d e)
theorem gv_forWI {α : Type} {g : SG} {body : SS} (enc : α → D) (J : Nat → Ev → Prop) (W : Out → Prop) : ∀ (xs : List α) (k : Nat) (env : Ev), J k env →
    (∀ (i : Nat) (x : α) (env : Ev), xs[i]? = some x → J (k + i) env → Gv (oneL g body (enc x) env) (FwdOr (J (k + i + 1)) W)) → Gv (forL g body (xs.map enc) env) fun o => (∃ e, o = .nx e ∧ J (k + xs.length) e) ∨ W o
  | [], k, env, h0, _ => ⟨.nx env, rfl, .inl ⟨env, rfl, h0⟩⟩
  | x :: xs, k, env, h0, h => by
    rw [List.map_cons, forL_cons]
    refine gv_bind (h 0 x env rfl h0) fun o ho => ?_
    rw [List.length_cons, show k + (xs.length + 1) = k + 1 + xs.length by omega]
    have hh : ∀ (i : Nat) (y : α) (env : Ev), xs[i]? = some y → J (k + 1 + i) env → Gv (oneL g body (enc y) env) (FwdOr (J (k + 1 + i + 1)) W) := fun i y env hy hj => by
      have := h (i + 1) y env (by simpa using hy) (by rw [show k + (i + 1) = k + 1 + i by omega]; exact hj)
      rw [show k + (i + 1) + 1 = k + 1 + i + 1 by omega] at this
      exact this
    cases o with
    | nx e => exact gv_forWI enc J W xs (k + 1) e ho hh
    | ct e => exact gv_forWI enc J W xs (k + 1) e ho hh
    | bk e => exact gv_some (.inr ho)
    | rt d e => exact gv_some (.inr ho)
    | rn d e => exact gv_some (.inr ho)
theorem gv_forW {α β : Type} {g : SG} {body : SS} {env : Ev} {xs : List α} {k : Out → Option β} {Q : β → Prop} (enc : α → D) (J : Nat → Ev → Prop) (W : Out → Prop) (h0 : J 0 env)
    (h : ∀ (i : Nat) (x : α) (env : Ev), xs[i]? = some x → J i env → Gv (oneL g body (enc x) env) (FwdOr (J (i + 1)) W)) (hk : ∀ env, J xs.length env → Gv (k (.nx env)) Q) (hw : ∀ o, W o → Gv (k o) Q) :
    Gv ((forL g body (xs.map enc) env).bind k) Q :=
  gv_bind (gv_forWI enc J W xs 0 env h0 (by simpa using h)) fun o ho => by
    rcases ho with ⟨e, rfl, he⟩ | ho
    · rw [Nat.zero_add] at he
      exact hk e he
    · exact hw o ho
/-- .. each turn known: from the frame env b to env (nx b x) -/
theorem for_fold {α β : Type} {g : SG} {body : SS} (env : β → Ev) (enc : α → D) (nx : β → α → β) : ∀ (xs : List α) (b : β),
    (∀ b, ∀ x ∈ xs, oneL g body (enc x) (env b) = some (.nx (env (nx b x)))) → forL g body (xs.map enc) (env b) = some (.nx (env (xs.foldl nx b)))
  | [], b, _ => rfl
  | x :: xs, b, h => by
    rw [List.map_cons, forL_cons, h b x List.mem_cons_self, Option.bind_some, List.foldl_cons]
    exact for_fold env enc nx xs _ fun b y hy => h b y (List.mem_cons_of_mem _ hy)
theorem ev_fwd {J : Ev → Prop} {e : Ev} : Fwd J (.nx e) = J e := rfl
theorem ev_fwd2 {J : Ev → Prop} {e : Ev} : Fwd J (.ct e) = J e := rfl
theorem ev_fwdO {J : Ev → Prop} {W : Out → Prop} {e : Ev} : FwdOr J W (.nx e) = J e := rfl
theorem ev_fwdO2 {J : Ev → Prop} {W : Out → Prop} {e : Ev} : FwdOr J W (.ct e) = J e := rfl
theorem ev_fwdO3 {J : Ev → Prop} {W : Out → Prop} {e : Ev} : FwdOr J W (.bk e) = W (.nx e) := rfl
theorem ev_fwdO4 {J : Ev → Prop} {W : Out → Prop} {e : Ev} {d : D} : FwdOr J W (.rt d e) = W (.rt d e) := rfl
theorem ev_fwdO5 {J : Ev → Prop} {W : Out → Prop} {e : Ev} {d : D} : FwdOr J W (.rn d e) = W (.rn d e) := rfl
theorem ev_wipe0 {e : Ev} : wipeE e [] = e := rfl
theorem ev_wipe1 {e : Ev} {v : Nat} {vs : List Nat} : wipeE e (v :: vs) = (wipeE e vs).set v .no := rfl
theorem ev_res0 {e0 e : Ev} : restore e0 e [] = e := rfl
theorem ev_res1 {e0 e : Ev} {v : Nat} {vs : List Nat} : restore e0 e (v :: vs) = (restore e0 e vs).set v (e0.getD v .no) := rfl
theorem ev_wok0 {e : Ev} : wipeOk e [] = true := rfl
/-- may a comprehension's own name take this slot -/
def wipable : Option Slot → Bool
  | some .no => true
  | some (.fz _) => true
  | _ => false
theorem ev_wok1 {e : Ev} {v : Nat} {vs : List Nat} : wipeOk e (v :: vs) = (wipable e[v]? && wipeOk e vs) := by
  unfold wipeOk
  rw [List.all_cons]
  congr 1
theorem ev_wb0 : wipable (some .no) = true := rfl
theorem ev_wb1 {d : D} : wipable (some (.fz d)) = true := rfl
theorem wipable_of {s : Slot} (h : fre s = true) (h2 : ∀ d, s ≠ .ow d) : wipable (some s) = true := by
  cases s with
  | no => rfl
  | fz d => rfl
  | ow d => exact (h2 d rfl).elim
  | io d => cases h
  | br d => cases h
  | mx r => cases h

theorem ev_size {α : Type} {n : Nat} {a b : α} (h : n ≤ 16777216) : (if n ≤ sizeLine then a else b) = a := if_pos (sizeN.mpr h)
theorem ev_sizel {α : Type} {n : Nat} {a b : α} (h : n < 16777216) : (if n < sizeLine then a else b) = a := if_pos (sizeNl.mpr h)
theorem ev_rng {α : Type} {j : Int} {a b : α} (h : -4611686018427387904 ≤ j ∧ j < 4611686018427387904) : (if -(2 ^ 62) ≤ j ∧ j < 2 ^ 62 then a else b) = a := if_pos (by omega)
theorem ev_rng2 {α : Type} {i j : Int} {a b : α} (h : (-4611686018427387904 ≤ i ∧ i < 4611686018427387904) ∧ -4611686018427387904 ≤ j ∧ j < 4611686018427387904) : (if (-(2 ^ 62) ≤ i ∧ i < 2 ^ 62) ∧ -(2 ^ 62) ≤ j ∧ j < 2 ^ 62 then a else b) = a := if_pos (by omega)

theorem gv_iteb {α β : Type} {c : Prop} [Decidable c] {x y : Option α} {k : α → Option β} {Q : β → Prop} (h1 : c → Gv (x.bind k) Q) (h2 : ¬c → Gv (y.bind k) Q) : Gv ((if c then x else y).bind k) Q := by
  split
  · exact h1 ‹_›
  · exact h2 ‹_›
theorem ev_p18 : gPow (.int 10) (.int 18) = some (.int 1000000000000000000) := rfl
theorem ev_p15 : gPow (.int 10) (.int 15) = some (.int 1000000000000000) := rfl
theorem ev_p20 : gPow (.int 10) (.int 20) = some (.int 100000000000000000000) := rfl
theorem ev_p40 : gPow (.int 10) (.int 40) = some (.int 10000000000000000000000000000000000000000) := rfl
end Z

/-! The data layer, part L: texts as lists, membership, equality of plain data. -/
namespace Z
open PySem PySem.Spec PyProof.Rows L2
/-- a text from its signs -/
def S (l : List Nat) : Str := ⟨l.toArray⟩
theorem S_cps (l : List Nat) : (S l).cps.toList = l := rfl
theorem S_eta (x : Str) : S x.cps.toList = x := rfl
theorem S_len (l : List Nat) : (S l).length = l.length := by show l.toArray.size = _; rw [List.size_toArray]
theorem len_cps (x : Str) : x.cps.toList.length = x.length := by show _ = x.cps.size; rw [Array.length_toList]
theorem S_app (l m : List Nat) : S l ++ S m = S (l ++ m) := by
  show (⟨l.toArray ++ m.toArray⟩ : Str) = ⟨(l ++ m).toArray⟩
  rw [List.append_toArray]
theorem cps_app (x y : Str) : (x ++ y).cps.toList = x.cps.toList ++ y.cps.toList := by
  show (x.cps ++ y.cps).toList = _
  rw [Array.toList_append]
theorem S_inj {l m : List Nat} : S l = S m ↔ l = m := ⟨fun h => by have := congrArg (fun x => x.cps.toList) h; exact this, fun h => by rw [h]⟩
theorem S_beq {l m : List Nat} : (S l == S m) = (l == m) := by
  rw [Bool.eq_iff_iff, beq_iff_eq, beq_iff_eq, S_inj]
theorem S_lit (s : String) : Str.ofString s = S (s.toList.map Char.toNat) := Str.ofString_eq_toList s
theorem strRep_S (l : List Nat) (n : Nat) : strRep (S l) n = S (List.replicate n l).flatten := rfl
theorem str_len_app (x y : Str) : (x ++ y).length = x.length + y.length := by
  rw [← len_cps, cps_app, List.length_append, len_cps, len_cps]
theorem join0 (xs : List Str) : Str.join (S []) xs = S (xs.map fun x => x.cps.toList).flatten := by
  induction xs with
  | nil => rfl
  | cons x xs ih =>
    cases xs with
    | nil =>
      show x = _
      rw [List.map_cons, List.map_nil, List.flatten_cons, List.flatten_nil, List.append_nil]
      rfl
    | cons y ys =>
      show x ++ S [] ++ Str.join (S []) (y :: ys) = _
      rw [ih]
      conv => lhs; rw [← S_eta x]
      rw [S_app, S_app, List.append_nil]
      rfl
/-- the texts of one sign each -/
theorem ev_join0 {cs : List Nat} (h : cs.length ≤ 16777216) : gJoin (S []) (.lst (cs.map fun c => D.str (S [c]))) = some (.str (S cs)) := by
  have e : strsOf (cs.map fun c => D.str (S [c])) = some (cs.map fun c => S [c]) := by
    clear h
    induction cs with
    | nil => rfl
    | cons c cs ih =>
      show (strsOf (cs.map fun c => D.str (S [c]))).bind _ = _
      rw [ih]; rfl
  show (strsOf _).bind _ = _
  rw [e, Option.bind_some]
  have l0 : (S []).length = 0 := rfl
  have l1 : (((cs.map fun c => S [c]).map (·.length)).sum + (cs.map fun c => S [c]).length * (S []).length) = cs.length := by
    rw [l0, Nat.mul_zero, Nat.add_zero, List.map_map]
    clear h e
    induction cs with
    | nil => rfl
    | cons c cs ih =>
      rw [List.map_cons, List.sum_cons, ih, List.length_cons]
      show 1 + _ = _
      omega
  rw [l1, if_pos h, join0, List.map_map]
  congr 3
  clear h e l1
  induction cs with
  | nil => rfl
  | cons c cs ih =>
    rw [List.map_cons, List.flatten_cons, ih]
    rfl
theorem ev_ix_S {l : List Nat} {i : Int} (h : 0 ≤ i ∧ i < l.length ∧ l.length ≤ 16777216) : gIx (.str (S l)) (.int i) = some (.str (S [l.getD i.toNat 0])) := by
  show (if (S l).length ≤ sizeLine then (atI l i).bind fun c => some (D.str ⟨#[c]⟩) else none) = _
  rw [S_len, if_pos (sizeN.mpr h.2.2), atI_of h.1 h.2.1, List.getElem?_eq_getElem (by omega), Option.bind_some, List.getD_eq_getElem?_getD, List.getElem?_eq_getElem (by omega)]
  rfl
theorem ev_mul_S {l : List Nat} {n : Int} : gMul (.str (S l)) (.int n) = if 0 ≤ n ∧ l.length * n.toNat ≤ 1000000 ∧ n ≤ 1000000 ∧ l.length ≤ 1000000 then some (.str (S (List.replicate n.toNat l).flatten)) else none := by
  show (if _ then _ else _) = _
  rw [S_len]; rfl
theorem ev_len_S {l : List Nat} (h : l.length ≤ 16777216) : gLen [.str (S l)] = some (.int l.length) := by rw [ev_len_str (by rw [S_len]; exact h), S_len]
theorem ev_add_S {x y : List Nat} (h : x.length + y.length ≤ 16777216) : gAdd (.str (S x)) (.str (S y)) = some (.str (S (x ++ y))) := by rw [ev_add_str (by rw [S_len, S_len]; exact h), S_app]
theorem ev_eq_S {i j : List Nat} : gEq (.str (S i)) (.str (S j)) = some (.bl (decide (i = j))) := by
  rw [ev_eq_str, S_beq]
  congr 2
  rw [Bool.eq_iff_iff, beq_iff_eq, decide_eq_true_eq]
theorem ev_ne_S {i j : List Nat} : gNe (.str (S i)) (.str (S j)) = some (.bl (!decide (i = j))) := by
  rw [ev_ne_str, S_beq]
  congr 3
  rw [Bool.eq_iff_iff, beq_iff_eq, decide_eq_true_eq]
theorem okL_str {n : Nat} : ∀ ws : List Str, okL n (ws.map D.str) = true
  | [] => by unfold okL; rfl
  | w :: ws => by rw [List.map_cons]; unfold okL; rw [okL_str ws]; unfold ok; cases n <;> rfl
theorem pyL_any_str {x : Str} (ws : List Str) : ((pyL (ws.map D.str)).any fun z => PyData.eqv z (py (.str x))) = decide (x ∈ ws) := by
  rw [pyL_map]
  induction ws with
  | nil => rfl
  | cons w ws ih =>
    rw [List.map_cons, List.map_cons, List.any_cons, ih]
    have : PyData.eqv (py (.str w)) (py (.str x)) = (w == x) := by unfold py PyData.eqv; rfl
    rw [this, Bool.eq_iff_iff, Bool.or_eq_true, beq_iff_eq, decide_eq_true_eq, decide_eq_true_eq, List.mem_cons]
    exact or_congr_left eq_comm
theorem ev_in_str {x : Str} {ws : List Str} : gIn (.str x) (.lst (ws.map D.str)) = some (.bl (decide (x ∈ ws))) := by
  have h : ok 60 (.str x) = true ∧ ok 60 (.lst (ws.map D.str)) = true := ⟨by unfold ok; rfl, by unfold ok; exact okL_str ws⟩
  show (if ok 60 (.str x) = true ∧ ok 60 (.lst (ws.map D.str)) = true then some ((pyL (ws.map D.str)).any fun z => PyData.eqv z (py (.str x))) else none).bind _ = _
  rw [if_pos h, pyL_any_str]
  rfl
/-- one sign in a text -/
theorem ev_in_sign {c : Nat} {l : List Nat} : gIn (.str (S [c])) (.str (S l)) = some (.bl (decide (c ∈ l))) := rfl
theorem signs_S (l : List Nat) : signs (S l) = l.map fun c => .str (S [c]) := rfl
theorem ev_items_S {l : List Nat} : itemsD (.str (S l)) = some (l.map fun c => .str (S [c])) := rfl
/-- the greatest -/
def maxI (ns : List Int) : Int := ns.max?.getD 0
theorem maxI_mem {ns : List Int} (h : ns ≠ []) : maxI ns ∈ ns := by
  unfold maxI
  cases e : ns.max? with
  | none => exact (h (List.max?_eq_none_iff.mp e)).elim
  | some m => exact List.max?_mem e
theorem maxI_ge {ns : List Int} {x : Int} (h : x ∈ ns) : x ≤ maxI ns := by
  unfold maxI
  cases e : ns.max? with
  | none => rw [List.max?_eq_none_iff.mp e] at h; cases h
  | some m => exact (List.max?_eq_some_iff.mp e).2 x h
theorem ev_maxI {ns : List Int} (h : ns ≠ []) : gMax [.lst (ns.map D.int)] = some (.int (maxI ns)) := by
  show (intsOf (ns.map D.int)).bind _ = _
  rw [intsOf_map, Option.bind_some]
  unfold maxI
  cases e : ns.max? with
  | none => exact (h (List.max?_eq_none_iff.mp e)).elim
  | some m => rfl
theorem ev_append_str {xs : List Str} {i : Str} (h : xs.length < 16777216) : mAppend (.lst (xs.map D.str)) [.str i] = some (.non, .lst ((xs ++ [i]).map D.str)) := by
  rw [ev_append (by rw [List.length_map]; exact h), List.map_append]; rfl
theorem ev_ix_strs {xs : List Str} {i : Int} (h : 0 ≤ i ∧ i < xs.length) : gIx (.lst (xs.map D.str)) (.int i) = some (.str (xs.getD i.toNat (S []))) := by
  show atI (xs.map D.str) i = _
  rw [atI_of h.1 (by rw [List.length_map]; exact h.2), List.getElem?_map, List.getD_eq_getElem?_getD, List.getElem?_eq_getElem (by omega)]
  rfl

/-! slices from 0 or on, at places from 0 up -/
theorem sIx_nn {n d : Nat} {i : Int} (h : 0 ≤ i) : HT.sIx n d (some i) = min i.toNat n := by
  show (if i < 0 then _ else _) = _
  rw [if_neg (by omega)]
theorem cutL_to {α : Type} {xs : List α} {i : Int} (h : 0 ≤ i) : cutL xs none (some i) = xs.take i.toNat := by
  unfold cutL
  rw [HT.sIx_none, sIx_nn h, List.drop_zero, Nat.sub_zero]
  by_cases e : i.toNat ≤ xs.length
  · rw [Nat.min_eq_left e]
  · rw [Nat.min_eq_right (by omega), List.take_length, List.take_of_length_le (by omega)]
theorem cutL_from {α : Type} {xs : List α} {i : Int} (h : 0 ≤ i) : cutL xs (some i) none = xs.drop i.toNat := by
  unfold cutL
  rw [HT.sIx_none, sIx_nn h]
  by_cases e : i.toNat ≤ xs.length
  · rw [Nat.min_eq_left e, List.take_of_length_le (by rw [List.length_drop]; exact Nat.le_refl _)]
  · rw [Nat.min_eq_right (by omega), List.drop_length, List.take_nil, List.drop_eq_nil_of_le (by omega)]
theorem cutL_mid {α : Type} {xs : List α} {i j : Int} (h : 0 ≤ i ∧ i ≤ j ∧ j ≤ xs.length) : cutL xs (some i) (some j) = (xs.drop i.toNat).take (j - i).toNat := by
  unfold cutL
  rw [sIx_nn h.1, sIx_nn (by omega), Nat.min_eq_left (by omega), Nat.min_eq_left (by omega)]
  congr 1
  omega
theorem cutS_S {l : List Nat} {lo hi : Option Int} : cutS (S l) lo hi = S (cutL l lo hi) := by
  show (⟨((l.drop (HT.sIx (S l).length 0 lo)).take (HT.sIx (S l).length (S l).length hi - HT.sIx (S l).length 0 lo)).toArray⟩ : Str) = _
  rw [S_len]; rfl
theorem ev_sl_to_S {l : List Nat} {i : Int} (h : 0 ≤ i ∧ l.length ≤ 16777216) : gSl (.str (S l)) none (some i) = some (.str (S (l.take i.toNat))) := by
  show (if _ then _ else _) = _
  rw [S_len, if_pos (sizeN.mpr h.2), cutS_S, cutL_to h.1]
theorem ev_sl_from_S {l : List Nat} {i : Int} (h : 0 ≤ i ∧ l.length ≤ 16777216) : gSl (.str (S l)) (some i) none = some (.str (S (l.drop i.toNat))) := by
  show (if _ then _ else _) = _
  rw [S_len, if_pos (sizeN.mpr h.2), cutS_S, cutL_from h.1]
theorem ev_sl_to {xs : List D} {i : Int} (h : 0 ≤ i) : gSl (.lst xs) none (some i) = some (.lst (xs.take i.toNat)) := congrArg (fun x => some (D.lst x)) (cutL_to h)
theorem ev_sl_from {xs : List D} {i : Int} (h : 0 ≤ i) : gSl (.lst xs) (some i) none = some (.lst (xs.drop i.toNat)) := congrArg (fun x => some (D.lst x)) (cutL_from h)
theorem ev_slt_to {xs : List D} {i : Int} (h : 0 ≤ i) : gSl (.tup xs) none (some i) = some (.tup (xs.take i.toNat)) := congrArg (fun x => some (D.tup x)) (cutL_to h)
theorem ev_slt_from {xs : List D} {i : Int} (h : 0 ≤ i) : gSl (.tup xs) (some i) none = some (.tup (xs.drop i.toNat)) := congrArg (fun x => some (D.tup x)) (cutL_from h)

/-! the same with the condition written as an if -/
theorem ev_add_S2 {x y : List Nat} : gAdd (.str (S x)) (.str (S y)) = if x.length + y.length ≤ 16777216 then some (.str (S (x ++ y))) else none := by
  show (if (S x).length + (S y).length ≤ sizeLine then some (D.str (S x ++ S y)) else none) = _
  rw [S_len, S_len, S_app, sizeLine_eq]
theorem ev_add_str2 {x y : Str} : gAdd (.str x) (.str y) = if x.length + y.length ≤ 16777216 then some (.str (x ++ y)) else none := by
  show (if _ ≤ sizeLine then _ else none) = _
  rw [sizeLine_eq]
theorem ev_add_tup2 {x y : List D} : gAdd (.tup x) (.tup y) = if x.length + y.length ≤ 16777216 then some (.tup (x ++ y)) else none := by
  show (if _ ≤ sizeLine then _ else none) = _
  rw [sizeLine_eq]
theorem ev_add_lst2 {x y : List D} : gAdd (.lst x) (.lst y) = if x.length + y.length ≤ 16777216 then some (.lst (x ++ y)) else none := by
  show (if _ ≤ sizeLine then _ else none) = _
  rw [sizeLine_eq]
theorem ev_cat2 {x y : List D} : gCat (.lst x) (.lst y) = if x.length + y.length ≤ 16777216 then some (.lst (x ++ y)) else none := by
  show (if _ ≤ sizeLine then _ else none) = _
  rw [sizeLine_eq]
theorem ev_len_S2 {l : List Nat} : gLen [.str (S l)] = if l.length ≤ 16777216 then some (.int l.length) else none := by
  show (if (S l).length ≤ sizeLine then some (D.int (S l).length) else none) = _
  rw [S_len, sizeLine_eq]
theorem ev_append2 {ds : List D} {d : D} : mAppend (.lst ds) [d] = if ds.length < 16777216 then some (.non, .lst (ds ++ [d])) else none := by
  show (if _ < sizeLine then _ else none) = _
  rw [sizeLine_eq]
end Z

/-! The data layer, part M: isinstance, chains, more ranges, enumerate, zip, recursion. -/
namespace Z
open PySem PySem.Spec PyProof.Rows L2
/-! ### isinstance -/
/-- the name of a thing's type -/
def tyS : D → Option String
  | .non => some "NoneType"
  | .bl _ => some "bool"
  | .int _ => some "int"
  | .str _ => some "str"
  | .tup _ => some "tuple"
  | .kt _ => some "tuple"
  | .lst _ => some "list"
  | .dk _ => some "dict"
  | .dt _ => some "dict"
  | .sc _ => none
theorem PRep.tyx {K : PySem.W.Frag} {H : Hp} {O : Ad} {d : D} {v : V} {n : String} (h : PRep K H O d v) (e : tyS d = some n) : TyX K H v (.type n) := by
  rcases h with h | ⟨a, rfl, h⟩
  · cases h with
    | non => cases e; exact .base .non
    | bl b => cases e; exact .base (.bl b)
    | int i => cases e; exact .base (.int i)
    | str x _ => cases e; exact .base (.str x)
    | kt h _ =>
      cases e
      rcases h with ⟨h | ⟨o, its, n, h1, h2, _⟩, _⟩ | ⟨_, o, _, h⟩
      · exact (rd0 h).elim
      · exact .kTuple h1 h2
      · exact .fTuple h
    | tup _ h _ => cases e; exact .base (.tup h)
    | lst _ h _ => cases e; exact .base (.lst h)
    | sc _ => cases e
    | dk _ h _ _ => cases e; rcases h with h | ⟨_, h⟩; exact .base (.dK h); exact .fDict h
    | dt _ h _ _ => cases e; exact .base (.dT h)
  · cases h with
    | fdk h _ _ => cases e; exact .fDict h
    | own h => cases h with
    | lst h _ => cases e; exact .base (.lst h)
    | dk h _ _ => cases e; exact .base (.dK h)
    | dt h _ _ => cases e; exact .base (.dT h)
def isA (n : String) (d : D) : Option Bool := (tyS d).bind fun a => kitB a n
def gIsi (n : String) (d : D) : Option D := (isA n d).bind fun b => some (.bl b)
def isA2 (n m : String) (d : D) : Option Bool := (isA n d).bind fun b => if b = true then some true else isA m d
def gIsi2 (n m : String) (d : D) : Option D := (isA2 n m d).bind fun b => some (.bl b)
section
variable {X : Cx} {e : Expr} {q : SQ} {pos p p2 : Pos}
theorem de_isi {T : Str} {n : String} (hg : Gl X "isinstance") (hm : X.mg "isinstance" = none) (hgT : Gl X T) (hmT : X.mg T = none) (hv : bootBuiltins T = some (.type n)) (hn : T ≠ "__name__") (hd : (T == ("__debug__" : Str)) = false) (he : DQ X e q)
    (hs1 : starEach [e, .Name T p2] X.env = (false, eval e X.env) :: starEach [.Name T p2] X.env) (hs2 : starEach [.Name T p2] X.env = (false, eval (.Name T p2) X.env) :: starEach [] X.env) (hpl : (backTo pos (starEach [.Name T p2] X.env)).any (·.1) = false) :
    DE X (.Call (.Name "isinstance" p) [e, .Name T p2] [] pos) (eOp1 (gIsi n) q) := by
  refine ⟨wkE (pe_callB call_isi hg hm (by decide +kernel) (pa_cons he.pe (pa_cons (pe_bltn (v := .ty n) hgT hmT hv rfl hn hd) pa_nil hs2) hs1) (by decide) (by decide) hs1 hpl) fun σ H Q h => ?_⟩
  obtain ⟨C, O, env, E, z, e, k⟩ := h
  obtain ⟨r1, e1, e2⟩ := bindS e
  obtain ⟨d, e5, e6⟩ := bindS e2
  obtain ⟨z, e9, e10⟩ := bindS e6
  cases e10
  refine ⟨C, O, env, E, r1, e1, fun u H1 O1 s1 E1 p1 => ?_⟩
  have p2 := E1.getP e5 p1
  obtain ⟨b, f1, f2⟩ := bindS e9
  obtain ⟨a, g1, g2⟩ := bindS f1
  cases f2
  exact ⟨u, .ty n, .type a, .type n, b, rfl, .ty n, p2.tyx g1, kit_ty g2, k _ H1 O1 s1 E1 (.bl b)⟩
theorem de_isi2 {T U : Str} {n m : String} {p3 p4 : Pos} {j : Nat} (hg : Gl X "isinstance") (hm : X.mg "isinstance" = none) (hgT : Gl X T) (hmT : X.mg T = none) (hv : bootBuiltins T = some (.type n)) (hn : T ≠ "__name__") (hd : (T == ("__debug__" : Str)) = false)
    (hgU : Gl X U) (hmU : X.mg U = none) (hvU : bootBuiltins U = some (.type m)) (hnU : U ≠ "__name__") (hdU : (U == ("__debug__" : Str)) = false) (he : DQ X e q)
    (hs1 : starEach [e, .Tuple [.Name T p2, .Name U p3] j p4] X.env = (false, eval e X.env) :: starEach [.Tuple [.Name T p2, .Name U p3] j p4] X.env) (hs2 : starEach [.Tuple [.Name T p2, .Name U p3] j p4] X.env = (false, eval (.Tuple [.Name T p2, .Name U p3] j p4) X.env) :: starEach [] X.env)
    (hs3 : starEach [.Name T p2, .Name U p3] X.env = (false, eval (.Name T p2) X.env) :: starEach [.Name U p3] X.env) (hs4 : starEach [.Name U p3] X.env = (false, eval (.Name U p3) X.env) :: starEach [] X.env)
    (hpl : (backTo pos (starEach [.Tuple [.Name T p2, .Name U p3] j p4] X.env)).any (·.1) = false) :
    DE X (.Call (.Name "isinstance" p) [e, .Tuple [.Name T p2, .Name U p3] j p4] [] pos) (eOp1 (gIsi2 n m) q) := by
  refine ⟨wkE (pe_callB call_isiT hg hm (by decide +kernel) (pa_cons he.pe (pa_cons (pe_tup (pa_cons (pe_bltn (v := .ty n) hgT hmT hv rfl hn hd) (pa_cons (pe_bltn (v := .ty m) hgU hmU hvU rfl hnU hdU) pa_nil hs4) hs3)) pa_nil hs2) hs1) (by decide) (by decide) hs1 hpl) fun σ H Q h => ?_⟩
  obtain ⟨C, O, env, E, z, e, k⟩ := h
  obtain ⟨r1, e1, e2⟩ := bindS e
  obtain ⟨d, e5, e6⟩ := bindS e2
  obtain ⟨z, e9, e10⟩ := bindS e6
  cases e10
  refine ⟨C, O, env, E, r1, e1, fun u H1 O1 s1 E1 p1 => ?_⟩
  have p2 := E1.getP e5 p1
  refine ⟨by show 2 ≤ sizeLine; rw [sizeLine_eq]; omega, fun p hp => ?_⟩
  obtain ⟨b, f1, f2⟩ := bindS e9
  cases f2
  have ex : Ext H1 (upd H1 p (.tup [.ty n, .ty m])) := fun b o h => by
    unfold upd
    rw [if_neg (fun z => by rw [z, hp] at h; cases h)]
    exact h
  have p3 : PRep X.K (upd H1 p (.tup [.ty n, .ty m])) O1 d u := by
    rcases p2 with h | ⟨a, rfl, h⟩
    · exact .inl (h.mono (.ext ex))
    · refine .inr ⟨a, rfl, h.mono (.ext ex) ?_⟩
      cases g : H1 a with
      | none => exact (h.some g).elim
      | some o => exact ex a o g
  obtain ⟨b1, g1, g2⟩ := bindS f1
  obtain ⟨a, i1, i2⟩ := bindS g1
  refine ⟨u, p, [.ty n, .ty m], .type a, [.type n, .type m], b, rfl, ?_, .cons (.ty n) (.cons (.ty m) .nil), p3.tyx i1, ?_, k _ _ O1 (s1.trans (.ext ex)) (E1.ext ex) (.bl b)⟩
  · unfold upd
    rw [if_pos rfl]
  · cases b1 with
    | true =>
      rw [if_pos rfl] at g2
      cases g2
      exact kitAny_cons (kit_ty i2) (fun z => nomatch z) (fun _ => rfl)
    | false =>
      rw [if_neg Bool.false_ne_true] at g2
      obtain ⟨a2, j1, j2⟩ := bindS g2
      rw [i1] at j1
      cases j1
      refine kitAny_cons (kit_ty i2) (fun _ => kitAny_cons (kit_ty j2) (fun z => by rw [z]; exact kitAny_nil) (fun z => z)) (fun z => nomatch z)
end

/-! ### a def that calls itself -/
def fuel (B : (List D → Option (D × List D)) → SS) (fr : Bool) (ms : List Mode) (n : Nat) : Nat → List D → Option (D × List D)
  | 0 => fun _ => none
  | k + 1 => runDef fr ms n (B (fuel B fr ms n k))
section
variable {P : Program} {w : World} {K : PySem.W.Frag} {mg : Str → Option Value} {base : Heap}
theorem def_no {x qual : Str} {st : Stmt} {f : Addr} {fd : FuncData} {ps : List Str} {k : Nat} {ms : List Mode} {fr : Bool} (F : Fun K x qual st f fd) (hb : Binds K fd ps []) (hm : mg x = some (.ref f)) : DefOk P w K mg base k x ms fr (fun _ => none) := by
  exact
  ⟨f, fd, ps, ⟨fun vs H Q E h => (by obtain ⟨_, _, _, _, _, h, _⟩ := h; cases h), fun A outer s H args us vs Q E _ _ _ _ h => (by obtain ⟨_, _, _, _, _, h, _⟩ := h; cases h)⟩, hm, F.kp, hb⟩
theorem def_rec {x : Str} {ms : List Mode} {fr : Bool} {n L : Nat} {B : (List D → Option (D × List D)) → SS} (h0 : DefOk P w K mg base L x ms fr (fun _ => none))
    (step : ∀ {k : Nat}, L ≤ k → ∀ (R : List D → Option (D × List D)), DefOk P w K mg base k x ms fr R → DefOk P w K mg base (k + 1) x ms fr (runDef fr ms n (B R))) : ∀ m : Nat, DefOk P w K mg base (L + m) x ms fr (fuel B fr ms n m)
  | 0 => h0
  | m + 1 => step (Nat.le_add_right L m) _ (def_rec h0 step m)
end

/-! ### a op b op' c -/
def eChain (g1 g2 : D → D → Option D) (p q t : SQ) : SE := fun env => (p env).bind fun r => (q r.2).bind fun s => (getP s.2 r.1).bind fun x => (getP s.2 s.1).bind fun y => (g1 x y).bind fun z => (asB z).bind fun b => if b = true then (t s.2).bind fun u => (getP u.2 s.1).bind fun y2 => (getP u.2 u.1).bind fun c => (g2 y2 c).bind fun z2 => some (z2, u.2) else some (.bl false, s.2)
theorem chain2 {K : PySem.W.Frag} {g1 g2 : D → D → Option D} {p q t : SQ} {r r' : R2} {σ : L2.St} {H : Hp} {Q : VK} (h : rdE K (eChain g1 g2 p q t) σ H Q)
    (hr : ∀ (H : Hp) (O : Ad) (x y : D) (u v : V) (z : D) (Q : VK), (∀ a, O a → H a ≠ none) → PRep K H O x u → PRep K H O y v → g1 x y = some z → (∀ w H', Ext H H' → Rep K H' O z w → Q w H') → r u v H Q)
    (hr' : ∀ (H : Hp) (O : Ad) (x y : D) (u v : V) (z : D) (Q : VK), (∀ a, O a → H a ≠ none) → PRep K H O x u → PRep K H O y v → g2 x y = some z → (∀ w H', Ext H H' → Rep K H' O z w → Q w H') → r' u v H Q) : tChain r r' (rdQ K p) (rdQ K q) (rdQ K t) σ H Q := by
  obtain ⟨C, O, env, E, z, e, k⟩ := h
  obtain ⟨r1, e1, e2⟩ := bindS e
  obtain ⟨r2, e3, e4⟩ := bindS e2
  obtain ⟨x, e5, e6⟩ := bindS e4
  obtain ⟨y, e7, e8⟩ := bindS e6
  obtain ⟨zb, e9, e10⟩ := bindS e8
  obtain ⟨b, e11, e12⟩ := bindS e10
  refine ⟨C, O, env, E, r1, e1, fun u H1 O1 s1 E1 p1 => ⟨C, O1, _, E1, r2, e3, fun v H2 O2 s2 E2 p2 => ?_⟩⟩
  refine hr H2 O2 x y u v zb _ E2.trk (E2.getP e5 (p1.mono s2)) (E2.getP e7 p2) e9 fun w H3 ex rp => ?_
  have hz : zb = .bl b := by
    unfold asB at e11
    split at e11
    · cases e11; rfl
    · cases e11
  subst hz
  cases rp
  refine ⟨b, rfl, ?_⟩
  cases b with
  | false =>
    rw [if_neg Bool.false_ne_true] at e12 ⊢
    cases e12
    exact k _ H3 O2 (s1.trans (s2.trans (.ext ex))) (E2.ext ex) (.bl false)
  | true =>
    rw [if_pos rfl] at e12 ⊢
    obtain ⟨r3, f1, f2⟩ := bindS e12
    obtain ⟨y2, f3, f4⟩ := bindS f2
    obtain ⟨c, f5, f6⟩ := bindS f4
    obtain ⟨z2, f7, f8⟩ := bindS f6
    cases f8
    refine ⟨C, O2, _, E2.ext ex, r3, f1, fun w H4 O4 s4 E4 p4 => ?_⟩
    refine hr' H4 O4 y2 c v w z2 _ E4.trk (E4.getP f3 ((p2.mono (.ext ex)).mono s4)) (E4.getP f5 p4) f7 fun w5 H5 ex5 rp5 => ?_
    exact k w5 H5 O4 (s1.trans (s2.trans ((Step.ext ex).trans (s4.trans (.ext ex5))))) (E4.ext ex5) rp5
section
variable {X : Cx} {a b c : Expr} {p q t : SQ} {pos : Pos}
theorem de_chain {op op' : CmpOp} {g1 g2 : D → D → Option D} (ho : OpD X (compareOp op) g1) (ho' : OpD X (compareOp op') g2) (ha : DQ X a p) (hb : DQ X b q) (hc : DQ X c t) (hm : lastMarks [op, op'] [b, c] = false) : DE X (.Compare a [op, op'] [b, c] pos) (eChain g1 g2 p q t) := by
  obtain ⟨r, hR, hr⟩ := ho
  obtain ⟨r', hR', hr'⟩ := ho'
  exact ⟨wkE (pe_chain hR hR' ha.pe hb.pe hc.pe hm) fun σ H Q h => chain2 h hr hr'⟩
theorem dt_chain {op op' : CmpOp} {g1 g2 : D → D → Option D} (ho : OpD X (compareOp op) g1) (ho' : OpD X (compareOp op') g2) (ha : DQ X a p) (hb : DQ X b q) (hc : DQ X c t) (hm : lastMarks [op, op'] [b, c] = false) : DT X (.Compare a [op, op'] [b, c] pos) (bV (eChain g1 g2 p q t)) := by
  obtain ⟨r, hR, hr⟩ := ho
  obtain ⟨r', hR', hr'⟩ := ho'
  exact ⟨wkT (pt_chain hR hR' ha.pe hb.pe hc.pe hm) fun σ H Q h => chain2 (toB h) hr hr'⟩
end
end Z

/-! The data layer, part N: x[::-1]. -/
namespace Z
open PySem PySem.Spec PyProof.Rows L2 HT
section
variable {prog : Program} {w : World} {A : Around} {E : Value → Shared → Prop} {s : Shared}
theorem adjust_rev (n : Nat) : Builtin.Slice.sliceAdjust none none (-1) (n : Int) = ((n : Int) - 1, -1) := by
  unfold Builtin.Slice.sliceAdjust
  rfl
theorem places_rev (n : Nat) : Builtin.Slice.slicePlaces ((n : Int) - 1) (-1) (-1) = n := by
  unfold Builtin.Slice.slicePlaces
  have h1 : ¬ ((-1 : Int) > 0) := by omega
  simp only [h1, if_false]
  split
  · rw [show -(-1 : Int) = 1 by decide, Int.ediv_one]; omega
  · omega
theorem sliceApplied_rev {sl : Addr} {u : Tok} {n : Nat} {Q : Int × Int × Nat → Shared → Prop} (hs : s.heap.IsSliceOf sl .none .none (.int (-1) u))
    (h : Q ((n : Int) - 1, -1, n) s) : wpAny (model prog w) A (Builtin.Slice.sliceApplied (.ref sl) (pure (n : Int))) Q E s := by
  obtain ⟨os, hos, hcs, hds⟩ := id hs
  unfold Builtin.Slice.sliceApplied Builtin.Slice.sliceFields
  refine wpAny_bind (wpAny_bind (wpAny_field hos hds (x := .none) rfl (wpAny_bind (wpAny_field hos hds (x := .none) rfl (wpAny_bind (wpAny_field hos hds (x := .int (-1) u) rfl (wpAny_pure ?_)))))))
  refine wpAny_bind (slicePart_int ?_)
  show wpAny _ _ (if ((-1 : Int) == 0) = true then _ else _) _ _ s
  rw [if_neg (by decide)]
  refine wpAny_bind (slicePart_none (wpAny_bind (slicePart_none (wpAny_bind (wpAny_pure ?_)))))
  show wpAny _ _ (match Builtin.Slice.sliceAdjust none none (-1) (n : Int) with | (lo, hi) => pure (lo, (-1 : Int), Builtin.Slice.slicePlaces lo hi (-1))) _ _ s
  rw [adjust_rev n]
  show wpAny _ _ (pure ((n : Int) - 1, (-1 : Int), Builtin.Slice.slicePlaces ((n : Int) - 1) (-1) (-1))) _ _ s
  rw [places_rev]
  exact wpAny_pure h
theorem pick_rev (xs : Array Value) : ((List.range xs.size).filterMap fun (m : Nat) => xs[(((xs.size : Int) - 1) + (m : Int) * (-1)).toNat]?).toArray = xs.toList.reverse.toArray := by
  congr 1
  have e : ∀ m ∈ List.range xs.size, xs[(((xs.size : Int) - 1) + (m : Int) * (-1)).toNat]? = (fun m => some (xs.toList.reverse.getD m .none)) m := by
    intro m hm
    rw [List.mem_range] at hm
    have : (((xs.size : Int) - 1) + (m : Int) * (-1)).toNat = xs.size - 1 - m := by omega
    rw [this]
    show _ = some (xs.toList.reverse.getD m .none)
    rw [List.getD_eq_getElem?_getD, List.getElem?_reverse (by rw [Array.length_toList]; exact hm), Array.length_toList, Array.getElem?_toList, Array.getElem?_eq_getElem (by omega)]
    rfl
  have fc : ∀ {f g : Nat → Option Value} (l : List Nat), (∀ m ∈ l, f m = g m) → l.filterMap f = l.filterMap g := fun {f g} l h => by
    induction l with
    | nil => rfl
    | cons x l ih => rw [List.filterMap_cons, List.filterMap_cons, h x List.mem_cons_self, ih fun m hm => h m (List.mem_cons_of_mem _ hm)]
  rw [fc _ e, filterMap_some]
  refine List.ext_getElem (by simp) fun i h1 h2 => ?_
  rw [List.getElem_map, List.getElem_range, List.getD_eq_getElem?_getD, List.getElem?_eq_getElem h2]
  rfl
theorem getItem_tuple_rev {t sl : Addr} {u : Tok} {items : Array Value} {Q : Value → Shared → Prop} (ht : IsTup s.heap t items) (hs : s.heap.IsSliceOf sl .none .none (.int (-1) u))
    (h : Q (.ref s.heap.objs.size) { s with heap := s.heap.push { cls := .type "tuple", data := .seq items.toList.reverse.toArray } })
    (hsz : items.size ≤ sizeLine) : wpAny (model prog w) A (getItem (.ref t) (.ref sl)) Q E s := by
  have htake : sizeOk (.seq items.toList.reverse.toArray) := by
    show items.toList.reverse.toArray.size ≤ sizeLine
    rw [List.size_toArray, List.length_reverse, Array.length_toList]
    exact hsz
  obtain ⟨os, hos, hcs, hds⟩ := id hs
  have hTs : s.TypeIs (.ref sl) "slice" := ⟨os, hos, hcs⟩
  unfold getItem
  try with_reducible refine wpAny_holding ?_
  first | refine wpAny_bind (wpAny_pure ?_) | skip
  refine wpAny_bind (wpAny_sequenceKey ht.typeIs (by decide) ?_)
  refine wpAny_bind (wpAny_callSpecial?_slot (name := Str.ofString "__getitem__") ht.typeIs PyProof.Rows.slot_tuple_getitem
    (wpAny_call_entry PyProof.Rows.slot_tuple_getitem ht.typeIs entry_tuple_getitem ?_ (args_tuple_getitem _ _)))
  show wpAny _ _ (Builtin.Tuple.tupleItemsOf (.ref t) >>= _) _ _ s
  refine wpAny_bind (tupleItemsOf_ ht ?_)
  refine wpAny_bind (wpAny_typeOf hTs ?_)
  rw [if_pos (by decide)]
  refine wpAny_bind (sliceApplied_rev hs ?_)
  have hno : ¬ ((((items.size : Int) - 1) == 0 && (-1 : Int) == 1 && items.size == items.size) = true) := by
    intro q
    rw [Bool.and_eq_true, Bool.and_eq_true] at q
    exact absurd q.1.2 (by decide)
  show wpAny _ _ (if (((items.size : Int) - 1) == 0 && (-1 : Int) == 1 && items.size == items.size) = true then _ else _) _ _ s
  rw [if_neg hno, pick_rev]
  first
    | exact wpAny_bind (m := Builtin.Tuple.tupleExact _) (wpAny_newObj_type (wpAny_pure ⟨_, rfl, wpAny_pure h⟩) htake)
    | exact wpAny_bind (m := Builtin.Tuple.tupleExact _) (wpAny_newObj_type (wpAny_bind (wpAny_pure (wpAny_pure ⟨_, rfl, wpAny_pure h⟩))) htake)
    | exact wpAny_bind (wpAny_bind (m := Builtin.Tuple.tupleExact _) (wpAny_newObj_type (wpAny_pure (wpAny_pure ⟨_, rfl, wpAny_pure h⟩)) htake))
    | exact wpAny_bind (wpAny_bind (m := Builtin.Tuple.tupleExact _) (wpAny_newObj_type (wpAny_pure ⟨_, rfl, wpAny_pure h⟩) htake))
end
def tRevLT (K : PySem.W.Frag) (te : TE) : TE := fun σ H Q => te σ H fun x H1 => ∃ a xs, x = .ref a ∧ ((SqL K H1 a xs ∧ ∀ p, H1 p = none → Q (.ref p) (upd H1 p (.lst xs.reverse))) ∨ (SqT K H1 a xs ∧ ∀ p, H1 p = none → Q (.ref p) (upd H1 p (.tup xs.reverse))))
section
variable {X : Cx}
theorem pe_revLT {e : Expr} {te : TE} {k : Nat} {p1 p2 p3 pos : Pos} (he : PE X e te) : PE X (.Subscript e (.Slice none none (some (.UnaryOp .USub (.Constant (.int 1) k p1) p2)) p3) pos) (tRevLT X.K te) := by
  refine ⟨fun pins s σ H Q I h => ?_⟩
  refine Subscript_ (thn (he.run pins s σ H _ I h) fun v s1 ⟨x, H1, I1, r1, q1⟩ => ?_)
  obtain ⟨a, xs, ex, q⟩ := q1
  subst ex
  cases r1
  have hst : PO X (some (.UnaryOp .USub (.Constant (.int 1) k p1) p2)) (tPart (tUn (rU fun i => .int (-i)) (tC (.int 1)))) := po_some (pe_un un_neg pe_int)
  refine wpAny_Slice (thn (po_none.run pins s1 σ H1 (fun o H2 => o = none ∧ H2 = H1) I1 ⟨rfl, rfl⟩) fun vl s2 ⟨l, H2, I2, pl, el, e2⟩ => ?_)
  subst el e2
  refine thn (po_none.run pins s2 σ H2 (fun o H3 => o = none ∧ H3 = H2) I2 ⟨rfl, rfl⟩) fun vu s3 ⟨u, H3, I3, pu, eu, e3⟩ => ?_
  subst eu e3
  refine thn (hst.run pins s3 σ H3 (fun o H4 => o = some (-1) ∧ H4 = H3) I3 ⟨1, rfl, -1, rfl, rfl, rfl⟩) fun vs s4 ⟨o, H4, I4, ps, eo, e4⟩ => ?_
  subst eo e4
  have I5 : Inv X pins σ H4 { s4 with heap := s4.heap.push { cls := .type "slice", data := .fields #[vl, vu, vs] } } := I4.kept (t' := s4.toks) fun b ob q => Heap.get?_push_of_some _ q
  show wpAny (model X.prog X.w) X.A (subscriptTail e (.Slice none none (some (.UnaryOp .USub (.Constant (.int 1) k p1) p2)) p3) (.ref a) (.ref s4.heap.objs.size)) (EP X pins σ Q) X.xe { s4 with heap := s4.heap.push { cls := .type "slice", data := .fields #[vl, vu, vs] } }
  rcases q with ⟨hx, q⟩ | ⟨hx, q⟩
  · obtain ⟨its, r, ht, hz⟩ := I5.list hx
    have hlen := r.length
    refine tail_any (ops := [.ref a, .ref s4.heap.objs.size]) ht.isList.typeIs (PySem.slot_list_getitem.lookup) ?_ (by with_unfolding_all rfl)
    refine wpAny_getItem_list_slice ht.isList (Heap.IsSliceOf.new _ vl vu vs) pl pu ps (by decide) ?_ (by rw [List.size_toArray]; omega)
    rw [PySem.W.krv_pick]
    refine ⟨.ref _, _, I5.laid (t' := s4.toks) (o := .lst xs.reverse) (fun b ob q => Heap.get?_push_of_some _ q) (Nat.le_refl _) ?_, rfl, q _ (I5.hok.fresh (Nat.le_refl _))⟩
    exact ⟨by rw [List.length_reverse]; exact hz, _, 0, r.reverse, Heap.get?_push_size _ rfl⟩
  · obtain ⟨its, r, ht, hz⟩ := I5.tuple hx
    cases pl
    cases pu
    cases ps
    refine tail_any (ops := [.ref a, .ref s4.heap.objs.size]) ht.typeIs (PyProof.Rows.slot_tuple_getitem.lookup) ?_ (by with_unfolding_all rfl)
    refine getItem_tuple_rev ht (Heap.IsSliceOf.new _ _ _ _) ?_ (by rw [List.size_toArray, ← r.length]; exact hz)
    refine ⟨.ref _, _, I5.laid (t' := s4.toks) (o := .tup xs.reverse) (fun b ob q => Heap.get?_push_of_some _ q) (Nat.le_refl _) ?_, rfl, q _ (I5.hok.fresh (Nat.le_refl _))⟩
    exact ⟨by rw [List.length_reverse]; exact hz, _, r.reverse, IsTup.new _ _⟩
end

def gRev : D → Option D
  | .lst ds => some (.lst ds.reverse)
  | .tup ds => some (.tup ds.reverse)
  | .kt ds => some (.tup ds.reverse)
  | _ => none
theorem RepL.rev {K : PySem.W.Frag} {H : Hp} {O : Ad} {ds : List D} {vs : List V} (r : RepL K H O ds vs) : RepL K H O ds.reverse vs.reverse := by
  induction ds generalizing vs with
  | nil => cases r; exact .nil
  | cons d ds ih =>
    cases r with
    | cons h r =>
      rw [List.reverse_cons, List.reverse_cons]
      exact (ih r).append (.cons h .nil)
theorem de_rev {X : Cx} {e : Expr} {q : SQ} {k : Nat} {p1 p2 p3 pos : Pos} (he : DQ X e q) : DE X (.Subscript e (.Slice none none (some (.UnaryOp .USub (.Constant (.int 1) k p1) p2)) p3) pos) (eOp1 gRev q) := by
  refine ⟨wkE (pe_revLT he.pe) fun σ H Q h => ?_⟩
  obtain ⟨C, O, env, E, z, e, k⟩ := h
  obtain ⟨r1, e1, e2⟩ := bindS e
  obtain ⟨d, e5, e6⟩ := bindS e2
  obtain ⟨z, e9, e10⟩ := bindS e6
  cases e10
  refine ⟨C, O, env, E, r1, e1, fun u H1 O1 s1 E1 p1 => ?_⟩
  have p2 := E1.getP e5 p1
  cases d with
  | lst ds =>
    cases e9
    obtain ⟨a, vs, rfl, h, rl⟩ := p2.lst
    refine ⟨a, vs, rfl, .inl ⟨.inl (.inl h), fun p hp => ?_⟩⟩
    exact k _ _ O1 (s1.trans (.ext (upd_ext hp))) (E1.ext (upd_ext hp)) (new_lst E1.trk hp rl.rev)
  | tup ds =>
    cases e9
    rcases p2 with h | ⟨a, rfl, ⟨h⟩⟩
    · cases h with
      | tup n h rl =>
        refine ⟨_, _, rfl, .inr ⟨.inl (.inl h), fun p hp => ?_⟩⟩
        exact k _ _ O1 (s1.trans (.ext (upd_ext hp))) (E1.ext (upd_ext hp)) (new_tup E1.trk hp rl.rev)
    · cases h
  | kt ds =>
    cases e9
    rcases p2 with h | ⟨a, rfl, ⟨h⟩⟩
    · cases h with
      | kt h rl =>
        refine ⟨_, _, rfl, .inr ⟨kt_sq h, fun p hp => ?_⟩⟩
        exact k _ _ O1 (s1.trans (.ext (upd_ext hp))) (E1.ext (upd_ext hp)) (new_tup E1.trk hp rl.rev)
    · cases h
  | _ => cases e9
end Z

/-! The data layer, part O: isinstance evaluated; plain data; equality of it. -/
namespace Z
open PySem PySem.Spec PyProof.Rows L2
theorem kb_NoneType_int : kitB "NoneType" "int" = some false := by decide +kernel
theorem kb_NoneType_str : kitB "NoneType" "str" = some false := by decide +kernel
theorem kb_NoneType_bool : kitB "NoneType" "bool" = some false := by decide +kernel
theorem kb_NoneType_list : kitB "NoneType" "list" = some false := by decide +kernel
theorem kb_NoneType_tuple : kitB "NoneType" "tuple" = some false := by decide +kernel
theorem kb_NoneType_dict : kitB "NoneType" "dict" = some false := by decide +kernel
theorem kb_bool_int : kitB "bool" "int" = some true := by decide +kernel
theorem kb_bool_str : kitB "bool" "str" = some false := by decide +kernel
theorem kb_bool_bool : kitB "bool" "bool" = some true := by decide +kernel
theorem kb_bool_list : kitB "bool" "list" = some false := by decide +kernel
theorem kb_bool_tuple : kitB "bool" "tuple" = some false := by decide +kernel
theorem kb_bool_dict : kitB "bool" "dict" = some false := by decide +kernel
theorem kb_int_int : kitB "int" "int" = some true := by decide +kernel
theorem kb_int_str : kitB "int" "str" = some false := by decide +kernel
theorem kb_int_bool : kitB "int" "bool" = some false := by decide +kernel
theorem kb_int_list : kitB "int" "list" = some false := by decide +kernel
theorem kb_int_tuple : kitB "int" "tuple" = some false := by decide +kernel
theorem kb_int_dict : kitB "int" "dict" = some false := by decide +kernel
theorem kb_str_int : kitB "str" "int" = some false := by decide +kernel
theorem kb_str_str : kitB "str" "str" = some true := by decide +kernel
theorem kb_str_bool : kitB "str" "bool" = some false := by decide +kernel
theorem kb_str_list : kitB "str" "list" = some false := by decide +kernel
theorem kb_str_tuple : kitB "str" "tuple" = some false := by decide +kernel
theorem kb_str_dict : kitB "str" "dict" = some false := by decide +kernel
theorem kb_list_int : kitB "list" "int" = some false := by decide +kernel
theorem kb_list_str : kitB "list" "str" = some false := by decide +kernel
theorem kb_list_bool : kitB "list" "bool" = some false := by decide +kernel
theorem kb_list_list : kitB "list" "list" = some true := by decide +kernel
theorem kb_list_tuple : kitB "list" "tuple" = some false := by decide +kernel
theorem kb_list_dict : kitB "list" "dict" = some false := by decide +kernel
theorem kb_tuple_int : kitB "tuple" "int" = some false := by decide +kernel
theorem kb_tuple_str : kitB "tuple" "str" = some false := by decide +kernel
theorem kb_tuple_bool : kitB "tuple" "bool" = some false := by decide +kernel
theorem kb_tuple_list : kitB "tuple" "list" = some false := by decide +kernel
theorem kb_tuple_tuple : kitB "tuple" "tuple" = some true := by decide +kernel
theorem kb_tuple_dict : kitB "tuple" "dict" = some false := by decide +kernel
theorem kb_dict_int : kitB "dict" "int" = some false := by decide +kernel
theorem kb_dict_str : kitB "dict" "str" = some false := by decide +kernel
theorem kb_dict_bool : kitB "dict" "bool" = some false := by decide +kernel
theorem kb_dict_list : kitB "dict" "list" = some false := by decide +kernel
theorem kb_dict_tuple : kitB "dict" "tuple" = some false := by decide +kernel
theorem kb_dict_dict : kitB "dict" "dict" = some true := by decide +kernel
theorem ev_gIsi {n : String} {d : D} : gIsi n d = (tyS d).bind fun a => (kitB a n).bind fun b => some (.bl b) := by
  unfold gIsi isA
  cases tyS d <;> rfl
theorem ev_gIsi2 {n m : String} {d : D} : gIsi2 n m d = (tyS d).bind fun a => (kitB a n).bind fun b => if b = true then some (.bl true) else (kitB a m).bind fun b => some (.bl b) := by
  unfold gIsi2 isA2 isA
  cases tyS d with
  | none => rfl
  | some a =>
    simp only [Option.bind_some]
    cases kitB a n with
    | none => rfl
    | some b => cases b <;> rfl
mutual
/-- plain data, at most n deep -/
def pln : Nat → D → Bool
  | _ + 1, .non => true
  | _ + 1, .bl _ => true
  | _ + 1, .int _ => true
  | _ + 1, .str _ => true
  | n + 1, .tup ds => plnL n ds && decide (ds.length ≤ 16777216)
  | n + 1, .lst ds => plnL n ds && decide (ds.length ≤ 16777216)
  | n + 1, .kt ds => plnL n ds && decide (ds.length ≤ 16777216)
  | _, _ => false
def plnL : Nat → List D → Bool
  | _, [] => true
  | n, d :: ds => pln n d && plnL n ds
end
theorem plnL_iff {n : Nat} : ∀ {ds : List D}, plnL n ds = true ↔ ∀ d ∈ ds, pln n d = true
  | [] => by unfold plnL; exact ⟨fun _ _ h => (nomatch h), fun _ => rfl⟩
  | d :: ds => by
    unfold plnL
    rw [Bool.and_eq_true, plnL_iff]
    exact ⟨fun ⟨h1, h2⟩ x hx => by rcases List.mem_cons.mp hx with rfl | hx; exact h1; exact h2 x hx, fun h => ⟨h d List.mem_cons_self, fun x hx => h x (List.mem_cons_of_mem _ hx)⟩⟩
mutual
theorem eqv_refl : ∀ (n : Nat) (d : D), ok n d = true → PyData.eqv (py d) (py d) = true
  | _, .non, _ => by unfold py PyData.eqv; rfl
  | _, .bl b, _ => by unfold py PyData.eqv; exact beq_self_eq_true b
  | _, .int i, _ => by unfold py PyData.eqv; exact beq_self_eq_true i
  | _, .str x, _ => by unfold py PyData.eqv; exact beq_self_eq_true x
  | n + 1, .tup ds, h => by unfold py PyData.eqv; unfold ok at h; exact eqvL_refl n ds h
  | n + 1, .lst ds, h => by unfold py PyData.eqv; unfold ok at h; exact eqvL_refl n ds h
  | n + 1, .kt ds, h => by unfold py PyData.eqv; unfold ok at h; exact eqvL_refl n ds h
  | 0, .tup _, h => by unfold ok at h; cases h
  | 0, .lst _, h => by unfold ok at h; cases h
  | 0, .kt _, h => by unfold ok at h; cases h
  | n, .sc _, h => by unfold ok at h; cases n <;> cases h
  | n, .dk _, h => by unfold ok at h; cases n <;> cases h
  | n, .dt _, h => by unfold ok at h; cases n <;> cases h
theorem eqvL_refl : ∀ (n : Nat) (ds : List D), okL n ds = true → PyData.eqvAll (pyL ds) (pyL ds) = true
  | _, [], _ => by unfold pyL PyData.eqvAll; rfl
  | n, d :: ds, h => by
    unfold okL at h
    have h := Bool.and_eq_true_iff.mp h
    unfold pyL PyData.eqvAll
    rw [eqv_refl n d h.1, eqvL_refl n ds h.2]; rfl
end
mutual
theorem pln_ok : ∀ {n : Nat} {d : D}, pln n d = true → ok n d = true
  | n + 1, .non, _ => by unfold ok; rfl
  | n + 1, .bl _, _ => by unfold ok; rfl
  | n + 1, .int _, _ => by unfold ok; rfl
  | n + 1, .str _, _ => by unfold ok; rfl
  | n + 1, .tup ds, h => by unfold pln at h; unfold ok; exact plnL_ok (Bool.and_eq_true_iff.mp h).1
  | n + 1, .lst ds, h => by unfold pln at h; unfold ok; exact plnL_ok (Bool.and_eq_true_iff.mp h).1
  | n + 1, .kt ds, h => by unfold pln at h; unfold ok; exact plnL_ok (Bool.and_eq_true_iff.mp h).1
  | n + 1, .sc _, h => by unfold pln at h; cases h
  | n + 1, .dk _, h => by unfold pln at h; cases h
  | n + 1, .dt _, h => by unfold pln at h; cases h
  | 0, d, h => by cases d <;> (unfold pln at h; cases h)
theorem plnL_ok : ∀ {n : Nat} {ds : List D}, plnL n ds = true → okL n ds = true
  | _, [], _ => by unfold okL; rfl
  | n, d :: ds, h => by
    unfold plnL at h
    have h := Bool.and_eq_true_iff.mp h
    unfold okL
    rw [pln_ok h.1, plnL_ok h.2]; rfl
end
mutual
theorem ok_mono : ∀ {n m : Nat} {d : D}, n ≤ m → ok n d = true → ok m d = true
  | n, m, .non, _, _ => by unfold ok; rfl
  | n, m, .bl _, _, _ => by unfold ok; rfl
  | n, m, .int _, _, _ => by unfold ok; rfl
  | n, m, .str _, _, _ => by unfold ok; rfl
  | n + 1, m + 1, .tup ds, l, h => by unfold ok at h ⊢; exact okL_mono (Nat.le_of_succ_le_succ l) h
  | n + 1, m + 1, .lst ds, l, h => by unfold ok at h ⊢; exact okL_mono (Nat.le_of_succ_le_succ l) h
  | n + 1, m + 1, .kt ds, l, h => by unfold ok at h ⊢; exact okL_mono (Nat.le_of_succ_le_succ l) h
  | n + 1, 0, .tup ds, l, h => by omega
  | n + 1, 0, .lst ds, l, h => by omega
  | n + 1, 0, .kt ds, l, h => by omega
  | 0, _, .tup _, _, h => by unfold ok at h; cases h
  | 0, _, .lst _, _, h => by unfold ok at h; cases h
  | 0, _, .kt _, _, h => by unfold ok at h; cases h
  | n, _, .sc _, _, h => by unfold ok at h; cases n <;> cases h
  | n, _, .dk _, _, h => by unfold ok at h; cases n <;> cases h
  | n, _, .dt _, _, h => by unfold ok at h; cases n <;> cases h
theorem okL_mono : ∀ {n m : Nat} {ds : List D}, n ≤ m → okL n ds = true → okL m ds = true
  | _, _, [], _, _ => by unfold okL; rfl
  | n, m, d :: ds, l, h => by
    unfold okL at h
    have h := Bool.and_eq_true_iff.mp h
    unfold okL
    rw [ok_mono l h.1, okL_mono l h.2]; rfl
end
theorem ev_eq_self {n : Nat} {d : D} (h : pln n d = true) (hn : n ≤ 60) : gEq d d = some (.bl true) := by
  have k := ok_mono hn (pln_ok h)
  show (if _ then _ else none) = _
  rw [if_pos ⟨k, k⟩, eqv_refl 60 d k]
theorem ev_eq_bl {a b : Bool} : gEq (.bl a) (.bl b) = some (.bl (a == b)) := rfl
theorem ev_ne_bl {a b : Bool} : gNe (.bl a) (.bl b) = some (.bl (!(a == b))) := rfl
/-- False not in bools -/
theorem ev_notin_bls {bs : List Bool} : gNotIn (.bl false) (.lst (bs.map D.bl)) = some (.bl (bs.all id)) := by
  have h2 : okL 59 (bs.map D.bl) = true := by
    induction bs with
    | nil => unfold okL; rfl
    | cons b bs ih => rw [List.map_cons]; unfold okL; rw [ih]; unfold ok; rfl
  have h : ok 60 (.bl false) = true ∧ ok 60 (.lst (bs.map D.bl)) = true := ⟨by unfold ok; rfl, by unfold ok; exact h2⟩
  show (if ok 60 (.bl false) = true ∧ ok 60 (.lst (bs.map D.bl)) = true then some ((pyL (bs.map D.bl)).any fun z => PyData.eqv z (py (.bl false))) else none).bind _ = _
  rw [if_pos h, Option.bind_some, pyL_map]
  congr 2
  clear h h2
  induction bs with
  | nil => rfl
  | cons b bs ih =>
    rw [List.map_cons, List.map_cons, List.any_cons, List.all_cons, Bool.not_or, ih]
    congr 1
    have : PyData.eqv (py (.bl b)) (py (.bl false)) = (b == false) := by unfold py PyData.eqv; rfl
    rw [this]
    cases b <;> rfl
theorem ev_in_false {bs : List Bool} : gIn (.bl false) (.lst (bs.map D.bl)) = some (.bl (!bs.all id)) := by
  have := ev_notin_bls (bs := bs)
  unfold gNotIn at this
  unfold gIn
  cases e : inD (.bl false) (.lst (bs.map D.bl)) with
  | none => rw [e] at this; cases this
  | some b =>
    rw [e, Option.bind_some] at this
    rw [Option.bind_some]
    have h : (!b) = bs.all id := by injection this with this; injection this
    rw [← h, Bool.not_not]
theorem gv_all_true {n : Nat} : gNotIn (.bl false) (.lst (List.replicate n (.bl true))) = some (.bl true) := by
  have := ev_notin_bls (bs := List.replicate n true)
  rw [List.map_replicate] at this
  rw [this]
  simp
/-- an item of a tuple or list at a place k -/
theorem ev_ix_tup {ds : List D} {i : Int} (h : 0 ≤ i ∧ i < ds.length) : gIx (.tup ds) (.int i) = some (ds.getD i.toNat .non) := by
  show atI ds i = _
  rw [atI_of h.1 h.2, List.getD_eq_getElem?_getD, List.getElem?_eq_getElem (by omega)]
  rfl
theorem ev_ix_kt {ds : List D} {i : Int} (h : 0 ≤ i ∧ i < ds.length) : gIx (.kt ds) (.int i) = some (ds.getD i.toNat .non) := ev_ix_tup h
theorem ev_ix_lst {ds : List D} {i : Int} (h : 0 ≤ i ∧ i < ds.length) : gIx (.lst ds) (.int i) = some (ds.getD i.toNat .non) := ev_ix_tup h
theorem ty_non : tyS .non = some "NoneType" := rfl
theorem ty_bl {b : Bool} : tyS (.bl b) = some "bool" := rfl
theorem ty_int {i : Int} : tyS (.int i) = some "int" := rfl
theorem ty_str {x : Str} : tyS (.str x) = some "str" := rfl
theorem ty_tup {ds : List D} : tyS (.tup ds) = some "tuple" := rfl
theorem ty_kt {ds : List D} : tyS (.kt ds) = some "tuple" := rfl
theorem ty_lst {ds : List D} : tyS (.lst ds) = some "list" := rfl
theorem ty_dk {ds : List (Key × D)} : tyS (.dk ds) = some "dict" := rfl
theorem ty_dt {ds : List (List Key × D)} : tyS (.dt ds) = some "dict" := rfl
theorem ev_len_kt {ds : List D} : gLen [.kt ds] = some (.int ds.length) := rfl
theorem ev_chain {s : Slot} {e : Ev} {g1 g2 : D → D → Option D} {p q t : SQ} : eChain g1 g2 p q t (s :: e) = (p (s :: e)).bind fun r => (q r.2).bind fun s => (getP s.2 r.1).bind fun x => (getP s.2 s.1).bind fun y => (g1 x y).bind fun z => (asB z).bind fun b => if b = true then (t s.2).bind fun u => (getP u.2 s.1).bind fun y2 => (getP u.2 u.1).bind fun c => (g2 y2 c).bind fun z2 => some (z2, u.2) else some (.bl false, s.2) := rfl
theorem ev_i0_tup {a0 : D} {l : List D} : gIx (.tup (a0 :: l)) (.int 0) = some a0 := by
  show atI _ _ = _
  rw [atI_of (by decide) (by simp only [List.length_cons]; omega)]; rfl
theorem ev_i1_tup {a0 a1 : D} {l : List D} : gIx (.tup (a0 :: a1 :: l)) (.int 1) = some a1 := by
  show atI _ _ = _
  rw [atI_of (by decide) (by simp only [List.length_cons]; omega)]; rfl
theorem ev_i2_tup {a0 a1 a2 : D} {l : List D} : gIx (.tup (a0 :: a1 :: a2 :: l)) (.int 2) = some a2 := by
  show atI _ _ = _
  rw [atI_of (by decide) (by simp only [List.length_cons]; omega)]; rfl
theorem ev_i3_tup {a0 a1 a2 a3 : D} {l : List D} : gIx (.tup (a0 :: a1 :: a2 :: a3 :: l)) (.int 3) = some a3 := by
  show atI _ _ = _
  rw [atI_of (by decide) (by simp only [List.length_cons]; omega)]; rfl
theorem ev_i4_tup {a0 a1 a2 a3 a4 : D} {l : List D} : gIx (.tup (a0 :: a1 :: a2 :: a3 :: a4 :: l)) (.int 4) = some a4 := by
  show atI _ _ = _
  rw [atI_of (by decide) (by simp only [List.length_cons]; omega)]; rfl
theorem ev_i5_tup {a0 a1 a2 a3 a4 a5 : D} {l : List D} : gIx (.tup (a0 :: a1 :: a2 :: a3 :: a4 :: a5 :: l)) (.int 5) = some a5 := by
  show atI _ _ = _
  rw [atI_of (by decide) (by simp only [List.length_cons]; omega)]; rfl
theorem ev_i0_lst {a0 : D} {l : List D} : gIx (.lst (a0 :: l)) (.int 0) = some a0 := by
  show atI _ _ = _
  rw [atI_of (by decide) (by simp only [List.length_cons]; omega)]; rfl
theorem ev_i1_lst {a0 a1 : D} {l : List D} : gIx (.lst (a0 :: a1 :: l)) (.int 1) = some a1 := by
  show atI _ _ = _
  rw [atI_of (by decide) (by simp only [List.length_cons]; omega)]; rfl
theorem ev_i2_lst {a0 a1 a2 : D} {l : List D} : gIx (.lst (a0 :: a1 :: a2 :: l)) (.int 2) = some a2 := by
  show atI _ _ = _
  rw [atI_of (by decide) (by simp only [List.length_cons]; omega)]; rfl
theorem ev_i3_lst {a0 a1 a2 a3 : D} {l : List D} : gIx (.lst (a0 :: a1 :: a2 :: a3 :: l)) (.int 3) = some a3 := by
  show atI _ _ = _
  rw [atI_of (by decide) (by simp only [List.length_cons]; omega)]; rfl
theorem ev_i4_lst {a0 a1 a2 a3 a4 : D} {l : List D} : gIx (.lst (a0 :: a1 :: a2 :: a3 :: a4 :: l)) (.int 4) = some a4 := by
  show atI _ _ = _
  rw [atI_of (by decide) (by simp only [List.length_cons]; omega)]; rfl
theorem ev_i5_lst {a0 a1 a2 a3 a4 a5 : D} {l : List D} : gIx (.lst (a0 :: a1 :: a2 :: a3 :: a4 :: a5 :: l)) (.int 5) = some a5 := by
  show atI _ _ = _
  rw [atI_of (by decide) (by simp only [List.length_cons]; omega)]; rfl
theorem ev_i0_kt {a0 : D} {l : List D} : gIx (.kt (a0 :: l)) (.int 0) = some a0 := by
  show atI _ _ = _
  rw [atI_of (by decide) (by simp only [List.length_cons]; omega)]; rfl
theorem ev_i1_kt {a0 a1 : D} {l : List D} : gIx (.kt (a0 :: a1 :: l)) (.int 1) = some a1 := by
  show atI _ _ = _
  rw [atI_of (by decide) (by simp only [List.length_cons]; omega)]; rfl
theorem ev_i2_kt {a0 a1 a2 : D} {l : List D} : gIx (.kt (a0 :: a1 :: a2 :: l)) (.int 2) = some a2 := by
  show atI _ _ = _
  rw [atI_of (by decide) (by simp only [List.length_cons]; omega)]; rfl
theorem ev_i3_kt {a0 a1 a2 a3 : D} {l : List D} : gIx (.kt (a0 :: a1 :: a2 :: a3 :: l)) (.int 3) = some a3 := by
  show atI _ _ = _
  rw [atI_of (by decide) (by simp only [List.length_cons]; omega)]; rfl
theorem ev_i4_kt {a0 a1 a2 a3 a4 : D} {l : List D} : gIx (.kt (a0 :: a1 :: a2 :: a3 :: a4 :: l)) (.int 4) = some a4 := by
  show atI _ _ = _
  rw [atI_of (by decide) (by simp only [List.length_cons]; omega)]; rfl
theorem ev_i5_kt {a0 a1 a2 a3 a4 a5 : D} {l : List D} : gIx (.kt (a0 :: a1 :: a2 :: a3 :: a4 :: a5 :: l)) (.int 5) = some a5 := by
  show atI _ _ = _
  rw [atI_of (by decide) (by simp only [List.length_cons]; omega)]; rfl
end Z

/-! The data layer, part P: enumerate, zip, dict comprehensions, index, list < list. -/
namespace Z
open PySem PySem.Spec PyProof.Rows L2

/-! ### enumerate(tuple) -/
set_option maxHeartbeats 1000000 in
theorem meets_enumerate_newV {v : Value} {o : Obj} {H : Heap → Prop} (B : Begins v o H) :
    Meets (Builtin.«enumerate.__new__» ⟨[.type "enumerate", v], []⟩) (fun _ R s => H s.heap ∧
      R (.ok (.ret (.ref (s.heap.push o).objs.size))) { s with heap := (s.heap.push o).push { cls := .type "enumerate", data := .fields #[.none, .bool false, .ref s.heap.objs.size, rawInt 0, .none, .none] } }) :=
  .of_wp fun prog w A R s h => by
    obtain ⟨hp, g, d, tk, os⟩ := s; obtain ⟨h1, h⟩ := h
    have hsub := sub_enumerate
    have q1 : ∀ {A' : Around} {E : Value → Shared → Prop} {Q : Value → Shared → Prop}, Q (.ref hp.objs.size) ⟨hp.push o, g, d, tk, os⟩ → wpAny (model prog w) A' (pyIter v) Q E ⟨hp, g, d, tk, os⟩ :=
      fun q => B.iter prog w _ _ ⟨hp, g, d, tk, os⟩ _ h1 q
    wp_walk using q1
    refine wpAny_stack_any fun st => wpAny_pure ?_
    split
    · rename_i c _ _ _ _ _
      cases (c == Value.type "enumerate")
      · wp_walk using q1
        exact ⟨_, rfl, h⟩
      · wp_walk using q1
        exact ⟨_, rfl, h⟩
    · wp_walk using q1
      exact ⟨_, rfl, h⟩
section
variable {prog : Program} {w : World} {A : Around} {E : Value → Shared → Prop} {s : Shared}
theorem call_enumV {v : Value} {o : Obj} {H : Heap → Prop} {Q : Value → Shared → Prop} (B : Begins v o H) (h1 : H s.heap)
    (h : ∀ h', IsEnum h' (s.heap.objs.size + 1) s.heap.objs.size 0 .none → h'.get? s.heap.objs.size = some o → h'.objs.size = s.heap.objs.size + 2 →
      (∀ b o, s.heap.get? b = some o → h'.get? b = some o) → Q (.ref (s.heap.objs.size + 1)) { s with heap := h' }) :
    wpAny (model prog w) A (call (.type "enumerate") [v]) Q E s := by
  refine callType_new F.called_enumerate (by decide) (F.typeCall_enumerate_1 _) (F.newCall_enumerate_1 _) (fun obj => F.args_object_init_2 obj _) F.entry_enumerate_new
    (meets_enumerate_newV B) ⟨h1, ?_⟩
  have hz : (s.heap.push o).objs.size = s.heap.objs.size + 1 := Heap.size_push ..
  show _ ∧ _
  rw [hz]
  have he : IsEnum ((s.heap.push o).push { cls := .type "enumerate", data := .fields #[.none, .bool false, .ref s.heap.objs.size, rawInt 0, .none, .none] }) (s.heap.objs.size + 1) s.heap.objs.size 0 .none := by
    have := Heap.get?_push_size (s.heap.push o) (o := { cls := .type "enumerate", data := .fields #[.none, .bool false, .ref s.heap.objs.size, rawInt 0, .none, .none] }) rfl
    rw [hz] at this; exact this
  refine ⟨⟨_, he, rfl⟩, h _ he (Heap.get?_push_of_some _ (Heap.get?_push_size _ B.free)) (by rw [Heap.size_push, hz]) fun b o x => Heap.get?_push_of_some _ (Heap.get?_push_of_some _ x)⟩
end
/-- the tuple at a as it stands at each turn, each item in a new pair -/
def IteT (K : PySem.W.Frag) (a : Addr) : It :=
  ⟨fun i H => ∃ (xs : List V) (x : V), SqT K H a xs ∧ xs[i]? = some x, fun i H v H' => ∃ T x, v = .ref T ∧ H T = none ∧ H' = upd H T (.tup [.int (i : Nat), x]) ∧ ∀ xs, SqT K H a xs → xs[i]? = some x, fun i H => ∃ xs : List V, SqT K H a xs ∧ xs.length ≤ i⟩
theorem turn_enumT {P : Program} {w : World} {K : PySem.W.Frag} {elts : List Expr} {kk : Nat} {tpos : Pos} (a e it : Addr) :
    Turn P w K (.Tuple elts kk tpos) (IteT K a) [e, it] e (fun i h => (∃ old, IsEnum h e it ((i : Nat) : Int) old) ∧ h.IsTupleIter it a i ∧ e ≠ it ∧ a ≠ it ∧ a ≠ e) where
  mem := by simp
  obj := fun i h st b hb => by
    obtain ⟨⟨old, he⟩, ⟨o, ho, hc, hd⟩, _⟩ := st
    have e' : b = e ∨ b = it := by simpa using hb
    rcases e' with z | z
    · rw [z]; exact ⟨_, he, fun v q => nomatch q⟩
    · rw [z]; exact ⟨o, ho, fun v q => by rw [hd] at q; cases q⟩
  keep := fun i h h' st k => let ⟨⟨old, he⟩, hi, hne⟩ := st; ⟨⟨old, k e (by simp) _ he⟩, hi.at fun o q => k it (by simp) o q, hne⟩
  item := by
    intro X hP hw hK hc i pins s σ H E I hf st hg
    subst hP hw hK
    obtain ⟨⟨old, he⟩, hit, hne, hai, hae⟩ := st
    obtain ⟨xs, x, hq, hx⟩ := hg
    obtain ⟨its, rv, p, hz⟩ := I.tuple hq
    obtain ⟨u, hu, ru⟩ := rv.get hx
    have hel : e < s.heap.objs.size := Heap.lt_size he
    have hil : it < s.heap.objs.size := by obtain ⟨_, q, _⟩ := hit; exact Heap.lt_size q
    have hlt : i < its.toArray.size := by
      have := (List.getElem?_eq_some_iff.mp hu).1
      simpa using this
    have Dw : Draws X.prog X.w X.A.in1 it [it, a] its.toArray.size (fun i v => its.toArray[i]? = some v) (fun i h => h.IsTupleIter it a i ∧ h.IsTuple a its.toArray) := Draws.tuple (show X.A.in1.handled = none from I.ok.hd hc) it a hai its.toArray
    refine wpAny_pyNext_enum_itemD Dw he ⟨hit, p⟩ hlt hne (by simp [hne, Ne.symm hae]) fun y h' tk hy ho hst' hT hsz hk => ?_
    have hyu : y = u := by
      have h1 : its.toArray[i]? = some u := by simpa using hu
      rw [h1] at hy
      exact (Option.some.inj hy).symm
    subst hyu
    refine ⟨_, rfl, wpAny_letOwnedTupleGo_enum (s := { s with heap := h', toks := tk + 1 }) ho fun h'' he' sb => ?_⟩
    have hT2 : h''.get? s.heap.objs.size = some { cls := .type "tuple", data := .seq #[.int i tk, y] } := (sb.2 _ (Nat.ne_of_gt hel)).trans hT
    have new : ObjOk X.prog X.w (upd H s.heap.objs.size (.tup [.int (i : Nat), x])) h'' s.heap.objs.size (.tup [.int (i : Nat), x]) :=
      ⟨by show 2 ≤ sizeLine; decide, [.int i tk, y], .cons ⟨_, rfl⟩ (.cons ru .nil), ⟨_, hT2, rfl, _, rfl⟩⟩
    have I1 : Inv X pins σ (upd H s.heap.objs.size (.tup [.int (i : Nat), x])) { s with heap := h'', toks := tk + 1 } :=
      I.turnedNew (ch := [e, it]) (fun b ob hb q => (sb.2 b (fun z => hb (by simp [z]))).trans (hk b ob (fun z => hb (by simp [z])) (fun z => hb (by simp [z])) q)) hf (Nat.le_refl _) new
    refine ⟨.ref s.heap.objs.size, _, I1, rfl, ⟨_, x, rfl, I.hok.fresh (Nat.le_refl _), rfl, fun ys hy => by rw [I.tuple_inj hy hq]; exact hx⟩, ⟨⟨y, ?_⟩, hst'.1.at fun o q => (sb.2 it (Ne.symm hne)).trans q, hne, hai, hae⟩, fun b hb => ?_⟩
    · have e1 : ((i + 1 : Nat) : Int) = (i : Int) + 1 := by omega
      rw [e1]; exact he'
    · have hb' : b < s.heap.objs.size := by
        have e' : b = e ∨ b = it := by simpa using hb
        rcases e' with z | z
        · rw [z]; exact hel
        · rw [z]; exact hil
      rw [upd_ne (Nat.ne_of_lt hb')]
      exact (hf b hb).1
  done := by
    intro X hP hw hK hc i pins s σ H E I hf st hg
    subst hP hw hK
    obtain ⟨⟨old, he⟩, hit, hne, hai, hae⟩ := st
    obtain ⟨xs, hq, hx⟩ := hg
    obtain ⟨its, rv, p, hz⟩ := I.tuple hq
    obtain ⟨f0, f1, f2, f3, f4, f5⟩ := hf it (by simp)
    have hl := rv.length
    have hT : s.TypeIs (.ref e) "enumerate" := ⟨_, he, rfl⟩
    unfold pyNext
    refine wpAny_bind (wpAny_attempt (wpAny_callSpecial?_slot (name := Str.ofString "__next__") hT F.slot_enumerate_next
      (wpAny_call_entry F.slot_enumerate_next hT F.entry_enumerate_next ?_ (F.args_enumerate_next_1 _))))
    show wpAny _ _ (field (.ref e) 2 >>= _) _ _ _
    refine wpAny_bind (wpAny_field he rfl (x := .ref it) rfl ?_)
    refine wpAny_bind (wpAny_nextOf_tuple_end (I.ok.hd hc) hit p (by simp; omega) fun h' x he' hx' => ?_)
    obtain ⟨o, ho, hc'⟩ := hx'
    refine wpAny_bind (wpAny_isInstance (T := "StopIteration") (b := true) ⟨o, ho, hc'⟩ isSubtype_stop ?_)
    exact wpAny_pure ⟨rfl, I.turned (t' := s.toks) (fun b o hb q => he' b o hb q) f0 f1 f3 f4 f5⟩
  self := fun A i s Q E st h => let ⟨⟨_, he⟩, _⟩ := st; wpAny_pyIter_enum he h
def iEnumT (K : PySem.W.Frag) (ta : TA) : TI := fun σ H R => ta σ H fun vs H1 => ∃ a xs, vs = [.ref a] ∧ SqT K H1 a xs ∧ R (IteT K a) H1
theorem pi_enumT {X : Cx} {e : Expr} {ta : TA} {p pos tpos : Pos} {elts : List Expr} {kk : Nat} (hg : Gl X "enumerate") (hm : X.mg "enumerate" = none) (ha : PA X [e] ta) (hs : starEach [e] X.env = [(false, eval e X.env)]) :
    PI X (.Tuple elts kk tpos) (.Call (.Name "enumerate" p) [e] [] pos) (iEnumT X.K ta) := by
  refine ⟨fun pins s σ H R I h => ?_⟩
  refine Call_ (ld_blt I hg hm boot_enumerate (PyProof.Rows.callWith_type1 (thn (ha.run pos pins s σ H _ I h) fun us s1 ⟨vs, H1, I1, r1, q1⟩ => ?_) hs rfl))
  obtain ⟨a, xs, ex, hq, q⟩ := q1
  subst ex
  cases r1 with
  | cons r rr =>
    cases rr
    cases r
    obtain ⟨its, rv, p', hz⟩ := I1.tuple hq
    have hal : a < s1.heap.objs.size := by obtain ⟨_, q, _⟩ := id p'; exact Heap.lt_size q
    refine call_enumV (begins_tuple a its.toArray) p' fun h' he hit hsz hk => wpAny_pyIter_enum he ?_
    have I2 : Inv X pins σ H1 { s1 with heap := h' } := I1.kept (t' := s1.toks) hk
    refine ⟨s1.heap.objs.size + 1, [s1.heap.objs.size + 1, s1.heap.objs.size], _, _, H1, rfl, I2, turn_enumT a (s1.heap.objs.size + 1) s1.heap.objs.size, ⟨⟨.none, he⟩, ⟨_, hit, rfl, rfl⟩, Nat.succ_ne_self _, Nat.ne_of_lt hal, Nat.ne_of_lt (Nat.lt_succ_of_lt hal)⟩, fun b hb => ?_, q⟩
    have e' : b = s1.heap.objs.size + 1 ∨ b = s1.heap.objs.size := by simpa using hb
    have hle : s1.heap.objs.size ≤ b := by
      rcases e' with z | z
      · rw [z]; exact Nat.le_add_right _ _
      · rw [z]; exact Nat.le_refl _
    exact I1.fpOk hle (I1.hok.fresh hle)

/-- enumerate on data -/
def enumD (ds : List D) : List D := ds.zipIdx.map fun p => .tup [.int (p.2 : Nat), p.1]
theorem enumD_len (ds : List D) : (enumD ds).length = ds.length := by simp [enumD]
theorem enumD_get {ds : List D} {i : Nat} {d : D} (h : ds[i]? = some d) : (enumD ds)[i]? = some (.tup [.int (i : Nat), d]) := by
  simp [enumD, h]
theorem enumD_map {α : Type} (xs : List α) (f : α → D) : enumD (xs.map f) = xs.zipIdx.map fun p => .tup [.int (p.2 : Nat), f p.1] := by
  simp [enumD, List.zipIdx_map, List.map_map, Function.comp_def]
def seqE : D → Option (List D)
  | .lst ds => some ds
  | .tup ds => some ds
  | .kt ds => some ds
  | _ => none
def iEn (p : SE) : SI := fun env => (p env).bind fun r => (seqE r.1).bind fun ds => some (enumD ds, none, r.2)
section
variable {X : Cx} {C : Ctx} {ds : List D} {e : Expr} {f : SE} {p pos tpos : Pos} {elts : List Expr} {kk : Nat}
theorem it_enumT {a : Addr} {vs : List V} : ItD X.K C (IteT X.K a) (fun H O => ¬ O a ∧ H a = some (.tup vs) ∧ RepL X.K H O ds vs) (enumD ds) where
  keep := fun H O H' O' ⟨n, h, r⟩ s _ => ⟨s.nO n h, s.keep _ _ n h, r.mono s⟩
  go := fun i H O ⟨n, h, r⟩ hi => by
    rw [enumD_len] at hi
    obtain ⟨v, h1, h2⟩ := r.get (List.getElem?_eq_getElem hi)
    exact ⟨vs, v, .of h, h1⟩
  yld := fun i H O x H' ⟨n, h, r⟩ t hi y => by
    obtain ⟨T, x, rfl, hT, rfl, y⟩ := y
    obtain ⟨d, h1, h2⟩ := r.getV (y vs (.of h))
    exact ⟨upd_ext hT, _, enumD_get h1, new_tup t hT (.cons (.int _) (.cons h2 .nil))⟩
  stop := fun H O ⟨n, h, r⟩ => ⟨vs, .of h, by rw [enumD_len, r.length]; exact Nat.le_refl _⟩
theorem it_enumK {a : Addr} {vs : List V} : ItD X.K C (IteT X.K a) (fun H O => KtOk X.K H O a vs ∧ RepL X.K H O ds vs) (enumD ds) where
  keep := fun H O H' O' ⟨h, r⟩ s _ => ⟨h.mono s, r.mono s⟩
  go := fun i H O ⟨h, r⟩ hi => by
    rw [enumD_len] at hi
    obtain ⟨v, h1, h2⟩ := r.get (List.getElem?_eq_getElem hi)
    exact ⟨vs, v, kt_sq h, h1⟩
  yld := fun i H O x H' ⟨h, r⟩ t hi y => by
    obtain ⟨T, x, rfl, hT, rfl, y⟩ := y
    obtain ⟨d, h1, h2⟩ := r.getV (y vs (kt_sq h))
    exact ⟨upd_ext hT, _, enumD_get h1, new_tup t hT (.cons (.int _) (.cons h2 .nil))⟩
  stop := fun H O ⟨h, r⟩ => ⟨vs, kt_sq h, by rw [enumD_len, r.length]; exact Nat.le_refl _⟩
theorem it_enumL {a : Addr} {vs : List V} : ItD X.K C (Ite X.K a) (fun H O => ¬ O a ∧ H a = some (.lst vs) ∧ RepL X.K H O ds vs) (enumD ds) where
  keep := fun H O H' O' ⟨n, h, r⟩ s _ => ⟨s.nO n h, s.keep _ _ n h, r.mono s⟩
  go := fun i H O ⟨n, h, r⟩ hi => by
    rw [enumD_len] at hi
    obtain ⟨v, h1, h2⟩ := r.get (List.getElem?_eq_getElem hi)
    exact ⟨vs, v, .of h, h1⟩
  yld := fun i H O x H' ⟨n, h, r⟩ t hi y => by
    obtain ⟨T, x, rfl, hT, rfl, y⟩ := y
    obtain ⟨d, h1, h2⟩ := r.getV (y vs (.of h))
    exact ⟨upd_ext hT, _, enumD_get h1, new_tup t hT (.cons (.int _) (.cons h2 .nil))⟩
  stop := fun H O ⟨n, h, r⟩ => ⟨vs, .of h, by rw [enumD_len, r.length]; exact Nat.le_refl _⟩
theorem di_enum (hg : Gl X "enumerate") (hm : X.mg "enumerate" = none) (ha : DE X e f) (hs : starEach [e] X.env = [(false, eval e X.env)]) :
    DI X (.Tuple elts kk tpos) (.Call (.Name "enumerate" p) [e] [] pos) (iEn f) := by
  have hA : DA X [e] (aC (qV f) aN) := da_cons (dq_val ha) da_nil hs
  refine ⟨wkI (PI.or (pi_enum hg hm hA.pa hs) (pi_enumT hg hm hA.pa hs)) fun σ H R ⟨C, O, env, E, r, e, k⟩ => ?_⟩
  obtain ⟨r1, e1, e2⟩ := bindS e
  obtain ⟨ds, e3, e4⟩ := bindS e2
  cases e4
  have e5 : (aC (qV f) aN) env = some ([.val r1.1], r1.2) := by unfold aC qV aN; rw [e1]; rfl
  cases hd : r1.1 <;> (rw [hd] at e3) <;> try (cases e3; done)
  · refine .inr ⟨C, O, env, E, _, e5, fun vs H' O' s E' p => ?_⟩
    cases p with
    | cons p1 p2 =>
      cases p2
      have p1 : Rep X.K H' O' r1.1 _ := p1
      rw [hd] at p1
      cases p1 with
      | @tup a vs _ n h rl =>
        cases e3
        exact ⟨_, _, rfl, .of h, k _ H' O' _ C s E' back_none (it_enumT (a := a) (vs := vs)) ⟨n, h, rl⟩⟩
  · refine .inl ⟨C, O, env, E, _, e5, fun vs H' O' s E' p => ?_⟩
    cases p with
    | cons p1 p2 =>
      cases p2
      have p1 : Rep X.K H' O' r1.1 _ := p1
      rw [hd] at p1
      cases p1 with
      | @lst a vs _ n h rl =>
        cases e3
        exact ⟨_, _, rfl, .of h, k _ H' O' _ C s E' back_none (it_enumL (a := a) (vs := vs)) ⟨n, h, rl⟩⟩
  · refine .inr ⟨C, O, env, E, _, e5, fun vs H' O' s E' p => ?_⟩
    cases p with
    | cons p1 p2 =>
      cases p2
      have p1 : Rep X.K H' O' r1.1 _ := p1
      rw [hd] at p1
      cases p1 with
      | @kt a vs _ h rl =>
        cases e3
        exact ⟨_, _, rfl, kt_sq h, k _ H' O' _ C s E' back_none (it_enumK (a := a) (vs := vs)) ⟨h, rl⟩⟩
theorem ev_iEn {s : Slot} {e : Ev} : iEn f (s :: e) = (f (s :: e)).bind fun r => (seqE r.1).bind fun ds => some (enumD ds, none, r.2) := rfl
theorem ev_seqE0 : seqE (.lst ds) = some ds := rfl
theorem ev_seqE1 : seqE (.tup ds) = some ds := rfl
theorem ev_seqE2 : seqE (.kt ds) = some ds := rfl

/-! ### zip of two lists or two tuples -/
def zipD (xs ys : List D) : List D := (xs.zip ys).map fun p => .tup [p.1, p.2]
theorem zipD_get {xs ys : List D} {i : Nat} {x y : D} (h : xs[i]? = some x) (h' : ys[i]? = some y) : (zipD xs ys)[i]? = some (.tup [x, y]) := by
  unfold zipD
  rw [List.getElem?_map, List.getElem?_zip_eq_some (z := (x, y)) |>.mpr ⟨h, h'⟩]
  rfl
def zipE : D → D → Option (List D)
  | .lst xs, .lst ys => some (zipD xs ys)
  | .tup xs, .tup ys => some (zipD xs ys)
  | _, _ => none
def iZip (p q : SE) : SI := fun env => (p env).bind fun r => (q r.2).bind fun s => (zipE r.1 s.1).bind fun ds => some (ds, none, s.2)
theorem zipD_len {xs ys : List D} : (zipD xs ys).length = min xs.length ys.length := by simp [zipD]
theorem it_zipL {xs ys : List D} {a b : Addr} {vs ws : List V} : ItD X.K C (Itz X.K a b) (fun H O => (¬ O a ∧ H a = some (.lst vs) ∧ RepL X.K H O xs vs) ∧ (¬ O b ∧ H b = some (.lst ws) ∧ RepL X.K H O ys ws)) (zipD xs ys) where
  keep := fun H O H' O' ⟨⟨n, h, r⟩, n', h', r'⟩ s _ => ⟨⟨s.nO n h, s.keep _ _ n h, r.mono s⟩, s.nO n' h', s.keep _ _ n' h', r'.mono s⟩
  go := fun i H O ⟨⟨n, h, r⟩, n', h', r'⟩ hi => by
    rw [zipD_len] at hi
    obtain ⟨v, h1, h2⟩ := r.get (List.getElem?_eq_getElem (show i < xs.length by omega))
    obtain ⟨v', h1', h2'⟩ := r'.get (List.getElem?_eq_getElem (show i < ys.length by omega))
    exact ⟨vs, ws, v, v', .of h, .of h', h1, h1'⟩
  yld := fun i H O x H' ⟨⟨n, h, r⟩, n', h', r'⟩ t hi y => by
    obtain ⟨T, x, x', rfl, hT, rfl, y, y'⟩ := y
    obtain ⟨d, h1, h2⟩ := r.getV (y vs (.of h))
    obtain ⟨d', h1', h2'⟩ := r'.getV (y' ws (.of h'))
    exact ⟨upd_ext hT, _, zipD_get h1 h1', new_tup t hT (.cons h2 (.cons h2' .nil))⟩
  stop := fun H O ⟨⟨n, h, r⟩, n', h', r'⟩ => ⟨vs, ws, .of h, .of h', by rw [zipD_len, ← r.length, ← r'.length]; omega⟩
theorem it_zipT {xs ys : List D} {a b : Addr} {vs ws : List V} : ItD X.K C (RZ.ItzT X.K a b) (fun H O => (¬ O a ∧ H a = some (.tup vs) ∧ RepL X.K H O xs vs) ∧ (¬ O b ∧ H b = some (.tup ws) ∧ RepL X.K H O ys ws)) (zipD xs ys) where
  keep := fun H O H' O' ⟨⟨n, h, r⟩, n', h', r'⟩ s _ => ⟨⟨s.nO n h, s.keep _ _ n h, r.mono s⟩, s.nO n' h', s.keep _ _ n' h', r'.mono s⟩
  go := fun i H O ⟨⟨n, h, r⟩, n', h', r'⟩ hi => by
    rw [zipD_len] at hi
    obtain ⟨v, h1, h2⟩ := r.get (List.getElem?_eq_getElem (show i < xs.length by omega))
    obtain ⟨v', h1', h2'⟩ := r'.get (List.getElem?_eq_getElem (show i < ys.length by omega))
    exact ⟨vs, ws, v, v', .of h, .of h', h1, h1'⟩
  yld := fun i H O x H' ⟨⟨n, h, r⟩, n', h', r'⟩ t hi y => by
    obtain ⟨T, x, x', rfl, hT, rfl, y, y'⟩ := y
    obtain ⟨d, h1, h2⟩ := r.getV (y vs (.of h))
    obtain ⟨d', h1', h2'⟩ := r'.getV (y' ws (.of h'))
    exact ⟨upd_ext hT, _, zipD_get h1 h1', new_tup t hT (.cons h2 (.cons h2' .nil))⟩
  stop := fun H O ⟨⟨n, h, r⟩, n', h', r'⟩ => ⟨vs, ws, .of h, .of h', by rw [zipD_len, ← r.length, ← r'.length]; omega⟩
theorem di_zip {b : Expr} {g : SE} (hg : Gl X "zip") (hm : X.mg "zip" = none) (ha : DE X e f) (hb : DE X b g) (hs : starEach [e, b] X.env = (false, eval e X.env) :: starEach [b] X.env) (hs2 : starEach [b] X.env = [(false, eval b X.env)]) (hpl : (backTo pos (starEach [b] X.env)).any (·.1) = false) :
    DI X (.Tuple elts kk tpos) (.Call (.Name "zip" p) [e, b] [] pos) (iZip f g) := by
  have hA : DA X [e, b] (aC (qV f) (aC (qV g) aN)) := da_cons (dq_val ha) (da_cons (dq_val hb) da_nil hs2) hs
  refine ⟨wkI (RZ.pi_zipA hg hm hA.pa hs hpl) fun σ H R ⟨C, O, env, E, r, e, k⟩ => ?_⟩
  obtain ⟨r1, e1, e2⟩ := bindS e
  obtain ⟨r2, e5, e6⟩ := bindS e2
  obtain ⟨ds, e3, e4⟩ := bindS e6
  cases e4
  have e7 : (aC (qV f) (aC (qV g) aN)) env = some ([.val r1.1, .val r2.1], r2.2) := by
    have h1 : qV f env = some (.val r1.1, r1.2) := by unfold qV; rw [e1]; rfl
    have h2 : qV g r1.2 = some (.val r2.1, r2.2) := by unfold qV; rw [e5]; rfl
    have h3 : aC (qV g) aN r1.2 = some ([.val r2.1], r2.2) := by unfold aC; rw [h2]; rfl
    show (qV f env).bind _ = _
    rw [h1]
    show (aC (qV g) aN r1.2).bind _ = _
    rw [h3]
    rfl
  refine ⟨C, O, env, E, _, e7, fun vs H' O' s E' p => ?_⟩
  cases p with
  | cons p1 p2 =>
    cases p2 with
    | cons p2 p3 =>
      cases p3
      have p1 : Rep X.K H' O' r1.1 _ := p1
      have p2 : Rep X.K H' O' r2.1 _ := p2
      cases hd : r1.1 <;> cases hd2 : r2.1 <;> (rw [hd, hd2] at e3) <;> try (cases e3; done)
      · rw [hd] at p1
        rw [hd2] at p2
        cases p1 with
        | @tup a vs _ n h rl =>
          cases p2 with
          | @tup b ws _ n' h' rl' =>
            cases e3
            exact ⟨_, _, _, _, rfl, .inr ⟨.of h, .of h', k _ H' O' _ C s E' back_none (it_zipT (a := a) (vs := vs) (b := b) (ws := ws)) ⟨⟨n, h, rl⟩, n', h', rl'⟩⟩⟩
      · rw [hd] at p1
        rw [hd2] at p2
        cases p1 with
        | @lst a vs _ n h rl =>
          cases p2 with
          | @lst b ws _ n' h' rl' =>
            cases e3
            exact ⟨_, _, _, _, rfl, .inl ⟨.of h, .of h', k _ H' O' _ C s E' back_none (it_zipL (a := a) (vs := vs) (b := b) (ws := ws)) ⟨⟨n, h, rl⟩, n', h', rl'⟩⟩⟩
theorem ev_iZip {g : SE} {s : Slot} {e : Ev} : iZip f g (s :: e) = (f (s :: e)).bind fun r => (g r.2).bind fun s => (zipE r.1 s.1).bind fun ds => some (ds, none, s.2) := rfl
theorem ev_zipE0 {xs ys : List D} : zipE (.lst xs) (.lst ys) = some (zipD xs ys) := rfl
theorem ev_zipE1 {xs ys : List D} : zipE (.tup xs) (.tup ys) = some (zipD xs ys) := rfl
theorem zipD_map {α β : Type} (xs : List α) (ys : List β) (f : α → D) (g : β → D) : zipD (xs.map f) (ys.map g) = (xs.zip ys).map fun p => .tup [f p.1, g p.2] := by
  simp [zipD, List.zip_map, List.map_map, Function.comp_def]
end
end Z

/-! The data layer, part Q: dict comprehensions, tuples that can be asked for an index, index, dict.get, {k: v}, list < list. -/
namespace Z
open PySem PySem.Spec PyProof.Rows L2

/-! ### {k: v for x in xs if t} -/
def dcompL (own : List Nat) (g : SG) (t : SB) (k f : SE) : List D → List (Key × D) → Ev → Option (List (Key × D) × Ev)
  | [], acc, env => some (acc, env)
  | d :: ds, acc, env => if wipeOk env own = true then (g d (wipeE env own)).bind fun e1 => (t e1).bind fun r => if r.1 = true then (k r.2).bind fun y => (keyOf y.1).bind fun ky => (f y.2).bind fun z => if acc.length < sizeLine then dcompL own g t k f ds (dput acc ky z.1) (restore env z.2 own) else none
      else dcompL own g t k f ds acc (restore env r.2 own)
    else none
def eDcomp (own : List Nat) (it : SI) (g : SG) (t : SB) (k f : SE) : SE := fun env => (it env).bind fun r => (dcompL own g t k f r.1 [] (lockE r.2.2 r.2.1)).bind fun z => some (.dk z.1, unlockE r.2.2 z.2 r.2.1)
section
variable {X : Cx} {kx elt tg iter : Expr} {ifs : List Expr} {scope : Scope} {own : List (Str × Nat)} {pos : Pos} {it : SI} {g : SG} {t : SB} {kf f : SE}
theorem dcomp_read {σ : L2.St} {H : Hp} {Q : VK} {vs : List Nat} {sl : List Nat} (hsl : ∀ j ∈ sl, j ∈ vs) (h : rdF X.K (eDcomp vs it g t kf f) σ H Q) : tDc (rdI X.K it) (rdG X.K g sl) (rdB X.K t) (rdE X.K kf) (rdE X.K f) vs σ H Q := by
  obtain ⟨C, O, env, E, z, e, k⟩ := h
  obtain ⟨r, e1, e2⟩ := bindS e
  obtain ⟨y, e3, e4⟩ := bindS e2
  cases e4
  refine ⟨C, O, env, E, r, e1, fun J H1 O1 Src C' s1 E1 back itd src => fun L hL => ?_⟩
  obtain ⟨s2, E2, L2'⟩ := E1.new (o := .dK []) (d := .dk []) hL fun O' s => .dk upd_same rfl .nil
  have nb : NoBr X.K C' L := E1.noBr hL
  have n0 : ¬ C'.O0 L := L2'.n0
  have nl : C'.lock L = none := L2'.nl
  have E3 := E2.hide L2' upd_same
  refine ⟨fun i m H => ∃ O env acc vs', EnvOk X.K (C'.hide L (.dK vs')) H O σ env ∧ Step H1 O1 H O ∧ Src H O ∧ RepK X.K H O acc vs' ∧ i + m = r.1.length ∧ dcompL vs g t kf f (r.1.drop i) acc env = some y, ⟨r.1.length, _, _, [], [], E3, s2, itd.keep _ _ _ _ src s2 fun a o ha => ?_, .nil, by omega, e3⟩, fun i m H3 hW => ?_⟩
  · exact E2.lock a o ha
  obtain ⟨O3, env3, acc, vs', E4, s4, src4, racc, hm, e5⟩ := hW
  have lkC : ∀ {vs' : List (Key × V)} {H : Hp} {O : Ad} {σ : L2.St} {env : Ev}, EnvOk X.K (C'.hide L (.dK vs')) H O σ env → ∀ a o, C'.lock a = some o → H a = some o := fun E a o ha => E.lock a o (by
    show (if a = L then some _ else C'.lock a) = some o
    rw [if_neg (fun z => by rw [z, nl] at ha; cases ha)]; exact ha)
  have atL : ∀ {vs' : List (Key × V)} {H : Hp} {O : Ad} {σ : L2.St} {env : Ev}, EnvOk X.K (C'.hide L (.dK vs')) H O σ env → H L = some (.dK vs') := fun E => E.lock L _ (if_pos rfl)
  by_cases hi : i < r.1.length
  · rw [List.drop_eq_getElem_cons hi] at e5
    have e5 : (if wipeOk env3 vs = true then (g r.1[i] (wipeE env3 vs)).bind fun e1 => (t e1).bind fun q => if q.1 = true then (kf q.2).bind fun y => (keyOf y.1).bind fun ky => (f y.2).bind fun z => if acc.length < sizeLine then dcompL vs g t kf f (r.1.drop (i + 1)) (dput acc ky z.1) (restore env3 z.2 vs) else none
      else dcompL vs g t kf f (r.1.drop (i + 1)) acc (restore env3 q.2 vs)
    else none) = some y := e5
    split at e5
    · rename_i hwo
      obtain ⟨e6, h1, h2⟩ := bindS e5
      obtain ⟨q, h3, h4⟩ := bindS h2
      refine .inr ⟨itd.go i H3 O3 src4 hi, fun H => ∃ O env acc vs', EnvOk X.K (C'.hide L (.dK vs')) H O σ env ∧ Step H1 O1 H O ∧ Src H O ∧ RepK X.K H O acc vs' ∧ dcompL vs g t kf f (r.1.drop (i + 1)) acc env = some y, fun H' ⟨O', env', a', v', q1, q2, q3, q4, q5⟩ => ⟨m - 1, by omega, O', env', a', v', q1, q2, q3, q4, by omega, q5⟩, fun x H' yy => ?_⟩
      obtain ⟨ex, d, hd, rp⟩ := itd.yld i H3 O3 x H' src4 E4.trk hi yy
      rw [List.getElem?_eq_getElem hi] at hd
      cases hd
      have s5 : Step H3 O3 H' O3 := .ext ex
      refine ⟨C'.hide L (.dK vs'), O3, _, _, (E4.ext ex).wipe hwo, rp, e6, h1, fun σ2 H4 O4 s6 E6 but => ⟨?_, ?_⟩⟩
      · apply List.ext_getElem?
        intro j
        by_cases hj : j ∈ vs
        · by_cases hl : j < σ.length
          · rw [wipe_in hj hl, wipe_in hj (by rw [but.1, wipe_length]; exact hl)]
          · rw [List.getElem?_eq_none (by rw [wipe_length, but.1, wipe_length]; omega), List.getElem?_eq_none (by rw [wipe_length]; omega)]
        · rw [wipe_out hj, but.2 j (fun z => hj (hsl j z))]
      · have s46 : Step H3 O3 H4 O4 := s5.trans s6
        have hw : L2.wipe σ2 vs = L2.wipe σ vs := by
          apply List.ext_getElem?
          intro j
          by_cases hj : j ∈ vs
          · by_cases hl : j < σ.length
            · rw [wipe_in hj hl, wipe_in hj (by rw [but.1, wipe_length]; exact hl)]
            · rw [List.getElem?_eq_none (by rw [wipe_length, but.1, wipe_length]; omega), List.getElem?_eq_none (by rw [wipe_length]; omega)]
          · rw [wipe_out hj, but.2 j (fun z => hj (hsl j z))]
        refine ⟨C'.hide L (.dK vs'), O4, e6, E6, q, h3, fun H5 O5 s7 E7 => ?_⟩
        have s57 : Step H3 O3 H5 O5 := s46.trans s7
        show if q.1 = true then _ else _
        by_cases hq : q.1 = true
        · rw [if_pos hq]
          rw [if_pos hq] at h4
          obtain ⟨yk, h5k, h6k⟩ := bindS h4
          obtain ⟨ky, h7k, h8k⟩ := bindS h6k
          obtain ⟨zz, h5, h6⟩ := bindS h8k
          split at h6
          · rename_i hlen
            refine ⟨C'.hide L (.dK vs'), O5, q.2, E7, yk, h5k, fun yv H5b O5b s8b E8b rp8b => ?_⟩
            refine ⟨C'.hide L (.dK vs'), O5b, yk.2, E8b, zz, h5, fun y6 H6 O6 s8 E8 rp8 => ?_⟩
            have s68 : Step H3 O3 H6 O6 := s57.trans (s8b.trans s8)
            have E9 := E4.restore hwo s68 E8 hw
            obtain ⟨s9, E10⟩ := E9.rehide (o' := .dK (putK vs' ky y6)) nb
            have r6 := (racc.mono (s68.trans s9)).put ky (rp8.mono s9)
            refine ⟨vs', ky, rp8b.key h7k, atL E8, by rw [← racc.length]; exact hlen, O6, _, dput acc ky zz.1, putK vs' ky y6, E10, s4.trans (s68.trans s9), ?_, r6, h6⟩
            exact itd.keep _ _ _ _ src4 (s68.trans s9) (lkC E10)
          · cases h6
        · rw [if_neg hq]
          rw [if_neg hq] at h4
          have E9 := E4.restore hwo s57 E7 hw
          exact ⟨O5, _, acc, vs', E9, s4.trans s57, itd.keep _ _ _ _ src4 s57 (lkC E9), racc.mono s57, h4⟩
    · cases e5
  · have hi : i = r.1.length := by omega
    rw [hi, List.drop_length] at e5
    cases e5
    obtain ⟨E7, L7⟩ := E4.unhide n0 nl nb (.dk (atL E4) racc.1 racc.2)
    obtain ⟨b1, b2⟩ := back _ _ _ _ E7
    exact .inl ⟨by rw [hi]; exact itd.stop H3 O3 src4, k L H3 O3 (s1.trans s4) b1 (b2 _ _ L7)⟩
variable {sl vs : List Nat}
theorem df_dcomp (hc : X.calm = true) (hN : X.N.Nodup) (hi : DI X tg iter it) (ok : BlkOk X.N X.env.scope scope own) (hvs : own.map (·.2) = vs) (hsl : ∀ j ∈ sl, j ∈ vs) (hg : Blk X scope fun Y => DG Y tg g sl) (ht : Blk X scope fun Y => DTs Y ifs t) (hk : Blk X scope fun Y => DE Y kx kf) (he : Blk X scope fun Y => DE Y elt f)
    (hs : ∀ x, foldedSetIterable iter X.env x = pure x) : DF X (.DictComp kx elt [⟨tg, iter, ifs, 0⟩] scope pos) (eDcomp vs it g t kf f) :=
  ⟨wkE (pe_dc (g := rdG X.K g sl) (tt := rdB X.K t) (tk := rdE X.K kf) (tv := rdE X.K f) hc hN hi.pi ok (fun s H C cl fp => (hg s H C cl fp).pg) (fun s H C cl fp => (ht s H C cl fp).pts) (fun s H C cl fp => (hk s H C cl fp).pe) (fun s H C cl fp => (he s H C cl fp).pe) hs) fun σ H Q h => by rw [hvs]; exact dcomp_read hsl h⟩
end
section
variable {s : Slot} {e : Ev} {kf f : SE} {t : SB} {own : List Nat} {it : SI} {g : SG}
theorem ev_eDcomp : eDcomp own it g t kf f (s :: e) = (it (s :: e)).bind fun r => (dcompL own g t kf f r.1 [] (lockE r.2.2 r.2.1)).bind fun z => some (.dk z.1, unlockE r.2.2 z.2 r.2.1) := rfl
end

/-! ### tuple(list): its object is known -/
section
variable {X : Cx}
theorem call_tuple_ofK : CallR X (.type "tuple") (fun xs H Q => ∃ p ys, xs = [.ref p] ∧ ((SqL X.K H p ys ∧ ∀ l (o : Obj), o.dict = none → H l = none → Q (.ref l) (upd H l (.frz o (.tup ys)))) ∨ (SqT X.K H p ys ∧ Q (.ref p) H))) := by
  intro pins s σ H xs us Q I r h
  obtain ⟨p, ys, rfl, h⟩ := h
  obtain ⟨u, rfl, rx⟩ := vals1 r
  cases rx
  rcases h with ⟨hq, q⟩ | ⟨hq, q⟩
  · obtain ⟨its, r', pl, hz⟩ := I.list hq
    have hlen := r'.length
    refine call_tuple_list pl.isList (fun h' kp => ?_) (by simp only [List.size_toArray] <;> omega)
    have I1 : Inv X pins σ H { s with heap := h' } := I.kept (t' := s.toks) kp
    have I2 : Inv X pins σ (upd H h'.objs.size (.frz { cls := .type "tuple", data := .seq its.toArray } (.tup ys))) { s with heap := h'.push { cls := .type "tuple", data := .seq its.toArray } } :=
      I1.laid (t' := s.toks) (fun b o e => Heap.get?_push_of_some _ e) (Nat.le_refl _) (show ObjOk X.prog X.w _ _ _ (.frz _ (.tup ys)) from ⟨Heap.get?_push_size _ rfl, hz, its, r', IsTup.new _ _⟩)
    exact ⟨.ref h'.objs.size, _, I2, rfl, q _ _ rfl (I1.hok.fresh (Nat.le_refl _))⟩
  · obtain ⟨its, r', pl, hz⟩ := I.tuple hq
    exact call_tuple_same pl ⟨.ref p, H, I, rfl, q⟩
def gTupleK : List D → Option D
  | [.kt ds] => some (.kt ds)
  | [d] => (lstD d).bind fun ds => some (.kt ds)
  | _ => none
theorem cd_tupleK : CallD X (.type "tuple") gTupleK := by
  refine ⟨_, call_tuple_ofK, fun H O xs us z Q t hx e k => ?_⟩
  cases xs with
  | nil => cases e
  | cons d ds =>
    cases ds with
    | cons _ _ => cases d <;> cases e
    | nil =>
      obtain ⟨v, rfl, r⟩ := hx.one
      have lst : (lstD d).bind (fun ds => some (D.kt ds)) = some z → (∃ p ys, [v] = [.ref p] ∧ ((SqL X.K H p ys ∧ ∀ l (o : Obj), o.dict = none → H l = none → Q (.ref l) (upd H l (.frz o (.tup ys)))) ∨ (SqT X.K H p ys ∧ Q (.ref p) H))) := fun e => by
        obtain ⟨ds, e1, e2⟩ := bindS e
        cases e2
        obtain ⟨a, vs, rfl, h1, h2⟩ := lst_ok r e1
        refine ⟨a, vs, rfl, .inl ⟨h1, fun l o hd n => k _ _ (upd_ext n) (.kt (.inr ⟨fun q => t l q n, o, hd, upd_same⟩) (h2.mono (.ext (upd_ext n))))⟩⟩
      cases d <;> try (exact lst e)
      cases e
      rename_i ds'
      have rr : Rep X.K H O (.kt ds') v := by
        rcases r with r | ⟨a, rfl, ⟨r⟩⟩
        · exact r
        · cases r
      obtain ⟨a, vs, rfl, h1, h2⟩ := r.kt
      exact ⟨a, vs, rfl, .inr ⟨h1, k _ H (Same.refl H) rr⟩⟩

/-! ### index -/
def rIndexT (K : PySem.W.Frag) : V → List V → Hp → VK → Prop := fun x xs H Q => ∃ (a : Addr) (y : V) (d : PyData) (ds : List PyData) (j : Nat) (z : PyData), x = V.ref a ∧ xs = [y] ∧ Dp K H (V.ref a) (.tuple ds) ∧ Dp K H y d ∧
  SeqAt.shaped (.tuple ds) = true ∧ SeqAt.shaped d = true ∧ ds[j]? = some z ∧ PyData.eqv z d = true ∧ (∀ (m : Nat) (z' : PyData), m < j → ds[m]? = some z' → PyData.eqv z' d = false) ∧ Q (.int (j : Nat)) H
theorem mt_indexT (hu : X.A.units + 65 < cLine) : MtR X "tuple.index" (rIndexT X.K) := by
  intro pins s σ H x xs v us Q I rx rxs h
  obtain ⟨a, y, d, ds, j, z, rfl, rfl, hl, hy, sl, sd, hz, hzj, hno, q⟩ := h
  cases rx
  cases rxs with
  | cons ry rt =>
    rename_i uy ut
    cases rt
    obtain ⟨bs, r1⟩ := Dp.reads I d y uy hy ry
    have hxs : PyData.canLayAll0 ds = true := SeqAt.canLay_of_shaped sl
    have hroom : X.A.units + 1 + min (PyData.depthAll ds) d.depth < cLine := room_shT sd hu
    cases hl with
    | tup hs ha =>
      obtain ⟨its, rv, ⟨⟨cls, dd, data, sls⟩, ho, hc, n, hdt⟩, hlen⟩ := I.tuple hs
      simp only at hc hdt
      subst hc hdt
      obtain ⟨as, h4⟩ := Dp.readsAll I ds _ its ha rv
      have hn : its.length = ds.length := SeqAt.ReadsAll.length ds its as h4
      have hmap : its.map (SeqAt.readOf s.heap) = ds := SeqAt.readsAll_map ds its as hxs h4
      have hvl := rv.length
      obtain ⟨hjd, _⟩ := List.getElem?_eq_some_iff.mp hz
      have hjl : j < its.length := by omega
      have hj : j < its.toArray.size := by simpa using hjl
      have at_ : ∀ (m : Nat) (hm : m < its.toArray.size) (z' : PyData), ds[m]? = some z' → SeqAt.readOf s.heap its.toArray[m] = z' := by
        intro m hm z' hz'
        have hml : m < its.length := by simpa using hm
        rw [← hmap, List.getElem?_map, List.getElem?_eq_getElem hml] at hz'
        have e1 : SeqAt.readOf s.heap its[m] = z' := Option.some.inj (show some (SeqAt.readOf s.heap its[m]) = some z' from hz')
        simpa using e1
      refine call_meets PySem.F.slot_tuple_index ⟨_, ho, rfl⟩ PySem.F.entry_tuple_index (PySem.F.args_tuple_index_2 _ _)
        (TI.tuple_indexAt a its.toArray n dd sls uy (fun u => PyData.eqv (SeqAt.readOf s.heap u) d) j hj ?_ ?_) ⟨ho, SeqAt.items_eqAt (vs := its.toArray) (show ReadsAll s.heap its.toArray.toList ds as from h4) r1 hxs (SeqAt.canLay_of_shaped sd) hroom, ?_⟩
      · show PyData.eqv (SeqAt.readOf s.heap its.toArray[j]) d = true
        rw [at_ j hj z hz]
        exact hzj
      · intro m hm hmj
        have hmd : m < ds.length := by omega
        have hz' : ds[m]? = some ds[m] := List.getElem?_eq_getElem hmd
        show PyData.eqv (SeqAt.readOf s.heap its.toArray[m]) d = false
        rw [at_ m hm _ hz']
        exact hno m _ hmj hz'
      · exact ⟨.int (j : Nat), H, I.tok _, ⟨_, rfl⟩, q⟩
/-- the tuple at a has no dict of its own -/
def DNo (K : PySem.W.Frag) (H : Hp) (a : Addr) : Prop := (∃ o, K.lookup a = some o ∧ o.cls = .type "tuple" ∧ o.dict = none) ∨ ∃ (o : Obj) (ys : List V), H a = some (.frz o (.tup ys)) ∧ o.dict = none
theorem dno_is {pins : List (Addr × Obj)} {σ : L2.St} {H : Hp} {s : Shared} {a : Addr} (I : Inv X pins σ H s) (d : DNo X.K H a) : s.TypeIs (.ref a) "tuple" ∧ ∀ b, Value.ref a = .ref b → ∃ ob, s.heap.get? b = some ob ∧ ob.dict = none := by
  rcases d with ⟨o, hk, hc, hd⟩ | ⟨o, ys, h, hd⟩
  · exact ⟨⟨o, I.kIn a o hk, hc⟩, fun b e => by cases e; exact ⟨o, I.kIn _ o hk, hd⟩⟩
  · have h1 := I.hok a _ h
    obtain ⟨g, _, its, _, o', g', hc, _⟩ := (show s.heap.get? a = some o ∧ ObjOk X.prog X.w H s.heap a (.tup ys) from h1)
    rw [g] at g'
    cases g'
    exact ⟨⟨o, g, hc⟩, fun b e => by cases e; exact ⟨o, g, hd⟩⟩
theorem KtOk.dno {K : PySem.W.Frag} {H : Hp} {O : Ad} {a : Addr} {vs : List V} (h : KtOk K H O a vs) : DNo K H a := by
  rcases h with ⟨h | h, o, hk, hd⟩ | ⟨_, o, hd, h⟩
  · exact (rd0 h).elim
  · obtain ⟨o', its, n, hk', hc, _⟩ := h
    rw [hk] at hk'
    cases hk'
    exact .inl ⟨o, hk, hc, hd⟩
  · exact .inr ⟨o, vs, h, hd⟩
theorem pe_ixT {o e : Expr} {es : List Expr} {to : TE} {t : TA} {apos cpos : Pos} {r : V → List V → Hp → VK → Prop} (hm : MtR X "tuple.index" r) (ho : PE X o to) (ha : PA X (e :: es) t)
    (hbase : attributeBase o "index" X.env (eval o X.env) = eval o X.env)
    (hfew : ((backTo cpos (starEach (e :: es) X.env)).all (fun x => !x.1) && (backToKw cpos (keywordEach [] X.env)).all (fun x => x.1.isSome)
      && decide ((e :: es).length + ([] : List Keyword).length + (if ([] : List Keyword).isEmpty then 0 else 1) < 30)) = true)
    (hline : (apos.endLine == cpos.line) = true) (hs : starEach (e :: es) X.env = (false, eval e X.env) :: starEach es X.env) (hplain : (backTo cpos (starEach es X.env)).any (·.1) = false) :
    PE X (.Call (.Attribute o "index" apos) (e :: es) [] cpos) (fun σ H Q => to σ H fun x H1 => (∃ a, x = .ref a ∧ DNo X.K H1 a) ∧ t σ H1 fun xs H2 => r x xs H2 Q) := by
  refine ⟨fun pins s σ H Q I h => ?_⟩
  refine wpAny_Call_method_late hbase hfew hline rfl (thn (ho.run pins s σ H _ I h) fun v s1 ⟨x, H1, I1, r1, ⟨a, ex, ty⟩, q1⟩ => ?_)
  subst ex
  obtain rfl : v = Value.ref a := r1
  obtain ⟨h1, h2⟩ := dno_is I1 ty
  refine ⟨"tuple", "tuple.index", PySem.F.plainAttrs_tuple, PySem.F.slot_tuple_index, PySem.F.type_tuple_index, h1, h2, ?_⟩
  have hA := ha.run cpos pins s1 σ H1 _ I1 q1
  rw [hs] at hA ⊢
  refine Calls.callWith_builtin (by show (false || (backTo cpos (starEach es X.env)).any (·.1)) = false; rw [hplain] <;> rfl) (Calls.evalArgs_plain ?_)
  exact thn hA fun us s2 ⟨vs, H2, I2, r2, q2⟩ => hm pins s2 σ H2 (.ref a) vs (Value.ref a) us Q I2 (show RelV (.ref a) (Value.ref a) from rfl) r2 q2
/-- the first place of one that is equal -/
def gIndex : D → D → Option D
  | .kt ds, x => if ok 60 x = true ∧ ok 60 (.kt ds) = true then ((pyL ds).findIdx? fun z => PyData.eqv z (py x)).bind fun j => some (.int (j : Nat)) else none
  | .lst ds, x => if ok 60 x = true ∧ ok 60 (.lst ds) = true then ((pyL ds).findIdx? fun z => PyData.eqv z (py x)).bind fun j => some (.int (j : Nat)) else none
  | _, _ => none
def isKt : D → Bool
  | .kt _ => true
  | _ => false
def isLst : D → Bool
  | .lst _ => true
  | _ => false
def kindK (K : Bool) (d : D) : Bool := match K with
  | true => isKt d
  | false => isLst d
def eIndex (K : Bool) (p q : SQ) : SE := fun env => (p env).bind fun r => (getP r.2 r.1).bind fun d0 => if kindK K d0 = true then (q r.2).bind fun s => (getP s.2 r.1).bind fun x => if kindK K x = true then (getP s.2 s.1).bind fun y => (gIndex x y).bind fun z => some (z, s.2) else none else none
theorem found_at {α : Type} {l : List α} {p : α → Bool} {j : Nat} (h : l.findIdx? p = some j) : ∃ z, l[j]? = some z ∧ p z = true ∧ ∀ m z', m < j → l[m]? = some z' → p z' = false := by
  obtain ⟨h1, h2, h3⟩ := List.findIdx?_eq_some_iff_getElem.mp h
  refine ⟨l[j], List.getElem?_eq_getElem h1, h2, fun m z' hm hz => ?_⟩
  have hl : m < l.length := by omega
  rw [List.getElem?_eq_getElem hl] at hz
  cases hz
  have := h3 m hm
  simpa using this
theorem de_indexT {a b : Expr} {p q : SQ} {apos cpos : Pos} (hu : X.A.units + 65 < cLine) (ha : DQ X a p) (hb : DQ X b q) (hs : starEach [b] X.env = (false, eval b X.env) :: starEach [] X.env)
    (hbase : attributeBase a "index" X.env (eval a X.env) = eval a X.env)
    (hfew : ((backTo cpos (starEach [b] X.env)).all (fun x => !x.1) && (backToKw cpos (keywordEach [] X.env)).all (fun x => x.1.isSome)
      && decide ([b].length + ([] : List Keyword).length + (if ([] : List Keyword).isEmpty then 0 else 1) < 30)) = true)
    (hline : (apos.endLine == cpos.line) = true) (hplain : (backTo cpos (starEach [] X.env)).any (·.1) = false) : DE X (.Call (.Attribute a "index" apos) [b] [] cpos) (eIndex true p q) := by
  have hA : DA X [b] (aC q aN) := da_cons hb da_nil hs
  refine ⟨wkE (pe_ixT (mt_indexT hu) ha.pe hA.pa hbase hfew hline hs hplain) fun σ H Q h => ?_⟩
  obtain ⟨C, O, env, E, z, e, k⟩ := h
  obtain ⟨r1, e1, e2⟩ := bindS e
  obtain ⟨d0, e3, e4⟩ := bindS e2
  split at e4
  · rename_i ht
    obtain ⟨r2, e5, e6⟩ := bindS e4
    obtain ⟨x, e7, e8⟩ := bindS e6
    split at e8
    · rename_i ht2
      obtain ⟨y, e9, e10⟩ := bindS e8
      obtain ⟨z, e11, e12⟩ := bindS e10
      cases e12
      refine ⟨C, O, env, E, r1, e1, fun u H1 O1 s1 E1 p1 => ⟨?_, C, O1, _, E1, ([r2.1], r2.2), by unfold aC; rw [e5]; rfl, fun us H2 O2 s2 E2 p2 => ?_⟩⟩
      · have pr := E1.getP e3 p1
        cases d0 <;> try (cases ht; done)
        rcases pr with pr | ⟨a, rfl, ⟨pr⟩⟩
        · cases pr with
          | kt h r => exact ⟨_, rfl, h.dno⟩
        · cases pr
      · cases p2 with
        | cons p2 p3 =>
          cases p3
          have px := E2.getP e7 (p1.mono s2)
          have py := E2.getP e9 p2
          cases x <;> try (cases ht2; done)
          rename_i ds
          have e11 : (if ok 60 y = true ∧ ok 60 (.kt ds) = true then ((pyL ds).findIdx? fun z => PyData.eqv z (Z.py y)).bind fun j => some (.int (j : Nat)) else none) = some z := e11
          split at e11
          · rename_i hk
            obtain ⟨j, e13, e14⟩ := bindS e11
            cases e14
            obtain ⟨zz, h1, h2, h3⟩ := found_at e13
            have d1 := px.dp hk.2
            have d2 := px.shaped hk.2 (by decide)
            unfold Z.py at d1 d2
            obtain ⟨a, vs, rfl, _, _⟩ := px.kt
            exact ⟨a, _, _, _, j, zz, rfl, rfl, d1, py.dp hk.1, d2, py.shaped hk.1 (by decide), h1, h2, h3, k _ H2 O2 (s1.trans s2) E2 (.int _)⟩
          · cases e11
    · cases e8
  · cases e4
theorem de_indexL {a b : Expr} {p q : SQ} {apos cpos : Pos} (hu : X.A.units + 65 < cLine) (ha : DQ X a p) (hb : DQ X b q) (hs : starEach [b] X.env = (false, eval b X.env) :: starEach [] X.env)
    (hbase : attributeBase a "index" X.env (eval a X.env) = eval a X.env)
    (hfew : ((backTo cpos (starEach [b] X.env)).all (fun x => !x.1) && (backToKw cpos (keywordEach [] X.env)).all (fun x => x.1.isSome)
      && decide ([b].length + ([] : List Keyword).length + (if ([] : List Keyword).isEmpty then 0 else 1) < 30)) = true)
    (hline : (apos.endLine == cpos.line) = true) (hplain : (backTo cpos (starEach [] X.env)).any (·.1) = false) : DE X (.Call (.Attribute a "index" apos) [b] [] cpos) (eIndex false p q) := by
  have hA : DA X [b] (aC q aN) := da_cons hb da_nil hs
  refine ⟨wkE (pe_bm PySem.F.plainAttrs_list PySem.F.slot_list_index PySem.F.type_list_index (mt_indexD hu) ha.pe hA.pa hbase hfew hline hs hplain) fun σ H Q h => ?_⟩
  obtain ⟨C, O, env, E, z, e, k⟩ := h
  obtain ⟨r1, e1, e2⟩ := bindS e
  obtain ⟨d0, e3, e4⟩ := bindS e2
  split at e4
  · rename_i ht
    obtain ⟨r2, e5, e6⟩ := bindS e4
    obtain ⟨x, e7, e8⟩ := bindS e6
    split at e8
    · rename_i ht2
      obtain ⟨y, e9, e10⟩ := bindS e8
      obtain ⟨z, e11, e12⟩ := bindS e10
      cases e12
      refine ⟨C, O, env, E, r1, e1, fun u H1 O1 s1 E1 p1 => ⟨?_, C, O1, _, E1, ([r2.1], r2.2), by unfold aC; rw [e5]; rfl, fun us H2 O2 s2 E2 p2 => ?_⟩⟩
      · have pr := E1.getP e3 p1
        cases d0 <;> try (cases ht; done)
        obtain ⟨a, vs, rfl, h1, _⟩ := pr.lst
        exact .inl ⟨rfl, vs, .of h1⟩
      · cases p2 with
        | cons p2 p3 =>
          cases p3
          have px := E2.getP e7 (p1.mono s2)
          have py := E2.getP e9 p2
          cases x <;> try (cases ht2; done)
          rename_i ds
          have e11 : (if ok 60 y = true ∧ ok 60 (.lst ds) = true then ((pyL ds).findIdx? fun z => PyData.eqv z (Z.py y)).bind fun j => some (.int (j : Nat)) else none) = some z := e11
          split at e11
          · rename_i hk
            obtain ⟨j, e13, e14⟩ := bindS e11
            cases e14
            obtain ⟨zz, h1, h2, h3⟩ := found_at e13
            have d1 := px.dp hk.2
            have d2 := px.shaped hk.2 (by decide)
            unfold Z.py at d1 d2
            obtain ⟨a, vs, rfl, _, _⟩ := px.lst
            exact ⟨a, _, _, _, j, zz, rfl, rfl, d1, py.dp hk.1, d2, py.shaped hk.1 (by decide), h1, h2, h3, k _ H2 O2 (s1.trans s2) E2 (.int _)⟩
          · cases e11
    · cases e8
  · cases e4
theorem ev_eIndexT {s : Slot} {e : Ev} {p q : SQ} : eIndex true p q (s :: e) = (p (s :: e)).bind fun r => (getP r.2 r.1).bind fun d0 => if isKt d0 = true then (q r.2).bind fun s => (getP s.2 r.1).bind fun x => if isKt x = true then (getP s.2 s.1).bind fun y => (gIndex x y).bind fun z => some (z, s.2) else none else none := rfl
theorem ev_eIndexL {s : Slot} {e : Ev} {p q : SQ} : eIndex false p q (s :: e) = (p (s :: e)).bind fun r => (getP r.2 r.1).bind fun d0 => if isLst d0 = true then (q r.2).bind fun s => (getP s.2 r.1).bind fun x => if isLst x = true then (getP s.2 s.1).bind fun y => (gIndex x y).bind fun z => some (z, s.2) else none else none := rfl
theorem ev_isKt {ds : List D} : isKt (.kt ds) = true := rfl
theorem ev_isLst {ds : List D} : isLst (.lst ds) = true := rfl

/-! ### d.get(k, x), {k: v} -/
def gGet : D → D → D → Option D
  | x, k, z => (gLook x k).bind fun o => some (o.getD z)
def isDi : D → Bool
  | .dk _ => true
  | .dt _ => true
  | _ => false
def eGet2 (p q : SQ) (f : SE) : SE := fun env => (p env).bind fun r => (getP r.2 r.1).bind fun d0 => if isDi d0 = true then (q r.2).bind fun s => (f s.2).bind fun w => (getP w.2 r.1).bind fun x => (getP w.2 s.1).bind fun y => (gGet x y w.1).bind fun z => some (z, w.2) else none
theorem de_get2 {a b c : Expr} {p q : SQ} {f : SE} {apos cpos : Pos} (hu : X.A.units + 1 < cLine) (ha : DQ X a p) (hb : DQ X b q) (hc : DE X c f) (m : M2 X a "get" apos b c cpos) : DE X (.Call (.Attribute a "get" apos) [b, c] [] cpos) (eGet2 p q f) := by
  refine ⟨wkE (pe_dget2 hu ha.pe hb.pe hc.pe m) fun σ H Q h => ?_⟩
  obtain ⟨C, O, env, E, z, e, k⟩ := h
  obtain ⟨r1, e1, e2⟩ := bindS e
  obtain ⟨d0, e3, e4⟩ := bindS e2
  split at e4
  · rename_i ht
    obtain ⟨r2, e5, e6⟩ := bindS e4
    obtain ⟨w, e7, e8⟩ := bindS e6
    obtain ⟨x, e9, e10⟩ := bindS e8
    obtain ⟨y, e11, e12⟩ := bindS e10
    obtain ⟨z, e13, e14⟩ := bindS e12
    cases e14
    obtain ⟨o, e15, e16⟩ := bindS (show (gLook x y).bind (fun o => some (o.getD w.1)) = some z from e13)
    cases e16
    refine ⟨C, O, env, E, r1, e1, fun u H1 O1 s1 E1 p1 => ?_⟩
    have pr := E1.getP e3 p1
    have hd : ∃ a, u = .ref a ∧ IsD H1 a := by
      cases d0 <;> try (cases ht; done)
      · obtain ⟨a, es, rfl, h1, _⟩ := pr.dkR
        exact ⟨a, rfl, .inl ⟨_, h1⟩⟩
      · obtain ⟨a, es, rfl, h1, _⟩ := pr.dtR
        exact ⟨a, rfl, .inr ⟨_, .inl h1⟩⟩
    obtain ⟨a, rfl, hd⟩ := hd
    refine ⟨a, rfl, hd, C, O1, _, E1, r2, e5, fun v H2 O2 s2 E2 p2 => ⟨C, O2, _, E2, w, e7, fun v3 H3 O3 s3 E3 p3 => ?_⟩⟩
    obtain ⟨a', r, ea, g, h⟩ := look_ok (E3.getP e9 (p1.mono (s2.trans s3))) (E3.getP e11 (p2.mono s3)) e15
    cases ea
    refine ⟨r, g, ?_⟩
    rcases h with ⟨d, w', rfl, rfl, h⟩ | ⟨rfl, rfl⟩
    · exact k _ H3 O3 (s1.trans (s2.trans s3)) E3 h
    · exact k _ H3 O3 (s1.trans (s2.trans s3)) E3 p3
  · cases e4
theorem ev_eGet2 {s : Slot} {e : Ev} {p q : SQ} {f : SE} : eGet2 p q f (s :: e) = (p (s :: e)).bind fun r => (getP r.2 r.1).bind fun d0 => if isDi d0 = true then (q r.2).bind fun s => (f s.2).bind fun w => (getP w.2 r.1).bind fun x => (getP w.2 s.1).bind fun y => (gGet x y w.1).bind fun z => some (z, w.2) else none := rfl
/-- {k: v} -/
def eD1 (f g : SE) : SE := fun env => (f env).bind fun r => (keyOf r.1).bind fun k => (g r.2).bind fun s => some (.dk [(k, s.1)], s.2)
theorem df_d1 {a b : Expr} {f g : SE} {pos : Pos} (ha : DE X a f) (hb : DE X b g) : DF X (.Dict [some a] [b] pos) (eD1 f g) := by
  refine ⟨wkE (pe_disp (pps_cons ha.pe hb.pe pps_nil) rfl rfl (by simp) (by show 1 ≤ 15; decide)) fun σ H Q h => ?_⟩
  obtain ⟨C, O, env, E, z, e, k⟩ := h
  obtain ⟨r1, e1, e2⟩ := bindS e
  obtain ⟨ky, e3, e4⟩ := bindS e2
  obtain ⟨r2, e5, e6⟩ := bindS e4
  cases e6
  intro p hp
  obtain ⟨s2, E2, L2'⟩ := E.new (o := .dK []) (d := .dk []) hp fun O' s => .dk upd_same rfl .nil
  have nb : NoBr X.K C p := E.noBr hp
  have E3 := E2.hide L2' upd_same
  refine ⟨_, _, _, E3, r1, e1, fun u H1 O1 s3 E4 p1 => ⟨_, _, _, E4, r2, e5, fun v H2 O2 s4 E5 p2 => ?_⟩⟩
  have atL : H2 p = some (.dK []) := E5.lock p _ (if_pos rfl)
  refine ⟨atL, [(ky, v)], by rw [p1.key e3]; rfl, by simp, ?_⟩
  have e7 : mergeK [] [(ky, v)] = [(ky, v)] := rfl
  rw [e7]
  obtain ⟨s5, E6⟩ := E5.rehide (o' := .dK [(ky, v)]) nb
  obtain ⟨E7, L7⟩ := E6.unhide L2'.n0 L2'.nl nb (d := .dk [(ky, r2.1)]) (.dk upd_same rfl (.cons (p2.mono s5) .nil))
  exact k p _ _ (s2.trans (s3.trans (s4.trans s5))) E7 L7
theorem ev_eD1 {s : Slot} {e : Ev} {f g : SE} : eD1 f g (s :: e) = (f (s :: e)).bind fun r => (keyOf r.1).bind fun k => (g r.2).bind fun s => some (.dk [(k, s.1)], s.2) := rfl

/-! ### lists of ints, less -/
theorem firstLt_map {e r : Nat → Bool} {fin : Bool} : ∀ l : List Nat, SeqAt.firstLt e r fin (l.map (· + 1)) = SeqAt.firstLt (fun j => e (j + 1)) (fun j => r (j + 1)) fin l
  | [] => rfl
  | j :: l => by
    rw [List.map_cons]
    unfold SeqAt.firstLt
    rw [firstLt_map l]
theorem firstLt_lex : ∀ (ns ms : List Int) (e r : Nat → Bool), (∀ j a c, ns[j]? = some a → ms[j]? = some c → e j = decide (a = c) ∧ r j = decide (a < c)) → SeqAt.firstLt e r (decide (ns.length < ms.length)) (List.range (min ns.length ms.length)) = HT.lexLt ns ms
  | [], [], e, r, _ => rfl
  | [], _ :: _, e, r, _ => by simp [SeqAt.firstLt, HT.lexLt]
  | _ :: _, [], e, r, _ => by simp [SeqAt.firstLt, HT.lexLt]
  | a :: ns, c :: ms, e, r, h => by
    obtain ⟨h1, h2⟩ := h 0 a c rfl rfl
    rw [List.length_cons, List.length_cons, Nat.succ_min_succ, List.range_succ_eq_map]
    unfold SeqAt.firstLt HT.lexLt
    rw [h1, h2]
    have ih := firstLt_lex ns ms (fun j => e (j + 1)) (fun j => r (j + 1)) fun j a c ha hc => h (j + 1) a c (by simpa using ha) (by simpa using hc)
    by_cases q : a = c
    · rw [if_pos (by simpa using q), if_pos q]
      have : List.map Nat.succ (List.range (min ns.length ms.length)) = (List.range (min ns.length ms.length)).map (· + 1) := rfl
      rw [this, firstLt_map, ← ih]
      simp
    · rw [if_neg (by simpa using q), if_neg q]
def rLtL (K : PySem.W.Frag) : R2 := fun x y H Q => ∃ a b ns ms, x = .ref a ∧ y = .ref b ∧ SqL K H a (ns.map V.int) ∧ SqL K H b (ms.map V.int) ∧ Q (.bl (HT.lexLt ns ms)) H
theorem op_ltL (hu : X.A.units < cLine) : OpR X (compareOp .Lt) (rLtL X.K) := by
  intro pins s σ H x y v u Q I rx ry h
  obtain ⟨a, b, ns, ms, rfl, rfl, ha, hb, q⟩ := h
  cases rx
  cases ry
  obtain ⟨its, r1, p1, _⟩ := I.list ha
  obtain ⟨its2, r2, p2, _⟩ := I.list hb
  have l1 := r1.length
  have l2 := r2.length
  rw [List.length_map] at l1 l2
  have at1 : ∀ j (h1 : j < its.length), ∃ i t, ns[j]? = some i ∧ its[j] = Value.int i t := fun j h1 => by
    have hj : j < ns.length := by omega
    obtain ⟨w, hw, t, e⟩ := r1.get (i := j) (x := .int ns[j]) (by simp [hj])
    rw [List.getElem?_eq_getElem h1] at hw
    cases hw
    exact ⟨ns[j], t, List.getElem?_eq_getElem hj, e⟩
  have at2 : ∀ j (h1 : j < its2.length), ∃ i t, ms[j]? = some i ∧ its2[j] = Value.int i t := fun j h1 => by
    have hj : j < ms.length := by omega
    obtain ⟨w, hw, t, e⟩ := r2.get (i := j) (x := .int ms[j]) (by simp [hj])
    rw [List.getElem?_eq_getElem h1] at hw
    cases hw
    exact ⟨ms[j], t, List.getElem?_eq_getElem hj, e⟩
  have key := SeqAt.RcLt.lists (A := X.A) (e := fun j => decide (ns.getD j 0 = ms.getD j 0)) (r := fun j => decide (ns.getD j 0 < ms.getD j 0)) p1.isList p2.isList hu
    (fun j h1 h2 => by
      obtain ⟨i, t, e1, e2⟩ := at1 j (by simpa using h1)
      obtain ⟨i', t', e3, e4⟩ := at2 j (by simpa using h2)
      obtain ⟨k, hk, hiff⟩ := HT.eqAt_int X.A.in1 s i t i' t'
      have : decide (ns.getD j 0 = ms.getD j 0) = k := by
        rw [List.getD_eq_getElem?_getD, List.getD_eq_getElem?_getD, e1, e3]
        show decide (i = i') = k
        cases k with
        | true => exact decide_eq_true (hiff.mp rfl)
        | false => exact decide_eq_false fun q => absurd (hiff.mpr q) (by decide)
      simp only [List.getElem_toArray]
      rw [e2, e4, this]
      exact hk)
    (fun j h1 h2 _ => by
      obtain ⟨i, t, e1, e2⟩ := at1 j (by simpa using h1)
      obtain ⟨i', t', e3, e4⟩ := at2 j (by simpa using h2)
      simp only [List.getElem_toArray]
      rw [e2, e4, List.getD_eq_getElem?_getD, List.getD_eq_getElem?_getD, e1, e3]
      exact fun prog w E Q hq => HT.rcLt_int X.A.in1 s i t i' t' prog w _ _ hq)
  refine key X.prog X.w _ _ ?_
  have e5 := firstLt_lex ns ms (fun j => decide (ns.getD j 0 = ms.getD j 0)) (fun j => decide (ns.getD j 0 < ms.getD j 0)) fun j a c h1 h2 => by
    simp [List.getD_eq_getElem?_getD, h1, h2]
  simp only [List.size_toArray]
  rw [← l1, ← l2, e5]
  exact ⟨.bl (HT.lexLt ns ms), H, I, rfl, q⟩
def gLtL : D → D → Option D
  | .lst xs, .lst ys => (intsOf xs).bind fun ns => (intsOf ys).bind fun ms => some (.bl (HT.lexLt ns ms))
  | _, _ => none
theorem od_ltL (hu : X.A.units < cLine) : OpD X (compareOp .Lt) gLtL := by
  refine ⟨_, op_ltL hu, fun H O x y u v z Q t hx hy e k => ?_⟩
  cases x <;> cases y <;> try (cases e; done)
  rename_i xs ys
  obtain ⟨ns, e1, e2⟩ := bindS (show (intsOf xs).bind (fun ns => (intsOf ys).bind fun ms => some (D.bl (HT.lexLt ns ms))) = some z from e)
  obtain ⟨ms, e3, e4⟩ := bindS e2
  cases e4
  obtain ⟨a, vs, rfl, h1, h2⟩ := hx.lst
  obtain ⟨b, ws, rfl, h3, h4⟩ := hy.lst
  rw [intsOf_eq e1] at h2
  rw [intsOf_eq e3] at h4
  rw [h2.intsV] at h1
  rw [h4.intsV] at h3
  exact ⟨a, b, ns, ms, rfl, rfl, .of h1, .of h3, k _ H (Same.refl H) (.bl _)⟩
end
end Z

/-! The data layer, part R: the evaluator for what parts P and Q bring. -/
namespace Z
open PySem PySem.Spec PyProof.Rows L2
/-- one turn of a dict comprehension -/
def oneD (own : List Nat) (g : SG) (t : SB) (k f : SE) (d : D) (env : Ev) : Option (Option (Key × D) × Ev) := if wipeOk env own = true then (g d (wipeE env own)).bind fun e1 => (t e1).bind fun r => if r.1 = true then (k r.2).bind fun y => (keyOf y.1).bind fun ky => (f y.2).bind fun z => some (some (ky, z.1), restore env z.2 own) else some (none, restore env r.2 own) else none
def putO (acc : List (Key × D)) : Option (Key × D) → List (Key × D)
  | some kv => dput acc kv.1 kv.2
  | none => acc
theorem dput_len (acc : List (Key × D)) (k : Key) (d : D) : (dput acc k d).length ≤ acc.length + 1 := by
  unfold dput
  split
  · rw [List.length_map]; omega
  · rw [List.length_append, List.length_singleton]; exact Nat.le_refl _
theorem putO_len (acc : List (Key × D)) (o : Option (Key × D)) : (putO acc o).length ≤ acc.length + 1 := by
  cases o with
  | none => exact Nat.le_succ _
  | some kv => exact dput_len _ _ _
theorem dcompL_cons {own : List Nat} {g : SG} {t : SB} {kf f : SE} {d : D} {ds : List D} {acc : List (Key × D)} {env : Ev} (h : acc.length < 16777216) : dcompL own g t kf f (d :: ds) acc env = (oneD own g t kf f d env).bind fun r => dcompL own g t kf f ds (putO acc r.1) r.2 := by
  show (if wipeOk env own = true then (g d (wipeE env own)).bind _ else none) = _
  unfold oneD
  split
  · cases g d (wipeE env own) with
    | none => rfl
    | some e1 =>
      rw [Option.bind_some, Option.bind_some]
      cases t e1 with
      | none => rfl
      | some r =>
        rw [Option.bind_some, Option.bind_some]
        split
        · cases kf r.2 with
          | none => rfl
          | some y =>
            rw [Option.bind_some, Option.bind_some]
            cases keyOf y.1 with
            | none => rfl
            | some ky =>
              rw [Option.bind_some, Option.bind_some]
              cases f y.2 with
              | none => rfl
              | some z =>
                rw [Option.bind_some, Option.bind_some, Option.bind_some, if_pos (by rw [sizeLine_eq]; exact h)]
                rfl
        · rw [Option.bind_some]
          rfl
  · rfl
theorem ev_oneD {own : List Nat} {g : SG} {t : SB} {kf f : SE} {d : D} {s : Slot} {env : Ev} : oneD own g t kf f d (s :: env) = if wipeOk (s :: env) own = true then (g d (wipeE (s :: env) own)).bind fun e1 => (t e1).bind fun r => if r.1 = true then (kf r.2).bind fun y => (keyOf y.1).bind fun ky => (f y.2).bind fun z => some (some (ky, z.1), restore (s :: env) z.2 own) else some (none, restore (s :: env) r.2 own) else none := rfl
theorem dcomp_each {α : Type} {own : List Nat} {g : SG} {t : SB} {kf f : SE} {env : Ev} (enc : α → D) (φ : α → Option (Key × D)) : ∀ (xs : List α) (acc : List (Key × D)), acc.length + xs.length ≤ 16777216 →
    (∀ x ∈ xs, oneD own g t kf f (enc x) env = some (φ x, env)) → dcompL own g t kf f (xs.map enc) acc env = some (xs.foldl (fun a x => putO a (φ x)) acc, env)
  | [], acc, _, _ => rfl
  | x :: xs, acc, hl, h => by
    rw [List.length_cons] at hl
    rw [List.map_cons, dcompL_cons (by omega), h x List.mem_cons_self, Option.bind_some, List.foldl_cons]
    have := putO_len acc (φ x)
    exact dcomp_each enc φ xs _ (by show (putO acc (φ x)).length + _ ≤ _; omega) fun y hy => h y (List.mem_cons_of_mem _ hy)
theorem dput_new {acc : List (Key × D)} {k : Key} {d : D} (h : k ∉ acc.map (·.1)) : dput acc k d = acc ++ [(k, d)] := by
  unfold dput
  rw [if_neg]
  intro q
  obtain ⟨kv, h1, h2⟩ := List.any_eq_true.mp q
  exact h (List.mem_map.mpr ⟨kv, h1, of_decide_eq_true h2⟩)
theorem foldl_put {α : Type} (κ : α → Key) (φ : α → D) : ∀ (xs : List α) (acc : List (Key × D)), (acc.map (·.1) ++ xs.map κ).Nodup → xs.foldl (fun a x => putO a (some (κ x, φ x))) acc = acc ++ xs.map fun x => (κ x, φ x)
  | [], acc, _ => by simp
  | x :: xs, acc, h => by
    have hx : κ x ∉ acc.map (·.1) := fun q => by
      rw [List.nodup_append] at h
      exact h.2.2 _ q _ (by simp) rfl
    show xs.foldl _ (dput acc (κ x) (φ x)) = _
    rw [dput_new hx, foldl_put κ φ xs]
    · simp
    · simpa using h
theorem gv_dmap {α β : Type} {own : List Nat} {g : SG} {t : SB} {kf f : SE} {env : Ev} {xs : List α} {k : List (Key × D) × Ev → Option β} {Q : β → Prop} (enc : α → D) (κ : α → Key) (φ : α → D) (hl : xs.length ≤ 16777216) (hd : (xs.map κ).Nodup)
    (h : ∀ x ∈ xs, oneD own g t kf f (enc x) env = some (some (κ x, φ x), env)) (hk : Gv (k (xs.map (fun x => (κ x, φ x)), env)) Q) :
    Gv ((dcompL own g t kf f (xs.map enc) [] env).bind k) Q := by
  rw [dcomp_each enc (fun x => some (κ x, φ x)) xs [] (by rw [List.length_nil]; omega) h, foldl_put κ φ xs [] (by simpa using hd)]
  exact hk
theorem gv_dany {α β : Type} {own : List Nat} {g : SG} {t : SB} {kf f : SE} {env : Ev} {xs : List α} {k : List (Key × D) × Ev → Option β} {Q : β → Prop} (enc : α → D) (φ : α → Option (Key × D)) (hl : xs.length ≤ 16777216)
    (h : ∀ x ∈ xs, oneD own g t kf f (enc x) env = some (φ x, env)) (hk : Gv (k (xs.foldl (fun a x => putO a (φ x)) [], env)) Q) :
    Gv ((dcompL own g t kf f (xs.map enc) [] env).bind k) Q := by
  rw [dcomp_each enc φ xs [] (by rw [List.length_nil]; omega) h]
  exact hk
/-! dicts by texts -/
theorem ev_key_str {x : Str} : keyOf (.str x) = some (.inr x) := rfl
theorem ev_key_int {i : Int} : keyOf (.int i) = some (.inl i) := rfl
theorem ev_look_str {kvs : List (Key × D)} {x : Str} : gLook (.dk kvs) (.str x) = some (dget kvs (.inr x)) := rfl
theorem ev_look_int {kvs : List (Key × D)} {x : Int} : gLook (.dk kvs) (.int x) = some (dget kvs (.inl x)) := rfl
theorem ev_in_dks {kvs : List (Key × D)} {x : Str} : gIn (.str x) (.dk kvs) = some (.bl (dget kvs (.inr x)).isSome) := rfl
theorem ev_notin_dks {kvs : List (Key × D)} {x : Str} : gNotIn (.str x) (.dk kvs) = some (.bl !(dget kvs (.inr x)).isSome) := rfl
theorem ev_in_dki {kvs : List (Key × D)} {x : Int} : gIn (.int x) (.dk kvs) = some (.bl (dget kvs (.inl x)).isSome) := rfl
theorem ev_notin_dki {kvs : List (Key × D)} {x : Int} : gNotIn (.int x) (.dk kvs) = some (.bl !(dget kvs (.inl x)).isSome) := rfl
theorem ev_ix_dks {kvs : List (Key × D)} {x : Str} : gIx (.dk kvs) (.str x) = dget kvs (.inr x) := by
  show (gLook (.dk kvs) (.str x)).bind id = _
  rw [ev_look_str]; rfl
theorem ev_ix_dki {kvs : List (Key × D)} {x : Int} : gIx (.dk kvs) (.int x) = dget kvs (.inl x) := by
  show (gLook (.dk kvs) (.int x)).bind id = _
  rw [ev_look_int]; rfl
theorem ev_get_dks {kvs : List (Key × D)} {x : Str} {z : D} : gGet (.dk kvs) (.str x) z = some ((dget kvs (.inr x)).getD z) := rfl
theorem ev_isDi {kvs : List (Key × D)} : isDi (.dk kvs) = true := rfl
theorem dget_map {α : Type} (xs : List α) (κ : α → Str) (φ : α → D) (s : Str) : dget (xs.map fun x => (Sum.inr (κ x), φ x)) (Sum.inr s : Key) = (xs.find? fun x => decide (κ x = s)).map φ := by
  unfold dget
  rw [List.find?_map, Option.map_map]
  congr 1
  congr 1
  funext x
  simp
/-! ints in lists -/
theorem okL_int {n : Nat} : ∀ ws : List Int, okL n (ws.map D.int) = true
  | [] => by unfold okL; rfl
  | w :: ws => by
    show okL n (.int w :: ws.map D.int) = true
    unfold okL
    rw [okL_int ws]
    cases n <;> rfl
theorem eqvL_int : ∀ ns ms : List Int, PyData.eqvAll (pyL (ns.map D.int)) (pyL (ms.map D.int)) = decide (ns = ms)
  | [], [] => by unfold pyL PyData.eqvAll; rfl
  | [], m :: ms => by unfold pyL PyData.eqvAll; rfl
  | n :: ns, [] => by unfold pyL PyData.eqvAll; rfl
  | n :: ns, m :: ms => by
    show PyData.eqvAll (pyL (.int n :: ns.map D.int)) (pyL (.int m :: ms.map D.int)) = _
    unfold pyL PyData.eqvAll
    rw [eqvL_int ns ms]
    show ((n == m) && decide (ns = ms)) = _
    rw [Bool.eq_iff_iff]
    simp
theorem ev_eq_ints {ns ms : List Int} : gEq (.lst (ns.map D.int)) (.lst (ms.map D.int)) = some (.bl (decide (ns = ms))) := by
  have h1 : ok 60 (.lst (ns.map D.int)) = true := by unfold ok; exact okL_int _
  have h2 : ok 60 (.lst (ms.map D.int)) = true := by unfold ok; exact okL_int _
  show (if ok 60 (.lst (ns.map D.int)) = true ∧ ok 60 (.lst (ms.map D.int)) = true then _ else none) = _
  rw [if_pos ⟨h1, h2⟩]
  unfold py PyData.eqv
  rw [eqvL_int]
theorem pyL_any_int {x : Int} (ws : List Int) : ((pyL (ws.map D.int)).any fun z => PyData.eqv z (py (.int x))) = decide (x ∈ ws) := by
  induction ws with
  | nil => rfl
  | cons w ws ih =>
    show ((pyL (.int w :: ws.map D.int)).any fun z => PyData.eqv z (py (.int x))) = _
    unfold pyL
    rw [List.any_cons, ih]
    show ((w == x) || decide (x ∈ ws)) = _
    by_cases h : w = x
    · subst h; simp
    · have h2 : ¬ x = w := fun e => h e.symm
      simp [h, h2]
theorem in_ints_tup {x : Int} {ws : List Int} : inD (.int x) (.tup (ws.map D.int)) = some (decide (x ∈ ws)) := by
  have h2 : ok 60 (.tup (ws.map D.int)) = true := by unfold ok; exact okL_int _
  show (if ok 60 (.int x) = true ∧ ok 60 (.tup (ws.map D.int)) = true then _ else none) = _
  rw [if_pos ⟨rfl, h2⟩, pyL_any_int]
theorem in_ints_lst {x : Int} {ws : List Int} : inD (.int x) (.lst (ws.map D.int)) = some (decide (x ∈ ws)) := by
  have h2 : ok 60 (.lst (ws.map D.int)) = true := by unfold ok; exact okL_int _
  show (if ok 60 (.int x) = true ∧ ok 60 (.lst (ws.map D.int)) = true then _ else none) = _
  rw [if_pos ⟨rfl, h2⟩, pyL_any_int]
theorem ev_in_ints_tup {x : Int} {ws : List Int} : gIn (.int x) (.tup (ws.map D.int)) = some (.bl (decide (x ∈ ws))) := by unfold gIn; rw [in_ints_tup]; rfl
theorem ev_notin_ints_tup {x : Int} {ws : List Int} : gNotIn (.int x) (.tup (ws.map D.int)) = some (.bl !(decide (x ∈ ws))) := by unfold gNotIn; rw [in_ints_tup]; rfl
theorem ev_in_ints_lst {x : Int} {ws : List Int} : gIn (.int x) (.lst (ws.map D.int)) = some (.bl (decide (x ∈ ws))) := by unfold gIn; rw [in_ints_lst]; rfl
theorem ev_notin_ints_lst {x : Int} {ws : List Int} : gNotIn (.int x) (.lst (ws.map D.int)) = some (.bl !(decide (x ∈ ws))) := by unfold gNotIn; rw [in_ints_lst]; rfl
theorem ev_ltL {ns ms : List Int} : gLtL (.lst (ns.map D.int)) (.lst (ms.map D.int)) = some (.bl (HT.lexLt ns ms)) := by
  show (intsOf (ns.map D.int)).bind _ = _
  rw [intsOf_map, Option.bind_some, intsOf_map]; rfl
/-! bools as numbers -/
theorem ev_int_bl {b : Bool} : gInt [.bl b] = some (.int (if b then 1 else 0)) := rfl
theorem ev_pick2 {x y : D} {b : Bool} : gIx (.lst [x, y]) (.int (if b then 1 else 0)) = some (if b then y else x) := by cases b <;> rfl
theorem ev_pick2p {x y : D} {c : Prop} [Decidable c] : gIx (.lst [x, y]) (.int (if c then 1 else 0)) = some (if c then y else x) := by
  by_cases h : c
  · rw [if_pos h, if_pos h]; rfl
  · rw [if_neg h, if_neg h]; rfl
theorem ev_tupleK_lst {ds : List D} : gTupleK [.lst ds] = some (.kt ds) := rfl
theorem ev_tupleK_kt {ds : List D} : gTupleK [.kt ds] = some (.kt ds) := rfl
theorem ev_tuple_kt {ds : List D} : gTuple [.kt ds] = some (.kt ds) := rfl
theorem ev_list_kt {ds : List D} : gList [.kt ds] = some (.lst ds) := rfl
/-! the place of a thing in a list of different things -/
theorem findIdx_at {α : Type} {l : List α} {p : α → Bool} {j : Nat} {z : α} (h : l[j]? = some z) (hz : p z = true) (hn : ∀ m z', m < j → l[m]? = some z' → p z' = false) : l.findIdx? p = some j := by
  rw [List.findIdx?_eq_some_iff_getElem]
  obtain ⟨h1, h2⟩ := List.getElem?_eq_some_iff.mp h
  refine ⟨h1, by rw [h2]; exact hz, fun m hm => ?_⟩
  have := hn m l[m] hm (List.getElem?_eq_getElem (by omega))
  rw [this]; exact Bool.false_ne_true
theorem ix_strs {K : Bool} {ws : List Str} {x : Str} {j : Nat} (hd : ws.Nodup) (h : ws[j]? = some x) : gIndex (.kt (ws.map D.str)) (.str x) = some (.int j) := by
  have h2 : ok 60 (.kt (ws.map D.str)) = true := by unfold ok; exact okL_str ws
  show (if ok 60 (.str x) = true ∧ ok 60 (.kt (ws.map D.str)) = true then _ else none) = _
  rw [if_pos ⟨rfl, h2⟩, findIdx_at (j := j) (z := py (.str x))]
  · rfl
  · rw [pyL_map, List.getElem?_map, List.getElem?_map, h]; rfl
  · show (x == x) = true
    exact beq_self_eq_true x
  · intro m z' hm hz
    rw [pyL_map, List.getElem?_map, List.getElem?_map] at hz
    cases hy : ws[m]? with
    | none => rw [hy] at hz; cases hz
    | some y =>
      rw [hy] at hz
      cases hz
      show (y == x) = false
      refine beq_eq_false_iff_ne.mpr fun e => ?_
      subst e
      obtain ⟨h1, h3⟩ := List.getElem?_eq_some_iff.mp h
      obtain ⟨h4, h5⟩ := List.getElem?_eq_some_iff.mp hy
      exact absurd (h5.trans h3.symm) (List.pairwise_iff_getElem.mp hd m j h4 h1 hm)
theorem okL_map {α : Type} {n : Nat} (enc : α → D) (ho : ∀ a, ok n (enc a) = true) : ∀ xs : List α, okL n (xs.map enc) = true
  | [] => by unfold okL; rfl
  | x :: xs => by
    show okL n (enc x :: xs.map enc) = true
    unfold okL
    rw [ho x, okL_map enc ho xs]; rfl
theorem idx_gen {α : Type} [DecidableEq α] (enc : α → D) (he : ∀ a b, PyData.eqv (py (enc a)) (py (enc b)) = decide (a = b)) {xs : List α} {x : α} (hx : x ∈ xs) : ((pyL (xs.map enc)).findIdx? fun z => PyData.eqv z (py (enc x))) = some (xs.idxOf x) := by
  have hl := List.idxOf_lt_length_of_mem hx
  refine findIdx_at (z := py (enc x)) ?_ ?_ ?_
  · rw [pyL_map, List.getElem?_map, List.getElem?_map, List.getElem?_eq_getElem hl, List.getElem_idxOf]; rfl
  · rw [he]; exact decide_eq_true rfl
  · intro m z' hm hz
    rw [pyL_map, List.getElem?_map, List.getElem?_map] at hz
    have hl2 : m < xs.length := by omega
    rw [List.getElem?_eq_getElem hl2] at hz
    cases hz
    rw [he]
    refine decide_eq_false fun e => ?_
    have := List.not_of_lt_findIdx (p := (· == x)) (xs := xs) (i := m) hm
    rw [beq_eq_false_iff_ne] at this
    exact this e
theorem ix_genK {α : Type} [DecidableEq α] (enc : α → D) (he : ∀ a b, PyData.eqv (py (enc a)) (py (enc b)) = decide (a = b)) (ho : ∀ a, ok 59 (enc a) = true) {xs : List α} {x : α} (hx : x ∈ xs) : gIndex (.kt (xs.map enc)) (enc x) = some (.int (xs.idxOf x : Nat)) := by
  have h2 : ok 60 (.kt (xs.map enc)) = true := by unfold ok; exact okL_map enc ho _
  have h3 : ok 60 (enc x) = true := by exact ok_mono (n := 59) (m := 60) (by decide) (ho x)
  show (if ok 60 (enc x) = true ∧ ok 60 (.kt (xs.map enc)) = true then _ else none) = _
  rw [if_pos ⟨h3, h2⟩, idx_gen enc he hx]; rfl
theorem ix_genL {α : Type} [DecidableEq α] (enc : α → D) (he : ∀ a b, PyData.eqv (py (enc a)) (py (enc b)) = decide (a = b)) (ho : ∀ a, ok 59 (enc a) = true) {xs : List α} {x : α} (hx : x ∈ xs) : gIndex (.lst (xs.map enc)) (enc x) = some (.int (xs.idxOf x : Nat)) := by
  have h2 : ok 60 (.lst (xs.map enc)) = true := by unfold ok; exact okL_map enc ho _
  have h3 : ok 60 (enc x) = true := by exact ok_mono (n := 59) (m := 60) (by decide) (ho x)
  show (if ok 60 (enc x) = true ∧ ok 60 (.lst (xs.map enc)) = true then _ else none) = _
  rw [if_pos ⟨h3, h2⟩, idx_gen enc he hx]; rfl
theorem ix_strK {xs : List Str} {x : Str} (hx : x ∈ xs) : gIndex (.kt (xs.map D.str)) (.str x) = some (.int (xs.idxOf x : Nat)) := ix_genK D.str (fun a b => by show (a == b) = _; rw [Bool.eq_iff_iff]; simp) (fun _ => rfl) hx
theorem ev_slk {ds : List D} {lo hi : Option Int} : gSl (.kt ds) lo hi = if HT.sIx ds.length 0 lo = 0 ∧ HT.sIx ds.length ds.length hi = ds.length then some (.kt ds) else some (.tup (cutL ds lo hi)) := rfl
theorem ev_slk_to {ds : List D} {i : Int} (h : 0 ≤ i ∧ i < ds.length) : gSl (.kt ds) none (some i) = some (.tup (ds.take i.toNat)) := by
  rw [ev_slk, if_neg, cutL_to h.1]
  rintro ⟨_, e⟩
  rw [sIx_nn h.1] at e
  omega
theorem ev_slk_from {ds : List D} {i : Int} (h : 1 ≤ i ∧ i ≤ ds.length) : gSl (.kt ds) (some i) none = some (.tup (ds.drop i.toNat)) := by
  rw [ev_slk, if_neg, cutL_from (by omega)]
  rintro ⟨e, _⟩
  rw [sIx_nn (by omega)] at e
  omega
end Z

/-! The data layer, part S: a name that owns a list of lists: made, read, written, given back. -/
namespace Z
open PySem PySem.Spec PyProof.Rows L2
section
variable {K : PySem.W.Frag} {C C2 : Ctx} {H H' : Hp} {O O' : Ad} {σ : L2.St} {env : Ev}
/-- what is known of the rows -/
structure MxRows (K : PySem.W.Frag) (H : Hp) (O : Ad) (a : Addr) (bs : List Addr) (r : List (List D)) : Prop where
  top : H a = some (.lst (bs.map V.ref))
  nd : (a :: bs).Nodup
  len : bs.length = r.length
  row : ∀ (k : Nat) (b : Addr), bs[k]? = some b → ∃ ds vs, r[k]? = some ds ∧ H b = some (.lst vs) ∧ RepL K H O ds vs
/-- owned, in no slot -/
def Apart (C : Ctx) (O : Ad) (σ : L2.St) (env : Ev) (b : Addr) : Prop := O b ∧ ¬ C.O0 b ∧ C.lock b = none ∧ ∀ j, Mt env j → σ[j]? ≠ some (some (.ref b))
def noMx (env : Ev) : Bool := env.all fun s => match s with
  | .mx _ => false
  | _ => true
theorem noMx_at (h : noMx env = true) (i : Nat) (r : List (List D)) : env[i]? ≠ some (.mx r) := fun e => by
  have := List.all_eq_true.mp h _ (List.mem_of_getElem? e)
  cases this
theorem mt_no {i : Nat} {x : Slot} (hx : ∀ d, x ≠ .ow d) (hx2 : ∀ d, x ≠ .io d) {j : Nat} (m : Mt (env.set i x) j) : j ≠ i ∧ Mt env j := by
  rcases m with ⟨d, m⟩ | ⟨d, m⟩
  · rcases get_set m with ⟨rfl, z⟩ | ⟨n, z⟩
    · exact (hx d z.symm).elim
    · exact ⟨n, .inl ⟨d, z⟩⟩
  · rcases get_set m with ⟨rfl, z⟩ | ⟨n, z⟩
    · exact (hx2 d z.symm).elim
    · exact ⟨n, .inr ⟨d, z⟩⟩
theorem mt_back {i : Nat} {x y : Slot} (he : env[i]? = some y) (hy : ∀ d, y ≠ .ow d) (hy2 : ∀ d, y ≠ .io d) {j : Nat} (m : Mt env j) : Mt (env.set i x) j := by
  have n : j ≠ i := fun z => by
    subst z
    rcases m with ⟨d, m⟩ | ⟨d, m⟩
    · rw [he] at m; exact hy d (Option.some.inj m)
    · rw [he] at m; exact hy2 d (Option.some.inj m)
  unfold Mt at m ⊢
  rw [List.getElem?_set_ne (Ne.symm n)]
  exact m
/-- a slot without owner changes to another such -/
theorem EnvOk.swap (E : EnvOk K C H O σ env) {i : Nat} {x y : Slot} (he : env[i]? = some y) (hy : y = .no ∨ ∃ r, y = .mx r) (hx : x = .no ∨ ∃ r, x = .mx r) (M : MxAll K C H O σ (env.set i x)) : EnvOk K C H O σ (env.set i x) := by
  have hx1 : ∀ d, x ≠ .ow d := fun d e => by rcases hx with z | ⟨r, z⟩ <;> (rw [z] at e; cases e)
  have hx2 : ∀ d, x ≠ .io d := fun d e => by rcases hx with z | ⟨r, z⟩ <;> (rw [z] at e; cases e)
  have hx3 : ∀ d, x ≠ .fz d := fun d e => by rcases hx with z | ⟨r, z⟩ <;> (rw [z] at e; cases e)
  have hx4 : ∀ d, x ≠ .br d := fun d e => by rcases hx with z | ⟨r, z⟩ <;> (rw [z] at e; cases e)
  have hy2 : ∀ d, y ≠ .io d := fun d e => by rcases hy with z | ⟨r, z⟩ <;> (rw [z] at e; cases e)
  have hy4 : ∀ d, y ≠ .br d := fun d e => by rcases hy with z | ⟨r, z⟩ <;> (rw [z] at e; cases e)
  refine ⟨by rw [List.length_set]; exact E.len, E.o0, E.trk, E.lock, fun j d e => ?_, fun j d e => ?_, fun j d e => ?_, fun j a e => ?_, fun j d e => ?_, fun j v d e => ?_, fun j k a n mj mk => E.sep j k a n (mt_no hx1 hx2 mj).2 (mt_no hx1 hx2 mk).2, M⟩
  · rcases get_set e with ⟨_, z⟩ | ⟨n, z⟩
    · exact (hx3 d z.symm).elim
    · exact E.fz j d z
  · rcases get_set e with ⟨_, z⟩ | ⟨n, z⟩
    · exact (hx1 d z.symm).elim
    · exact E.ow j d z
  · rcases get_set e with ⟨_, z⟩ | ⟨n, z⟩
    · exact (hx2 d z.symm).elim
    · exact E.io j d z
  · obtain ⟨q1, q2, q3, d, q4⟩ := E.ioS j a e
    have n : j ≠ i := fun z => by subst z; rw [he] at q4; exact hy2 d (Option.some.inj q4)
    exact ⟨q1, q2, q3, d, by rw [List.getElem?_set_ne (Ne.symm n)]; exact q4⟩
  · rcases get_set e with ⟨_, z⟩ | ⟨n, z⟩
    · exact (hx4 d z.symm).elim
    · exact E.br j d z
  · obtain ⟨q1, q2, q3⟩ := E.brS j v d e
    have n : j ≠ i := fun z => by subst z; rw [he] at q2; exact hy4 d (Option.some.inj q2)
    exact ⟨q1, by rw [List.getElem?_set_ne (Ne.symm n)]; exact q2, q3⟩
theorem EnvOk.addMx (E : EnvOk K C H O σ env) {i : Nat} {a : Addr} {bs : List Addr} {r : List (List D)} (he : env[i]? = some .no) (hs : σ[i]? = some (some (.ref a))) (nm : ∀ (i : Nat) (r : List (List D)), env[i]? ≠ some (.mx r))
    (R : MxRows K H O a bs r) (ap : ∀ b ∈ a :: bs, Apart C O σ env b) : EnvOk K C H O σ (env.set i (.mx r)) := by
  have hl : i < env.length := (List.getElem?_eq_some_iff.mp he).1
  refine E.swap he (.inl rfl) (.inr ⟨r, rfl⟩) ⟨fun j r' e => ?_, fun b h => ?_, fun j k r' r'' e1 e2 => ?_⟩
  · rcases get_set e with ⟨rfl, z⟩ | ⟨n, z⟩
    · cases z
      exact ⟨a, bs, hs, R.top, R.nd, R.len, R.row⟩
    · exact (nm j r' z).elim
  · obtain ⟨j, r', a', bs', e1, e2, e3, hm⟩ := h
    rcases get_set e1 with ⟨rfl, z⟩ | ⟨n, z⟩
    · rw [hs] at e2; cases e2
      rw [R.top] at e3
      have : bs = bs' := refs_inj (by injection (Option.some.inj e3))
      subst this
      obtain ⟨h1, h2, h3, h4⟩ := ap b hm
      exact ⟨h1, h2, h3, fun k m => h4 k (mt_no (x := .mx r) (fun _ z => by cases z) (fun _ z => by cases z) m).2⟩
    · exact (nm j r' z).elim
  · rcases get_set e1 with ⟨rfl, _⟩ | ⟨n, z⟩
    · rcases get_set e2 with ⟨rfl, _⟩ | ⟨n, z⟩
      · rfl
      · exact (nm k r'' z).elim
    · exact (nm j r' z).elim
theorem EnvOk.dropMx (E : EnvOk K C H O σ env) {i : Nat} {r : List (List D)} (he : env[i]? = some (.mx r)) :
    EnvOk K C H O σ (env.set i .no) ∧ (∀ (j : Nat) (r : List (List D)), (env.set i .no)[j]? ≠ some (.mx r)) ∧ ∃ a bs, σ[i]? = some (some (.ref a)) ∧ MxRows K H O a bs r ∧ ∀ b ∈ a :: bs, Apart C O σ (env.set i .no) b := by
  have nm : ∀ (j : Nat) (r : List (List D)), (env.set i .no)[j]? ≠ some (.mx r) := fun j r' e => by
    rcases get_set e with ⟨_, z⟩ | ⟨n, z⟩
    · cases z
    · exact n (E.mx.one j i r' r z he)
  refine ⟨E.swap he (.inr ⟨r, rfl⟩) (.inl rfl) (.none nm), nm, ?_⟩
  obtain ⟨a, bs, h1, h2, h3, h4, h5⟩ := E.mx.ats i r he
  refine ⟨a, bs, h1, ⟨h2, h3, h4, h5⟩, fun b hb => ?_⟩
  obtain ⟨q1, q2, q3, q4⟩ := E.mx.own b ⟨i, r, a, bs, he, h1, h2, hb⟩
  exact ⟨q1, q2, q3, fun j m => q4 j (mt_no (x := .no) (fun _ z => by cases z) (fun _ z => by cases z) m).2⟩
/-- an owned address that no slot knows is changed -/
theorem EnvOk.poke (E : EnvOk K C H O σ env) {b : Addr} {o : HO} (ap : Apart C O σ env b) (nm : ∀ (i : Nat) (r : List (List D)), env[i]? ≠ some (.mx r)) : Step H O (upd H b o) O ∧ EnvOk K C (upd H b o) O σ env := by
  obtain ⟨h1, h2, h3, h4⟩ := ap
  have s : Step H O (upd H b o) O := ⟨fun c u n q => by rw [upd_ne (fun z => n (by rw [z]; exact h1))]; exact q, fun _ z => .inl z⟩
  refine ⟨s, E.step s E.o0 (fun c z => ?_) (fun c u z => ?_) (fun j c m q => ?_) (fun j c d q z w => ⟨z, upd_ne fun e => w (e ▸ h3)⟩) fun c h => ?_⟩
  · by_cases n : c = b
    · rw [n, upd_same]; intro q; cases q
    · rw [upd_ne n]; exact E.trk c z
  · have n : c ≠ b := fun e => by rw [e, h3] at z; cases z
    rw [upd_ne n]; exact E.lock c u z
  · have n : c ≠ b := fun e => h4 j m (e ▸ q)
    refine ⟨?_, upd_ne n⟩
    rcases m with ⟨d, m⟩ | ⟨d, m⟩
    · obtain ⟨c', q1, q2, _⟩ := E.ow j d m
      rw [q] at q1; cases q1
      exact q2
    · obtain ⟨c', q1, _⟩ := E.io j d m
      obtain ⟨q2, q3, _⟩ := E.ioS j c' q1
      rw [q] at q2; cases q2
      exact q3
  · obtain ⟨i, r, _, _, e, _⟩ := h
    exact (nm i r e).elim
theorem Apart.mono {b : Addr} (h : Apart C O σ env b) {O' : Ad} (ho : O' b) : Apart C O' σ env b := ⟨ho, h.2⟩
theorem EnvOk.mxMut (E : EnvOk K C H O σ env) {i : Nat} {r : List (List D)} {a : Addr} {bs : List Addr} (he : env[i]? = some (.mx r)) (hs : σ[i]? = some (some (.ref a))) (R : MxRows K H O a bs r) {k j : Nat} {b : Addr} {ds : List D} {vs : List V} {d : D} {w : V}
    (hk : bs[k]? = some b) (hr : r[k]? = some ds) (hb : H b = some (.lst vs)) (rl : RepL K H O ds vs) (rp : Rep K H O d w) : Step H O (upd H b (.lst (vs.set j w))) O ∧ EnvOk K C (upd H b (.lst (vs.set j w))) O σ (env.set i (.mx (r.set k (ds.set j d)))) := by
  obtain ⟨E1, nm, a', bs', h1, R', ap⟩ := E.dropMx he
  rw [hs] at h1; cases h1
  have eb : bs' = bs := refs_inj (by have := R.top.symm.trans R'.top; injection this with this; injection this with this; exact this.symm)
  subst eb
  have bm : b ∈ bs' := List.mem_of_getElem? hk
  obtain ⟨s, E2⟩ := E1.poke (o := .lst (vs.set j w)) (ap b (List.mem_cons_of_mem _ bm)) nm
  have hl : i < env.length := (List.getElem?_eq_some_iff.mp he).1
  have nab : a ≠ b := fun z => (List.nodup_cons.mp R.nd).1 (z ▸ bm)
  have E3 := E2.addMx (i := i) (a := a) (bs := bs') (r := r.set k (ds.set j d)) (List.getElem?_set_self hl) hs nm ⟨by rw [upd_ne nab]; exact R.top, R.nd, by rw [List.length_set]; exact R.len, fun m c hc => ?_⟩ ap
  · rw [List.set_set] at E3
    exact ⟨s, E3⟩
  · obtain ⟨ds2, vs2, q1, q2, q3⟩ := R.row m c hc
    by_cases e : m = k
    · subst e
      rw [hk] at hc; cases hc
      rw [hr] at q1; cases q1
      exact ⟨_, _, List.getElem?_set_self (List.getElem?_eq_some_iff.mp hr).1, upd_same, RepL.set (rp.mono s) j (rl.mono s)⟩
    · have nc : c ≠ b := fun z => by
        subst z
        obtain ⟨l1, g1⟩ := List.getElem?_eq_some_iff.mp hc
        obtain ⟨l2, g2⟩ := List.getElem?_eq_some_iff.mp hk
        rcases Nat.lt_or_gt_of_ne e with h | h
        · exact List.pairwise_iff_getElem.mp (List.nodup_cons.mp R.nd).2 m k l1 l2 h (g1.trans g2.symm)
        · exact List.pairwise_iff_getElem.mp (List.nodup_cons.mp R.nd).2 k m l2 l1 h (g2.trans g1.symm)
      exact ⟨ds2, vs2, by rw [List.getElem?_set_ne (Ne.symm e)]; exact q1, by rw [upd_ne nc]; exact q2, q3.mono s⟩
theorem RepL.of_get {ds : List D} {vs : List V} (hl : ds.length = vs.length) (h : ∀ (k : Nat) (d : D) (v : V), ds[k]? = some d → vs[k]? = some v → Rep K H O d v) : RepL K H O ds vs := by
  induction ds generalizing vs with
  | nil => cases vs with
    | nil => exact .nil
    | cons v vs => cases hl
  | cons d ds ih => cases vs with
    | nil => cases hl
    | cons v vs => exact .cons (h 0 d v rfl rfl) (ih (by simpa using hl) fun k d v h1 h2 => h (k + 1) d v (by simpa using h1) (by simpa using h2))
theorem EnvOk.mxFreeze (E : EnvOk K C H O σ env) {i : Nat} {r : List (List D)} (he : env[i]? = some (.mx r)) : ∃ a O', σ[i]? = some (some (.ref a)) ∧ Step H O H O' ∧ EnvOk K C H O' σ (env.set i .no) ∧ Rep K H O' (.lst (r.map .lst)) (.ref a) := by
  obtain ⟨E1, nm, a, bs, h1, R, ap⟩ := E.dropMx he
  have s : Step H O H (fun c => O c ∧ c ∉ a :: bs) := ⟨fun _ _ _ q => q, fun _ z => .inl z.1⟩
  refine ⟨a, fun c => O c ∧ c ∉ a :: bs, h1, s, E1.step s (fun c z => ⟨E.o0 c z, fun m => (ap c m).2.1 z⟩) (fun c z => E.trk c z.1) E.lock (fun j c m q => ⟨⟨?_, fun z => (ap c z).2.2.2 j m q⟩, rfl⟩) (fun j c d q z w => ⟨⟨z, fun m => w (ap c m).2.2.1⟩, rfl⟩) fun c h => ?_, .lst (fun z => z.2 List.mem_cons_self) R.top (.of_get (by rw [List.length_map, List.length_map, R.len]) fun k d v hd hv => ?_)⟩
  · rcases m with ⟨d, m⟩ | ⟨d, m⟩
    · obtain ⟨c', q1, q2, _⟩ := E1.ow j d m
      rw [q] at q1; cases q1
      exact q2
    · obtain ⟨c', q1, _⟩ := E1.io j d m
      obtain ⟨q2, q3, _⟩ := E1.ioS j c' q1
      rw [q] at q2; cases q2
      exact q3
  · obtain ⟨i, r, _, _, e, _⟩ := h
    exact (nm i r e).elim
  · rw [List.getElem?_map] at hv hd
    cases hb : bs[k]? with
    | none => rw [hb] at hv; cases hv
    | some b =>
      rw [hb] at hv; cases hv
      obtain ⟨ds, vs, q1, q2, q3⟩ := R.row k b hb
      rw [q1] at hd; cases hd
      exact .lst (fun z => z.2 (List.mem_cons_of_mem _ (List.mem_of_getElem? hb))) q2 (q3.mono s)

/-! ### many hidden at once -/
def Ctx.relock (C : Ctx) (a : Addr) (o : HO) : Ctx := { C with lock := fun b => if b = a then some o else C.lock b }
theorem EnvOk.relock {a : Addr} {o' : HO} (E : EnvOk K C H O σ env) (h0 : C.O0 a) (hl : C.lock a ≠ none) (nb : NoBr K C a) : Step H O (upd H a o') O ∧ EnvOk K (C.relock a o') (upd H a o') O σ env := by
  have oa : O a := E.o0 a h0
  have s : Step H O (upd H a o') O := ⟨fun b u n q => by rw [upd_ne (fun z => n (by rw [z]; exact oa))]; exact q, fun _ z => .inl z⟩
  have lk : ∀ {b : Addr}, C.lock b = none → b ≠ a ∧ (C.relock a o').lock b = none := fun {b} h => by
    have n : b ≠ a := fun z => hl (z ▸ h)
    refine ⟨n, ?_⟩
    show (if b = a then some o' else C.lock b) = none
    rw [if_neg n]; exact h
  refine ⟨s, E.len, E.o0, fun b z => ?_, fun b u z => ?_, fun i e q => ?_, fun i e q => ?_, fun i e q => ?_, fun i b q => ?_, E.br, fun i v e q => ?_, E.sep, E.mx.move s (fun _ _ e => ⟨e, rfl⟩) (fun b hb => upd_ne (lk (E.mx.own b hb).2.2.1).1) fun b hb => ?_⟩
  · by_cases n : b = a
    · rw [n, upd_same]; intro q; cases q
    · rw [upd_ne n]; exact E.trk b z
  · have z : (if b = a then some o' else C.lock b) = some u := z
    split at z
    · rename_i n; cases z; rw [n]; exact upd_same
    · rename_i n
      rw [upd_ne n]
      exact E.lock b u z
  · obtain ⟨v, q1, r⟩ := E.fz i e q
    exact ⟨v, q1, r.mono s⟩
  · obtain ⟨b, q1, h1, h2, h3, h4⟩ := E.ow i e q
    obtain ⟨n, h5⟩ := lk h3
    exact ⟨b, q1, h1, h2, h5, h4.mono s (upd_ne n)⟩
  · obtain ⟨b, q1, h4⟩ := E.io i e q
    obtain ⟨_, _, h2, _⟩ := E.ioS i b q1
    exact ⟨b, q1, h4.mono s (upd_ne (lk h2).1)⟩
  · obtain ⟨q1, h1, h2, h3⟩ := E.ioS i b q
    exact ⟨q1, h1, (lk h2).2, h3⟩
  · obtain ⟨q1, q2, h⟩ := E.brS i v e q
    refine ⟨q1, q2, ?_⟩
    rcases h with h | ⟨b, rfl, h1, h2, h3⟩
    · exact .inl (h.mono s)
    · have n : b ≠ a := fun z => nb i e (z ▸ q) H O (z ▸ h3)
      refine .inr ⟨b, rfl, h1, ?_, h3.mono s (upd_ne n)⟩
      show (if b = a then some o' else C.lock b) ≠ none
      rw [if_neg n]
      exact h2
  · obtain ⟨h1, h2, h3, h4⟩ := E.mx.own b hb
    exact ⟨h1, h2, (lk h3).2, h4⟩
structure RelC (C Cn : Ctx) (S : List Addr) : Prop where
  io : Cn.io = C.io
  br : Cn.br = C.br
  lk : ∀ b, b ∉ S → Cn.lock b = C.lock b
  o0 : ∀ b, Cn.O0 b ↔ (C.O0 b ∨ b ∈ S)
  ln : ∀ b, b ∈ S → Cn.lock b ≠ none
theorem RelC.nil : RelC C C [] := ⟨rfl, rfl, fun _ _ => rfl, fun _ => by simp, fun _ h => nomatch h⟩
theorem RelC.hide {Cn : Ctx} {S : List Addr} (h : RelC C Cn S) (a : Addr) (o : HO) : RelC C (Cn.hide a o) (a :: S) where
  io := h.io
  br := h.br
  lk := fun b hb => by
    rw [List.mem_cons, not_or] at hb
    show (if b = a then some o else Cn.lock b) = _
    rw [if_neg hb.1]; exact h.lk b hb.2
  o0 := fun b => by
    show (Cn.O0 b ∨ b = a) ↔ _
    rw [h.o0 b, List.mem_cons]
    constructor
    · rintro ((q | q) | q)
      · exact .inl q
      · exact .inr (.inr q)
      · exact .inr (.inl q)
    · rintro (q | q | q)
      · exact .inl (.inl q)
      · exact .inr q
      · exact .inl (.inr q)
  ln := fun b hb => by
    show (if b = a then some o else Cn.lock b) ≠ none
    by_cases e : b = a
    · rw [if_pos e]; intro z; cases z
    · rw [if_neg e]
      exact h.ln b ((List.mem_cons.mp hb).resolve_left e)
theorem RelC.relock {Cn : Ctx} {S : List Addr} (h : RelC C Cn S) {a : Addr} (ha : a ∈ S) (o : HO) : RelC C (Cn.relock a o) S where
  io := h.io
  br := h.br
  lk := fun b hb => by
    show (if b = a then some o else Cn.lock b) = _
    rw [if_neg (show ¬ b = a by intro e; rw [e] at hb; exact hb ha)]; exact h.lk b hb
  o0 := h.o0
  ln := fun b hb => by
    show (if b = a then some o else Cn.lock b) ≠ none
    by_cases e : b = a
    · rw [if_pos e]; intro z; cases z
    · rw [if_neg e]
      exact h.ln b hb
theorem EnvOk.unhideAll {Cn : Ctx} {S : List Addr} (E : EnvOk K Cn H O σ env) (R : RelC C Cn S) (n0 : ∀ b ∈ S, ¬ C.O0 b) (nl : ∀ b ∈ S, C.lock b = none) (nb : ∀ b ∈ S, NoBr K C b) : EnvOk K C H O σ env ∧ ∀ b ∈ S, Apart C O σ env b ∧ ¬ InMx H σ env b := by
  have lk : ∀ {b : Addr}, Cn.lock b = none → b ∉ S ∧ C.lock b = none := fun {b} h => by
    have n : b ∉ S := fun z => R.ln b z h
    exact ⟨n, by rw [← R.lk b n]; exact h⟩
  refine ⟨⟨E.len, fun b z => E.o0 b ((R.o0 b).mpr (.inl z)), E.trk, fun b u z => E.lock b u ?_, E.fz, fun i e q => ?_, fun i e q => ?_, fun i b q => ?_, fun i e q => ?_, fun i v e q => ?_, E.sep, E.mx.move .refl (fun _ _ e => ⟨e, rfl⟩) (fun _ _ => rfl) fun b hb => ?_⟩, fun b hb => ⟨⟨E.o0 b ((R.o0 b).mpr (.inr hb)), n0 b hb, nl b hb, fun j m q => ?_⟩, fun h => (E.mx.own b h).2.1 ((R.o0 b).mpr (.inr hb))⟩⟩
  · have n : b ∉ S := fun h => by rw [nl b h] at z; cases z
    rw [R.lk b n]; exact z
  · obtain ⟨b, q1, h1, h2, h3, h4⟩ := E.ow i e q
    exact ⟨b, q1, h1, fun z => h2 ((R.o0 b).mpr (.inl z)), (lk h3).2, h4⟩
  · obtain ⟨b, q1, h⟩ := E.io i e q
    exact ⟨b, by rw [← R.io]; exact q1, h⟩
  · obtain ⟨q1, h1, h2, h3⟩ := E.ioS i b (by rw [R.io]; exact q)
    exact ⟨q1, h1, (lk h2).2, h3⟩
  · obtain ⟨v, q1⟩ := E.br i e q
    exact ⟨v, by rw [← R.br]; exact q1⟩
  · obtain ⟨q1, q2, h⟩ := E.brS i v e (by rw [R.br]; exact q)
    refine ⟨q1, q2, ?_⟩
    rcases h with h | ⟨b, rfl, h1, h2, h3⟩
    · exact .inl h
    · have n : b ∉ S := fun z => nb b z i e q H O h3
      exact .inr ⟨b, rfl, h1, by rw [← R.lk b n]; exact h2, h3⟩
  · obtain ⟨h1, h2, h3, h4⟩ := E.mx.own b hb
    exact ⟨h1, fun z => h2 ((R.o0 b).mpr (.inl z)), (lk h3).2, h4⟩
  · rcases m with ⟨d, m⟩ | ⟨d, m⟩
    · obtain ⟨c, q1, _, h2, _⟩ := E.ow j d m
      rw [q] at q1; cases q1
      exact h2 ((R.o0 b).mpr (.inr hb))
    · obtain ⟨c, q1, _⟩ := E.io j d m
      obtain ⟨q2, _, h2, _⟩ := E.ioS j c q1
      rw [q] at q2; cases q2
      exact R.ln b hb h2
end
end Z

/-! The data layer, part T: rules for a name that owns a list of lists. -/
namespace Z
open PySem PySem.Spec PyProof.Rows L2
section
variable {K : PySem.W.Frag} {C : Ctx} {H H' : Hp} {O O' : Ad} {σ : L2.St} {env : Ev}
/-- behind a turn of the block -/
theorem EnvOk.restore2 {C2 : Ctx} (E : EnvOk K C H O σ env) (hio : C2.io = C.io) (hbr : C2.br = C.br) {own : List Nat} (h : wipeOk env own = true) (s : Step H O H' O') {σ2 : L2.St} {e2 : Ev} (E2 : EnvOk K C2 H' O' σ2 e2) (hw : L2.wipe σ2 own = L2.wipe σ own) :
    EnvOk K C2 H' O' σ (Z.restore env e2 own) := by
  have hlen : e2.length = env.length := by
    rw [← E2.len, ← E.len, ← wipe_length σ2 own, hw, wipe_length]
  have sg : ∀ {j : Nat}, j ∉ own → σ2[j]? = σ[j]? := fun {j} n => by
    rw [← wipe_out (σ := σ2) n, hw, wipe_out n]
  have inn : ∀ {j : Nat} {x : Slot}, j ∈ own → (Z.restore env e2 own)[j]? = some x → env[j]? = some x ∧ (x = .no ∨ ∃ d, x = .fz d) := fun {j x} hj e => by
    have hl : j < e2.length := by
      have := (List.getElem?_eq_some_iff.mp e).1
      rw [restore_len] at this
      exact this
    rw [restore_in hj hl] at e
    have e := Option.some.inj e
    rcases wipeOk_at h hj with z | ⟨d, z⟩
    · rw [List.getD_eq_getElem?_getD, z] at e
      subst e
      exact ⟨z, .inl rfl⟩
    · rw [List.getD_eq_getElem?_getD, z] at e
      subst e
      exact ⟨z, .inr ⟨d, rfl⟩⟩
  have out : ∀ {j : Nat} {x : Slot}, (Z.restore env e2 own)[j]? = some x → x ≠ .no → (∀ d, x ≠ .fz d) → j ∉ own := fun {j x} e n1 n2 hj => by
    obtain ⟨_, q | ⟨d, q⟩⟩ := inn hj e
    · exact n1 q
    · exact n2 d q
  have mt : ∀ {j : Nat}, Mt (Z.restore env e2 own) j → j ∉ own ∧ Mt e2 j := fun {j} m => by
    have n : j ∉ own := by
      rcases m with ⟨d, m⟩ | ⟨d, m⟩
      · exact out m (fun z => nomatch z) (fun _ z => nomatch z)
      · exact out m (fun z => nomatch z) (fun _ z => nomatch z)
    unfold Mt at m
    rw [restore_out n] at m
    exact ⟨n, m⟩
  have nio : ∀ {j : Nat} {a : Addr}, C.io j = some a → j ∉ own := fun {j a} e hj => by
    obtain ⟨_, _, _, d, q⟩ := E.ioS j a e
    rcases wipeOk_at h hj with z | ⟨d', z⟩ <;> (rw [z] at q; cases q)
  have nbr : ∀ {j : Nat} {v : V} {d : D}, C.br j = some (v, d) → j ∉ own := fun {j v d} e hj => by
    obtain ⟨_, q, _⟩ := E.brS j v d e
    rcases wipeOk_at h hj with z | ⟨d', z⟩ <;> (rw [z] at q; cases q)
  refine ⟨by rw [restore_len, hlen]; exact E.len, E2.o0, E2.trk, E2.lock, fun j d e => ?_, fun j d e => ?_, fun j d e => ?_, fun j a e => ?_, fun j d e => ?_, fun j v d e => ?_, fun j k a n mj mk => ?_, E2.mx.move .refl (fun j r e => ?_) (fun _ _ => rfl) fun b hb => ⟨(E2.mx.own b hb).1, (E2.mx.own b hb).2.1, (E2.mx.own b hb).2.2.1, fun j m q => ?_⟩⟩
  · by_cases hj : j ∈ own
    · obtain ⟨z, _⟩ := inn hj e
      obtain ⟨v, h1, h2⟩ := E.fz j d z
      exact ⟨v, h1, h2.mono s⟩
    · rw [restore_out hj] at e
      rw [← sg hj]
      exact E2.fz j d e
  · have n := out e (fun z => nomatch z) (fun _ z => nomatch z)
    rw [restore_out n] at e
    rw [← sg n]
    exact E2.ow j d e
  · have n := out e (fun z => nomatch z) (fun _ z => nomatch z)
    rw [restore_out n] at e
    exact E2.io j d e
  · have n := nio (hio ▸ e)
    rw [← sg n, restore_out n]
    exact E2.ioS j a e
  · have n := out e (fun z => nomatch z) (fun _ z => nomatch z)
    rw [restore_out n] at e
    exact E2.br j d e
  · have n := nbr (hbr ▸ e)
    rw [← sg n, restore_out n]
    exact E2.brS j v d e
  · rw [← sg (mt mj).1, ← sg (mt mk).1]
    exact E2.sep j k a n (mt mj).2 (mt mk).2
  · have n := out e (fun z => nomatch z) (fun _ z => nomatch z)
    rw [restore_out n] at e
    exact ⟨e, (sg n).symm⟩
  · rw [← sg (mt m).1] at q
    exact (E2.mx.own b hb).2.2.2 j (mt m).2 q
theorem Loose.noBr {d : D} {a : Addr} (L : Loose K C H O σ env d a) (E : EnvOk K C H O σ env) : NoBr K C a := fun i e h H2 O2 ow => by
  obtain ⟨_, _, q⟩ := E.brS i _ e h
  rcases q with q | ⟨b, z, _, q, _⟩
  · cases ow with
    | fdk _ _ _ => cases q with | dk n _ _ _ => exact n L.o
    | own ow => cases ow with
    | lst _ _ => cases q with | lst n _ _ => exact n L.o
    | dk _ _ _ => cases q with | dk n _ _ _ => exact n L.o
    | dt _ _ _ => cases q with | dt n _ _ _ => exact n L.o
  · cases z
    exact q L.nl
end
/-- the rows [e for x in xs], each new -/
def compM (own : List Nat) (g : SG) (f : SE) : List D → List (List D) → Ev → Option (List (List D) × Ev)
  | [], acc, env => some (acc, env)
  | d :: ds, acc, env => if wipeOk env own = true then (g d (wipeE env own)).bind fun e1 => (f e1).bind fun z => match z.1 with
      | .lst row => if acc.length < sizeLine then compM own g f ds (acc ++ [row]) (restore env z.2 own) else none
      | _ => none
    else none
def sMxNew (i : Nat) (own : List Nat) (it : SI) (g : SG) (f : SE) : SS := fun env => (it env).bind fun r => if r.2.1 = none then (compM own g f r.1 [] r.2.2).bind fun z => if free z.2 i = true ∧ noMx z.2 = true then some (.nx (z.2.set i (.mx z.1))) else none else none
section
variable {X : Cx} {elt tg iter : Expr} {ifs : List Expr} {scope : Scope} {own : List (Str × Nat)} {pos : Pos} {it : SI} {g : SG} {f : SE}
theorem NoBr.br {K : PySem.W.Frag} {C C2 : Ctx} {a : Addr} (h : NoBr K C a) (e : C2.br = C.br) : NoBr K C2 a := fun i d q => h i d (by rw [← e]; exact q)
theorem mxnew_read {σ : L2.St} {H : Hp} {Q : VK} {vs : List Nat} {sl : List Nat} (hsl : ∀ j ∈ sl, j ∈ vs)
    (h : ∃ C O env, EnvOk X.K C H O σ env ∧ ∃ (r : List D × Option Nat × Ev) (z : List (List D) × Ev), it env = some r ∧ r.2.1 = none ∧ compM vs g f r.1 [] r.2.2 = some z ∧
      ∀ a bs H' O', Step H O H' O' → EnvOk X.K C H' O' σ z.2 → MxRows X.K H' O' a bs z.1 → (∀ b ∈ a :: bs, Apart C O' σ z.2 b ∧ ¬ InMx H' σ z.2 b) → Q (.ref a) H') :
    tLc (rdI X.K it) (rdG X.K g sl) (rdB X.K tTrue) (rdF X.K f) vs σ H Q := by
  obtain ⟨C, O, env, E, r, y, e1, en, e3, k⟩ := h
  refine ⟨C, O, env, E, r, e1, fun J H1 O1 Src C' s1 E1 back itd src => fun L hL => ?_⟩
  rw [en] at E1 back
  have E1 : EnvOk X.K C' H1 O1 σ r.2.2 := E1
  have E1b : EnvOk X.K C H1 O1 σ r.2.2 := (back _ _ _ _ E1).1
  obtain ⟨s2, E2, L2'⟩ := E1.new (o := .lst []) hL fun O' s => .lst upd_same .nil
  have nbL : NoBr X.K C' L := E1.noBr hL
  have E3 := E2.hide L2' upd_same
  have cL : ¬ C.O0 L ∧ C.lock L = none := ⟨fun z => E1b.trk L (E1b.o0 L z) hL, by
    cases q : C.lock L with
    | none => rfl
    | some o => rw [E1b.lock L o q] at hL; cases hL⟩
  refine ⟨fun i m H => ∃ Cn O env rows bs S, EnvOk X.K Cn H O σ env ∧ RelC C' Cn S ∧ (∀ b, b ∈ S ↔ b = L ∨ b ∈ bs) ∧ (L :: bs).Nodup ∧ bs.length = rows.length ∧ Cn.lock L = some (.lst (bs.map V.ref)) ∧
      (∀ (k : Nat) (b : Addr), bs[k]? = some b → ∃ ds vs, rows[k]? = some ds ∧ Cn.lock b = some (.lst vs) ∧ RepL X.K H O ds vs) ∧ (∀ b ∈ S, (¬ C'.O0 b ∧ C'.lock b = none) ∧ (¬ C.O0 b ∧ C.lock b = none) ∧ NoBr X.K C' b) ∧
      Step H1 O1 H O ∧ Src H O ∧ i + m = r.1.length ∧ compM vs g f (r.1.drop i) rows env = some y,
    ⟨r.1.length, _, _, _, [], [], [L], E3, RelC.nil.hide L _, fun b => by simp, by simp, rfl, if_pos rfl, fun k b hk => (by cases hk), fun b hb => ?_, s2, itd.keep _ _ _ _ src s2 fun a o ha => E2.lock a o ha, by omega, e3⟩, fun i m H3 hW => ?_⟩
  · rw [List.mem_singleton.mp hb]
    exact ⟨⟨L2'.n0, L2'.nl⟩, cL, nbL⟩
  obtain ⟨Cn, O3, env3, rows, bs, S, E4, R, hS, nd, hlen, lkL, hrow, hfresh, s4, src4, hm, e5⟩ := hW
  have LS : L ∈ S := (hS L).mpr (.inl rfl)
  have lkC : ∀ {Cn : Ctx} {S : List Addr} {H : Hp} {O : Ad} {σ : L2.St} {env : Ev}, RelC C' Cn S → (∀ b ∈ S, C'.lock b = none) → EnvOk X.K Cn H O σ env → ∀ a o, C'.lock a = some o → H a = some o := fun R n E a o ha => E.lock a o (by
    rw [R.lk a (fun z => by rw [n a z] at ha; cases ha)]; exact ha)
  by_cases hi : i < r.1.length
  · rw [List.drop_eq_getElem_cons hi] at e5
    have e5 : (if wipeOk env3 vs = true then (g r.1[i] (wipeE env3 vs)).bind fun e1 => (f e1).bind fun z => (match z.1 with
      | .lst row => if rows.length < sizeLine then compM vs g f (r.1.drop (i + 1)) (rows ++ [row]) (restore env3 z.2 vs) else none
      | _ => none) else none) = some y := e5
    split at e5
    · rename_i hwo
      obtain ⟨e6, h1, h2⟩ := bindS e5
      obtain ⟨zz, h5, h6⟩ := bindS h2
      refine .inr ⟨itd.go i H3 O3 src4 hi, fun H => ∃ Cn O env rows bs S, EnvOk X.K Cn H O σ env ∧ RelC C' Cn S ∧ (∀ b, b ∈ S ↔ b = L ∨ b ∈ bs) ∧ (L :: bs).Nodup ∧ bs.length = rows.length ∧ Cn.lock L = some (.lst (bs.map V.ref)) ∧
        (∀ (k : Nat) (b : Addr), bs[k]? = some b → ∃ ds vs, rows[k]? = some ds ∧ Cn.lock b = some (.lst vs) ∧ RepL X.K H O ds vs) ∧ (∀ b ∈ S, (¬ C'.O0 b ∧ C'.lock b = none) ∧ (¬ C.O0 b ∧ C.lock b = none) ∧ NoBr X.K C' b) ∧
        Step H1 O1 H O ∧ Src H O ∧ compM vs g f (r.1.drop (i + 1)) rows env = some y, fun H' ⟨Cn, O', env', rows', bs', S', q1, q2, q3, q4, q5, q6, q7, q8, q9, q10, q11⟩ => ⟨m - 1, by omega, Cn, O', env', rows', bs', S', q1, q2, q3, q4, q5, q6, q7, q8, q9, q10, by omega, q11⟩, fun x H' yy => ?_⟩
      obtain ⟨ex, d, hd, rp⟩ := itd.yld i H3 O3 x H' src4 E4.trk hi yy
      rw [List.getElem?_eq_getElem hi] at hd
      cases hd
      have s5 : Step H3 O3 H' O3 := .ext ex
      refine ⟨Cn, O3, _, _, (E4.ext ex).wipe hwo, rp, e6, h1, fun σ2 H4 O4 s6 E6 but => ⟨?_, ?_⟩⟩
      · apply List.ext_getElem?
        intro j
        by_cases hj : j ∈ vs
        · by_cases hl : j < σ.length
          · rw [wipe_in hj hl, wipe_in hj (by rw [but.1, wipe_length]; exact hl)]
          · rw [List.getElem?_eq_none (by rw [wipe_length, but.1, wipe_length]; omega), List.getElem?_eq_none (by rw [wipe_length]; omega)]
        · rw [wipe_out hj, but.2 j (fun z => hj (hsl j z))]
      · have s46 : Step H3 O3 H4 O4 := s5.trans s6
        have hw : L2.wipe σ2 vs = L2.wipe σ vs := by
          apply List.ext_getElem?
          intro j
          by_cases hj : j ∈ vs
          · by_cases hl : j < σ.length
            · rw [wipe_in hj hl, wipe_in hj (by rw [but.1, wipe_length]; exact hl)]
            · rw [List.getElem?_eq_none (by rw [wipe_length, but.1, wipe_length]; omega), List.getElem?_eq_none (by rw [wipe_length]; omega)]
          · rw [wipe_out hj, but.2 j (fun z => hj (hsl j z))]
        refine ⟨Cn, O4, e6, E6, (true, e6), rfl, fun H5 O5 s7 E7 => ?_⟩
        show if true = true then _ else _
        rw [if_pos rfl]
        refine ⟨Cn, O5, e6, E7, zz, h5, fun a H6 O6 s8 E8 L8 => ?_⟩
        have s68 : Step H3 O3 H6 O6 := s46.trans (s7.trans s8)
        have ow8 := L8.own
        cases hzz : zz.1 with
        | lst row =>
          rw [hzz] at h6 ow8 L8
          have h6 : (if rows.length < sizeLine then compM vs g f (r.1.drop (i + 1)) (rows ++ [row]) (restore env3 zz.2 vs) else none) = some y := h6
          split at h6
          · rename_i hlr
            cases ow8 with
            | @lst _ ws _ ha rl =>
              have aS : a ∉ S := fun z => L8.n0 ((R.o0 a).mpr (.inr z))
              have aL : a ≠ L := fun z => aS (z ▸ LS)
              have ab : a ∉ bs := fun z => aS ((hS a).mpr (.inr z))
              have nba : NoBr X.K C' a := (L8.noBr E8).br R.br.symm
              obtain ⟨E8', _⟩ := E8.unhideAll R (fun b hb => (hfresh b hb).1.1) (fun b hb => (hfresh b hb).1.2) (fun b hb => (hfresh b hb).2.2)
              have L8' : Loose X.K C' H6 O6 σ2 zz.2 (.lst row) a := ⟨L8.o, fun z => L8.n0 ((R.o0 a).mpr (.inl z)), by rw [← R.lk a aS]; exact L8.nl, .lst ha rl, L8.sep, L8.nmx⟩
              have L8c := (back _ _ _ _ E8').2 _ _ L8'
              have E9 := E8.hide L8 ha
              have E10 := E4.restore2 (C2 := Cn.hide a (.lst ws)) rfl rfl hwo s68 E9 hw
              have R2 := R.hide a (.lst ws)
              have nbL2 : NoBr X.K (Cn.hide a (.lst ws)) L := (hfresh L LS).2.2.br R.br
              obtain ⟨s9, E11⟩ := E10.relock (a := L) (o' := .lst ((bs ++ [a]).map V.ref)) ((R2.o0 L).mpr (.inr (List.mem_cons_of_mem _ LS))) (R2.ln L (List.mem_cons_of_mem _ LS)) nbL2
              have R3 := R2.relock (List.mem_cons_of_mem _ LS) (.lst ((bs ++ [a]).map V.ref))
              refine ⟨bs.map V.ref, ?_, by rw [List.length_map, hlen]; exact hlr, ?_⟩
              · exact E8.lock L _ lkL
              · have em : bs.map V.ref ++ [V.ref a] = (bs ++ [a]).map V.ref := by rw [List.map_append]; rfl
                rw [em]
                refine ⟨_, O6, _, rows ++ [row], bs ++ [a], a :: S, E11, R3, fun b => ?_, ?_, by rw [List.length_append, List.length_append, hlen]; rfl, if_pos rfl, fun k b hk => ?_, fun b hb => ?_, s4.trans (s68.trans s9), ?_, h6⟩
                · rw [List.mem_cons, hS b, List.mem_append, List.mem_singleton]
                  constructor
                  · rintro (q | q | q)
                    · exact .inr (.inr q)
                    · exact .inl q
                    · exact .inr (.inl q)
                  · rintro (q | q | q)
                    · exact .inr (.inl q)
                    · exact .inr (.inr q)
                    · exact .inl q
                · rw [List.nodup_cons] at nd ⊢
                  refine ⟨fun z => ?_, ?_⟩
                  · rcases List.mem_append.mp z with z | z
                    · exact nd.1 z
                    · exact aL (List.mem_singleton.mp z).symm
                  · rw [List.nodup_append]
                    exact ⟨nd.2, by simp, fun b hb c hc e => ab (by rw [List.mem_singleton.mp hc] at e; rw [← e]; exact hb)⟩
                · by_cases hkl : k < bs.length
                  · rw [List.getElem?_append_left hkl] at hk
                    obtain ⟨ds, ws', q1, q2, q3⟩ := hrow k b hk
                    have bm := List.mem_of_getElem? hk
                    have bL : b ≠ L := fun z => (List.nodup_cons.mp nd).1 (z ▸ bm)
                    have ba : b ≠ a := fun z => ab (z ▸ bm)
                    refine ⟨ds, ws', by rw [List.getElem?_append_left (by omega)]; exact q1, ?_, q3.mono (s68.trans s9)⟩
                    show (if b = L then some _ else if b = a then some _ else Cn.lock b) = _
                    rw [if_neg bL, if_neg ba]; exact q2
                  · rw [List.getElem?_append_right (by omega)] at hk
                    have hk0 : k - bs.length = 0 := by
                      have := (List.getElem?_eq_some_iff.mp hk).1
                      simp at this; omega
                    rw [hk0] at hk
                    cases hk
                    refine ⟨row, ws, by rw [List.getElem?_append_right (by omega), ← hlen, hk0]; rfl, ?_, rl.mono s9⟩
                    show (if a = L then some _ else if a = a then some _ else Cn.lock a) = _
                    rw [if_neg aL, if_pos rfl]
                · rcases List.mem_cons.mp hb with rfl | hb
                  · exact ⟨⟨L8'.n0, L8'.nl⟩, ⟨L8c.n0, L8c.nl⟩, nba⟩
                  · exact hfresh b hb
                · exact itd.keep _ _ _ _ src4 (s68.trans s9) (lkC R3 (fun b hb => by
                    rcases List.mem_cons.mp hb with rfl | hb
                    · exact L8'.nl
                    · exact (hfresh b hb).1.2) E11)
          · cases h6
        | _ => rw [hzz] at h6; cases h6
    · cases e5
  · have hi : i = r.1.length := by omega
    rw [hi, List.drop_length] at e5
    cases e5
    obtain ⟨E7, A7⟩ := E4.unhideAll R (fun b hb => (hfresh b hb).1.1) (fun b hb => (hfresh b hb).1.2) (fun b hb => (hfresh b hb).2.2)
    have b1 := (back _ _ _ _ E7).1
    refine .inl ⟨by rw [hi]; exact itd.stop H3 O3 src4, k L bs H3 O3 (s1.trans s4) b1 ⟨E4.lock L _ lkL, nd, hlen, fun k b hk => ?_⟩ fun b hb => ?_⟩
    · obtain ⟨ds, ws, q1, q2, q3⟩ := hrow k b hk
      exact ⟨ds, ws, q1, E4.lock b _ q2, q3⟩
    · have bS : b ∈ S := (hS b).mpr (List.mem_cons.mp hb)
      obtain ⟨⟨a1, _, _, a4⟩, a5⟩ := A7 b bS
      exact ⟨⟨a1, (hfresh b bS).2.1.1, (hfresh b bS).2.1.2, a4⟩, a5⟩
/-- y = [[..] for x in xs] -/
theorem ds_mxNew {i : Nat} {y : Str} {py : Pos} {spos : Pos} {sl vs : List Nat} (hc : X.calm = true) (hN : X.N.Nodup) (hy : X.N[i]? = some y) (hyl : X.env.scope.names.lookup y = some .local)
    (hsw : swapsWith (.ListComp elt [⟨tg, iter, [], 0⟩] scope pos) (some (.Name y py)) spos.line X.env = pure true) (hi : DI X tg iter it) (ok : BlkOk X.N X.env.scope scope own) (hvs : own.map (·.2) = vs) (hsl : ∀ j ∈ sl, j ∈ vs) (hg : Blk X scope fun Y => DG Y tg g sl) (he : Blk X scope fun Y => DF Y elt f)
    (hs : ∀ x, foldedSetIterable iter X.env x = pure x) : DS X (.Assign [.Name y py] (.ListComp elt [⟨tg, iter, [], 0⟩] scope pos) spos) (sMxNew i vs it g f) := by
  refine ⟨wkS (ps_setLc (g := rdG X.K g sl) (tt := rdB X.K tTrue) (te := rdF X.K f) hc hN hy hyl hsw hi.pi ok (fun s H C cl fp => (hg s H C cl fp).pg) (fun s H C cl fp => dts_nil.pts) (fun s H C cl fp => (he s H C cl fp).pe) hs) fun N σ H ⟨C, O, env, E, o, e, k⟩ => ?_⟩
  obtain ⟨r1, e1, e2⟩ := bindS e
  split at e2
  · rename_i hn
    obtain ⟨z, e3, e4⟩ := bindS e2
    split at e4
    · rename_i hf
      cases e4
      rw [hvs]
      refine mxnew_read hsl ⟨C, O, env, E, r1, z, e1, hn, e3, fun a bs H' O' s E' R ap => ?_⟩
      have fr := free_ok hf.1
      have hl : i < z.2.length := fr.lt
      have hls : i < σ.length := by rw [E'.len]; exact hl
      have E2 := E'.setNo fr (v := .ref a)
      have mt : ∀ {j}, Mt (z.2.set i .no) j → j ≠ i ∧ Mt z.2 j := fun {j} m => mt_no (x := .no) (fun _ q => by cases q) (fun _ q => by cases q) m
      have E3 := E2.addMx (i := i) (a := a) (bs := bs) (r := z.1) (List.getElem?_set_self hl) (List.getElem?_set_self hls) (fun j r q => by
        rcases get_set q with ⟨_, w⟩ | ⟨_, w⟩
        · cases w
        · exact noMx_at hf.2 j r w) R fun b hb => by
          obtain ⟨⟨a1, a2, a3, a4⟩, _⟩ := ap b hb
          refine ⟨a1, a2, a3, fun j m q => ?_⟩
          obtain ⟨n, mj⟩ := mt m
          rw [List.getElem?_set_ne (Ne.symm n)] at q
          exact a4 j mj q
      rw [List.set_set] at E3
      exact k _ H' O' s E3
    · cases e4
  · cases e2

/-! ### table[k][j] -/
def intS : Option Slot → Option Int
  | some (.fz (.int i)) => some i
  | _ => none
def rowsS : Option Slot → Option (List (List D))
  | some (.mx r) => some r
  | _ => none
def eMxGet (i j k : Nat) : SE := fun env => (rowsS env[i]?).bind fun r => (intS env[j]?).bind fun n => (intS env[k]?).bind fun m => (atI r n).bind fun row => (atI row m).bind fun d => some (d, env)
theorem rowsS_some {o : Option Slot} {r : List (List D)} (h : rowsS o = some r) : o = some (.mx r) := by
  unfold rowsS at h
  split at h
  · cases h; rfl
  · cases h
theorem intS_some {o : Option Slot} {n : Int} (h : intS o = some n) : o = some (.fz (.int n)) := by
  unfold intS at h
  split at h
  · cases h; rfl
  · cases h
theorem atI_get {α : Type} {xs : List α} {i : Int} {x : α} (h : atI xs i = some x) : ∃ k : Nat, xs[k]? = some x ∧ ∀ {β : Type} (ys : List β), ys.length = xs.length → ixN ys.length i = some k := by
  unfold atI at h
  obtain ⟨k, h1, h2⟩ := bindS h
  exact ⟨k, h2, fun ys e => by rw [e]; exact h1⟩
variable {x x1 x2 : Str} {p0 p1 p2 p3 p4 : Pos}
theorem slot_int {K : PySem.W.Frag} {C : Ctx} {H : Hp} {O : Ad} {σ : L2.St} {env : Ev} (E : EnvOk K C H O σ env) {j : Nat} {n : Int} (h : intS env[j]? = some n) : σ[j]? = some (some (.int n)) := by
  obtain ⟨v, h1, h2⟩ := E.fz j _ (intS_some h)
  cases h2
  exact h1
theorem de_mxGet (i j k : Nat) (hN : X.N[i]? = some x) (hv : Vis X.env.scope x) (hd : (x == ("__debug__" : Str)) = false) (hcd : (x == ("__classdict__" : Str)) = false)
    (hN1 : X.N[j]? = some x1) (hv1 : Vis X.env.scope x1) (hd1 : (x1 == ("__debug__" : Str)) = false) (hcd1 : (x1 == ("__classdict__" : Str)) = false)
    (hN2 : X.N[k]? = some x2) (hv2 : Vis X.env.scope x2) (hd2 : (x2 == ("__debug__" : Str)) = false) (hcd2 : (x2 == ("__classdict__" : Str)) = false)
    (hs1 : PlainIx (.Name x1 p1)) (hs2 : PlainIx (.Name x2 p2)) : DE X (.Subscript (.Subscript (.Name x p0) (.Name x1 p1) p3) (.Name x2 p2) p4) (eMxGet i j k) := by
  refine ⟨wkE (pe_ix ix_list (pe_ix ix_list (pe_var hN hv hd hcd) (pe_var hN1 hv1 hd1 hcd1) hs1) (pe_var hN2 hv2 hd2 hcd2) hs2) fun σ H Q ⟨C, O, env, E, z, e, kk⟩ => ?_⟩
  obtain ⟨r, e1, e2⟩ := bindS e
  obtain ⟨n, e3, e4⟩ := bindS e2
  obtain ⟨m, e5, e6⟩ := bindS e4
  obtain ⟨row, e7, e8⟩ := bindS e6
  obtain ⟨d, e9, e10⟩ := bindS e8
  cases e10
  obtain ⟨a, bs, h1, h2, h3, h4, h5⟩ := E.mx.ats i r (rowsS_some e1)
  obtain ⟨kr, g1, g2⟩ := atI_get e7
  have hlr := (List.getElem?_eq_some_iff.mp g1).1
  obtain ⟨b, hb⟩ : ∃ b, bs[kr]? = some b := ⟨_, List.getElem?_eq_getElem (by omega)⟩
  obtain ⟨ds, vs, q1, q2, q3⟩ := h5 kr _ hb
  rw [g1] at q1; cases q1
  obtain ⟨w, w1, w2⟩ := atI_rep q3 e9
  refine ⟨_, h1, _, slot_int E e3, a, bs.map V.ref, n, .ref b, rfl, rfl, .of h2, ?_, _, slot_int E e5, _, vs, m, w, rfl, rfl, .of q2, w1, kk w H O .refl E w2⟩
  unfold atI
  rw [g2 (bs.map V.ref) (by rw [List.length_map, h4]), Option.bind_some, List.getElem?_map, hb]
  rfl
/-- table[k][j] = e -/
def sMxPut (i j k : Nat) (f : SE) : SS := fun env => (f env).bind fun z => (rowsS z.2[i]?).bind fun r => (intS z.2[j]?).bind fun n => (intS z.2[k]?).bind fun m => (ixN r.length n).bind fun a => (r[a]?).bind fun row => (ixN row.length m).bind fun b => some (.nx (z.2.set i (.mx (r.set a (row.set b z.1)))))
theorem ds_mxPut (i j k : Nat) {e : Expr} {p pos : Pos} (hN : X.N[i]? = some x) (hv : Vis X.env.scope x) (hd : (x == ("__debug__" : Str)) = false) (hcd : (x == ("__classdict__" : Str)) = false)
    (hN1 : X.N[j]? = some x1) (hv1 : Vis X.env.scope x1) (hd1 : (x1 == ("__debug__" : Str)) = false) (hcd1 : (x1 == ("__classdict__" : Str)) = false)
    (hN2 : X.N[k]? = some x2) (hv2 : Vis X.env.scope x2) (hd2 : (x2 == ("__debug__" : Str)) = false) (hcd2 : (x2 == ("__classdict__" : Str)) = false) (hs1 : PlainIx (.Name x1 p1)) (h : DE X e f)
    (ha : ∀ v, assign (.Subscript (.Subscript (.Name x p0) (.Name x1 p1) p3) (.Name x2 p2) p) X.env v = (do
      let ov ← holding [v] (eval (.Subscript (.Name x p0) (.Name x1 p1) p3) X.env)
      let iv ← holding [v, ov] (eval (.Name x2 p2) X.env)
      standAt p
      holding [v, ov, iv] (setItem ov iv v)
      release [v, ov, iv] []))
    (hs : swapsWithSole [.Subscript (.Subscript (.Name x p0) (.Name x1 p1) p3) (.Name x2 p2) p] e pos.line X.env = pure false) (hw : swappedStores [.Subscript (.Subscript (.Name x p0) (.Name x1 p1) p3) (.Name x2 p2) p] e X.env = pure none)
    (h1 : (assignEach [.Subscript (.Subscript (.Name x p0) (.Name x1 p1) p3) (.Name x2 p2) p] X.env).map (·.2) = [assign (.Subscript (.Subscript (.Name x p0) (.Name x1 p1) p3) (.Name x2 p2) p) X.env]) :
    DS X (.Assign [.Subscript (.Subscript (.Name x p0) (.Name x1 p1) p3) (.Name x2 p2) p] e pos) (sMxPut i j k f) := by
  refine ⟨wkS (ps_asg h.pe (pg_sub (pe_ix ix_list (pe_var hN hv hd hcd) (pe_var hN1 hv1 hd1 hcd1) hs1) (pe_var hN2 hv2 hd2 hcd2) set_list ha) hs hw h1) fun D σ H ⟨C, O, env, E, o, e, kk⟩ => ?_⟩
  obtain ⟨z, e0, e1'⟩ := bindS e
  obtain ⟨r, e1, e2⟩ := bindS e1'
  obtain ⟨n, e3, e4⟩ := bindS e2
  obtain ⟨m, e5, e6⟩ := bindS e4
  obtain ⟨ka, e7, e8⟩ := bindS e6
  obtain ⟨row, e9, e10⟩ := bindS e8
  obtain ⟨kb, e11, e12⟩ := bindS e10
  cases e12
  refine ⟨C, O, env, E, z, e0, fun w H1 O1 s1 E1 pw => ?_⟩
  obtain ⟨a, bs, g1, g2, g3, g4, g5⟩ := E1.mx.ats i r (rowsS_some e1)
  have hlr := (List.getElem?_eq_some_iff.mp e9).1
  obtain ⟨b, hb⟩ : ∃ b, bs[ka]? = some b := ⟨_, List.getElem?_eq_getElem (by omega)⟩
  obtain ⟨ds, vs, q1, q2, q3⟩ := g5 ka _ hb
  rw [e9] at q1; cases q1
  obtain ⟨s2, E2⟩ := E1.mxMut (rowsS_some e1) g1 ⟨g2, g3, g4, g5⟩ hb e9 q2 q3 pw (j := kb)
  refine ⟨_, g1, _, slot_int E1 e3, a, bs.map V.ref, n, .ref b, rfl, rfl, .of g2, ?_, _, slot_int E1 e5, _, vs, m, kb, rfl, rfl, q2, by rw [← q3.length]; exact e11, ?_⟩
  · unfold atI
    rw [List.length_map, g4, e7, Option.bind_some, List.getElem?_map, hb]
    rfl
  · exact kk σ _ O1 (s1.trans s2) E2
/-- return table -/
def sMxRet (i : Nat) : SS := fun env => (rowsS env[i]?).bind fun r => some (.rt (.lst (r.map .lst)) (env.set i .no))
theorem ds_mxRet (i : Nat) {p pos : Pos} (hN : X.N[i]? = some x) (hv : Vis X.env.scope x) (hd : (x == ("__debug__" : Str)) = false) (hcd : (x == ("__classdict__" : Str)) = false) : DS X (.Return (some (.Name x p)) pos) (sMxRet i) := by
  refine ⟨wkS (ps_ret (pe_var hN hv hd hcd)) fun D σ H ⟨C, O, env, E, o, e, k⟩ => ?_⟩
  obtain ⟨r, e1, e2⟩ := bindS e
  cases e2
  obtain ⟨a, O', h1, s, E1, rp⟩ := E.mxFreeze (rowsS_some e1)
  exact ⟨_, h1, k σ _ H O' s E1 rp⟩
end
end Z

/-! The data layer, part U: evaluation of tables (lists of lists of numbers or None). -/
namespace Z
open PySem PySem.Spec PyProof.Rows L2
section
variable {s : Slot} {e : Ev} {f : SE} {i j k : Nat}
theorem ev_eMxGet : eMxGet i j k (s :: e) = (rowsS (s :: e)[i]?).bind fun r => (intS (s :: e)[j]?).bind fun n => (intS (s :: e)[k]?).bind fun m => (atI r n).bind fun row => (atI row m).bind fun d => some (d, s :: e) := rfl
theorem ev_sMxPut : sMxPut i j k f (s :: e) = (f (s :: e)).bind fun z => (rowsS z.2[i]?).bind fun r => (intS z.2[j]?).bind fun n => (intS z.2[k]?).bind fun m => (ixN r.length n).bind fun a => (r[a]?).bind fun row => (ixN row.length m).bind fun b => some (.nx (z.2.set i (.mx (r.set a (row.set b z.1))))) := rfl
theorem ev_sMxRet : sMxRet i (s :: e) = (rowsS (s :: e)[i]?).bind fun r => some (.rt (.lst (r.map .lst)) ((s :: e).set i .no)) := rfl
theorem ev_sMxNew {own : List Nat} {it : SI} {g : SG} : sMxNew i own it g f (s :: e) = (it (s :: e)).bind fun r => if r.2.1 = none then (compM own g f r.1 [] r.2.2).bind fun z => if free z.2 i = true ∧ noMx z.2 = true then some (.nx (z.2.set i (.mx z.1))) else none else none := rfl
theorem ev_rowsS {r : List (List D)} : rowsS (some (.mx r)) = some r := rfl
theorem ev_intS {n : Int} : intS (some (.fz (.int n))) = some n := rfl
theorem ev_nomx0 : noMx [] = true := rfl
theorem ev_nomx1 {d : D} : noMx (.fz d :: e) = noMx e := rfl
theorem ev_nomx2 : noMx (.no :: e) = noMx e := rfl
theorem ev_nomx3 {d : D} : noMx (.ow d :: e) = noMx e := rfl
theorem ev_nomx4 {d : D} : noMx (.io d :: e) = noMx e := rfl
end
/-- one turn of the making of rows -/
def oneM (own : List Nat) (g : SG) (f : SE) (d : D) (env : Ev) : Option (D × Ev) := if wipeOk env own = true then (g d (wipeE env own)).bind fun e1 => (f e1).bind fun z => some (z.1, restore env z.2 own) else none
theorem ev_oneM {own : List Nat} {g : SG} {f : SE} {d : D} {s : Slot} {e : Ev} : oneM own g f d (s :: e) = if wipeOk (s :: e) own = true then (g d (wipeE (s :: e) own)).bind fun e1 => (f e1).bind fun z => some (z.1, restore (s :: e) z.2 own) else none := rfl
theorem compM_each {α : Type} {own : List Nat} {g : SG} {f : SE} {env : Ev} (enc : α → D) (φ : α → List D) : ∀ (xs : List α) (acc : List (List D)), acc.length + xs.length ≤ 16777216 →
    (∀ x ∈ xs, oneM own g f (enc x) env = some (.lst (φ x), env)) → compM own g f (xs.map enc) acc env = some (acc ++ xs.map φ, env)
  | [], acc, _, _ => by simp [compM]
  | x :: xs, acc, hl, h => by
    rw [List.length_cons] at hl
    have hx := h x List.mem_cons_self
    unfold oneM at hx
    show (if wipeOk env own = true then (g (enc x) (wipeE env own)).bind (fun e1 => (f e1).bind fun z => match z.1 with
      | .lst row => if acc.length < sizeLine then compM own g f (xs.map enc) (acc ++ [row]) (restore env z.2 own) else none
      | _ => none) else none) = _
    split at hx
    · rename_i hw
      rw [if_pos hw]
      obtain ⟨e1, h1, h2⟩ := bindS hx
      obtain ⟨z, h3, h4⟩ := bindS h2
      rw [h1, Option.bind_some, h3, Option.bind_some]
      injection h4 with h4
      injection h4 with h5 h6
      rw [h5, h6]
      show (if acc.length < sizeLine then compM own g f (xs.map enc) (acc ++ [φ x]) env else none) = _
      rw [if_pos (sizeNl.mpr (by omega)), compM_each enc φ xs _ (by rw [List.length_append]; simp; omega) fun y hy => h y (List.mem_cons_of_mem _ hy)]
      simp
    · cases hx
theorem gv_rows {α β : Type} {own : List Nat} {g : SG} {f : SE} {env : Ev} {xs : List α} {k : List (List D) × Ev → Option β} {Q : β → Prop} (enc : α → D) (φ : α → List D) (hl : xs.length ≤ 16777216)
    (h : ∀ x ∈ xs, oneM own g f (enc x) env = some (.lst (φ x), env)) (hk : Gv (k (xs.map φ, env)) Q) : Gv ((compM own g f (xs.map enc) [] env).bind k) Q := by
  rw [compM_each enc φ xs [] (by rw [List.length_nil]; omega) h]
  exact hk
/-! tables -/
abbrev Tb := List (List (Option Int))
def oD : Option Int → D
  | none => .non
  | some i => .int i
def encT (T : Tb) : List (List D) := T.map fun row => row.map oD
structure Sq (n : Nat) (T : Tb) : Prop where
  len : T.length = n
  row : ∀ r ∈ T, r.length = n
def mget (T : Tb) (k j : Nat) : Option Int := (T.getD k []).getD j none
def mput (T : Tb) (k j : Nat) (v : Int) : Tb := T.set k ((T.getD k []).set j (some v))
theorem Sq.getD {n : Nat} {T : Tb} (h : Sq n T) {k : Nat} (hk : k < n) : (T.getD k []).length = n := by
  rw [List.getD_eq_getElem?_getD, List.getElem?_eq_getElem (by rw [h.len]; exact hk)]
  exact h.row _ (List.getElem_mem _)
theorem Sq.mput {n : Nat} {T : Tb} (h : Sq n T) {k : Nat} (hk : k < n) (j : Nat) (v : Int) : Sq n (mput T k j v) := by
  refine ⟨by unfold Z.mput; rw [List.length_set]; exact h.len, fun r hr => ?_⟩
  rcases List.mem_or_eq_of_mem_set hr with hr | rfl
  · exact h.row r hr
  · rw [List.length_set]; exact h.getD hk
theorem mget_mput {n : Nat} {T : Tb} (h : Sq n T) {k j : Nat} (hk : k < n) (hj : j < n) (v : Int) (a b : Nat) : mget (mput T k j v) a b = if a = k ∧ b = j then some v else mget T a b := by
  unfold mget Z.mput
  by_cases e : a = k
  · subst e
    rw [List.getD_eq_getElem?_getD (l := T.set _ _), List.getElem?_set_self (by rw [h.len]; exact hk), Option.getD_some]
    by_cases e2 : b = j
    · subst e2
      rw [List.getD_eq_getElem?_getD, List.getElem?_set_self (by rw [h.getD hk]; exact hj), if_pos ⟨rfl, rfl⟩]; rfl
    · rw [List.getD_eq_getElem?_getD, List.getElem?_set_ne (Ne.symm e2), if_neg (fun q => e2 q.2), ← List.getD_eq_getElem?_getD]
  · rw [List.getD_eq_getElem?_getD (l := T.set _ _), List.getElem?_set_ne (Ne.symm e), if_neg (fun q => e q.1), ← List.getD_eq_getElem?_getD]
theorem encT_row {n : Nat} {T : Tb} (h : Sq n T) {k : Nat} (hk : k < n) : (encT T)[k]? = some ((T.getD k []).map oD) := by
  unfold encT
  rw [List.getElem?_map, List.getElem?_eq_getElem (by rw [h.len]; exact hk), List.getD_eq_getElem?_getD, List.getElem?_eq_getElem (by rw [h.len]; exact hk)]; rfl
theorem row_at {n : Nat} {T : Tb} (h : Sq n T) {k j : Nat} (hk : k < n) (hj : j < n) : ((T.getD k []).map oD)[j]? = some (oD (mget T k j)) := by
  unfold mget
  have := h.getD hk
  rw [List.getElem?_map, List.getElem?_eq_getElem (by omega), List.getD_eq_getElem?_getD (l := T.getD k []), List.getElem?_eq_getElem (by omega)]; rfl
theorem atI_nat {α : Type} {xs : List α} {k : Nat} (h : k < xs.length) : atI xs (k : Int) = xs[k]? := by
  unfold atI ixN
  rw [if_pos (by omega), if_pos (by omega), Option.bind_some]; rfl
theorem ev_tget {β : Type} {n : Nat} {T : Tb} {k j : Nat} {F : D → Option β} (h : Sq n T) (hk : k < n) (hj : j < n) : ((atI (encT T) (k : Int)).bind fun row => (atI row (j : Int)).bind F) = F (oD (mget T k j)) := by
  rw [atI_nat (by unfold encT; rw [List.length_map, h.len]; exact hk), encT_row h hk, Option.bind_some, atI_nat (by rw [List.length_map, h.getD hk]; exact hj), row_at h hk hj, Option.bind_some]
theorem ev_tput {β : Type} {n : Nat} {T : Tb} {k j : Nat} {F : Nat → List D → Nat → Option β} (h : Sq n T) (hk : k < n) (hj : j < n) : ((ixN (encT T).length (k : Int)).bind fun a => ((encT T)[a]?).bind fun row => (ixN row.length (j : Int)).bind fun b => F a row b) = F k ((T.getD k []).map oD) j := by
  have e1 : ixN (encT T).length (k : Int) = some k := by
    unfold ixN encT
    rw [List.length_map, h.len, if_pos (by omega), if_pos (by omega)]; rfl
  have e2 : ixN ((T.getD k []).map oD).length (j : Int) = some j := by
    unfold ixN
    rw [List.length_map, h.getD hk, if_pos (by omega), if_pos (by omega)]; rfl
  rw [e1, Option.bind_some, encT_row h hk, Option.bind_some, e2, Option.bind_some]
theorem ev_tenc {T : Tb} {k j : Nat} {v : Int} : (encT T).set k (((T.getD k []).map oD).set j (.int v)) = encT (mput T k j v) := by
  unfold encT Z.mput
  rw [List.map_set, List.map_set]; rfl
theorem oD_isNon {o : Option Int} : (oD o).isNon = o.isNone := by cases o <;> rfl
/-- none is the greatest -/
def better (w : Int) : Option Int → Bool
  | none => true
  | some x => decide (w < x)
/-- the lesser of what stands and w -/
def minPut (T : Tb) (k j : Nat) (w : Int) : Tb := if better w (mget T k j) = true then mput T k j w else T
theorem Sq.minPut {n : Nat} {T : Tb} (h : Sq n T) {k : Nat} (hk : k < n) (j : Nat) (w : Int) : Sq n (minPut T k j w) := by
  unfold Z.minPut
  split
  · exact h.mput hk j w
  · exact h
def minO : Option Int → Option Int → Option Int
  | none, b => b
  | a, none => a
  | some a, some b => some (if b < a then b else a)
theorem mget_minPut {n : Nat} {T : Tb} (h : Sq n T) {k j : Nat} (hk : k < n) (hj : j < n) (w : Int) (a b : Nat) : mget (minPut T k j w) a b = if a = k ∧ b = j then minO (mget T k j) (some w) else mget T a b := by
  unfold Z.minPut
  split
  · rename_i hb
    rw [mget_mput h hk hj]
    split
    · cases e : mget T k j with
      | none => rfl
      | some x =>
        rw [e] at hb
        have : w < x := of_decide_eq_true hb
        show _ = some (if w < x then w else x)
        rw [if_pos this]
    · rfl
  · rename_i hb
    split
    · rename_i q
      obtain ⟨rfl, rfl⟩ := q
      cases e : mget T a b with
      | none => rw [e] at hb; exact (hb rfl).elim
      | some x =>
        rw [e] at hb
        have : ¬ w < x := fun z => hb (decide_eq_true z)
        show _ = some (if w < x then w else x)
        rw [if_neg this]
    · rfl
/-! {} -/
def eDnewK : SE := fun env => some (.dk [], env)
theorem df_dnewK {X : Cx} {pos : Pos} : DF X (.Dict [] [] pos) eDnewK := by
  refine ⟨wkE pe_dnewK fun σ H Q h => ?_⟩
  obtain ⟨C, O, env, E, z, e, k⟩ := h
  cases e
  intro p hp
  obtain ⟨s2, E2, L2'⟩ := E.new (o := .dK []) (d := .dk []) hp fun O' s => .dk upd_same rfl .nil
  exact k p _ _ s2 E2 L2'
theorem ev_eDnewK {s : Slot} {e : Ev} : eDnewK (s :: e) = some (.dk [], s :: e) := rfl
end Z

/-! The data layer, part V: least sums (plain law): walks, schedules, the two ways to find the least. -/
namespace Z
open PySem PySem.Spec PyProof.Rows L2
abbrev Bn := Str × Str × Int
/-- a way from a over the bounds es to b -/
def Wk (bs : List Bn) : Str → List Bn → Str → Prop
  | a, [], b => a = b
  | a, e :: es, b => e ∈ bs ∧ e.2.1 = a ∧ Wk bs e.1 es b
def ws (es : List Bn) : Int := (es.map (·.2.2)).sum
theorem ws_nil : ws [] = 0 := rfl
theorem ws_cons (e : Bn) (es : List Bn) : ws (e :: es) = e.2.2 + ws es := by simp [ws]
theorem ws_app (es fs : List Bn) : ws (es ++ fs) = ws es + ws fs := by simp [ws]
theorem Wk.app {bs : List Bn} : ∀ {es fs : List Bn} {a b c : Str}, Wk bs a es b → Wk bs b fs c → Wk bs a (es ++ fs) c
  | [], _, _, _, _, h, k => by rw [show _ = _ from h]; exact k
  | e :: es, _, _, _, _, ⟨h1, h2, h3⟩, k => ⟨h1, h2, Wk.app h3 k⟩
theorem Wk.one {bs : List Bn} {e : Bn} (h : e ∈ bs) : Wk bs e.2.1 [e] e.1 := ⟨h, rfl, rfl⟩
theorem Wk.split {bs : List Bn} : ∀ {es fs : List Bn} {a c : Str}, Wk bs a (es ++ fs) c → ∃ b, Wk bs a es b ∧ Wk bs b fs c
  | [], _, a, _, h => ⟨a, rfl, h⟩
  | e :: es, _, _, _, ⟨h1, h2, h3⟩ => by
    obtain ⟨b, q1, q2⟩ := Wk.split h3
    exact ⟨b, ⟨h1, h2, q1⟩, q2⟩
theorem Wk.mono {bs cs : List Bn} (hs : ∀ b ∈ bs, b ∈ cs) : ∀ {es : List Bn} {a b : Str}, Wk bs a es b → Wk cs a es b
  | [], _, _, h => h
  | e :: es, _, _, ⟨h1, h2, h3⟩ => ⟨hs e h1, h2, Wk.mono hs h3⟩
/-- t keeps all bounds -/
def Pot (bs : List Bn) (t : Str → Int) : Prop := ∀ b ∈ bs, t b.1 ≤ t b.2.1 + b.2.2
theorem Pot.le {bs : List Bn} {t : Str → Int} (h : Pot bs t) : ∀ {es : List Bn} {a b : Str}, Wk bs a es b → t b ≤ t a + ws es
  | [], a, b, w => by rw [show a = b from w, ws_nil]; omega
  | e :: es, a, b, ⟨h1, h2, h3⟩ => by
    have := Pot.le h h3
    have := h e h1
    rw [ws_cons]
    rw [h2] at this
    omega
/-- no ring below 0 -/
def NoNeg (bs : List Bn) : Prop := ∀ a es, Wk bs a es a → 0 ≤ ws es
theorem Pot.noNeg {bs : List Bn} {t : Str → Int} (h : Pot bs t) : NoNeg bs := fun a es w => by
  have := h.le w
  omega
/-- the least sum, none without a way -/
def Dist (bs : List Bn) (a b : Str) : Option Int → Prop
  | none => ∀ es, ¬ Wk bs a es b
  | some w => (∃ es, Wk bs a es b ∧ ws es = w) ∧ ∀ es, Wk bs a es b → w ≤ ws es
theorem Dist.uniq {bs : List Bn} {a b : Str} {x y : Option Int} (h : Dist bs a b x) (k : Dist bs a b y) : x = y := by
  cases x with
  | none => cases y with
    | none => rfl
    | some w =>
      obtain ⟨⟨es, h1, _⟩, _⟩ := k
      exact (h es h1).elim
  | some v => cases y with
    | none =>
      obtain ⟨⟨es, h1, _⟩, _⟩ := h
      exact (k es h1).elim
    | some w =>
      obtain ⟨⟨es, h1, h2⟩, h3⟩ := h
      obtain ⟨⟨fs, k1, k2⟩, k3⟩ := k
      have a1 := h3 fs k1
      have a2 := k3 es h1
      congr 1
      omega
/-! ways without a point twice -/
def vts (a : Str) (es : List Bn) : List Str := a :: es.map (·.1)
theorem cut_at {bs : List Bn} : ∀ {es : List Bn} {c b x : Str}, Wk bs c es b → x ∈ vts c es → ∃ l r, es = l ++ r ∧ Wk bs c l x ∧ Wk bs x r b ∧ ∃ p, vts c es = p ++ vts x r
  | [], c, b, x, h, hx => by
    have : x = c := by simpa [vts] using hx
    subst this
    exact ⟨[], [], rfl, rfl, h, [], rfl⟩
  | e :: es, c, b, x, ⟨h1, h2, h3⟩, hx => by
    by_cases q : x = c
    · subst q
      exact ⟨[], e :: es, rfl, rfl, ⟨h1, h2, h3⟩, [], rfl⟩
    · have : x ∈ vts e.1 es := by
        rcases List.mem_cons.mp hx with z | z
        · exact (q z).elim
        · exact z
      obtain ⟨l, r, e1, e2, e3, p, e4⟩ := cut_at h3 this
      refine ⟨e :: l, r, by rw [e1]; rfl, ⟨h1, h2, e2⟩, e3, c :: p, ?_⟩
      show c :: vts e.1 es = _
      rw [e4]; rfl
theorem shorten {bs : List Bn} (hn : NoNeg bs) : ∀ {es : List Bn} {a b : Str}, Wk bs a es b → ∃ fs, Wk bs a fs b ∧ ws fs ≤ ws es ∧ (vts a fs).Nodup
  | [], a, b, h => ⟨[], h, Int.le_refl _, by simp [vts]⟩
  | e :: es, a, b, ⟨h1, h2, h3⟩ => by
    obtain ⟨fs, g1, g2, g3⟩ := shorten hn h3
    by_cases q : a ∈ vts e.1 fs
    · obtain ⟨l, r, e1, e2, e3, p, e4⟩ := cut_at g1 q
      have hc := hn a (e :: l) ⟨h1, h2, e2⟩
      rw [ws_cons] at hc
      rw [e1, ws_app] at g2
      refine ⟨r, e3, by rw [ws_cons]; omega, ?_⟩
      rw [e4] at g3
      exact (List.nodup_append.mp g3).2.1
    · exact ⟨e :: fs, ⟨h1, h2, g1⟩, by rw [ws_cons, ws_cons]; omega, List.nodup_cons.mpr ⟨q, g3⟩⟩
theorem nodup_le : ∀ {l m : List Str}, l.Nodup → (∀ x ∈ l, x ∈ m) → l.length ≤ m.length
  | [], _, _, _ => Nat.zero_le _
  | x :: l, m, h, s => by
    rw [List.nodup_cons] at h
    have hx := s x List.mem_cons_self
    have := nodup_le (m := m.erase x) h.2 fun y hy => by
      have ne : y ≠ x := fun z => h.1 (z ▸ hy)
      exact (List.mem_erase_of_ne ne).mpr (s y (List.mem_cons_of_mem _ hy))
    have hl := List.length_erase_of_mem hx
    have hp := List.length_pos_of_mem hx
    rw [List.length_cons]
    omega
theorem vts_mem {bs : List Bn} {ps : List Str} (hb : ∀ b ∈ bs, b.1 ∈ ps) : ∀ {es : List Bn} {a b : Str}, a ∈ ps → Wk bs a es b → ∀ x ∈ vts a es, x ∈ ps
  | [], a, _, ha, _, x, hx => by
    have : x = a := by simpa [vts] using hx
    rw [this]; exact ha
  | e :: es, a, b, ha, ⟨h1, h2, h3⟩, x, hx => by
    rcases List.mem_cons.mp hx with rfl | hx
    · exact ha
    · exact vts_mem hb (hb e h1) h3 x hx
theorem short_len {bs : List Bn} {ps : List Str} (hb : ∀ b ∈ bs, b.1 ∈ ps) {es : List Bn} {a b : Str} (ha : a ∈ ps) (h : Wk bs a es b) (hd : (vts a es).Nodup) : es.length + 1 ≤ ps.length := by
  have := nodup_le hd (vts_mem hb ha h)
  simpa [vts] using this
/-! ### round by round (sums: what stands for each point) -/
def relax (s : Str → Option Int) (b : Bn) : Str → Option Int := fun x => match s b.2.1 with
  | none => s x
  | some w => if x = b.1 ∧ better (w + b.2.2) (s x) = true then some (w + b.2.2) else s x
def round1 (bs : List Bn) (s : Str → Option Int) : Str → Option Int := bs.foldl relax s
def rounds (bs : List Bn) : Nat → (Str → Option Int) → Str → Option Int
  | 0, s => s
  | n + 1, s => rounds bs n (round1 bs s)
/-- a is at most as great as b -/
def leO : Option Int → Option Int → Prop
  | _, none => True
  | none, some _ => False
  | some a, some b => a ≤ b
theorem leO.refl (a : Option Int) : leO a a := by cases a with
  | none => trivial
  | some a => exact Int.le_refl a
theorem leO.trans {a b c : Option Int} (h : leO a b) (k : leO b c) : leO a c := by
  cases a <;> cases b <;> cases c <;> first | trivial | exact h.elim | exact k.elim | exact Int.le_trans h k
theorem relax_le (s : Str → Option Int) (b : Bn) (x : Str) : leO (relax s b x) (s x) := by
  unfold relax
  split
  · exact leO.refl _
  · rename_i w hw
    split
    · rename_i h
      obtain ⟨_, h⟩ := h
      cases e : s x with
      | none => trivial
      | some v =>
        rw [e] at h
        exact Int.le_of_lt (of_decide_eq_true h)
    · exact leO.refl _
theorem relax_ge (s : Str → Option Int) (b : Bn) {w : Int} (hw : s b.2.1 = some w) : leO (relax s b b.1) (some (w + b.2.2)) := by
  unfold relax
  rw [hw]
  show leO (if b.1 = b.1 ∧ better (w + b.2.2) (s b.1) = true then some (w + b.2.2) else s b.1) _
  split
  · exact Int.le_refl _
  · rename_i h
    cases e : s b.1 with
    | none => rw [e] at h; exact (h ⟨rfl, rfl⟩).elim
    | some v =>
      rw [e] at h
      have : ¬ w + b.2.2 < v := fun z => h ⟨rfl, decide_eq_true z⟩
      show v ≤ w + b.2.2
      omega
theorem fold_le : ∀ (bs : List Bn) (s : Str → Option Int) (x : Str), leO (bs.foldl relax s x) (s x)
  | [], s, x => leO.refl _
  | b :: bs, s, x => (fold_le bs (relax s b) x).trans (relax_le s b x)
theorem rounds_le (bs : List Bn) : ∀ (n : Nat) (s : Str → Option Int) (x : Str), leO (rounds bs n s x) (s x)
  | 0, s, x => leO.refl _
  | n + 1, s, x => (rounds_le bs n _ x).trans (fold_le bs s x)
def SoundS (bs : List Bn) (a : Str) (s : Str → Option Int) : Prop := ∀ x w, s x = some w → ∃ es, Wk bs a es x ∧ ws es = w
theorem relax_sound {bs : List Bn} {a : Str} {s : Str → Option Int} (h : SoundS bs a s) {b : Bn} (hb : b ∈ bs) : SoundS bs a (relax s b) := fun x w e => by
  unfold relax at e
  split at e
  · exact h x w e
  · rename_i v hv
    split at e
    · rename_i hx
      obtain ⟨es, h1, h2⟩ := h _ _ hv
      cases e
      exact ⟨es ++ [b], hx.1 ▸ h1.app (Wk.one hb), by rw [ws_app, ws_cons, ws_nil, h2]; omega⟩
    · exact h x w e
theorem fold_sound {bs : List Bn} {a : Str} : ∀ (cs : List Bn) (s : Str → Option Int), (∀ b ∈ cs, b ∈ bs) → SoundS bs a s → SoundS bs a (cs.foldl relax s)
  | [], s, _, h => h
  | c :: cs, s, hc, h => fold_sound cs _ (fun b hb => hc b (List.mem_cons_of_mem _ hb)) (relax_sound h (hc c List.mem_cons_self))
theorem rounds_sound {bs : List Bn} {a : Str} : ∀ (n : Nat) (s : Str → Option Int), SoundS bs a s → SoundS bs a (rounds bs n s)
  | 0, s, h => h
  | n + 1, s, h => rounds_sound n _ (fold_sound bs s (fun _ h => h) h)
/-- in a round every bound is looked at once -/
theorem fold_ge : ∀ (cs : List Bn) (s : Str → Option Int) (b : Bn) (w : Int), b ∈ cs → leO (s b.2.1) (some w) → leO (cs.foldl relax s b.1) (some (w + b.2.2))
  | [], _, _, _, h, _ => nomatch h
  | c :: cs, s, b, w, h, k => by
    rcases List.mem_cons.mp h with rfl | h
    · cases e : s b.2.1 with
      | none => rw [e] at k; exact k.elim
      | some v =>
        rw [e] at k
        have k : v ≤ w := k
        refine (fold_le cs _ b.1).trans ((relax_ge s b e).trans ?_)
        show v + b.2.2 ≤ w + b.2.2
        omega
    · exact fold_ge cs _ b w h ((relax_le s c _).trans k)
theorem rounds_succ (bs : List Bn) : ∀ (n : Nat) (s : Str → Option Int), rounds bs (n + 1) s = round1 bs (rounds bs n s)
  | 0, s => rfl
  | n + 1, s => by
    show rounds bs (n + 1) (round1 bs s) = _
    rw [rounds_succ bs n]; rfl
theorem rounds_ge {bs : List Bn} {a : Str} {s : Str → Option Int} (h0 : leO (s a) (some 0)) : ∀ (n : Nat) (es : List Bn) (x : Str), Wk bs a es x → es.length ≤ n → leO (rounds bs n s x) (some (ws es))
  | n, [], x, h, _ => by
    have : a = x := h
    subst this
    exact (rounds_le bs n s a).trans h0
  | 0, _ :: _, _, _, hl => by simp at hl
  | n + 1, e :: es, x, h, hl => by
    obtain ⟨fs, f, hf⟩ : ∃ fs f, e :: es = fs ++ [f] := ⟨(e :: es).dropLast, (e :: es).getLast (List.cons_ne_nil _ _), (List.dropLast_concat_getLast (List.cons_ne_nil _ _)).symm⟩
    rw [hf] at h hl ⊢
    obtain ⟨b, h1, h2, h3, h4⟩ := Wk.split h
    have h4 : f.1 = x := h4
    rw [List.length_append] at hl
    have ih := rounds_ge h0 n fs b h1 (by simpa using hl)
    rw [rounds_succ, ws_app, ws_cons, ws_nil, ← h4]
    have := fold_ge bs (rounds bs n s) f (ws fs) h2 (by rw [h3]; exact ih)
    rw [show ws fs + (f.2.2 + 0) = ws fs + f.2.2 by omega]
    exact this
/-- what the rounds find is the least sum -/
theorem rounds_dist {bs : List Bn} {ps : List Str} {a : Str} {s : Str → Option Int} (hn : NoNeg bs) (hb : ∀ b ∈ bs, b.1 ∈ ps) (ha : a ∈ ps) (hs : SoundS bs a s) (h0 : leO (s a) (some 0)) (x : Str) : Dist bs a x (rounds bs ps.length s x) := by
  have snd := rounds_sound ps.length s hs
  cases e : rounds bs ps.length s x with
  | none =>
    intro es h
    obtain ⟨fs, g1, g2, g3⟩ := shorten hn h
    have := rounds_ge h0 ps.length fs x g1 (by have := short_len hb ha g1 g3; omega)
    rw [e] at this
    exact this
  | some w =>
    refine ⟨snd x w e, fun es h => ?_⟩
    obtain ⟨fs, g1, g2, g3⟩ := shorten hn h
    have := rounds_ge h0 ps.length fs x g1 (by have := short_len hb ha g1 g3; omega)
    rw [e] at this
    have this : w ≤ ws fs := this
    omega
end Z

/-! The data layer, part W: the table of least sums, point by point (plain law). -/
namespace Z
open PySem PySem.Spec PyProof.Rows L2
def addO : Option Int → Option Int → Option Int
  | some a, some b => some (a + b)
  | _, _ => none
theorem addO_mono {a b c d : Option Int} (h : leO a c) (k : leO b d) : leO (addO a b) (addO c d) := by
  cases a <;> cases b <;> cases c <;> cases d <;> first | trivial | exact h.elim | exact k.elim | exact Int.add_le_add h k
theorem addO_assoc (a b c : Option Int) : addO (addO a b) c = addO a (addO b c) := by
  cases a <;> cases b <;> cases c <;> first | rfl | (show some _ = some _; congr 1; omega)
theorem addO_zero (a : Option Int) : addO a (some 0) = a := by
  cases a with
  | none => rfl
  | some a => show some (a + 0) = _; congr 1; omega
theorem zero_addO (a : Option Int) : addO (some 0) a = a := by
  cases a with
  | none => rfl
  | some a => show some (0 + a) = _; congr 1; omega
theorem minO_le1 (a b : Option Int) : leO (minO a b) a := by
  cases a <;> cases b <;> first | trivial | exact leO.refl _ | skip
  rename_i a b
  show leO (some (if b < a then b else a)) (some a)
  split
  · exact Int.le_of_lt ‹_›
  · exact Int.le_refl _
theorem minO_le2 (a b : Option Int) : leO (minO a b) b := by
  cases a <;> cases b <;> first | trivial | exact leO.refl _ | skip
  rename_i a b
  show leO (some (if b < a then b else a)) (some b)
  split
  · exact Int.le_refl _
  · exact (show a ≤ b by omega)
theorem minO_or (a b : Option Int) : minO a b = a ∨ minO a b = b := by
  cases a <;> cases b <;> first | exact .inl rfl | exact .inr rfl | skip
  rename_i a b
  show some (if b < a then b else a) = _ ∨ some (if b < a then b else a) = _
  split
  · exact .inr rfl
  · exact .inl rfl
theorem minO_of_le {a b : Option Int} (h : leO a b) : minO a b = a := by
  cases a <;> cases b <;> first | rfl | exact h.elim | skip
  rename_i a b
  have h : a ≤ b := h
  show some (if b < a then b else a) = _
  rw [if_neg (by omega)]
theorem minO_none (a : Option Int) : minO a none = a := by cases a <;> rfl
/-! one point at a time, as the code does it -/
def stepJ (c k : Nat) (T : Tb) (j : Nat) : Tb := match mget T k c, mget T c j with
  | some u, some v => minPut T k j (u + v)
  | _, _ => T
def rowK (n c : Nat) (T : Tb) (k : Nat) : Tb := if (mget T k c).isSome = true then (List.range n).foldl (stepJ c k) T else T
def stage (n : Nat) (T : Tb) (c : Nat) : Tb := (List.range n).foldl (rowK n c) T
def fw (n : Nat) (T : Tb) : Tb := (List.range n).foldl (stage n) T
theorem Sq.stepJ {n : Nat} {T : Tb} (h : Sq n T) {k : Nat} (hk : k < n) (c j : Nat) : Sq n (stepJ c k T j) := by
  unfold Z.stepJ
  split
  · exact h.minPut hk j _
  · exact h
theorem foldl_ind {α β : Type} {P : β → Prop} {f : β → α → β} : ∀ (l : List α) (b : β), P b → (∀ b, ∀ a ∈ l, P b → P (f b a)) → P (l.foldl f b)
  | [], _, h, _ => h
  | a :: l, b, h, hs => foldl_ind l (f b a) (hs b a List.mem_cons_self h) fun b x hx => hs b x (List.mem_cons_of_mem _ hx)
theorem Sq.rowK {n : Nat} {T : Tb} (h : Sq n T) {k : Nat} (hk : k < n) (c : Nat) : Sq n (rowK n c T k) := by
  unfold Z.rowK
  split
  · exact foldl_ind (P := Sq n) _ _ h fun b j _ hb => hb.stepJ hk c j
  · exact h
theorem Sq.stage {n : Nat} {T : Tb} (h : Sq n T) (c : Nat) : Sq n (stage n T c) := foldl_ind (P := Sq n) _ _ h fun b k hk hb => hb.rowK (List.mem_range.mp hk) c
theorem Sq.fw {n : Nat} {T : Tb} (h : Sq n T) : Sq n (fw n T) := foldl_ind (P := Sq n) _ _ h fun b c _ hb => hb.stage c
/-! entries only get less -/
def leT (n : Nat) (T U : Tb) : Prop := ∀ a b, a < n → b < n → leO (mget T a b) (mget U a b)
theorem leT.refl (n : Nat) (T : Tb) : leT n T T := fun _ _ _ _ => leO.refl _
theorem leT.trans {n : Nat} {T U V : Tb} (h : leT n T U) (k : leT n U V) : leT n T V := fun a b ha hb => (h a b ha hb).trans (k a b ha hb)
theorem minPut_leT {n : Nat} {T : Tb} (h : Sq n T) {k j : Nat} (hk : k < n) (hj : j < n) (w : Int) : leT n (minPut T k j w) T := fun a b _ _ => by
  rw [mget_minPut h hk hj]
  split
  · rename_i q
    rw [q.1, q.2]
    exact minO_le1 _ _
  · exact leO.refl _
theorem stepJ_leT {n : Nat} {T : Tb} (h : Sq n T) {k j : Nat} (hk : k < n) (hj : j < n) (c : Nat) : leT n (stepJ c k T j) T := by
  unfold stepJ
  split
  · exact minPut_leT h hk hj _
  · exact .refl _ _
theorem rowK_leT {n : Nat} {T : Tb} (h : Sq n T) {k : Nat} (hk : k < n) (c : Nat) : leT n (rowK n c T k) T := by
  unfold rowK
  split
  · exact (foldl_ind (P := fun U => Sq n U ∧ leT n U T) _ _ ⟨h, .refl _ _⟩ fun b j hj hb => ⟨hb.1.stepJ hk c j, (stepJ_leT hb.1 hk (List.mem_range.mp hj) c).trans hb.2⟩).2
  · exact .refl _ _
theorem stage_leT {n : Nat} {T : Tb} (h : Sq n T) (c : Nat) : leT n (stage n T c) T :=
  (foldl_ind (P := fun U => Sq n U ∧ leT n U T) _ _ ⟨h, .refl _ _⟩ fun b k hk hb => ⟨hb.1.rowK (List.mem_range.mp hk) c, (rowK_leT hb.1 (List.mem_range.mp hk) c).trans hb.2⟩).2
/-! a stage whose own entry is 0 -/
def stg (T : Tb) (c a b : Nat) : Option Int := minO (mget T a b) (addO (mget T a c) (mget T c b))
theorem stg_row {T : Tb} {c : Nat} (h : mget T c c = some 0) (b : Nat) : stg T c c b = mget T c b := by
  unfold stg
  rw [h, zero_addO]
  exact minO_of_le (leO.refl _)
theorem stg_col {T : Tb} {c : Nat} (h : mget T c c = some 0) (a : Nat) : stg T c a c = mget T a c := by
  unfold stg
  rw [h, addO_zero]
  exact minO_of_le (leO.refl _)
theorem step_eq {n : Nat} {T U : Tb} {c k j : Nat} (hU : Sq n U) (hk : k < n) (hj : j < n) (hc : c < n) (h0 : mget T c c = some 0)
    (hi : ∀ a b, a < n → b < n → mget U a b = if a < k ∨ (a = k ∧ b < j) then stg T c a b else mget T a b) :
    ∀ a b, a < n → b < n → mget (stepJ c k U j) a b = if a < k ∨ (a = k ∧ b < j + 1) then stg T c a b else mget T a b := fun a b ha hb => by
  have u1 : mget U k c = mget T k c := by
    rw [hi k c hk hc]
    split
    · exact stg_col h0 k
    · rfl
  have u2 : mget U c j = mget T c j := by
    rw [hi c j hc hj]
    split
    · exact stg_row h0 j
    · rfl
  have u3 : mget U k j = mget T k j := by rw [hi k j hk hj, if_neg (by omega)]
  have key : mget (stepJ c k U j) a b = if a = k ∧ b = j then stg T c k j else mget U a b := by
    unfold stepJ stg
    rw [u1, u2]
    cases e1 : mget T k c with
    | none =>
      show mget U a b = _
      split
      · rename_i q
        rw [q.1, q.2, u3]
        show _ = minO _ none
        rw [minO_none]
      · rfl
    | some u =>
      cases e2 : mget T c j with
      | none =>
        show mget U a b = _
        split
        · rename_i q
          rw [q.1, q.2, u3]
          show _ = minO _ none
          rw [minO_none]
        · rfl
      | some v =>
        show mget (minPut U k j (u + v)) a b = _
        rw [mget_minPut hU hk hj, u3]; rfl
  rw [key]
  by_cases q : a = k ∧ b = j
  · rw [if_pos q, if_pos (by omega), q.1, q.2]
  · rw [if_neg q, hi a b ha hb]
    by_cases r : a < k ∨ (a = k ∧ b < j)
    · rw [if_pos r, if_pos (by omega)]
    · rw [if_neg r, if_neg (by omega)]
theorem range_fold {β : Type} {P : Nat → β → Prop} {f : β → Nat → β} (n : Nat) (b : β) (h0 : P 0 b) (hs : ∀ i b, i < n → P i b → P (i + 1) (f b i)) : P n ((List.range n).foldl f b) := by
  have : ∀ m, m ≤ n → P m ((List.range m).foldl f b) := fun m => by
    induction m with
    | zero => intro _; exact h0
    | succ m ih =>
      intro hm
      rw [List.range_succ, List.foldl_append]
      exact hs m _ (by omega) (ih (by omega))
  exact this n (Nat.le_refl n)
theorem row_eq {n : Nat} {T U : Tb} {c k : Nat} (hU : Sq n U) (hk : k < n) (hc : c < n) (h0 : mget T c c = some 0)
    (hi : ∀ a b, a < n → b < n → mget U a b = if a < k then stg T c a b else mget T a b) :
    ∀ a b, a < n → b < n → mget (rowK n c U k) a b = if a < k + 1 then stg T c a b else mget T a b := by
  have u1 : mget U k c = mget T k c := by rw [hi k c hk hc, if_neg (by omega)]
  unfold rowK
  split
  · have := range_fold (P := fun j V => Sq n V ∧ ∀ a b, a < n → b < n → mget V a b = if a < k ∨ (a = k ∧ b < j) then stg T c a b else mget T a b) (f := stepJ c k) n U
      ⟨hU, fun a b ha hb => by rw [hi a b ha hb]; by_cases q : a < k
                               · rw [if_pos q, if_pos (by omega)]
                               · rw [if_neg q, if_neg (by omega)]⟩
      fun j V hj ⟨hV, hv⟩ => ⟨hV.stepJ hk c j, step_eq hV hk hj hc h0 hv⟩
    intro a b ha hb
    rw [this.2 a b ha hb]
    by_cases q : a < k + 1
    · rw [if_pos q, if_pos (by omega)]
    · rw [if_neg q, if_neg (by omega)]
  · rename_i hn
    have en : mget T k c = none := by
      rw [← u1]
      cases e : mget U k c with
      | none => rfl
      | some v => rw [e] at hn; exact (hn rfl).elim
    intro a b ha hb
    rw [hi a b ha hb]
    by_cases q : a < k
    · rw [if_pos q, if_pos (by omega)]
    · rw [if_neg q]
      by_cases r : a = k
      · subst r
        rw [if_pos (by omega)]
        unfold stg
        rw [en]
        show _ = minO _ none
        rw [minO_none]
      · rw [if_neg (by omega)]
theorem stage_eq {n : Nat} {T : Tb} {c : Nat} (h : Sq n T) (hc : c < n) (h0 : mget T c c = some 0) : ∀ a b, a < n → b < n → mget (stage n T c) a b = stg T c a b := by
  have := range_fold (P := fun k V => Sq n V ∧ ∀ a b, a < n → b < n → mget V a b = if a < k then stg T c a b else mget T a b) (f := rowK n c) n T
    ⟨h, fun a b _ _ => by rw [if_neg (by omega)]⟩ fun k V hk ⟨hV, hv⟩ => ⟨hV.rowK hk c, row_eq hV hk hc h0 hv⟩
  intro a b ha hb
  have e := this.2 a b ha hb
  rw [if_pos ha] at e
  exact e
/-! the triangle -/
def Tri (n : Nat) (T : Tb) (b : Nat) : Prop := ∀ k j, k < n → j < n → leO (mget T k j) (addO (mget T k b) (mget T b j))
theorem stage_tri {n : Nat} {T : Tb} {c : Nat} (h : Sq n T) (hc : c < n) (h0 : mget T c c = some 0) {b : Nat} (hb : b < n) (ht : b = c ∨ Tri n T b) : Tri n (stage n T c) b := fun k j hk hj => by
  rw [stage_eq h hc h0 k j hk hj, stage_eq h hc h0 k b hk hb, stage_eq h hc h0 b j hb hj]
  have l1 : leO (stg T c k j) (mget T k j) := minO_le1 _ _
  have l2 : leO (stg T c k j) (addO (mget T k c) (mget T c j)) := minO_le2 _ _
  rcases ht with rfl | ht
  · rw [stg_col h0, stg_row h0]
    exact l2
  · have e1 := minO_or (mget T k b) (addO (mget T k c) (mget T c b))
    have e2 := minO_or (mget T b j) (addO (mget T b c) (mget T c j))
    show leO _ (addO (minO (mget T k b) (addO (mget T k c) (mget T c b))) (minO (mget T b j) (addO (mget T b c) (mget T c j))))
    rcases e1 with e1 | e1 <;> rcases e2 with e2 | e2 <;> rw [e1, e2]
    · exact l1.trans (ht k j hk hj)
    · refine l2.trans ?_
      rw [← addO_assoc]
      exact addO_mono (ht k c hk hc) (leO.refl _)
    · refine l2.trans ?_
      rw [addO_assoc]
      exact addO_mono (leO.refl _) (ht c j hc hj)
    · refine l2.trans ?_
      rw [addO_assoc, ← addO_assoc (mget T c b)]
      refine addO_mono (leO.refl _) ?_
      have := addO_mono (ht c c hc hc) (leO.refl (mget T c j))
      rw [h0, zero_addO] at this
      exact this
def diagOk (n : Nat) (T : Tb) : Prop := ∀ k, k < n → leO (some 0) (mget T k k)
theorem fw_all {n : Nat} {T : Tb} (h : Sq n T) (h0 : ∀ k, k < n → mget T k k = some 0) (hd : diagOk n (fw n T)) : leT n (fw n T) T ∧ (∀ k, k < n → mget (fw n T) k k = some 0) ∧ ∀ b, b < n → Tri n (fw n T) b := by
  have pre : ∀ m, m ≤ n → Sq n ((List.range m).foldl (stage n) T) ∧ leT n (fw n T) ((List.range m).foldl (stage n) T) ∧ leT n ((List.range m).foldl (stage n) T) T := fun m hm => by
    obtain ⟨l, hl⟩ : ∃ l, List.range n = List.range m ++ l := by
      refine ⟨(List.range n).drop m, ?_⟩
      have := (List.take_append_drop m (List.range n)).symm
      rw [List.take_range, Nat.min_eq_left hm] at this
      exact this
    have s1 : Sq n ((List.range m).foldl (stage n) T) := foldl_ind (P := Sq n) _ _ h fun b c _ hb => hb.stage c
    refine ⟨s1, ?_, ?_⟩
    · unfold fw
      rw [hl, List.foldl_append]
      exact (foldl_ind (P := fun U => Sq n U ∧ leT n U ((List.range m).foldl (stage n) T)) _ _ ⟨s1, .refl _ _⟩ fun b c _ hb => ⟨hb.1.stage c, (stage_leT hb.1 c).trans hb.2⟩).2
    · exact (foldl_ind (P := fun U => Sq n U ∧ leT n U T) _ _ ⟨h, .refl _ _⟩ fun b c _ hb => ⟨hb.1.stage c, (stage_leT hb.1 c).trans hb.2⟩).2
  have dg : ∀ m, m ≤ n → ∀ k, k < n → mget ((List.range m).foldl (stage n) T) k k = some 0 := fun m hm k hk => by
    obtain ⟨_, p1, p2⟩ := pre m hm
    have a1 := (hd k hk).trans (p1 k k hk hk)
    have a2 := p2 k k hk hk
    rw [h0 k hk] at a2
    cases e : mget ((List.range m).foldl (stage n) T) k k with
    | none => rw [e] at a2; exact a2.elim
    | some v =>
      rw [e] at a1 a2
      have a1 : (0 : Int) ≤ v := a1
      have a2 : v ≤ 0 := a2
      congr 1; omega
  refine ⟨(pre n (Nat.le_refl n)).2.2, dg n (Nat.le_refl n), ?_⟩
  have : ∀ m, m ≤ n → ∀ b, b < m → Tri n ((List.range m).foldl (stage n) T) b := fun m => by
    induction m with
    | zero => intro _ b hb; omega
    | succ m ih =>
      intro hm b hb
      rw [List.range_succ, List.foldl_append]
      show Tri n (stage n ((List.range m).foldl (stage n) T) m) b
      refine stage_tri (pre m (by omega)).1 (by omega) (dg m (by omega) m (by omega)) (by omega) ?_
      by_cases q : b = m
      · exact .inl q
      · exact .inr (ih (by omega) b (by omega))
  exact this n (Nat.le_refl n)
/-! the table of a network -/
def SoundT (bs : List Bn) (ps : List Str) (T : Tb) : Prop := ∀ a b x y w, ps[a]? = some x → ps[b]? = some y → mget T a b = some w → ∃ es, Wk bs x es y ∧ ws es = w
theorem minPut_sound {bs : List Bn} {ps : List Str} {T : Tb} (h : Sq ps.length T) (hs : SoundT bs ps T) {k j : Nat} {x y : Str} (hk : ps[k]? = some x) (hj : ps[j]? = some y) {es : List Bn} (hw : Wk bs x es y) : SoundT bs ps (minPut T k j (ws es)) := fun a b x' y' w h1 h2 e => by
  have lk := (List.getElem?_eq_some_iff.mp hk).1
  have lj := (List.getElem?_eq_some_iff.mp hj).1
  rw [mget_minPut h lk lj] at e
  split at e
  · rename_i q
    rcases minO_or (mget T k j) (some (ws es)) with r | r
    · rw [r] at e
      exact hs a b x' y' w h1 h2 (by rw [q.1, q.2]; exact e)
    · rw [r] at e
      cases e
      rw [q.1, hk] at h1
      rw [q.2, hj] at h2
      cases h1
      cases h2
      exact ⟨es, hw, rfl⟩
  · exact hs a b x' y' w h1 h2 e
theorem stepJ_sound {bs : List Bn} {ps : List Str} {T : Tb} (h : Sq ps.length T) (hs : SoundT bs ps T) {c k j : Nat} (hc : c < ps.length) (hk : k < ps.length) (hj : j < ps.length) : SoundT bs ps (stepJ c k T j) := by
  unfold stepJ
  split
  · rename_i u v e1 e2
    have gk := List.getElem?_eq_getElem hk
    have gj := List.getElem?_eq_getElem hj
    have gc := List.getElem?_eq_getElem hc
    obtain ⟨es, w1, w2⟩ := hs k c _ _ u gk gc e1
    obtain ⟨fs, w3, w4⟩ := hs c j _ _ v gc gj e2
    have := minPut_sound h hs gk gj (w1.app w3)
    rw [ws_app, w2, w4] at this
    exact this
  · exact hs
theorem fw_sound {bs : List Bn} {ps : List Str} {T : Tb} (h : Sq ps.length T) (hs : SoundT bs ps T) : SoundT bs ps (fw ps.length T) := by
  refine (foldl_ind (P := fun U => Sq ps.length U ∧ SoundT bs ps U) _ _ ⟨h, hs⟩ fun U c hc hU => ?_).2
  refine foldl_ind (P := fun U => Sq ps.length U ∧ SoundT bs ps U) _ _ hU fun V k hk hV => ?_
  refine ⟨hV.1.rowK (List.mem_range.mp hk) c, ?_⟩
  unfold rowK
  split
  · exact (foldl_ind (P := fun U => Sq ps.length U ∧ SoundT bs ps U) _ _ hV fun W j hj hW => ⟨hW.1.stepJ (List.mem_range.mp hk) c j, stepJ_sound hW.1 hW.2 (List.mem_range.mp hc) (List.mem_range.mp hk) (List.mem_range.mp hj)⟩).2
  · exact hV.2
/-- the bounds are put in -/
def putB (ps : List Str) (T : Tb) (b : Bn) : Tb := minPut T (ps.idxOf b.2.1) (ps.idxOf b.1) b.2.2
def T00 (n : Nat) : Tb := List.replicate n (List.replicate n none)
def T0 (n : Nat) : Tb := (List.range n).foldl (fun T k => mput T k k 0) (T00 n)
def T1 (ps : List Str) (bs : List Bn) : Tb := bs.foldl (putB ps) (T0 ps.length)
def sumsT (ps : List Str) (bs : List Bn) : Tb := fw ps.length (T1 ps bs)
theorem Sq.T00 (n : Nat) : Sq n (T00 n) := ⟨List.length_replicate, fun r hr => by rw [(List.mem_replicate.mp hr).2, List.length_replicate]⟩
theorem Sq.T0 (n : Nat) : Sq n (T0 n) := foldl_ind (P := Sq n) _ _ (Sq.T00 n) fun b k hk hb => hb.mput (List.mem_range.mp hk) k 0
theorem T00_get (n a b : Nat) : mget (T00 n) a b = none := by
  unfold mget T00
  by_cases h : a < n
  · rw [List.getD_eq_getElem?_getD (l := List.replicate n _), List.getElem?_replicate, if_pos h, Option.getD_some]
    by_cases k : b < n
    · rw [List.getD_eq_getElem?_getD, List.getElem?_replicate, if_pos k]; rfl
    · rw [List.getD_eq_getElem?_getD, List.getElem?_replicate, if_neg k]; rfl
  · rw [List.getD_eq_getElem?_getD (l := List.replicate n _), List.getElem?_replicate, if_neg h]; rfl
theorem T0_get {n a b : Nat} (ha : a < n) (hb : b < n) : mget (T0 n) a b = if a = b then some 0 else none := by
  have := range_fold (P := fun k V => Sq n V ∧ ∀ a b, a < n → b < n → mget V a b = if a = b ∧ a < k then some 0 else none) (f := fun T k => mput T k k 0) n (T00 n)
    ⟨Sq.T00 n, fun a b _ _ => by rw [T00_get, if_neg (by omega)]⟩ fun k V hk ⟨hV, hv⟩ => ⟨hV.mput hk k 0, fun a b ha hb => by
      rw [mget_mput hV hk hk, hv a b ha hb]
      by_cases q : a = k ∧ b = k
      · rw [if_pos q, if_pos (by omega)]
      · rw [if_neg q]
        by_cases r : a = b ∧ a < k
        · rw [if_pos r, if_pos (by omega)]
        · rw [if_neg r, if_neg (by omega)]⟩
  have e := this.2 a b ha hb
  have e2 : mget (T0 n) a b = if a = b ∧ a < n then some 0 else none := e
  rw [e2]
  by_cases q : a = b
  · rw [if_pos ⟨q, ha⟩, if_pos q]
  · rw [if_neg (fun z => q z.1), if_neg q]
theorem T0_sound (bs : List Bn) (ps : List Str) : SoundT bs ps (T0 ps.length) := fun a b x y w h1 h2 e => by
  rw [T0_get (List.getElem?_eq_some_iff.mp h1).1 (List.getElem?_eq_some_iff.mp h2).1] at e
  split at e
  · rename_i q
    cases e
    rw [q, h2] at h1
    cases h1
    exact ⟨[], rfl, rfl⟩
  · cases e
theorem idx_get {ps : List Str} {x : Str} (h : x ∈ ps) : ps[ps.idxOf x]? = some x := by
  have hl := List.idxOf_lt_length_of_mem h
  rw [List.getElem?_eq_getElem hl, List.getElem_idxOf]
def InB (ps : List Str) (bs : List Bn) : Prop := ∀ b ∈ bs, b.1 ∈ ps ∧ b.2.1 ∈ ps
theorem T1_ok {ps : List Str} {bs cs : List Bn} (hb : InB ps cs) (hc : ∀ b ∈ cs, b ∈ bs) : Sq ps.length (cs.foldl (putB ps) (T0 ps.length)) ∧ SoundT bs ps (cs.foldl (putB ps) (T0 ps.length)) ∧ leT ps.length (cs.foldl (putB ps) (T0 ps.length)) (T0 ps.length) := by
  refine foldl_ind (P := fun U => Sq ps.length U ∧ SoundT bs ps U ∧ leT ps.length U (T0 ps.length)) _ _ ⟨Sq.T0 _, T0_sound bs ps, .refl _ _⟩ fun U b hm ⟨h1, h2, h3⟩ => ?_
  obtain ⟨m1, m2⟩ := hb b hm
  have l1 := List.idxOf_lt_length_of_mem m1
  have l2 := List.idxOf_lt_length_of_mem m2
  refine ⟨h1.minPut l2 _ _, ?_, (minPut_leT h1 l2 l1 _).trans h3⟩
  have := minPut_sound h1 h2 (idx_get m2) (idx_get m1) (Wk.one (hc b hm))
  rw [ws_cons, ws_nil, Int.add_zero] at this
  exact this
theorem T1_le {ps : List Str} {b : Bn} : ∀ {cs : List Bn} {T : Tb}, InB ps cs → Sq ps.length T → b ∈ cs → leO (mget (cs.foldl (putB ps) T) (ps.idxOf b.2.1) (ps.idxOf b.1)) (some b.2.2)
  | [], _, _, _, h => nomatch h
  | c :: cs, T, hb, hT, h => by
    obtain ⟨m1, m2⟩ := hb c List.mem_cons_self
    have l1 := List.idxOf_lt_length_of_mem m1
    have l2 := List.idxOf_lt_length_of_mem m2
    have hb2 : InB ps cs := fun x hx => hb x (List.mem_cons_of_mem _ hx)
    rcases List.mem_cons.mp h with rfl | h
    · have le : leT ps.length (cs.foldl (putB ps) (putB ps T b)) (putB ps T b) :=
        (foldl_ind (P := fun U => Sq ps.length U ∧ leT ps.length U (putB ps T b)) _ _ ⟨hT.minPut l2 _ _, .refl _ _⟩ fun U d hd hU => by
          obtain ⟨n1, n2⟩ := hb2 d hd
          have k1 := List.idxOf_lt_length_of_mem n1
          have k2 := List.idxOf_lt_length_of_mem n2
          exact ⟨hU.1.minPut k2 _ _, (minPut_leT hU.1 k2 k1 _).trans hU.2⟩).2
      refine (le _ _ l2 l1).trans ?_
      unfold putB
      rw [mget_minPut hT l2 l1, if_pos ⟨rfl, rfl⟩]
      exact minO_le2 _ _
    · exact T1_le (cs := cs) (T := putB ps T c) hb2 (hT.minPut l2 _ _) h
theorem sums_sq {ps : List Str} {bs : List Bn} (hb : InB ps bs) : Sq ps.length (sumsT ps bs) := (T1_ok hb fun _ h => h).1.fw
theorem sums_sound {ps : List Str} {bs : List Bn} (hb : InB ps bs) : SoundT bs ps (sumsT ps bs) := fw_sound (T1_ok hb fun _ h => h).1 (T1_ok hb fun _ h => h).2.1
theorem sums_diag {ps : List Str} {bs : List Bn} (hb : InB ps bs) {k : Nat} (hk : k < ps.length) : leO (mget (sumsT ps bs) k k) (some 0) := by
  have s := (T1_ok hb fun _ h => h)
  have l1 : leT ps.length (sumsT ps bs) (T1 ps bs) := (foldl_ind (P := fun U => Sq ps.length U ∧ leT ps.length U (T1 ps bs)) _ _ ⟨s.1, .refl _ _⟩ fun b c _ hb => ⟨hb.1.stage c, (stage_leT hb.1 c).trans hb.2⟩).2
  have := (l1 k k hk hk).trans (s.2.2 k k hk hk)
  rw [T0_get hk hk, if_pos rfl] at this
  exact this
/-- no entry of the diagonal below 0 if no ring is -/
theorem sums_ok {ps : List Str} {bs : List Bn} (hb : InB ps bs) (hn : NoNeg bs) : diagOk ps.length (sumsT ps bs) := fun k hk => by
  cases e : mget (sumsT ps bs) k k with
  | none => trivial
  | some w =>
    have g := List.getElem?_eq_getElem hk
    obtain ⟨es, h1, h2⟩ := sums_sound hb k k _ _ w g g e
    have := hn _ es h1
    show (0 : Int) ≤ w
    omega
theorem T1_diag {ps : List Str} {bs : List Bn} (hb : InB ps bs) (hd : diagOk ps.length (sumsT ps bs)) : ∀ k, k < ps.length → mget (T1 ps bs) k k = some 0 := fun k hk => by
  have s := (T1_ok hb fun _ h => h)
  have l1 : leT ps.length (sumsT ps bs) (T1 ps bs) := (foldl_ind (P := fun U => Sq ps.length U ∧ leT ps.length U (T1 ps bs)) _ _ ⟨s.1, .refl _ _⟩ fun b c _ hb => ⟨hb.1.stage c, (stage_leT hb.1 c).trans hb.2⟩).2
  have a1 := (hd k hk).trans (l1 k k hk hk)
  have a2 := s.2.2 k k hk hk
  rw [T0_get hk hk, if_pos rfl] at a2
  have a2 : leO (mget (T1 ps bs) k k) (some 0) := a2
  cases e : mget (T1 ps bs) k k with
  | none => rw [e] at a2; exact a2.elim
  | some v =>
    rw [e] at a1 a2
    have a1 : (0 : Int) ≤ v := a1
    have a2 : v ≤ 0 := a2
    congr 1; omega
theorem sums_facts {ps : List Str} {bs : List Bn} (hb : InB ps bs) (hd : diagOk ps.length (sumsT ps bs)) : (∀ b ∈ bs, leO (mget (sumsT ps bs) (ps.idxOf b.2.1) (ps.idxOf b.1)) (some b.2.2)) ∧ (∀ k, k < ps.length → mget (sumsT ps bs) k k = some 0) ∧ ∀ b, b < ps.length → Tri ps.length (sumsT ps bs) b := by
  obtain ⟨f1, f2, f3⟩ := fw_all (T1_ok hb fun _ h => h).1 (T1_diag hb hd) hd
  refine ⟨fun b h => ?_, f2, f3⟩
  obtain ⟨m1, m2⟩ := hb b h
  exact (f1 _ _ (List.idxOf_lt_length_of_mem m2) (List.idxOf_lt_length_of_mem m1)).trans (T1_le hb (Sq.T0 _) h)
theorem sums_wk {ps : List Str} {bs : List Bn} (hb : InB ps bs) (hd : diagOk ps.length (sumsT ps bs)) : ∀ {es : List Bn} {a b : Str}, a ∈ ps → Wk bs a es b → leO (mget (sumsT ps bs) (ps.idxOf a) (ps.idxOf b)) (some (ws es))
  | [], a, b, ha, h => by
    have : a = b := h
    subst this
    rw [(sums_facts hb hd).2.1 _ (List.idxOf_lt_length_of_mem ha)]
    exact Int.le_refl _
  | e :: es, a, b, ha, ⟨h1, h2, h3⟩ => by
    obtain ⟨f1, f2, f3⟩ := sums_facts hb hd
    have m1 := (hb e h1).1
    have ih := sums_wk hb hd m1 h3
    have g := f1 e h1
    rw [h2] at g
    have hw : Wk bs a (e :: es) b := ⟨h1, h2, h3⟩
    have hbp : ps.idxOf b < ps.length := List.idxOf_lt_length_of_mem (vts_mem (fun b hb' => (hb b hb').1) ha hw b (by
      have : ∀ {es : List Bn} {c : Str}, Wk bs c es b → b ∈ vts c es := fun {es} => by
        induction es with
        | nil => intro c h; rw [show c = b from h]; exact List.mem_cons_self
        | cons e es ih => intro c h; exact List.mem_cons_of_mem _ (ih h.2.2)
      exact this hw))
    have t := f3 _ (List.idxOf_lt_length_of_mem m1) _ _ (List.idxOf_lt_length_of_mem ha) hbp
    refine t.trans ?_
    rw [ws_cons]
    exact addO_mono (c := some e.2.2) (d := some (ws es)) g ih
/-- what the table tells is the least sum -/
theorem sums_dist {ps : List Str} {bs : List Bn} (hb : InB ps bs) (hn : NoNeg bs) {a b : Str} (ha : a ∈ ps) (hbm : b ∈ ps) : Dist bs a b (mget (sumsT ps bs) (ps.idxOf a) (ps.idxOf b)) := by
  have hd := sums_ok hb hn
  cases e : mget (sumsT ps bs) (ps.idxOf a) (ps.idxOf b) with
  | none =>
    intro es h
    have := sums_wk hb hd ha h
    rw [e] at this
    exact this
  | some w =>
    refine ⟨sums_sound hb _ _ _ _ w (idx_get ha) (idx_get hbm) e, fun es h => ?_⟩
    have := sums_wk hb hd ha h
    rw [e] at this
    exact this
end Z

namespace Z
open PySem PySem.Spec PyProof.Rows L2
/-! one bound made less -/
theorem diag_noNeg {ps : List Str} {bs : List Bn} (hb : InB ps bs) (hd : diagOk ps.length (sumsT ps bs)) : NoNeg bs := fun a es h => by
  cases es with
  | nil => rw [ws_nil]; exact Int.le_refl _
  | cons e es =>
    have ha : a ∈ ps := by rw [← h.2.1]; exact (hb e h.1).2
    have := sums_wk hb hd ha h
    rw [(sums_facts hb hd).2.1 _ (List.idxOf_lt_length_of_mem ha)] at this
    exact this
theorem diag_iff {ps : List Str} {bs : List Bn} (hb : InB ps bs) : diagOk ps.length (sumsT ps bs) ↔ NoNeg bs := ⟨diag_noNeg hb, sums_ok hb⟩
theorem set_inB {ps : List Str} {bs : List Bn} (hb : InB ps bs) {k : Nat} {b : Bn} (hk : bs[k]? = some b) (n : Int) : InB ps (bs.set k (b.1, b.2.1, n)) := fun c hc => by
  rcases List.mem_or_eq_of_mem_set hc with hc | rfl
  · exact hb c hc
  · exact hb b (List.mem_of_getElem? hk)
theorem add_pot {ps : List Str} {bs : List Bn} {t : Str → Int} (hb : InB ps bs) (hp : Pot bs t) {b : Bn} (hm : b.1 ∈ ps ∧ b.2.1 ∈ ps) (h : ∀ w, mget (sumsT ps bs) (ps.idxOf b.1) (ps.idxOf b.2.1) = some w → 0 ≤ b.2.2 + w) : ∃ t', Pot (b :: bs) t' ∧ t' b.2.1 = t b.2.1 ∧ t' b.1 ≤ t b.2.1 + b.2.2 ∧ ∀ x, t' x ≤ t x := by
  have hd := sums_ok hb hp.noNeg
  obtain ⟨f1, f2, f3⟩ := sums_facts hb hd
  have lp := List.idxOf_lt_length_of_mem hm.1
  let t' : Str → Int := fun x => match mget (sumsT ps bs) (ps.idxOf b.1) (ps.idxOf x) with
    | none => t x
    | some d => if t b.2.1 + b.2.2 + d < t x then t b.2.1 + b.2.2 + d else t x
  have e0 : ∀ x, mget (sumsT ps bs) (ps.idxOf b.1) (ps.idxOf x) = none → t' x = t x := fun x e => by
    show (match mget (sumsT ps bs) (ps.idxOf b.1) (ps.idxOf x) with | none => t x | some d => if t b.2.1 + b.2.2 + d < t x then t b.2.1 + b.2.2 + d else t x) = _
    rw [e]
  have e1 : ∀ x d, mget (sumsT ps bs) (ps.idxOf b.1) (ps.idxOf x) = some d → t' x = if t b.2.1 + b.2.2 + d < t x then t b.2.1 + b.2.2 + d else t x := fun x d e => by
    show (match mget (sumsT ps bs) (ps.idxOf b.1) (ps.idxOf x) with | none => t x | some d => if t b.2.1 + b.2.2 + d < t x then t b.2.1 + b.2.2 + d else t x) = _
    rw [e]
  have le : ∀ x, t' x ≤ t x := fun x => by
    cases e : mget (sumsT ps bs) (ps.idxOf b.1) (ps.idxOf x) with
    | none => rw [e0 x e]; exact Int.le_refl _
    | some d => rw [e1 x d e]; split <;> omega
  have ho : t' b.2.1 = t b.2.1 := by
    cases e : mget (sumsT ps bs) (ps.idxOf b.1) (ps.idxOf b.2.1) with
    | none => exact e0 _ e
    | some d =>
      have := h d e
      rw [e1 _ d e, if_neg (by omega)]
  have h1 : t' b.1 ≤ t b.2.1 + b.2.2 := by
    rw [e1 _ 0 (f2 _ lp)]
    split <;> omega
  refine ⟨t', fun c hc => ?_, ho, h1, le⟩
  rcases List.mem_cons.mp hc with rfl | hc
  · rw [ho]; exact h1
  · have hc2 := hp c hc
    have l1 := le c.1
    cases e : mget (sumsT ps bs) (ps.idxOf b.1) (ps.idxOf c.2.1) with
    | none => rw [e0 _ e]; omega
    | some d =>
      rw [e1 c.2.1 d e]
      obtain ⟨m1, m2⟩ := hb c hc
      have q := (f3 _ (List.idxOf_lt_length_of_mem m2) _ _ lp (List.idxOf_lt_length_of_mem m1)).trans (addO_mono (leO.refl _) (f1 c hc))
      rw [e] at q
      cases e2 : mget (sumsT ps bs) (ps.idxOf b.1) (ps.idxOf c.1) with
      | none => rw [e2] at q; exact q.elim
      | some d2 =>
        rw [e2] at q
        have q : d2 ≤ d + c.2.2 := q
        have := e1 c.1 d2 e2
        split <;> (rw [this]; split <;> omega)
theorem less_noNeg {ps : List Str} {bs : List Bn} {t : Str → Int} (hb : InB ps bs) (hp : Pot bs t) {k : Nat} {b : Bn} (hk : bs[k]? = some b) {n : Int} (h : ∀ w, mget (sumsT ps bs) (ps.idxOf b.1) (ps.idxOf b.2.1) = some w → 0 ≤ n + w) : NoNeg (bs.set k (b.1, b.2.1, n)) := by
  obtain ⟨t', h1, _⟩ := add_pot (b := (b.1, b.2.1, n)) hb hp (hb b (List.mem_of_getElem? hk)) h
  have : Pot (bs.set k (b.1, b.2.1, n)) t' := fun c hc => by
    rcases List.mem_or_eq_of_mem_set hc with hc | rfl
    · exact h1 c (List.mem_cons_of_mem _ hc)
    · exact h1 _ List.mem_cons_self
  exact this.noNeg
theorem Wk.mapB {bs cs : List Bn} {f : Bn → Bn} (hf : ∀ b ∈ bs, f b ∈ cs ∧ (f b).1 = b.1 ∧ (f b).2.1 = b.2.1 ∧ (f b).2.2 ≤ b.2.2) : ∀ {es : List Bn} {a b : Str}, Wk bs a es b → Wk cs a (es.map f) b ∧ ws (es.map f) ≤ ws es
  | [], _, _, h => ⟨h, Int.le_refl _⟩
  | e :: es, _, _, ⟨h1, h2, h3⟩ => by
    obtain ⟨g1, g2, g3, g4⟩ := hf e h1
    obtain ⟨i1, i2⟩ := Wk.mapB hf h3
    rw [List.map_cons, ws_cons, ws_cons]
    exact ⟨⟨g1, by rw [g3]; exact h2, by rw [g2]; exact i1⟩, by omega⟩
theorem less_neg {ps : List Str} {bs : List Bn} (hb : InB ps bs) (hn : NoNeg bs) {k : Nat} {b : Bn} (hk : bs[k]? = some b) {n w : Int} (hw : mget (sumsT ps bs) (ps.idxOf b.1) (ps.idxOf b.2.1) = some w) (h0 : n ≤ b.2.2) (h : n + w < 0) : ¬ NoNeg (bs.set k (b.1, b.2.1, n)) := fun hq => by
  obtain ⟨m1, m2⟩ := hb b (List.mem_of_getElem? hk)
  obtain ⟨es, h1, h2⟩ := sums_sound hb _ _ _ _ w (idx_get m1) (idx_get m2) hw
  have lk := (List.getElem?_eq_some_iff.mp hk).1
  have hf : ∀ c ∈ bs, (if c = b then (b.1, b.2.1, n) else c) ∈ bs.set k (b.1, b.2.1, n) ∧ (if c = b then (b.1, b.2.1, n) else c).1 = c.1 ∧ (if c = b then (b.1, b.2.1, n) else c).2.1 = c.2.1 ∧ (if c = b then (b.1, b.2.1, n) else c).2.2 ≤ c.2.2 := fun c hc => by
    by_cases q : c = b
    · rw [if_pos q, q]
      exact ⟨List.mem_iff_getElem?.mpr ⟨k, List.getElem?_set_self lk⟩, rfl, rfl, h0⟩
    · rw [if_neg q]
      refine ⟨?_, rfl, rfl, Int.le_refl _⟩
      obtain ⟨i, hi⟩ := List.mem_iff_getElem?.mp hc
      have ne : k ≠ i := fun e => by
        rw [← e, hk] at hi
        exact q (Option.some.inj hi).symm
      exact List.mem_iff_getElem?.mpr ⟨i, by rw [List.getElem?_set_ne ne]; exact hi⟩
  obtain ⟨g1, g2⟩ := Wk.mapB hf h1
  have := hq b.2.1 (_ :: _) ⟨List.mem_iff_getElem?.mpr ⟨k, List.getElem?_set_self lk⟩, rfl, g1⟩
  rw [ws_cons] at this
  simp only at this
  omega
theorem room_pos {ps : List Str} {bs : List Bn} (hb : InB ps bs) (hn : NoNeg bs) {b : Bn} (hk : b ∈ bs) {w : Int} (hw : mget (sumsT ps bs) (ps.idxOf b.1) (ps.idxOf b.2.1) = some w) : 0 ≤ b.2.2 + w := by
  obtain ⟨m1, m2⟩ := hb b hk
  obtain ⟨es, h1, h2⟩ := sums_sound hb _ _ _ _ w (idx_get m1) (idx_get m2) hw
  have := hn b.2.1 (b :: es) ⟨hk, rfl, h1⟩
  rw [ws_cons, h2] at this
  exact this
/-- what stands at a diagonal -/
def dgn (T : Tb) (k : Nat) : Int := (mget T k k).getD 0
theorem dgn_get {ps : List Str} {bs : List Bn} (hb : InB ps bs) {k : Nat} (hk : k < ps.length) : mget (sumsT ps bs) k k = some (dgn (sumsT ps bs) k) := by
  have := sums_diag hb hk
  unfold dgn
  cases e : mget (sumsT ps bs) k k with
  | none => rw [e] at this; exact this.elim
  | some w => rfl
theorem ev_notin_true {bs : List Bool} : gNotIn (.bl true) (.lst (bs.map D.bl)) = some (.bl (bs.all (fun b => !b))) := by
  have h2 : okL 59 (bs.map D.bl) = true := by
    induction bs with
    | nil => unfold okL; rfl
    | cons b bs ih => rw [List.map_cons]; unfold okL; rw [ih]; unfold ok; rfl
  have h : ok 60 (.bl true) = true ∧ ok 60 (.lst (bs.map D.bl)) = true := ⟨by unfold ok; rfl, by unfold ok; exact h2⟩
  show (if ok 60 (.bl true) = true ∧ ok 60 (.lst (bs.map D.bl)) = true then some ((pyL (bs.map D.bl)).any fun z => PyData.eqv z (py (.bl true))) else none).bind _ = _
  rw [if_pos h, Option.bind_some, pyL_map]
  congr 2
  clear h h2
  induction bs with
  | nil => rfl
  | cons b bs ih =>
    rw [List.map_cons, List.map_cons, List.any_cons, List.all_cons, Bool.not_or, ih]
    congr 1
    have : PyData.eqv (py (.bl b)) (py (.bl true)) = (b == true) := by unfold py PyData.eqv; rfl
    rw [this]
    cases b <;> rfl
end Z

namespace Z
open PySem PySem.Spec PyProof.Rows L2
section
variable {X : Cx}
def mInsert : D → List D → Option (D × D)
  | .lst ds, [.int i, d] => if ds.length < sizeLine ∧ 0 ≤ i ∧ i < 2 ^ 63 then some (.non, .lst (ds.take i.toNat ++ [d] ++ ds.drop i.toNat)) else none
  | _, _ => none
theorem md_insert : MutD X "list.insert" mInsert := by
  refine ⟨_, mt_insert, fun H O a d ds us z Q ow r e k => ?_⟩
  cases ow <;> try (cases e; done)
  rename_i vs ds' h2 h1
  cases r with
  | nil => cases e
  | cons r t =>
    rename_i d1 v1 _ _
    cases d1 <;> try (cases t <;> cases e; done)
    cases t with
    | nil => cases e
    | cons r2 t =>
      cases t with
      | cons _ _ => cases e
      | nil =>
        rename_i i d' v'
        cases r
        have e : (if ds'.length < sizeLine ∧ 0 ≤ i ∧ i < 2 ^ 63 then some (D.non, D.lst (ds'.take i.toNat ++ [d'] ++ ds'.drop i.toNat)) else none) = some z := e
        split at e
        · rename_i hi
          cases e
          exact ⟨a, vs, i, v', rfl, rfl, h1, by rw [← h2.length]; exact hi.1, hi.2.1, hi.2.2, k .non _ fun O' s => ⟨.lst upd_same ((((h2.mono s).take _).append (.cons (r2.mono s) .nil)).append ((h2.mono s).drop _)), .non⟩⟩
        · cases e
theorem ev_insert {ds : List D} {d : D} {i : Int} (h : ds.length < 16777216 ∧ 0 ≤ i ∧ i < 9223372036854775808) : mInsert (.lst ds) [.int i, d] = some (.non, .lst (ds.take i.toNat ++ [d] ++ ds.drop i.toNat)) := if_pos ⟨sizeNl.mpr h.1, h.2.1, h.2.2⟩
end
end Z

namespace Z
open PySem PySem.Spec PyProof.Rows L2
/-! things without those at some places -/
def kps (gone : List Int) (k : Nat) : Bool := !decide ((k : Int) ∈ gone)
def wo {α : Type} (gone : List Int) (xs : List α) : List α := (xs.zipIdx.filter fun p => kps gone p.2).map (·.1)
theorem zip_range {α : Type} (xs : List α) (d : α) : xs.zipIdx = (List.range xs.length).map fun k => (xs.getD k d, k) := by
  apply List.ext_getElem?
  intro i
  rw [List.getElem?_zipIdx, List.getElem?_map]
  by_cases h : i < xs.length
  · rw [List.getElem?_range h, List.getElem?_eq_getElem h]
    simp [List.getD_eq_getElem?_getD, h]
  · rw [List.getElem?_eq_none (by omega), List.getElem?_eq_none (by rw [List.length_range]; omega)]; rfl
theorem wo_range {α β : Type} (gone : List Int) (xs : List α) (f : α → β) (d : β) : ((List.range xs.length).filter (kps gone)).map (fun k => (xs.map f).getD k d) = (wo gone xs).map f := by
  cases xs with
  | nil => rfl
  | cons x xs =>
    unfold wo
    rw [zip_range (x :: xs) x, List.filter_map, List.map_map, List.map_map]
    refine List.map_congr_left fun k hk => ?_
    have hk := List.mem_range.mp (List.mem_filter.mp hk).1
    simp only [Function.comp]
    rw [List.getD_eq_getElem?_getD, List.getD_eq_getElem?_getD, List.getElem?_map, List.getElem?_eq_getElem hk]; rfl
theorem wo_mem {α : Type} {gone : List Int} {xs : List α} {x : α} : x ∈ wo gone xs ↔ ∃ k : Nat, xs[k]? = some x ∧ (k : Int) ∉ gone := by
  unfold wo
  rw [List.mem_map]
  constructor
  · rintro ⟨⟨y, k⟩, h, rfl⟩
    rw [List.mem_filter, List.mem_zipIdx_iff_getElem?] at h
    exact ⟨k, h.1, by simpa [kps] using h.2⟩
  · rintro ⟨k, h1, h2⟩
    exact ⟨(x, k), List.mem_filter.mpr ⟨List.mem_zipIdx_iff_getElem?.mpr h1, by simpa [kps] using h2⟩, rfl⟩
theorem wo_sub {α : Type} {gone : List Int} {xs : List α} : ∀ x ∈ wo gone xs, x ∈ xs := fun x h => by
  obtain ⟨k, h1, _⟩ := wo_mem.mp h
  exact List.mem_of_getElem? h1
theorem wo_len {α : Type} (gone : List Int) (xs : List α) : (wo gone xs).length ≤ xs.length := by
  unfold wo
  rw [List.length_map]
  have := List.length_filter_le (fun p : α × Nat => kps gone p.2) xs.zipIdx
  rwa [List.length_zipIdx] at this
theorem wo_inB {ps : List Str} {gone : List Int} {bs : List Bn} (h : InB ps bs) : InB ps (wo gone bs) := fun b hb => h b (wo_sub b hb)
theorem Pot.sub {bs cs : List Bn} {t : Str → Int} (h : Pot bs t) (hs : ∀ b ∈ cs, b ∈ bs) : Pot cs t := fun b hb => h b (hs b hb)
theorem Dist.mono {bs cs : List Bn} {a b : Str} {x y : Option Int} (h : Dist bs a b x) (k : Dist cs a b y) (hs : ∀ e ∈ cs, e ∈ bs) : leO x y := by
  cases y with
  | none => trivial
  | some v =>
    obtain ⟨⟨es, h1, h2⟩, _⟩ := k
    have w := Wk.mono hs h1
    cases x with
    | none => exact (h es w).elim
    | some u =>
      have := h.2 es w
      rw [h2] at this
      exact this
theorem Dist.same {bs cs : List Bn} {a b : Str} {x y : Option Int} (h : Dist bs a b x) (k : Dist cs a b y) (hs : ∀ e, e ∈ cs ↔ e ∈ bs) : x = y := by
  refine h.uniq ?_
  cases y with
  | none => exact fun es w => k es (Wk.mono (fun b hb => (hs b).mpr hb) w)
  | some v =>
    obtain ⟨⟨es, h1, h2⟩, h3⟩ := k
    exact ⟨⟨es, Wk.mono (fun b hb => (hs b).mp hb) h1, h2⟩, fun es w => h3 es (Wk.mono (fun b hb => (hs b).mpr hb) w)⟩
/-- a walk and a potential with the same number -/
theorem Dist.of {bs : List Bn} {t : Str → Int} (hp : Pot bs t) {es : List Bn} {a b : Str} (h : Wk bs a es b) (e : t b = t a + ws es) : Dist bs a b (some (ws es)) := ⟨⟨es, h, rfl⟩, fun fs w => by
  have := hp.le w
  omega⟩
theorem Dist.le_walk {bs : List Bn} {a b : Str} {x : Option Int} (h : Dist bs a b x) {es : List Bn} (w : Wk bs a es b) : ∃ v, x = some v ∧ v ≤ ws es := by
  cases x with
  | none => exact (h es w).elim
  | some v => exact ⟨v, rfl, h.2 es w⟩
theorem Dist.pot_le {bs : List Bn} {a b : Str} {x : Option Int} (h : Dist bs a b x) {t : Str → Int} (hp : Pot bs t) : leO (some (t b - t a)) x := by
  cases x with
  | none => trivial
  | some v =>
    obtain ⟨⟨es, h1, h2⟩, _⟩ := h
    have := hp.le h1
    show t b - t a ≤ v
    omega
theorem fil_succ (c : Nat → Bool) (k : Nat) : (List.range (k + 1)).filter c = (List.range k).filter c ++ if c k = true then [k] else [] := by
  rw [List.range_succ, List.filter_append]
  congr 1
  rw [List.filter_cons, List.filter_nil]
theorem fil_len (c : Nat → Bool) (k : Nat) : ((List.range k).filter c).length ≤ k := by
  have := List.length_filter_le c (List.range k)
  rwa [List.length_range] at this
/-- indexes as ints -/
def ixs (l : List Nat) : List D := (l.map fun k : Nat => (k : Int)).map .int
theorem ixs_eq (l : List Nat) : ixs l = l.map fun k : Nat => .int (k : Int) := by unfold ixs; rw [List.map_map]; rfl
theorem plnL_ints (n : Nat) (xs : List Int) : plnL (n + 1) (xs.map .int) = true := by
  induction xs with
  | nil => unfold plnL; rfl
  | cons x xs ih => rw [List.map_cons]; unfold plnL; rw [ih]; unfold pln; rfl
theorem pln_ixs {l : List Nat} (h : l.length ≤ 1000000) : pln 8 (.tup (ixs l)) = true := by
  unfold pln ixs
  rw [plnL_ints, Bool.true_and, List.length_map, List.length_map]
  exact decide_eq_true (by omega)
theorem ev_ne_oD {x y : Option Int} : gNe (oD x) (oD y) = some (.bl (decide (x ≠ y))) := by
  cases x with
  | none =>
    cases y with
    | none => rfl
    | some y => rfl
  | some x =>
    cases y with
    | none => rfl
    | some y =>
      show some (D.bl (!(x == y))) = _
      congr 2
      rw [Bool.eq_iff_iff]
      simp
end Z

namespace Z
open PySem PySem.Spec PyProof.Rows L2
section
variable {X : Cx} {a : Expr} {f : SE} {pos p p2 pos2 : Pos}
/-! ### list(range(n)), tuple(range(n)) -/
def rgD (n : Int) : List D := (List.range n.toNat).map fun (i : Nat) => D.int (i : Int)
theorem repL_rg {K : PySem.W.Frag} {H : Hp} {O : Ad} {n : Int} : RepL K H O (rgD n) (rgV 0 n) := by
  unfold rgD rgV
  rw [Int.sub_zero]
  generalize List.range n.toNat = l
  induction l with
  | nil => exact .nil
  | cons i l ih =>
    rw [List.map_cons, List.map_cons, Int.zero_add]
    exact .cons (.int _) ih
def eLstRg (f : SE) : SE := fun env => (f env).bind fun r => (asI r.1).bind fun n => if 0 ≤ n ∧ n ≤ 16777216 then some (.lst (rgD n), r.2) else none
def eTupRg (f : SE) : SE := fun env => (f env).bind fun r => (asI r.1).bind fun n => if 0 ≤ n ∧ n ≤ 16777216 then some (.tup (rgD n), r.2) else none
theorem df_lstRg (hc : X.calm = true) (hgl : Gl X "list") (hml : X.mg "list" = none) (hg : Gl X "range") (hm : X.mg "range" = none) (ha : DE X a f)
    (na : starEach [a] X.env = (false, eval a X.env) :: starEach [] X.env) (na2 : starEach [.Call (.Name "range" p2) [a] [] pos2] X.env = (false, eval (.Call (.Name "range" p2) [a] [] pos2) X.env) :: starEach [] X.env) :
    DF X (.Call (.Name "list" p) [.Call (.Name "range" p2) [a] [] pos2] [] pos) (eLstRg f) := by
  refine ⟨wkE (pe_listRg hc hgl hml (prg_1 hg hm ha.pe na) na2) fun σ H Q ⟨C, O, env, E, z, e, k⟩ => ?_⟩
  obtain ⟨r1, e1, e2⟩ := bindS e
  obtain ⟨n, e3, e4⟩ := bindS e2
  split at e4
  · rename_i hn
    cases e4
    refine ⟨C, O, env, E, r1, e1, fun v H1 O1 s1 E1 p1 => ?_⟩
    have p1 : Rep X.K H1 O1 r1.1 v := p1
    rw [asI_some e3] at p1
    cases p1
    refine ⟨n, rfl, .of_le (by omega) hn.2 (by omega) hn.1, fun q hq => ?_⟩
    obtain ⟨s3, E3, L⟩ := E1.new hq (own_lst repL_rg)
    exact k q _ _ (s1.trans s3) E3 L
  · cases e4
theorem de_tupRg (hc : X.calm = true) (hgl : Gl X "tuple") (hml : X.mg "tuple" = none) (hg : Gl X "range") (hm : X.mg "range" = none) (ha : DE X a f)
    (na : starEach [a] X.env = (false, eval a X.env) :: starEach [] X.env) (na2 : starEach [.Call (.Name "range" p2) [a] [] pos2] X.env = (false, eval (.Call (.Name "range" p2) [a] [] pos2) X.env) :: starEach [] X.env) :
    DE X (.Call (.Name "tuple" p) [.Call (.Name "range" p2) [a] [] pos2] [] pos) (eTupRg f) := by
  refine ⟨wkE (pe_tupRg hc hgl hml (prg_1 hg hm ha.pe na) na2) fun σ H Q ⟨C, O, env, E, z, e, k⟩ => ?_⟩
  obtain ⟨r1, e1, e2⟩ := bindS e
  obtain ⟨n, e3, e4⟩ := bindS e2
  split at e4
  · rename_i hn
    cases e4
    refine ⟨C, O, env, E, r1, e1, fun v H1 O1 s1 E1 p1 => ?_⟩
    have p1 : Rep X.K H1 O1 r1.1 v := p1
    rw [asI_some e3] at p1
    cases p1
    refine ⟨n, rfl, .of_le (by omega) hn.2 (by omega) hn.1, fun q hq => ?_⟩
    exact k _ _ O1 (s1.trans (.ext (upd_ext hq))) (E1.ext (upd_ext hq)) (new_tup E1.trk hq repL_rg)
  · cases e4
theorem ev_eLstRg {s : Slot} {e : Ev} : eLstRg f (s :: e) = (f (s :: e)).bind fun r => (asI r.1).bind fun n => if 0 ≤ n ∧ n ≤ 16777216 then some (.lst (rgD n), r.2) else none := rfl
theorem ev_eTupRg {s : Slot} {e : Ev} : eTupRg f (s :: e) = (f (s :: e)).bind fun r => (asI r.1).bind fun n => if 0 ≤ n ∧ n ≤ 16777216 then some (.tup (rgD n), r.2) else none := rfl
/-! ### dict(d): a copy -/
def gDict : List D → Option D
  | [.dk kvs] => some (.dk kvs)
  | _ => none
theorem cn_dict : CallN X (.type "dict") gDict := by
  refine ⟨_, call_dictD, fun H O xs us z Q t hx e k => ?_⟩
  cases hx with
  | nil => cases e
  | cons r rs =>
    rename_i d u ds vs
    cases rs with
    | cons _ _ => cases d <;> cases e
    | nil =>
      cases d <;> try (cases e; done)
      cases e
      rename_i kvs
      obtain ⟨a, es, rfl, h1, h2, h3⟩ := r.dk
      exact ⟨a, es, rfl, h1, fun p n => k p _ n fun O' s => .dk upd_same h2 (h3.mono s)⟩
end
end Z

namespace Z
open PySem PySem.Spec PyProof.Rows L2
/-! one bound more: what it makes of the least sums -/
def dT (ps : List Str) (bs : List Bn) (a b : Str) : Option Int := mget (sumsT ps bs) (ps.idxOf a) (ps.idxOf b)
theorem dT_tri {ps : List Str} {bs : List Bn} (hb : InB ps bs) (hn : NoNeg bs) {a b c : Str} (ha : a ∈ ps) (hbm : b ∈ ps) (hc : c ∈ ps) : leO (dT ps bs a c) (addO (dT ps bs a b) (dT ps bs b c)) :=
  (sums_facts hb (sums_ok hb hn)).2.2 _ (List.idxOf_lt_length_of_mem hbm) _ _ (List.idxOf_lt_length_of_mem ha) (List.idxOf_lt_length_of_mem hc)
theorem dT_self {ps : List Str} {bs : List Bn} (hb : InB ps bs) (hn : NoNeg bs) {a : Str} (ha : a ∈ ps) : dT ps bs a a = some 0 :=
  (sums_facts hb (sums_ok hb hn)).2.1 _ (List.idxOf_lt_length_of_mem ha)
theorem dT_edge {ps : List Str} {bs : List Bn} (hb : InB ps bs) (hn : NoNeg bs) {e : Bn} (he : e ∈ bs) : leO (dT ps bs e.2.1 e.1) (some e.2.2) :=
  (sums_facts hb (sums_ok hb hn)).1 e he
theorem dT_dist {ps : List Str} {bs : List Bn} (hb : InB ps bs) (hn : NoNeg bs) {a b : Str} (ha : a ∈ ps) (hbm : b ∈ ps) : Dist bs a b (dT ps bs a b) := sums_dist hb hn ha hbm
/-- the least sum with the bound b more -/
def dMore (ps : List Str) (bs : List Bn) (b : Bn) (x z : Str) : Option Int := minO (dT ps bs x z) (addO (addO (dT ps bs x b.2.1) (some b.2.2)) (dT ps bs b.1 z))
theorem leO.minO {a b c : Option Int} (h1 : leO a b) (h2 : leO a c) : leO a (minO b c) := by
  rcases minO_or b c with e | e <;> rw [e]
  · exact h1
  · exact h2
theorem dMore_step {ps : List Str} {bs : List Bn} (hb : InB ps bs) (hn : NoNeg bs) {b : Bn} (hm : b.1 ∈ ps ∧ b.2.1 ∈ ps) (h : ∀ w, dT ps bs b.1 b.2.1 = some w → 0 ≤ b.2.2 + w) {x : Str} (hx : x ∈ ps) {e : Bn} (he : e ∈ b :: bs) : leO (dMore ps bs b x e.1) (addO (dMore ps bs b x e.2.1) (some e.2.2)) := by
  rcases List.mem_cons.mp he with rfl | he
  · have h1 : dMore ps bs e x e.2.1 = dT ps bs x e.2.1 := by
      unfold dMore
      refine minO_of_le ?_
      cases e1 : dT ps bs x e.2.1 with
      | none => exact trivial
      | some u =>
        cases e2 : dT ps bs e.1 e.2.1 with
        | none => exact trivial
        | some w =>
          have := h w e2
          show u ≤ u + e.2.2 + w
          omega
    rw [h1]
    refine (minO_le2 _ _).trans ?_
    rw [dT_self hb hn hm.1, addO_zero]
    exact leO.refl _
  · obtain ⟨m1, m2⟩ := hb e he
    have ed := dT_edge hb hn he
    have t1 := (dT_tri hb hn hx m2 m1).trans (addO_mono (leO.refl _) ed)
    have t2 := (dT_tri hb hn hm.1 m2 m1).trans (addO_mono (leO.refl _) ed)
    unfold dMore
    rcases minO_or (dT ps bs x e.2.1) (addO (addO (dT ps bs x b.2.1) (some b.2.2)) (dT ps bs b.1 e.2.1)) with q | q <;> rw [q]
    · exact (minO_le1 _ _).trans t1
    · refine (minO_le2 _ _).trans ?_
      refine (addO_mono (leO.refl (addO (dT ps bs x b.2.1) (some b.2.2))) t2).trans ?_
      rw [← addO_assoc]
      exact leO.refl _
theorem dMore_wk {ps : List Str} {bs : List Bn} (hb : InB ps bs) (hn : NoNeg bs) {b : Bn} (hm : b.1 ∈ ps ∧ b.2.1 ∈ ps) (h : ∀ w, dT ps bs b.1 b.2.1 = some w → 0 ≤ b.2.2 + w) {x : Str} (hx : x ∈ ps) : ∀ {es : List Bn} {a c : Str}, Wk (b :: bs) a es c → leO (dMore ps bs b x c) (addO (dMore ps bs b x a) (some (ws es)))
  | [], a, c, w => by
    rw [show a = c from w, ws_nil, addO_zero]
    exact leO.refl _
  | e :: es, a, c, ⟨h1, h2, h3⟩ => by
    refine (dMore_wk hb hn hm h hx h3).trans ?_
    have := dMore_step hb hn hm h hx h1
    rw [h2] at this
    refine (addO_mono this (leO.refl _)).trans ?_
    rw [addO_assoc, ws_cons]
    exact leO.refl _
theorem dMore_dist {ps : List Str} {bs : List Bn} (hb : InB ps bs) (hn : NoNeg bs) {b : Bn} (hm : b.1 ∈ ps ∧ b.2.1 ∈ ps) (h : ∀ w, dT ps bs b.1 b.2.1 = some w → 0 ≤ b.2.2 + w) {x z : Str} (hx : x ∈ ps) (hz : z ∈ ps) : Dist (b :: bs) x z (dMore ps bs b x z) := by
  have low : ∀ es, Wk (b :: bs) x es z → leO (dMore ps bs b x z) (some (ws es)) := fun es w => by
    have q := dMore_wk hb hn hm h hx w
    have z0 : leO (dMore ps bs b x x) (some 0) := by
      unfold dMore
      refine (minO_le1 _ _).trans ?_
      rw [dT_self hb hn hx]
      exact leO.refl _
    refine q.trans ((addO_mono z0 (leO.refl _)).trans ?_)
    rw [zero_addO]
    exact leO.refl _
  have up : ∀ w, dMore ps bs b x z = some w → ∃ es, Wk (b :: bs) x es z ∧ ws es = w := fun w e => by
    have inc : ∀ c ∈ bs, c ∈ b :: bs := fun c hc => List.mem_cons_of_mem _ hc
    unfold dMore at e
    rcases minO_or (dT ps bs x z) (addO (addO (dT ps bs x b.2.1) (some b.2.2)) (dT ps bs b.1 z)) with q | q <;> rw [q] at e
    · have d := dT_dist hb hn hx hz
      rw [e] at d
      obtain ⟨⟨es, h1, h2⟩, _⟩ := d
      exact ⟨es, h1.mono inc, h2⟩
    · cases e1 : dT ps bs x b.2.1 with
      | none => rw [e1] at e; cases e
      | some u =>
        cases e2 : dT ps bs b.1 z with
        | none => rw [e1, e2] at e; cases e
        | some v =>
          rw [e1, e2] at e
          have e : u + b.2.2 + v = w := Option.some.inj e
          have d1 := dT_dist hb hn hx hm.2
          have d2 := dT_dist hb hn hm.1 hz
          rw [e1] at d1
          rw [e2] at d2
          obtain ⟨⟨es, h1, h2⟩, _⟩ := d1
          obtain ⟨⟨fs, h3, h4⟩, _⟩ := d2
          refine ⟨es ++ b :: fs, (h1.mono inc).app ⟨List.mem_cons_self, rfl, h3.mono inc⟩, ?_⟩
          rw [ws_app, ws_cons, h2, h4]
          omega
  cases e : dMore ps bs b x z with
  | none =>
    intro es w
    have := low es w
    rw [e] at this
    exact this
  | some w =>
    refine ⟨up w e, fun es h2 => ?_⟩
    have := low es h2
    rw [e] at this
    exact this
theorem more_noNeg {ps : List Str} {bs : List Bn} (hb : InB ps bs) {t : Str → Int} (hp : Pot bs t) {b : Bn} (hm : b.1 ∈ ps ∧ b.2.1 ∈ ps) : NoNeg (b :: bs) ↔ ∀ w, dT ps bs b.1 b.2.1 = some w → 0 ≤ b.2.2 + w := by
  constructor
  · intro h w e
    have d := dT_dist hb hp.noNeg hm.1 hm.2
    rw [e] at d
    obtain ⟨⟨es, h1, h2⟩, _⟩ := d
    have := h b.2.1 (b :: es) ⟨List.mem_cons_self, rfl, h1.mono fun c hc => List.mem_cons_of_mem _ hc⟩
    rw [ws_cons, h2] at this
    exact this
  · intro h
    obtain ⟨t', h1, _⟩ := add_pot hb hp hm h
    exact h1.noNeg
theorem set_wo {α : Type} {xs : List α} {k : Nat} (hk : k < xs.length) (y z : α) : z ∈ xs.set k y ↔ z ∈ y :: wo [(k : Int)] xs := by
  rw [List.mem_cons, wo_mem]
  constructor
  · intro h
    obtain ⟨j, hj⟩ := List.mem_iff_getElem?.mp h
    by_cases e : k = j
    · subst e
      rw [List.getElem?_set_self hk] at hj
      exact .inl (Option.some.inj hj).symm
    · rw [List.getElem?_set_ne e] at hj
      exact .inr ⟨j, hj, by simp; omega⟩
  · rintro (rfl | ⟨j, hj, h2⟩)
    · exact List.mem_iff_getElem?.mpr ⟨k, List.getElem?_set_self hk⟩
    · have ne : k ≠ j := fun e => h2 (by rw [e]; exact List.mem_singleton.mpr rfl)
      exact List.mem_iff_getElem?.mpr ⟨j, by rw [List.getElem?_set_ne ne]; exact hj⟩
theorem NoNeg.same {bs cs : List Bn} (h : ∀ b, b ∈ bs ↔ b ∈ cs) : NoNeg bs ↔ NoNeg cs := ⟨fun k a es w => k a es (w.mono fun b hb => (h b).mpr hb), fun k a es w => k a es (w.mono fun b hb => (h b).mp hb)⟩
end Z

namespace Z
open PySem PySem.Spec PyProof.Rows L2
/-! ### sorted(x) of data of one shape -/
mutual
theorem depth_ok : ∀ {n : Nat} {d : D}, ok n d = true → (py d).depth ≤ n
  | _, .non, _ => by unfold py; simp [PyData.depth]
  | _, .bl _, _ => by unfold py; simp [PyData.depth]
  | _, .int _, _ => by unfold py; simp [PyData.depth]
  | _, .str _, _ => by unfold py; simp [PyData.depth]
  | n + 1, .tup ds, h => by unfold ok at h; unfold py; have := depth_okL h; simp only [PyData.depth]; omega
  | n + 1, .lst ds, h => by unfold ok at h; unfold py; have := depth_okL h; simp only [PyData.depth]; omega
  | n + 1, .kt ds, h => by unfold ok at h; unfold py; have := depth_okL h; simp only [PyData.depth]; omega
  | 0, .tup _, h => by unfold ok at h; cases h
  | 0, .lst _, h => by unfold ok at h; cases h
  | 0, .kt _, h => by unfold ok at h; cases h
  | _, .sc _, h => by unfold ok at h; cases h
  | _, .dk _, h => by unfold ok at h; cases h
  | _, .dt _, h => by unfold ok at h; cases h
theorem depth_okL : ∀ {n : Nat} {ds : List D}, okL n ds = true → PyData.depthAll (pyL ds) ≤ n
  | _, [], _ => by unfold pyL; simp [PyData.depthAll]
  | n, d :: ds, h => by
    unfold okL at h
    rw [Bool.and_eq_true] at h
    have h1 := depth_ok h.1
    have h2 := depth_okL h.2
    unfold pyL
    simp only [PyData.depthAll]
    omega
end
theorem okL_mem {n : Nat} : ∀ {ds : List D}, okL n ds = true → ∀ d ∈ ds, ok n d = true
  | [], _, _, hd => by cases hd
  | d :: ds, h, x, hx => by
    unfold okL at h
    rw [Bool.and_eq_true] at h
    rcases List.mem_cons.mp hx with rfl | hx
    · exact h.1
    · exact okL_mem h.2 x hx
def isTupD : D → Bool
  | .tup (_ :: _) => true
  | .kt (_ :: _) => true
  | _ => false
def leD (a b : D) : Bool := !PySem.W.dataLt (py b) (py a)
def sortD (ds : List D) : List D := ds.mergeSort leD
def srtOk (ds : List D) : Bool := okL 60 ds && (ds.all fun a => ds.all fun b => PySem.W.alike (py a) (py b)) && ds.all isTupD && decide (ds.length ≤ 16777216)
def gSortedD : List D → Option D
  | [d] => (lstD d).bind fun ds => if srtOk ds = true then some (.lst (sortD ds)) else none
  | _ => none
theorem repL_zip {K : PySem.W.Frag} {H : Hp} {O : Ad} : ∀ {ds : List D} {vs : List V}, RepL K H O ds vs → ∃ cs : List (D × V), cs.map (·.1) = ds ∧ cs.map (·.2) = vs ∧ ∀ c ∈ cs, Rep K H O c.1 c.2
  | _, _, .nil => ⟨[], rfl, rfl, fun _ h => nomatch h⟩
  | _, _, .cons (d := d) (v := v) h t => by
    obtain ⟨cs, h1, h2, h3⟩ := repL_zip t
    refine ⟨(d, v) :: cs, by rw [List.map_cons, h1], by rw [List.map_cons, h2], fun c hc => ?_⟩
    rcases List.mem_cons.mp hc with rfl | hc
    · exact h
    · exact h3 c hc
theorem repL_unzip {K : PySem.W.Frag} {H : Hp} {O : Ad} : ∀ {cs : List (D × V)}, (∀ c ∈ cs, Rep K H O c.1 c.2) → RepL K H O (cs.map (·.1)) (cs.map (·.2))
  | [], _ => .nil
  | c :: cs, h => .cons (h c List.mem_cons_self) (repL_unzip fun x hx => h x (List.mem_cons_of_mem _ hx))
theorem each_vals {h : Heap} {pins : List (Addr × Obj)} {σ : L2.St} {H : Hp} {s : Shared} {X : Cx} (I : Inv X pins σ H s) : ∀ {bs : List (V × PyData)} {us : List Value}, Vals (bs.map (·.1)) us → (∀ b ∈ bs, Dp X.K H b.1 b.2) → PySem.W.EachIs (fun u b => RelV b.1 u) us bs ∧ PySem.W.EachIs (fun u b => ∃ as, Reads s.heap u b.2 as) us bs
  | [], _, r, _ => by cases r; exact ⟨.nil, .nil⟩
  | b :: bs, _, r, k => by
    cases r with
    | cons r1 r2 =>
      obtain ⟨e1, e2⟩ := each_vals (h := h) I (bs := bs) r2 fun x hx => k x (List.mem_cons_of_mem _ hx)
      exact ⟨.cons r1 e1, .cons (Dp.reads I _ _ _ (k b List.mem_cons_self) r1) e2⟩
theorem vals_each : ∀ {bs : List (V × PyData)} {us : List Value}, PySem.W.EachIs (fun u b => RelV b.1 u) us bs → Vals (bs.map (·.1)) us
  | _, _, .nil => .nil
  | _, _, .cons h t => .cons h (vals_each t)
section
variable {X : Cx}
def rSortedD (K : PySem.W.Frag) : List V → Hp → VK → Prop := fun vs H Q => ∃ (a : Addr) (bs : List (V × PyData)), vs = [V.ref a] ∧ SqL K H a (bs.map (·.1)) ∧ (∀ b ∈ bs, Dp K H b.1 b.2) ∧ PySem.W.AllAlike (bs.map (·.2)) ∧ PySem.W.Sortable (bs.map (·.2)) ∧ (∀ b ∈ bs, b.2.depth ≤ 60) ∧
  ∀ p, H p = none → Q (.ref p) (upd H p (.lst ((bs.mergeSort (PySem.W.dataLe false (·.2))).map (·.1))))
theorem cr_sortedD (hu : X.A.units + 65 < cLine) : CallR X (.builtin "sorted") (rSortedD X.K) := by
  intro pins s σ H vs us Q I r h
  obtain ⟨a, bs, rfl, hs, hx, hal, hk, hd, q⟩ := h
  obtain ⟨its, rv, hl, hz⟩ := I.list hs
  rw [Vals.ref1 r]
  obtain ⟨e1, e2⟩ := each_vals (h := s.heap) I rv hx
  rw [List.length_map] at hz
  refine PySem.W.sorted_data (enc := fun b : V × PyData => b.2) hl.isList e1 e2 hal hk hz (fun b hb => by have := hd b hb; omega) fun out h1 h2 => ?_
  obtain ⟨ep, he'⟩ := PyProof.Rows.sortedAll_at s.heap its out.toArray
  have hlen : ((bs.mergeSort (PySem.W.dataLe false fun b : V × PyData => b.2)).map (·.1)).length ≤ sizeLine := by
    rw [List.length_map, List.length_mergeSort]
    exact hz
  exact ⟨.ref _, upd H (s.heap.objs.size + 1) (.lst ((bs.mergeSort (PySem.W.dataLe false fun b : V × PyData => b.2)).map (·.1))), I.laid (t' := s.toks) (fun _ _ => PyProof.Rows.sortedAll_old) (Nat.le_succ _) ⟨hlen, out, ep, vals_each h2, he'⟩, rfl, q _ (I.hok.fresh (Nat.le_succ _))⟩
theorem cn_sortedD (hu : X.A.units + 65 < cLine) : CallN X (.builtin "sorted") gSortedD := by
  refine ⟨_, cr_sortedD hu, fun H O xs us z Q t hx e k => ?_⟩
  cases xs with
  | nil => cases e
  | cons d ds =>
    cases ds with
    | cons _ _ => cases e
    | nil =>
      obtain ⟨v, rfl, r⟩ := hx.one
      obtain ⟨ds, e1, e2⟩ := bindS (show (lstD d).bind (fun ds => if srtOk ds = true then some (D.lst (sortD ds)) else none) = some z from e)
      obtain ⟨a, vs, rfl, h1, h2⟩ := lst_ok r e1
      split at e2
      · rename_i hok
        cases e2
        unfold srtOk at hok
        rw [Bool.and_eq_true, Bool.and_eq_true, Bool.and_eq_true] at hok
        obtain ⟨⟨⟨o1, o2⟩, o3⟩, o4⟩ := hok
        obtain ⟨cs, c1, c2, c3⟩ := repL_zip h2
        have om : ∀ c ∈ cs, ok 60 c.1 = true := fun c hc => okL_mem o1 _ (by rw [← c1]; exact List.mem_map.mpr ⟨c, hc, rfl⟩)
        let bs : List (V × PyData) := cs.map fun c => (c.2, py c.1)
        have b1 : bs.map (·.1) = vs := by show List.map _ (List.map _ cs) = _; rw [List.map_map, ← c2]; rfl
        have b2 : bs.map (·.2) = ds.map py := by show List.map _ (List.map _ cs) = _; rw [List.map_map, ← c1, List.map_map]; rfl
        have e3 : (bs.mergeSort (PySem.W.dataLe false fun b : V × PyData => b.2)).map (·.1) = (cs.mergeSort fun c c' => leD c.1 c'.1).map (·.2) := by
          have : (cs.mergeSort fun c c' => leD c.1 c'.1).map (fun c => (c.2, py c.1)) = bs.mergeSort (PySem.W.dataLe false fun b : V × PyData => b.2) := List.map_mergeSort (fun a _ b _ => rfl)
          rw [← this, List.map_map]; rfl
        have e4 : sortD ds = (cs.mergeSort fun c c' => leD c.1 c'.1).map (·.1) := by
          have : (cs.mergeSort fun c c' => leD c.1 c'.1).map (·.1) = (cs.map (·.1)).mergeSort leD := List.map_mergeSort (fun a _ b _ => rfl)
          rw [this, c1]; rfl
        refine ⟨a, bs, rfl, by rw [b1]; exact h1, fun b hb => ?_, ?_, ?_, fun b hb => ?_, fun p hp => ?_⟩
        · obtain ⟨c, hc, rfl⟩ := List.mem_map.mp hb
          exact (c3 c hc).dp (om c hc)
        · rw [b2]
          intro x hx y hy
          obtain ⟨x', hx', rfl⟩ := List.mem_map.mp hx
          obtain ⟨y', hy', rfl⟩ := List.mem_map.mp hy
          exact List.all_eq_true.mp (List.all_eq_true.mp o2 x' hx') y' hy'
        · rw [b2]
          refine .inl fun x hx => ?_
          obtain ⟨x', hx', rfl⟩ := List.mem_map.mp hx
          have := List.all_eq_true.mp o3 x' hx'
          unfold isTupD at this
          split at this
          · unfold py pyL; exact ⟨_, _, rfl⟩
          · unfold py pyL; exact ⟨_, _, rfl⟩
          · cases this
        · obtain ⟨c, hc, rfl⟩ := List.mem_map.mp hb
          exact depth_ok (om c hc)
        · rw [e3]
          refine k p _ hp ?_
          rw [e4]
          exact own_lst (O := O) (repL_unzip fun c hc => c3 c (List.mem_mergeSort.mp hc))
      · cases e2
end
theorem leD_total (a b : D) : (leD a b || leD b a) = true := by
  have h := (PySem.W.sortLe_total (PyProof.Rows.listOrd PyProof.Rows.itemOrd) false fun d : D => PySem.W.keyToks (py d)).total a b
  rw [Bool.or_eq_true]
  exact h
theorem leD_trans (a b c : D) (h1 : leD a b = true) (h2 : leD b c = true) : leD a c = true :=
  (PySem.W.sortLe_total (PyProof.Rows.listOrd PyProof.Rows.itemOrd) false fun d : D => PySem.W.keyToks (py d)).trans a b c h1 h2
/-! pairs of a text and an int -/
abbrev Pz := Str × Int
def ePz (p : Pz) : D := .tup [.str p.1, .int p.2]
def sortP (L : List Pz) : List Pz := L.mergeSort fun p q => leD (ePz p) (ePz q)
theorem py_ePz (p : Pz) : py (ePz p) = .tuple [.str p.1, .int p.2] := rfl
theorem leD_names {p q : Pz} (h : leD (ePz p) (ePz q) = true) : strLe p.1 q.1 = true := by
  unfold leD at h
  rw [py_ePz, py_ePz, PySem.W.dataLt_pair (by simp [PySem.W.alike]) (by simp [PySem.W.alike]), PySem.W.dataLt_str] at h
  unfold strLe
  have e : PyData.eqv (.str q.1) (.str p.1) = (q.1 == p.1) := by unfold PyData.eqv; rfl
  rw [e] at h
  by_cases hq : q.1 = p.1
  · rw [hq, decide_eq_false (List.lt_irrefl _)]; rfl
  · have : (q.1 == p.1) = false := by simpa using hq
    rw [this, if_neg Bool.false_ne_true] at h
    exact h
theorem srtOk_pairs {L : List Pz} (h : L.length ≤ 16777216) : srtOk (L.map ePz) = true := by
  unfold srtOk
  have h1 : okL 60 (L.map ePz) = true := by
    clear h
    induction L with
    | nil => unfold okL; rfl
    | cons p L ih => rw [List.map_cons]; unfold okL; rw [ih]; rfl
  rw [h1, Bool.true_and, Bool.and_eq_true, Bool.and_eq_true]
  refine ⟨⟨List.all_eq_true.mpr fun a ha => List.all_eq_true.mpr fun b hb => ?_, List.all_eq_true.mpr fun a ha => ?_⟩, decide_eq_true (by rw [List.length_map]; exact h)⟩
  · obtain ⟨p, _, rfl⟩ := List.mem_map.mp ha
    obtain ⟨q, _, rfl⟩ := List.mem_map.mp hb
    rw [py_ePz, py_ePz]
    simp [PySem.W.alike, PySem.W.alikeAll]
  · obtain ⟨p, _, rfl⟩ := List.mem_map.mp ha
    rfl
theorem ev_sortedP {L : List Pz} (h : L.length ≤ 16777216) : gSortedD [.lst (L.map ePz)] = some (.lst ((sortP L).map ePz)) := by
  show (if srtOk (L.map ePz) = true then some (D.lst (sortD (L.map ePz))) else none) = _
  rw [if_pos (srtOk_pairs h)]
  unfold sortD sortP
  rw [← List.map_mergeSort (r := fun p q => leD (ePz p) (ePz q)) (s := leD) (f := ePz) (fun a _ b _ => rfl)]
theorem sortP_names (L : List Pz) : (sortP L).map (·.1) = sortS (L.map (·.1)) := by
  refine sortS_eq ((List.mergeSort_perm L _).map _) ?_
  refine List.pairwise_map.mpr ?_
  have := List.pairwise_mergeSort (le := fun p q : Pz => leD (ePz p) (ePz q)) (fun a b c h k => leD_trans _ _ _ h k) (fun a b => leD_total _ _) L
  exact this.imp fun h => leD_names h
theorem sortP_mem {L : List Pz} {p : Pz} : p ∈ sortP L ↔ p ∈ L := List.mem_mergeSort
theorem sortP_perm (L : List Pz) : (sortP L).Perm L := List.mergeSort_perm L _
end Z

namespace Z
open PySem PySem.Spec PyProof.Rows L2
/-! ### while: so many turns are left -/
theorem gv_whileW {t : SB} {b : SS} (J : Nat → Ev → Prop) (E : Ev → Prop) (W : Out → Prop) (hs : ∀ m env, J (m + 1) env → Gv (t env) fun r => r.1 = true ∧ Gv (b r.2) (FwdOr (J m) W)) (he : ∀ env, J 0 env → Gv (t env) fun r => r.1 = false ∧ E r.2) :
    ∀ (n : Nat) (env : Ev), J n env → Gv (sWhile t b env) fun o => (∃ e, o = .nx e ∧ E e) ∨ W o
  | 0, env, h => by
    obtain ⟨r, h1, h2, h3⟩ := he env h
    rw [sWhile_eq, h1, Option.bind_some, h2]
    exact ⟨_, rfl, .inl ⟨_, rfl, h3⟩⟩
  | n + 1, env, h => by
    obtain ⟨r, h1, h2, o, h3, h4⟩ := hs n env h
    rw [sWhile_eq, h1, Option.bind_some, h2, if_pos rfl, h3, Option.bind_some]
    cases o with
    | nx e => exact gv_whileW J E W hs he n e h4
    | ct e => exact gv_whileW J E W hs he n e h4
    | bk e => exact ⟨_, rfl, .inr h4⟩
    | rt d e => exact ⟨_, rfl, .inr h4⟩
    | rn d e => exact ⟨_, rfl, .inr h4⟩
theorem gv_while {β : Type} {t : SB} {b : SS} {env : Ev} {k : Out → Option β} {Q : β → Prop} (J : Nat → Ev → Prop) (n : Nat) (h0 : J n env) (hs : ∀ m env, J (m + 1) env → Gv (t env) fun r => r.1 = true ∧ Gv (b r.2) (Fwd (J m)))
    (hk : ∀ env, J 0 env → Gv (t env) fun r => r.1 = false ∧ Gv (k (.nx r.2)) Q) : Gv ((sWhile t b env).bind k) Q := by
  refine gv_bind (gv_whileW J (fun e => Gv (k (.nx e)) Q) (fun _ => False) (fun m env h => ?_) hk n env h0) ?_
  · obtain ⟨r, h1, h2, o, h3, h4⟩ := hs m env h
    refine ⟨r, h1, h2, o, h3, ?_⟩
    cases o with
    | nx e => exact h4
    | ct e => exact h4
    | bk e => exact h4.elim
    | rt d e => exact h4.elim
    | rn d e => exact h4.elim
  · rintro o (⟨e, rfl, h⟩ | h)
    · exact h
    · exact h.elim
/-! ### times that fall as bounds ask -/
def fset {α : Type} (f : Str → α) (x : Str) (v : α) : Str → α := fun y => if y = x then v else f y
theorem fset_self {α : Type} {f : Str → α} {x : Str} {v : α} : fset f x v x = v := if_pos rfl
theorem fset_ne {α : Type} {f : Str → α} {x y : Str} {v : α} (h : y ≠ x) : fset f x v y = f y := if_neg h
structure Low (bs : List Bn) (R i : Nat) (T : Str → Int) (B : Str → Option Nat) (u : Str → Nat) : Prop where
  tl : ∀ q, u q ≤ R + i
  tb : ∀ q, 0 < u q → ∃ j b, B q = some j ∧ bs[j]? = some b ∧ b.1 = q ∧ T b.2.1 + b.2.2 ≤ T q ∧ (T q = T b.2.1 + b.2.2 → u b.2.1 < u q) ∧ (bs.length < u q → u q < u b.2.1 + bs.length)
  ck : ∀ j b, bs[j]? = some b → b.1 ≠ b.2.1 → (j < i → u b.2.1 ≤ R + j + 1 → T b.1 ≤ T b.2.1 + b.2.2) ∧ (i ≤ j → bs.length ≤ R → u b.2.1 + bs.length ≤ R + j + 1 → T b.1 ≤ T b.2.1 + b.2.2)
theorem Low.zero {bs : List Bn} {T : Str → Int} {B : Str → Option Nat} : Low bs 0 0 T B (fun _ => 0) := by
  refine ⟨fun _ => Nat.zero_le _, fun _ h => absurd h (Nat.lt_irrefl 0), fun j b hj _ => ⟨fun h => by omega, fun _ h _ => ?_⟩⟩
  have := (List.getElem?_eq_some_iff.mp hj).1
  omega
theorem Low.next {bs : List Bn} {R : Nat} {T : Str → Int} {B : Str → Option Nat} {u : Str → Nat} (h : Low bs R bs.length T B u) : Low bs (R + bs.length) 0 T B u := by
  refine ⟨fun q => h.tl q, h.tb, fun j b hj hne => ⟨fun h => by omega, fun _ _ hu => ?_⟩⟩
  have := (List.getElem?_eq_some_iff.mp hj).1
  exact (h.ck j b hj hne).1 this (by omega)
theorem Low.skip {bs : List Bn} {R i : Nat} {T : Str → Int} {B : Str → Option Nat} {u : Str → Nat} (h : Low bs R i T B u) {b : Bn} (hb : bs[i]? = some b) (hk : T b.1 ≤ T b.2.1 + b.2.2) : Low bs R (i + 1) T B u := by
  refine ⟨fun q => by have := h.tl q; omega, h.tb, fun j c hj hne => ⟨fun hl hu => ?_, fun hl => (h.ck j c hj hne).2 (by omega)⟩⟩
  by_cases e : j = i
  · subst e
    rw [hb] at hj
    cases hj
    exact hk
  · exact (h.ck j c hj hne).1 (by omega) hu
theorem Low.fall {bs : List Bn} {R i : Nat} {T : Str → Int} {B : Str → Option Nat} {u : Str → Nat} (h : Low bs R i T B u) (hR : R = 0 ∨ bs.length ≤ R) {b : Bn} (hb : bs[i]? = some b) (hk : T b.2.1 + b.2.2 < T b.1) : Low bs R (i + 1) (fset T b.1 (T b.2.1 + b.2.2)) (fset B b.1 (some i)) (fset u b.1 (R + i + 1)) := by
  have hi := (List.getElem?_eq_some_iff.mp hb).1
  have le : ∀ q, fset T b.1 (T b.2.1 + b.2.2) q ≤ T q := fun q => by
    unfold fset
    split
    · rename_i e; rw [e]; omega
    · exact Int.le_refl _
  have ge : ∀ q, u q ≤ fset u b.1 (R + i + 1) q := fun q => by
    unfold fset
    split
    · have := h.tl q; omega
    · exact Nat.le_refl _
  refine ⟨fun q => ?_, fun q hq => ?_, fun j c hj hne => ⟨fun hl hu => ?_, fun hl hM hu => ?_⟩⟩
  · unfold fset
    split
    · omega
    · have := h.tl q; omega
  · by_cases e : q = b.1
    · subst e
      refine ⟨i, b, fset_self, hb, rfl, ?_⟩
      rw [fset_self, fset_self]
      by_cases eo : b.2.1 = b.1
      · rw [eo, fset_self, fset_self]
        rw [eo] at hk
        exact ⟨by omega, fun z => by omega, fun _ => by omega⟩
      · rw [fset_ne eo, fset_ne eo]
        have := h.tl b.2.1
        refine ⟨by omega, fun _ => by omega, fun hM => ?_⟩
        have c := (h.ck i b hb (Ne.symm eo)).2 (Nat.le_refl _)
        have hM2 : bs.length ≤ R := by omega
        have : ¬ (u b.2.1 + bs.length ≤ R + i + 1) := fun z => by
          have := c hM2 z
          omega
        omega
    · rw [fset_ne e] at hq
      obtain ⟨j, c, h1, h2, h3, h4, h5, h6⟩ := h.tb q hq
      refine ⟨j, c, by rw [fset_ne e]; exact h1, h2, h3, ?_⟩
      rw [fset_ne e, fset_ne e]
      have l := le c.2.1
      have g := ge c.2.1
      refine ⟨by omega, fun z => ?_, fun hM => by have := h6 hM; omega⟩
      by_cases eo : c.2.1 = b.1
      · rw [eo, fset_self] at z
        rw [eo] at h4
        omega
      · rw [fset_ne eo] at z ⊢
        exact h5 z
  · by_cases e : j = i
    · subst e
      rw [hb] at hj
      cases hj
      rw [fset_self, fset_ne (Ne.symm hne)]
      exact Int.le_refl _
    · by_cases eo : c.2.1 = b.1
      · rw [eo, fset_self] at hu
        omega
      · rw [fset_ne eo] at hu ⊢
        have := (h.ck j c hj hne).1 (by omega) hu
        have := le c.1
        omega
  · have hj2 := (List.getElem?_eq_some_iff.mp hj).1
    by_cases eo : c.2.1 = b.1
    · rw [eo, fset_self] at hu
      omega
    · rw [fset_ne eo] at hu ⊢
      have := (h.ck j c hj hne).2 (by omega) hM hu
      have := le c.1
      omega
/-- one step back along the bounds by which points fell last -/
def bkB (bs : List Bn) (B : Str → Option Nat) (q : Str) : Str := match B q with
  | some j => ((bs[j]?).map (·.2.1)).getD q
  | none => q
def bkN (bs : List Bn) (B : Str → Option Nat) : Nat → Str → Str
  | 0, q => q
  | k + 1, q => bkB bs B (bkN bs B k q)
theorem bkN_add (bs : List Bn) (B : Str → Option Nat) (a b : Nat) (q : Str) : bkN bs B (a + b) q = bkN bs B b (bkN bs B a q) := by
  induction b with
  | zero => rfl
  | succ b ih => show bkB bs B (bkN bs B (a + b) q) = _; rw [ih]; rfl
/-- B leads on from q -/
def Has (bs : List Bn) (B : Str → Option Nat) (q : Str) : Prop := ∃ j b, B q = some j ∧ bs[j]? = some b ∧ b.1 = q
theorem Low.has {bs : List Bn} {R i : Nat} {T : Str → Int} {B : Str → Option Nat} {u : Str → Nat} (h : Low bs R i T B u) {q : Str} (hq : 0 < u q) : Has bs B q ∧ T (bkB bs B q) + ((bs[(B q).getD 0]?).map (·.2.2)).getD 0 ≤ T q ∧ (T q = T (bkB bs B q) + ((bs[(B q).getD 0]?).map (·.2.2)).getD 0 → u (bkB bs B q) < u q) ∧ (bs.length < u q → u q < u (bkB bs B q) + bs.length) := by
  obtain ⟨j, b, h1, h2, h3, h4, h5, h6⟩ := h.tb q hq
  have e : bkB bs B q = b.2.1 := by unfold bkB; rw [h1]; show ((bs[j]?).map _).getD q = _; rw [h2]; rfl
  have e2 : ((bs[(B q).getD 0]?).map (·.2.2)).getD 0 = b.2.2 := by rw [h1]; show ((bs[j]?).map _).getD 0 = _; rw [h2]; rfl
  rw [e, e2]
  exact ⟨⟨j, b, h1, h2, h3⟩, h4, h5, h6⟩
theorem Low.far {bs : List Bn} {R i : Nat} {T : Str → Int} {B : Str → Option Nat} {u : Str → Nat} (h : Low bs R i T B u) {n : Nat} {f : Str} (hf : n * bs.length < u f) : ∀ k, k ≤ n → (n - k) * bs.length < u (bkN bs B k f)
  | 0, _ => hf
  | k + 1, hk => by
    have ih := h.far hf k (by omega)
    have e : n - k = (n - (k + 1)) + 1 := by omega
    rw [e, Nat.add_mul, Nat.one_mul] at ih
    have := (h.has (q := bkN bs B k f) (by omega)).2.2.2 (by omega)
    show _ < u (bkB bs B (bkN bs B k f))
    omega
/-- the way back from a late fall comes to a ring -/
theorem back_ring {bs : List Bn} {B : Str → Option Nat} {ps : List Str} {f : Str} (hin : ∀ b ∈ bs, b.2.1 ∈ ps) (hf : f ∈ ps) (hh : ∀ k, k ≤ ps.length → Has bs B (bkN bs B k f)) : ∃ d, 0 < d ∧ d ≤ ps.length ∧ bkN bs B d (bkN bs B ps.length f) = bkN bs B ps.length f ∧ ∀ k, ∃ m, m ≤ ps.length ∧ bkN bs B k (bkN bs B ps.length f) = bkN bs B m f := by
  have hm : ∀ k, k ≤ ps.length → bkN bs B k f ∈ ps := fun k hk => by
    cases k with
    | zero => exact hf
    | succ k =>
      obtain ⟨j, b, h1, h2, h3⟩ := hh k (by omega)
      have e : bkN bs B (k + 1) f = b.2.1 := by
        show bkB bs B (bkN bs B k f) = _
        unfold bkB
        rw [h1]
        show ((bs[j]?).map _).getD _ = _
        rw [h2]; rfl
      rw [e]
      exact hin b (List.mem_of_getElem? h2)
  obtain ⟨i, j, hij, hj, e⟩ : ∃ i j, i < j ∧ j ≤ ps.length ∧ bkN bs B i f = bkN bs B j f := by
    by_cases hd : ((List.range (ps.length + 1)).map fun k => bkN bs B k f).Nodup
    · have := nodup_le hd (m := ps) fun x hx => by
        obtain ⟨k, hk, rfl⟩ := List.mem_map.mp hx
        exact hm k (by have := List.mem_range.mp hk; omega)
      rw [List.length_map, List.length_range] at this
      omega
    · rw [List.Nodup, List.pairwise_map] at hd
      have : ¬ ∀ i j, i < j → j ≤ ps.length → bkN bs B i f ≠ bkN bs B j f := fun z => hd (by
        rw [List.pairwise_iff_getElem]
        intro i j hi hj hlt
        rw [List.getElem_range, List.getElem_range]
        rw [List.length_range] at hj
        exact z i j hlt (by omega))
      simp only [Classical.not_forall, Classical.not_not] at this
      obtain ⟨i, j, h1, h2, h3⟩ := this
      exact ⟨i, j, h1, h2, h3⟩
  have per : ∀ k, bkN bs B (j + k) f = bkN bs B (i + k) f := fun k => by rw [bkN_add, bkN_add, ← e]
  have hall : ∀ k, ∃ m, m ≤ ps.length ∧ bkN bs B k f = bkN bs B m f := by
    intro k
    induction k using Nat.strongRecOn with
    | _ k ih =>
      by_cases hk : k ≤ ps.length
      · exact ⟨k, hk, rfl⟩
      · have : k = j + (k - j) := by omega
        rw [this, per]
        exact ih _ (by omega)
  refine ⟨j - i, by omega, by omega, ?_, fun k => ?_⟩
  · rw [← bkN_add]
    have e1 : ps.length + (j - i) = j + (ps.length - i) := by omega
    have e2 : i + (ps.length - i) = ps.length := by omega
    rw [e1, per, e2]
  · rw [← bkN_add]
    exact hall _
theorem least_pos {P : Nat → Prop} : ∀ n, 0 < n → P n → ∃ m, 0 < m ∧ m ≤ n ∧ P m ∧ ∀ k, 0 < k → k < m → ¬ P k := by
  intro n
  induction n using Nat.strongRecOn with
  | _ n ih =>
    intro h0 hp
    by_cases h : ∃ k, 0 < k ∧ k < n ∧ P k
    · obtain ⟨k, h1, h2, h3⟩ := h
      obtain ⟨m, m1, m2, m3, m4⟩ := ih k h2 h1 h3
      exact ⟨m, m1, by omega, m3, m4⟩
    · exact ⟨n, h0, Nat.le_refl _, hp, fun k h1 h2 h3 => h ⟨k, h1, h2, h3⟩⟩
/-- the bound that leads on from q -/
def bdB (bs : List Bn) (B : Str → Option Nat) (q : Str) : Nat := (B q).getD 0
/-- indexes of the ring behind p, d bounds, the last one first -/
def rgB (bs : List Bn) (B : Str → Option Nat) (p : Str) (d : Nat) : List Nat := (List.range d).map fun k => bdB bs B (bkN bs B k p)
/-- what a row of indexes is: bounds from a to b -/
def Path (bs : List Bn) : Str → List Nat → Str → Prop
  | a, [], b => a = b
  | a, k :: ks, b => ∃ c, bs[k]? = some c ∧ c.2.1 = a ∧ Path bs c.1 ks b
def sumP (bs : List Bn) (ks : List Nat) : Int := (ks.map fun k => ((bs[k]?).map (·.2.2)).getD 0).sum
theorem Path.wk {bs : List Bn} : ∀ {ks : List Nat} {a b : Str}, Path bs a ks b → ∃ es, Wk bs a es b ∧ ws es = sumP bs ks
  | [], a, b, h => ⟨[], h, rfl⟩
  | k :: ks, a, b, ⟨c, h1, h2, h3⟩ => by
    obtain ⟨es, h4, h5⟩ := h3.wk
    refine ⟨c :: es, ⟨List.mem_of_getElem? h1, h2, h4⟩, ?_⟩
    rw [ws_cons, h5]
    unfold sumP
    rw [List.map_cons, List.sum_cons, h1]; rfl
theorem Path.app {bs : List Bn} : ∀ {ks ls : List Nat} {a b c : Str}, Path bs a ks b → Path bs b ls c → Path bs a (ks ++ ls) c
  | [], _, _, _, _, h, g => by rw [show _ = _ from h]; exact g
  | k :: ks, _, _, _, _, ⟨c, h1, h2, h3⟩, g => ⟨c, h1, h2, h3.app g⟩
theorem back_path {bs : List Bn} {B : Str → Option Nat} {p : Str} : ∀ d, (∀ k, k < d → Has bs B (bkN bs B k p)) → Path bs (bkN bs B d p) (rgB bs B p d).reverse p
  | 0, _ => rfl
  | d + 1, hh => by
    unfold rgB
    rw [List.range_succ, List.map_append, List.reverse_append]
    obtain ⟨j, b, h1, h2, h3⟩ := hh d (by omega)
    have e : bkN bs B (d + 1) p = b.2.1 := by
      show bkB bs B (bkN bs B d p) = _
      unfold bkB
      rw [h1]
      show ((bs[j]?).map _).getD _ = _
      rw [h2]; rfl
    refine ⟨b, ?_, e.symm, ?_⟩
    · show bs[bdB bs B (bkN bs B d p)]? = _
      unfold bdB
      rw [h1]; exact h2
    · rw [h3]
      exact back_path d fun k hk => hh k (by omega)
/-- the bounds by which points fell last lead on, and fall -/
def Bk (bs : List Bn) (T : Str → Int) (B : Str → Option Nat) (u : Str → Nat) : Prop := ∀ q, 0 < u q → ∃ j b, B q = some j ∧ bs[j]? = some b ∧ b.1 = q ∧ T b.2.1 + b.2.2 ≤ T q ∧ (T q = T b.2.1 + b.2.2 → u b.2.1 < u q)
theorem Low.bk {bs : List Bn} {R i : Nat} {T : Str → Int} {B : Str → Option Nat} {u : Str → Nat} (h : Low bs R i T B u) : Bk bs T B u := fun q hq => by
  obtain ⟨j, b, h1, h2, h3, h4, h5, _⟩ := h.tb q hq
  exact ⟨j, b, h1, h2, h3, h4, h5⟩
theorem Bk.has {bs : List Bn} {T : Str → Int} {B : Str → Option Nat} {u : Str → Nat} (h : Bk bs T B u) {q : Str} (hq : 0 < u q) : Has bs B q ∧ T (bkB bs B q) + ((bs[(B q).getD 0]?).map (·.2.2)).getD 0 ≤ T q ∧ (T q = T (bkB bs B q) + ((bs[(B q).getD 0]?).map (·.2.2)).getD 0 → u (bkB bs B q) < u q) := by
  obtain ⟨j, b, h1, h2, h3, h4, h5⟩ := h q hq
  have e : bkB bs B q = b.2.1 := by unfold bkB; rw [h1]; show ((bs[j]?).map _).getD q = _; rw [h2]; rfl
  have e2 : ((bs[(B q).getD 0]?).map (·.2.2)).getD 0 = b.2.2 := by rw [h1]; show ((bs[j]?).map _).getD 0 = _; rw [h2]; rfl
  rw [e, e2]
  exact ⟨⟨j, b, h1, h2, h3⟩, h4, h5⟩
theorem Bk.neg {bs : List Bn} {T : Str → Int} {B : Str → Option Nat} {u : Str → Nat} (h : Bk bs T B u) {p : Str} : ∀ d, (∀ k, k < d → 0 < u (bkN bs B k p)) → T (bkN bs B d p) + sumP bs (rgB bs B p d) ≤ T p ∧ (T p = T (bkN bs B d p) + sumP bs (rgB bs B p d) → u (bkN bs B d p) + d ≤ u p)
  | 0, _ => ⟨by show T p + 0 ≤ T p; omega, fun _ => Nat.le_refl _⟩
  | d + 1, hu => by
    obtain ⟨a1, a2⟩ := h.neg d fun k hk => hu k (by omega)
    obtain ⟨_, b1, b2⟩ := h.has (hu d (by omega))
    have e : sumP bs (rgB bs B p (d + 1)) = sumP bs (rgB bs B p d) + ((bs[(B (bkN bs B d p)).getD 0]?).map (·.2.2)).getD 0 := by
      unfold sumP rgB
      rw [List.range_succ, List.map_append, List.map_append, List.sum_append]
      show _ + (_ + (0 : Int)) = _
      rw [Int.add_zero]; rfl
    rw [e]
    show T (bkB bs B (bkN bs B d p)) + _ ≤ _ ∧ (_ = T (bkB bs B (bkN bs B d p)) + _ → u (bkB bs B (bkN bs B d p)) + (d + 1) ≤ _)
    refine ⟨by omega, fun z => ?_⟩
    have := b2 (by omega)
    have := a2 (by omega)
    omega
theorem sum_rev : ∀ l : List Int, l.reverse.sum = l.sum
  | [] => rfl
  | x :: l => by
    rw [List.reverse_cons, List.sum_append, sum_rev l, List.sum_cons, List.sum_cons, List.sum_nil]
    omega
/-- a ring with a sum below 0 -/
def RingN (bs : List Bn) (ks : List Nat) : Prop := ks ≠ [] ∧ (∃ a, Path bs a ks a) ∧ sumP bs ks < 0
theorem RingN.not {bs : List Bn} {ks : List Nat} (h : RingN bs ks) : ¬ NoNeg bs := fun hn => by
  obtain ⟨_, ⟨a, hp⟩, hs⟩ := h
  obtain ⟨es, h1, h2⟩ := hp.wk
  have := hn a es h1
  omega
theorem ring_neg {bs : List Bn} {T : Str → Int} {B : Str → Option Nat} {u : Str → Nat} (h : Bk bs T B u) {p : Str} (hu : ∀ k, 0 < u (bkN bs B k p)) {d : Nat} (hd : 0 < d) (e : bkN bs B d p = p) : RingN bs (rgB bs B p d).reverse := by
  have hp := back_path (bs := bs) (B := B) (p := p) d fun k _ => (h.has (hu k)).1
  rw [e] at hp
  obtain ⟨n1, n2⟩ := h.neg d fun k _ => hu k
  rw [e] at n1 n2
  have hs : sumP bs (rgB bs B p d).reverse = sumP bs (rgB bs B p d) := by
    unfold sumP
    rw [List.map_reverse]
    exact sum_rev _
  refine ⟨fun z => ?_, ⟨p, hp⟩, ?_⟩
  · have := congrArg List.length z
    rw [List.length_reverse] at this
    unfold rgB at this
    rw [List.length_map, List.length_range, List.length_nil] at this
    omega
  · rw [hs]
    by_cases z : sumP bs (rgB bs B p d) = 0
    · rw [z] at n2
      have := n2 (by omega)
      omega
    · omega
/-- without a ring below 0 the way back comes to a -/
theorem back_to {bs : List Bn} {T : Str → Int} {B : Str → Option Nat} {u : Str → Nat} {ps : List Str} {a f : Str} (h : Bk bs T B u) (hn : NoNeg bs) (hin : ∀ b ∈ bs, b.2.1 ∈ ps) (hf : f ∈ ps) (hu : ∀ k, (∀ m, m ≤ k → bkN bs B m f ≠ a) → 0 < u (bkN bs B k f)) : ∃ k, k ≤ ps.length ∧ bkN bs B k f = a ∧ ∀ m, m < k → 0 < u (bkN bs B m f) ∧ bkN bs B m f ≠ a := by
  by_cases hex : ∃ k, k ≤ ps.length ∧ bkN bs B k f = a
  · obtain ⟨k, hk, e⟩ := hex
    obtain ⟨m, _, m2, m3, m4⟩ := least_pos (P := fun n => bkN bs B (n - 1) f = a) (k + 1) (by omega) (by rw [Nat.add_sub_cancel]; exact e)
    have ne : ∀ i, i < m - 1 → bkN bs B i f ≠ a := fun i hi e => m4 (i + 1) (by omega) (by omega) (by rw [Nat.add_sub_cancel]; exact e)
    exact ⟨m - 1, by omega, m3, fun i hi => ⟨hu i fun j hj => ne j (by omega), ne i hi⟩⟩
  · have ne : ∀ k, k ≤ ps.length → bkN bs B k f ≠ a := fun k hk e => hex ⟨k, hk, e⟩
    have up : ∀ k, k ≤ ps.length → 0 < u (bkN bs B k f) := fun k hk => hu k fun m hm => ne m (by omega)
    obtain ⟨d, d1, d2, d3, d4⟩ := back_ring (B := B) hin hf fun k hk => (h.has (up k hk)).1
    refine ((ring_neg h (p := bkN bs B ps.length f) (fun k => ?_) d1 d3).not hn).elim
    obtain ⟨m, hm, e⟩ := d4 k
    rw [e]
    exact up m hm
end Z

namespace Z
open PySem PySem.Spec PyProof.Rows L2
/-! ### min(xs, default=n), ints -/
theorem minOf_int : ∀ (ys : List Int) (y : Int), PySem.W.minOf y ys ∈ y :: ys ∧ ∀ x ∈ y :: ys, PySem.W.minOf y ys ≤ x
  | [], y => ⟨List.mem_cons_self, fun x hx => by rw [List.mem_singleton.mp hx]; exact Int.le_refl _⟩
  | z :: ys, y => by
    have e : PySem.W.minOf y (z :: ys) = PySem.W.minOf (if z < y then z else y) ys := by
      show (z :: ys).foldl (fun a y => if PySem.W.DatumOrd.lt y a = true then y else a) y = _
      rw [List.foldl_cons]
      show ys.foldl _ (if decide (z < y) = true then z else y) = _
      by_cases h : z < y
      · rw [if_pos (decide_eq_true h), if_pos h]; rfl
      · rw [if_neg (by rw [decide_eq_true_eq]; exact h), if_neg h]; rfl
    obtain ⟨h1, h2⟩ := minOf_int ys (if z < y then z else y)
    rw [e]
    generalize PySem.W.minOf (if z < y then z else y) ys = m at h1 h2
    have hh := h2 _ List.mem_cons_self
    constructor
    · rcases List.mem_cons.mp h1 with h | h
      · rw [h]
        split
        · exact List.mem_cons_of_mem _ List.mem_cons_self
        · exact List.mem_cons_self
      · exact List.mem_cons_of_mem _ (List.mem_cons_of_mem _ h)
    · intro x hx
      rcases List.mem_cons.mp hx with rfl | hx
      · split at hh <;> omega
      · rcases List.mem_cons.mp hx with rfl | hx
        · split at hh <;> omega
        · exact h2 x (List.mem_cons_of_mem _ hx)
section
variable {X : Cx}
def rMinDef (K : PySem.W.Frag) (d : Int) : List V → List V → Hp → VK → Prop := fun vs zs H Q => ∃ (a : Addr) (ns : List Int), vs = [V.ref a] ∧ zs = [V.int d] ∧ SqL K H a (ns.map V.int) ∧ (ns = [] → Q (.int d) H) ∧ ∀ M, M ∈ ns → (∀ x ∈ ns, M ≤ x) → Q (.int M) H
theorem crk_minDef {d : Int} (hc : X.calm = true) (hu : X.A.units + 65 < cLine) : CallRK X (.builtin "min") [Str.ofString "default"] (rMinDef X.K d) := by
  intro pins s σ H xs zs us ws Q I r r2 h
  obtain ⟨a, ns, rfl, rfl, hs, q0, q1⟩ := h
  obtain ⟨its, rv, hl, _⟩ := I.list hs
  rw [Vals.ref1 r]
  obtain ⟨u, rfl, ru⟩ := vals1 r2
  obtain ⟨t, rfl⟩ := ru
  show wpAny (model X.prog X.w) X.A (call (.builtin "min") [.ref a] [(Str.ofString "default", Value.int d t)]) _ _ _
  refine PySem.W.min_list_datum_default (α := Int) (xs := ns) (I.ok.hd hc) hl.isList (PySem.W.HoldAll.of_ints rv.ints) (by show X.A.units + 1 + 0 < cLine; omega) (fun e h' tk hk => ⟨.int d, H, I.kept hk, ⟨t, rfl⟩, q0 e⟩) fun y ys i v h' tk e hi hv hk => ?_
  obtain ⟨as, hr⟩ := hv
  have hr : Reads h' v (.int (PySem.W.minOf y ys)) as := hr
  obtain ⟨m1, m2⟩ := minOf_int ys y
  rw [← e] at m1 m2
  cases hr with
  | int n t' => exact ⟨.int _, H, I.kept hk, ⟨t', rfl⟩, q1 _ m1 m2⟩
def minDef (d : Int) (ns : List Int) : Int := match ns.min? with
  | some m => m
  | none => d
def eMinDef (d : Int) (f : SE) : SE := fun env => (f env).bind fun r => (lstD r.1).bind fun ds => (intsOf ds).bind fun ns => some (.int (minDef d ns), r.2)
theorem de_minDef {a : Expr} {f : SE} {d : Int} {j : Nat} {p pos p2 kp : Pos} (hc : X.calm = true) (hu : X.A.units + 65 < cLine) (hg : Gl X "min") (hm : X.mg "min" = none) (ha : DE X a f) (na : starEach [a] X.env = (false, eval a X.env) :: starEach [] X.env)
    (he : backTo pos (starEach [a] X.env) = (false, eval a X.env) :: backTo pos (starEach [] X.env)) (hpl : (backTo pos (starEach [a] X.env)).any (·.1) = false) :
    DE X (.Call (.Name "min" p) [a] [⟨some (Str.ofString "default"), .Constant (.int d) j p2, kp⟩] pos) (eMinDef d f) := by
  refine ⟨wkE (pe_callBK (crk_minDef (d := d) hc hu) hg hm (by decide +kernel) (pa_cons ha.pe pa_nil na) (pk_cons pe_int pk_nil) (by decide) (by decide) he hpl (by rfl) (by rfl) (by rfl)) fun σ H Q ⟨C, O, env, E, z, e, k⟩ => ?_⟩
  obtain ⟨r1, e1, e2⟩ := bindS e
  obtain ⟨ds, e3, e4⟩ := bindS e2
  obtain ⟨ns, e5, e6⟩ := bindS e4
  cases e6
  refine ⟨C, O, env, E, r1, e1, fun v H1 O1 s1 E1 p1 => ?_⟩
  obtain ⟨a, vs, rfl, h1, h2⟩ := lst_ok (.inl p1) e3
  rw [intsOf_eq e5] at h2
  rw [h2.intsV] at h1
  refine ⟨a, ns, rfl, rfl, h1, fun e => ?_, fun M m1 m2 => ?_⟩
  · have : minDef d ns = d := by rw [e]; rfl
    rw [this] at k
    exact k _ _ O1 s1 E1 (.int d)
  · have : minDef d ns = M := by
      unfold minDef
      cases hq : ns.min? with
      | none => rw [List.min?_eq_none_iff.mp hq] at m1; cases m1
      | some m =>
        obtain ⟨w1, w2⟩ := List.min?_eq_some_iff.mp hq
        exact Int.le_antisymm (w2 M m1) (m2 m w1)
    rw [this] at k
    exact k _ _ O1 s1 E1 (.int M)
theorem ev_eMinDef {d : Int} {f : SE} {s : Slot} {e : Ev} : eMinDef d f (s :: e) = (f (s :: e)).bind fun r => (lstD r.1).bind fun ds => (intsOf ds).bind fun ns => some (.int (minDef d ns), r.2) := rfl
end
end Z

namespace L2
open PySem PySem.Spec PyProof.Rows
section
variable {X : Cx}
/-- name = {..} on one line, the name a local -/
theorem ps_setDc {i : Nat} {y : Str} {py : Pos} {kx vx tg iter : Expr} {ifs : List Expr} {scope : Scope} {own : List (Str × Nat)} {pos spos : Pos} {wi : TI} {g : TG} {tt : TT} {tk tv : TE} (hc : X.calm = true) (hN : X.N.Nodup) (hy : X.N[i]? = some y) (hyl : X.env.scope.names.lookup y = some .local)
    (hsw : swapsWith (.DictComp kx vx [⟨tg, iter, ifs, 0⟩] scope pos) (some (.Name y py)) spos.line X.env = pure true) (hi : PI X tg iter wi) (ok : BlkOk X.N X.env.scope scope own)
    (hg : ∀ (s : Shared) (H : Hp) (C : Addr) (cl : List (Str × Addr)) (fp : List Addr), PG (X.blk s H scope (compEnvC scope cl C X.env) fp) tg g) (ht : ∀ (s : Shared) (H : Hp) (C : Addr) (cl : List (Str × Addr)) (fp : List Addr), PTs (X.blk s H scope (compEnvC scope cl C X.env) fp) ifs tt)
    (hk : ∀ (s : Shared) (H : Hp) (C : Addr) (cl : List (Str × Addr)) (fp : List Addr), PE (X.blk s H scope (compEnvC scope cl C X.env) fp) kx tk)
    (he : ∀ (s : Shared) (H : Hp) (C : Addr) (cl : List (Str × Addr)) (fp : List Addr), PE (X.blk s H scope (compEnvC scope cl C X.env) fp) vx tv) (hs : ∀ x, foldedSetIterable iter X.env x = pure x) :
    PS X (.Assign [.Name y py] (.DictComp kx vx [⟨tg, iter, ifs, 0⟩] scope pos) spos) (tAsg (tDc wi g tt tk tv (own.map (·.2))) (gName i)) := by
  refine ⟨fun pins s σ H D I h => ?_⟩
  rw [exec_Assign_Name_used _ _ _ _ hsw]
  refine wpAny_bind (wpAny_standAt (wpAny_bind ?_))
  show wpAny _ X.A (do let _ ← comprehension (.DictComp kx vx [⟨tg, iter, ifs, 0⟩] scope pos) scope X.env (firstIterPos [⟨tg, iter, ifs, 0⟩] pos) newDict false (eval iter X.env) (some (assign (.Name y py) X.env))) _ _ s
  have h : tDc wi g tt tk tv (own.map (·.2)) σ H (fun x H1 => gName i x σ H1 D.nx) := h
  refine wpAny_bind (thn (dc_core (Qf := fun _ s' => SP X pins D .next s') hc hN I hi ok hg ht hk he hs h fun L C s' m H' I' q hn f => ?_) fun _ s' hq => wpAny_pure (wpAny_pure hq))
  show wpAny _ _ (assign (.Name y py) X.env (.ref L)) _ _ _
  refine wpAny_assign_Name (store_ok2 (v := V.ref L) I' hN hy (.inl hyl) rfl (fun s2 I2 ⟨a, sb, ha⟩ => ?_) (.inr hyl))
  obtain ⟨f0, f1, f2, f3, f4, f5⟩ := f
  have haC : C ≠ a := by
    rcases ha with z | z
    · rw [z]; exact f1
    · exact fun e => f4 y a z e.symm
  refine ⟨m, hn.sameBut sb haC, fun h3 sb3 => ?_⟩
  exact ⟨_, H', I2.turned (t' := s2.toks) (fun b o hb e => (sb3.2 b hb).trans e) f0 f1 f3 f4 f5, q⟩
theorem sw_trueD {kx vx : Expr} {gs : List Comprehension} {scope : Scope} {pos py : Pos} {y : Str} {l : Nat} {env : Env} (hk : env.scope.kind = .function) (hy : env.scope.names.lookup y = some .local) (hl : (py.line == pos.line) = true)
    (ha : (scope.names.any fun (n, k) => n == y && (k == .local || k == .cell)) = false) : swapsWith (.DictComp kx vx gs scope pos) (some (.Name y py)) l env = pure true := by
  have ky : env.kindOf y = some .local := hy
  have hb : env.blockKind = .function := by unfold Env.blockKind; rw [hk]; rfl
  unfold swapsWith
  simp only [hb, ky, ha, Expr.pos, hl]
  rfl
end
end L2
namespace Z
open PySem PySem.Spec PyProof.Rows L2
section
variable {X : Cx} {kx elt tg iter : Expr} {ifs : List Expr} {scope : Scope} {own : List (Str × Nat)} {pos : Pos} {it : SI} {g : SG} {t : SB} {kf f : SE} {sl vs : List Nat}
/-- y = {..}: y is the def's own -/
theorem ds_setDcN {i : Nat} {y : Str} {py : Pos} {spos : Pos} (hc : X.calm = true) (hN : X.N.Nodup) (hy : X.N[i]? = some y) (hyl : X.env.scope.names.lookup y = some .local)
    (hsw : swapsWith (.DictComp kx elt [⟨tg, iter, ifs, 0⟩] scope pos) (some (.Name y py)) spos.line X.env = pure true) (hi : DI X tg iter it) (ok : BlkOk X.N X.env.scope scope own) (hvs : own.map (·.2) = vs) (hsl : ∀ j ∈ sl, j ∈ vs) (hg : Blk X scope fun Y => DG Y tg g sl) (ht : Blk X scope fun Y => DTs Y ifs t) (hk : Blk X scope fun Y => DE Y kx kf) (he : Blk X scope fun Y => DE Y elt f)
    (hs : ∀ x, foldedSetIterable iter X.env x = pure x) : DS X (.Assign [.Name y py] (.DictComp kx elt [⟨tg, iter, ifs, 0⟩] scope pos) spos) (sSetN i (eDcomp vs it g t kf f)) := by
  refine ⟨wkS (ps_setDc (g := rdG X.K g sl) (tt := rdB X.K t) (tk := rdE X.K kf) (tv := rdE X.K f) hc hN hy hyl hsw hi.pi ok (fun s H C cl fp => (hg s H C cl fp).pg) (fun s H C cl fp => (ht s H C cl fp).pts) (fun s H C cl fp => (hk s H C cl fp).pe) (fun s H C cl fp => (he s H C cl fp).pe) hs) fun N σ H ⟨C, O, env, E, o, e, k⟩ => ?_⟩
  obtain ⟨r1, e1, e2⟩ := bindS e
  obtain ⟨e', e3, e4⟩ := bindS e2
  cases e4
  unfold putOw at e3
  split at e3
  · rename_i hf
    cases e3
    rw [hvs]
    exact dcomp_read hsl ⟨C, O, env, E, r1, e1, fun a H1 O1 s1 E1 p => k _ H1 O1 s1 (E1.setOw (free_ok hf) p)⟩
  · cases e3
/-- y = {..}: y stands still -/
theorem ds_setDc {i : Nat} {y : Str} {py : Pos} {spos : Pos} (hc : X.calm = true) (hN : X.N.Nodup) (hy : X.N[i]? = some y) (hyl : X.env.scope.names.lookup y = some .local)
    (hsw : swapsWith (.DictComp kx elt [⟨tg, iter, ifs, 0⟩] scope pos) (some (.Name y py)) spos.line X.env = pure true) (hi : DI X tg iter it) (ok : BlkOk X.N X.env.scope scope own) (hvs : own.map (·.2) = vs) (hsl : ∀ j ∈ sl, j ∈ vs) (hg : Blk X scope fun Y => DG Y tg g sl) (ht : Blk X scope fun Y => DTs Y ifs t) (hk : Blk X scope fun Y => DE Y kx kf) (he : Blk X scope fun Y => DE Y elt f)
    (hs : ∀ x, foldedSetIterable iter X.env x = pure x) : DS X (.Assign [.Name y py] (.DictComp kx elt [⟨tg, iter, ifs, 0⟩] scope pos) spos) (sSet i (eDcomp vs it g t kf f)) := by
  refine ⟨wkS (ps_setDc (g := rdG X.K g sl) (tt := rdB X.K t) (tk := rdE X.K kf) (tv := rdE X.K f) hc hN hy hyl hsw hi.pi ok (fun s H C cl fp => (hg s H C cl fp).pg) (fun s H C cl fp => (ht s H C cl fp).pts) (fun s H C cl fp => (hk s H C cl fp).pe) (fun s H C cl fp => (he s H C cl fp).pe) hs) fun N σ H ⟨C, O, env, E, o, e, k⟩ => ?_⟩
  obtain ⟨r1, e1, e2⟩ := bindS e
  obtain ⟨e', e3, e4⟩ := bindS e2
  cases e4
  unfold putFz at e3
  split at e3
  · rename_i hf
    cases e3
    rw [hvs]
    refine dcomp_read hsl ⟨C, O, env, E, r1, e1, fun a H1 O1 s1 E1 p => ?_⟩
    obtain ⟨s2, E2, rp⟩ := E1.freeze p
    exact k _ H1 _ (s1.trans s2) (E2.setFz (free_ok hf) rp)
  · cases e3
end
end Z

namespace Z
open PySem PySem.Spec PyProof.Rows L2
section
variable {X : Cx}
/-- (..) * n -/
def gRepT : D → D → Option D
  | .tup xs, .int n => if xs.isEmpty = false ∧ 2 ≤ n ∧ n ≤ 1000 ∧ xs.length ≤ 1000 then some (.tup (List.replicate n.toNat xs).flatten) else none
  | _, _ => none
theorem od_repT : OpD X (binaryOp .Mult) gRepT := by
  refine ⟨_, op_repT, fun H O x y u v z Q t hx hy e k => ?_⟩
  cases x <;> cases y <;> try (cases e; done)
  rename_i xs n
  rw [hy.int]
  by_cases h : xs.isEmpty = false ∧ 2 ≤ n ∧ n ≤ 1000 ∧ xs.length ≤ 1000
  · rw [show gRepT (.tup xs) (.int n) = some (.tup (List.replicate n.toNat xs).flatten) from if_pos h] at e
    cases e
    obtain ⟨p, vs, rfl, h1, h2⟩ := hx.tup
    refine ⟨p, n, vs, rfl, rfl, .of h1, fun e => ?_, h.2.1, h.2.2.1, by rw [← h2.length]; exact h.2.2.2, fun l nn => k _ _ (upd_ext nn) (new_tup t nn (h2.rep _))⟩
    subst e
    cases h2
    cases h.1
  · rw [show gRepT (.tup xs) (.int n) = none from if_neg h] at e
    cases e
theorem ev_repT {d : D} {n : Int} (h : 2 ≤ n ∧ n ≤ 1000) : gRepT (.tup [d]) (.int n) = some (.tup (List.replicate n.toNat d)) := by
  show (if _ then _ else _) = _
  rw [if_pos ⟨rfl, h.1, h.2, by simp⟩, List.flatten_replicate_singleton]
/-- * of great numbers -/
def gMulW : D → D → Option D
  | .int i, .int j => if (-1000000000000000000000000000000000000000000000000000000000000 < i ∧ i < 1000000000000000000000000000000000000000000000000000000000000) ∧ -1000000000000000000000000000000000000000000000000000000000000 < j ∧ j < 1000000000000000000000000000000000000000000000000000000000000 then some (.int (i * j)) else none
  | _, _ => none
theorem wide60 {i : Int} (h : -1000000000000000000000000000000000000000000000000000000000000 < i ∧ i < 1000000000000000000000000000000000000000000000000000000000000) : i.natAbs < 2 ^ 200 := by
  have e : (2 : Nat) ^ 200 = 1606938044258990275541962092341162602522202993782792835301376 := by decide +kernel
  rw [e]
  omega
theorem od_mulW : OpD X (binaryOp .Mult) gMulW := by
  refine ⟨_, op_mulW, fun H O x y u v z Q t hx hy e k => ?_⟩
  cases x <;> cases y <;> try (cases e; done)
  rename_i i j
  rw [hx.int, hy.int]
  by_cases h : (-1000000000000000000000000000000000000000000000000000000000000 < i ∧ i < 1000000000000000000000000000000000000000000000000000000000000) ∧ -1000000000000000000000000000000000000000000000000000000000000 < j ∧ j < 1000000000000000000000000000000000000000000000000000000000000
  · rw [show gMulW (.int i) (.int j) = some (.int (i * j)) from if_pos h] at e
    cases e
    exact ⟨_, _, rfl, rfl, wide_mul (wide60 h.1) (wide60 h.2) (by decide) (by decide) (by decide), k _ H (Same.refl H) (.int _)⟩
  · rw [show gMulW (.int i) (.int j) = none from if_neg h] at e
    cases e
theorem ev_mulW {i j : Int} (h : (-1000000000000000000000000000000000000000000000000000000000000 < i ∧ i < 1000000000000000000000000000000000000000000000000000000000000) ∧ -1000000000000000000000000000000000000000000000000000000000000 < j ∧ j < 1000000000000000000000000000000000000000000000000000000000000) : gMulW (.int i) (.int j) = some (.int (i * j)) := if_pos h
end
end Z

namespace Z
open PySem PySem.Spec PyProof.Rows L2
section
variable {X : Cx} {C : Ctx} {tg : Expr} {f g o : SE} {pos : Pos}
/-- range(a, b, -1) -/
def iR3 (p q o : SE) : SI := fun env => (p env).bind fun r => (q r.2).bind fun s => (o s.2).bind fun u => (asI r.1).bind fun i => (asI s.1).bind fun j => (asI u.1).bind fun c => if ((-(2 ^ 62) ≤ i ∧ i < 2 ^ 62) ∧ -(2 ^ 62) ≤ j ∧ j < 2 ^ 62) ∧ c = -1 then some ((List.range (i - j).toNat).map fun (n : Nat) => .int (i - (n : Int)), none, u.2) else none
theorem it_down {lo : Int} {n : Nat} : ItD X.K C (Itc lo (-1) n) (fun _ _ => True) ((List.range n).map fun (i : Nat) => D.int (lo - (i : Int))) := by
  have hl : ((List.range n).map fun (i : Nat) => D.int (lo - (i : Int))).length = n := by simp
  refine ⟨fun _ _ _ _ _ _ _ => True.intro, fun i H O _ hi => by rw [hl] at hi; exact hi, fun i H O x H' _ t hi y => ?_, fun H O _ => by rw [hl]; exact Nat.le_refl _⟩
  obtain ⟨rfl, rfl⟩ := y
  rw [hl] at hi
  have e : lo + ((i : Nat) : Int) * -1 = lo - (i : Int) := by omega
  rw [e]
  exact ⟨Same.refl _, .int (lo - (i : Int)), by simp [hi], .int _⟩
theorem di_range3 {a b c : Expr} {p : Pos} (hg : Gl X "range") (hm : X.mg "range" = none) (ha : DE X a f) (hb : DE X b g) (hc : DE X c o) (hs : starEach [a, b, c] X.env = (false, eval a X.env) :: starEach [b, c] X.env) (hs2 : starEach [b, c] X.env = (false, eval b X.env) :: starEach [c] X.env) (hs3 : starEach [c] X.env = [(false, eval c X.env)]) (hpl : (backTo pos (starEach [b, c] X.env)).any (·.1) = false) :
    DI X tg (.Call (.Name "range" p) [a, b, c] [] pos) (iR3 f g o) := by
  have hA : DA X [a, b, c] (aC (qV f) (aC (qV g) (aC (qV o) aN))) := da_cons (dq_val ha) (da_cons (dq_val hb) (da_cons (dq_val hc) da_nil hs3) hs2) hs
  refine ⟨wkI (pi_range3 hg hm hA.pa hs hpl) fun σ H R ⟨C, O, env, E, r, e, k⟩ => ?_⟩
  obtain ⟨r1, e1, e2⟩ := bindS e
  obtain ⟨r2, e5, e6⟩ := bindS e2
  obtain ⟨r3, e9, e10⟩ := bindS e6
  obtain ⟨i, e7, e8⟩ := bindS e10
  obtain ⟨j, e3, e4⟩ := bindS e8
  obtain ⟨c, e11, e12⟩ := bindS e4
  split at e12
  · rename_i hj
    cases e12
    refine ⟨C, O, env, E, ([.val r1.1, .val r2.1, .val r3.1], r3.2), by
      have h1 : qV f env = some (.val r1.1, r1.2) := by unfold qV; rw [e1]; rfl
      have h2 : qV g r1.2 = some (.val r2.1, r2.2) := by unfold qV; rw [e5]; rfl
      have h4 : qV o r2.2 = some (.val r3.1, r3.2) := by unfold qV; rw [e9]; rfl
      have h5 : aC (qV o) aN r2.2 = some ([.val r3.1], r3.2) := by unfold aC; rw [h4]; rfl
      have h3 : aC (qV g) (aC (qV o) aN) r1.2 = some ([.val r2.1, .val r3.1], r3.2) := by
        show (qV g r1.2).bind _ = _
        rw [h2]
        show (aC (qV o) aN r2.2).bind _ = _
        rw [h5]
        rfl
      show (qV f env).bind _ = _
      rw [h1]
      show (aC (qV g) (aC (qV o) aN) r1.2).bind _ = _
      rw [h3]
      rfl, fun vs H' O' s E' p => ?_⟩
    cases p with
    | cons p1 p2 =>
      cases p2 with
      | cons p2 p3 =>
        cases p3 with
        | cons p3 p4 =>
          cases p4
          have p1 : Rep X.K H' O' r1.1 _ := p1
          have p2 : Rep X.K H' O' r2.1 _ := p2
          have p3 : Rep X.K H' O' r3.1 _ := p3
          rw [asI_some e7] at p1
          rw [asI_some e3] at p2
          rw [asI_some e11] at p3
          cases p1
          cases p2
          cases p3
          obtain ⟨⟨⟨j1, j2⟩, j3, j4⟩, rfl⟩ := hj
          exact ⟨i, j, -1, (i - j).toNat, rfl, RgC.neg j1 j2 j3 j4, k _ H' O' (fun _ _ => True) C s E' back_none it_down True.intro⟩
  · cases e12
theorem ev_iR3 {s : Slot} {e : Ev} : iR3 f g o (s :: e) = (f (s :: e)).bind fun r => (g r.2).bind fun s => (o s.2).bind fun u => (asI r.1).bind fun i => (asI s.1).bind fun j => (asI u.1).bind fun c => if ((-(2 ^ 62) ≤ i ∧ i < 2 ^ 62) ∧ -(2 ^ 62) ≤ j ∧ j < 2 ^ 62) ∧ c = -1 then some ((List.range (i - j).toNat).map fun (n : Nat) => .int (i - (n : Int)), none, u.2) else none := rfl
end
end Z

set_option maxHeartbeats 4000000
/-! (..) * n with n = 1, too -/
namespace L2
open PySem PySem.Spec PyProof.Rows
theorem tuple_mul1 (l : Addr) (items : Array Value) (n : Nat) (dd : Option Addr) (sl : Array (Option Value)) (u : Tok) :
    Meets (Builtin.«tuple.__mul__» ⟨[.ref l, .int 1 u], []⟩) (fun _ R s => s.heap.get? l = some { cls := .type "tuple", dict := dd, data := .seq items n, slots := sl } ∧
      R (.ok (.ret (Value.ref l))) s) :=
  .of_wp fun prog w A R s h => by
    obtain ⟨hp, g, d, tk, os⟩ := s
    obtain ⟨hl, h⟩ := h
    have f1 := AutoSeq1.idx_int
    wp_walk using wpAny_loadPart' hl
    exact ⟨_, rfl, h⟩
def rRepT1 (K : PySem.W.Frag) : R2 := fun x y H Q => ∃ l xs, x = .ref l ∧ y = .int 1 ∧ SqT K H l xs ∧ Q (.ref l) H
section
variable {X : Cx}
theorem op_repT1 : OpR X (binaryOp .Mult) (rRepT1 X.K) := by
  intro pins s σ H x y v u Q I rx ry h
  obtain ⟨l, xs, rfl, rfl, hT, q⟩ := h
  cases rx
  obtain ⟨t, rfl⟩ := ry
  obtain ⟨its, r, ⟨⟨cls, dd, data, sl⟩, ho, hc, n, hd⟩, hs⟩ := I.tuple hT
  simp only at hc hd
  subst hc hd
  refine wpAny_binaryOp_repeat_ref (T := "tuple") (U := "int") (by decide) ⟨_, ho, rfl⟩ (fun s' => typeIs_int s' 1 t) noFill_tuple_mul F.fills_int_mul F.slot_int_rmul repeat_tuple F.slot_int_index.lookup
    (call_meets F.slot_int_rmul (typeIs_int s 1 t) F.entry_int_rmul (F.args_int_rmul_2 _ _) (int_rmul_tuple 1 t l its.toArray n dd sl)
      ⟨ho, rfl, ⟨_, ho, rfl⟩, call_meets F.slot_tuple_mul ⟨_, ho, rfl⟩ F.entry_tuple_mul (F.args_tuple_mul_2 _ _) (tuple_mul1 l its.toArray n dd sl t) ⟨ho, ?_⟩⟩)
  exact ⟨.ref l, H, I, rfl, q⟩
end
end L2
namespace Z
open PySem PySem.Spec PyProof.Rows L2
section
variable {X : Cx}
def gRepU : D → D → Option D
  | .tup xs, .int n => if xs.isEmpty = false ∧ 2 ≤ n ∧ n ≤ 1000 ∧ xs.length ≤ 1000 then some (.tup (List.replicate n.toNat xs).flatten) else if n = 1 then some (.tup xs) else none
  | _, _ => none
theorem od_repU : OpD X (binaryOp .Mult) gRepU := by
  refine ⟨_, OpR.or op_repT op_repT1, fun H O x y u v z Q t hx hy e k => ?_⟩
  cases x <;> cases y <;> try (cases e; done)
  rename_i xs n
  rw [hy.int]
  by_cases h : xs.isEmpty = false ∧ 2 ≤ n ∧ n ≤ 1000 ∧ xs.length ≤ 1000
  · rw [show gRepU (.tup xs) (.int n) = some (.tup (List.replicate n.toNat xs).flatten) from if_pos h] at e
    cases e
    obtain ⟨p, vs, rfl, h1, h2⟩ := hx.tup
    refine .inl ⟨p, n, vs, rfl, rfl, .of h1, fun e => ?_, h.2.1, h.2.2.1, by rw [← h2.length]; exact h.2.2.2, fun l nn => k _ _ (upd_ext nn) (new_tup t nn (h2.rep _))⟩
    subst e
    cases h2
    cases h.1
  · by_cases h1 : n = 1
    · rw [show gRepU (.tup xs) (.int n) = some (.tup xs) from (if_neg h).trans (if_pos h1)] at e
      cases e
      subst h1
      rcases hx with hx | ⟨a, rfl, ⟨ho⟩⟩
      · obtain ⟨p, vs, rfl, h1, h2⟩ := (show PRep X.K H O (.tup xs) u from .inl hx).tup
        exact .inr ⟨p, vs, rfl, rfl, .of h1, k _ H (Same.refl H) hx⟩
      · cases ho
    · rw [show gRepU (.tup xs) (.int n) = none from (if_neg h).trans (if_neg h1)] at e
      cases e
theorem ev_repU {d : D} {n : Int} (h : 1 ≤ n ∧ n ≤ 1000) : gRepU (.tup [d]) (.int n) = some (.tup (List.replicate n.toNat d)) := by
  show (if _ then _ else if _ then _ else _) = _
  by_cases h1 : n = 1
  · subst h1
    rw [if_neg (fun q => absurd q.2.1 (by decide)), if_pos rfl]; rfl
  · rw [if_pos ⟨rfl, by omega, h.2, by simp⟩, List.flatten_replicate_singleton]
end
end Z

/-! Layer K2: range(a, b) over ints of any size. -/
namespace Z
open PySem PySem.Spec PyProof.Rows L2
theorem turn_rangeBig {P : Program} {w : World} {K : PySem.W.Frag} {tg : Expr} (it : Addr) (lo : Int) (n : Nat) : Turn P w K tg (Itr lo n) [it] it (fun i h => IsLongIter h it (lo + (i : Nat) * 1) ((n : Int) - (i : Nat)) 1) where
  mem := List.mem_singleton.mpr rfl
  obj := fun i h st b hb => by
    obtain rfl := List.mem_singleton.mp hb
    exact ⟨_, st, fun _ z => nomatch z⟩
  keep := fun i h h' st k => k it (List.mem_singleton.mpr rfl) _ st
  item := by
    intro X h1 h2 h3 hc i pins s σ H E I hf st hg
    cases h1; cases h2; cases h3
    have ff := hf it (List.mem_singleton.mpr rfl)
    refine (Walks.longrange (prog := X.prog) (w := X.w) (I.ok.hd hc) it lo 1 n).item i s _ _ hg st fun v hh tk hv st2 kk => ?_
    obtain ⟨tt, rfl⟩ := hv
    have J1 : Inv X pins σ H { s with heap := hh, toks := tk } := I.turned (fun b o hb e => kk b o (fun z => hb (List.mem_singleton.mp z)) e) ff.1 ff.2.1 ff.2.2.2.1 ff.2.2.2.2.1 ff.2.2.2.2.2
    refine ⟨_, rfl, go_of (s := { s with heap := hh, toks := tk }) (n := "longrange_iterator") st2 rfl rfl (by decide) ⟨.int (lo + i), H, J1, ⟨tt, by rw [Int.mul_one]⟩, ⟨rfl, rfl⟩, st2, fun b hb => (hf b hb).1⟩⟩
  done := by
    intro X h1 h2 h3 hc i pins s σ H E I hf st hg
    cases h1; cases h2; cases h3
    have ff := hf it (List.mem_singleton.mpr rfl)
    have hge : n ≤ i := hg
    exact wpAny_pyNext_long_end (I.ok.hd hc) st (by omega) fun hh eb => ⟨rfl, I.turned (t' := s.toks) (fun b o hb e => eb b o hb e) ff.1 ff.2.1 ff.2.2.2.1 ff.2.2.2.2.1 ff.2.2.2.2.2⟩
  self := fun _ _ _ _ _ st h => wpAny_pyIter_longiter st h
section
variable {X : Cx} {C : Ctx} {tg : Expr} {f g o : SE} {pos : Pos}
theorem range_itBig {pins : List (Addr × Obj)} {σ : L2.St} {H : Hp} {s : Shared} {R : It → Hp → Prop} {E : Value → Shared → Prop} {a b : Int} {t u v : Tok} {tk : Nat} (I : Inv X pins σ H s) (q : R (Itr a (b - a).toNat) H) :
    wpAny (model X.prog X.w) X.A (pyIter (.ref s.heap.objs.size)) (PIE X pins σ tg R) E { s with heap := s.heap.push { cls := .type "range", data := .fields #[.int a t, .int b u, .int 1 v] }, toks := tk } := by
  have J1 : Inv X pins σ H { s with heap := s.heap.push { cls := .type "range", data := .fields #[.int a t, .int b u, .int 1 v] }, toks := tk } := I.kept fun c ob e => Heap.get?_push_of_some _ e
  have e1 : a + ((0 : Nat) : Int) * 1 = a := by simp
  have e2 : (((b - a).toNat : Nat) : Int) - ((0 : Nat) : Int) = Builtin.Range.rangeSize a b 1 := by rw [rangeSize_one]; split <;> omega
  cases hs : Builtin.Range.small a b 1 with
  | true =>
    refine wpAny_pyIter_range (IsRange.new ..) hs ?_
    refine pi_one (tk := tk) J1 _ (turn_range _ a (b - a).toNat) ?_ q
    show IsRangeIter _ _ (a + ((0 : Nat) : Int) * 1) ((((b - a).toNat : Nat) : Int) - ((0 : Nat) : Int)) 1
    rw [e1, e2]
    exact Heap.get?_push_size _ rfl
  | false =>
    refine wpAny_pyIter_longrange (IsRange.new ..) hs ?_
    refine pi_one (tk := tk) J1 _ (turn_rangeBig _ a (b - a).toNat) ?_ q
    show IsLongIter _ _ (a + ((0 : Nat) : Int) * 1) ((((b - a).toNat : Nat) : Int) - ((0 : Nat) : Int)) 1
    rw [e1, e2]
    exact Heap.get?_push_size _ rfl
def iRngBig (ta : TA) : TI := fun σ H R => ta σ H fun vs H1 => ∃ i j : Int, vs = [.int i, .int j] ∧ R (Itr i (j - i).toNat) H1
theorem pi_rangeBig {a b : Expr} {ta : TA} {p : Pos} (hg : Gl X "range") (hm : X.mg "range" = none) (ha : PA X [a, b] ta) (hs : starEach [a, b] X.env = [(false, eval a X.env), (false, eval b X.env)]) (hs2 : starEach [b] X.env = [(false, eval b X.env)]) :
    PI X tg (.Call (.Name "range" p) [a, b] [] pos) (iRngBig ta) := by
  refine ⟨fun pins s σ H R I h => Call_ (ld_blt I hg hm boot_range (PyProof.Rows.callWith_type1 (thn (ha.run pos pins s σ H _ I h) fun us s1 ⟨vs, H1, I1, r1, q1⟩ => ?_) (by rw [hs, hs2]) (by rw [hs2]; rfl)))⟩
  obtain ⟨i, j, rfl, q⟩ := q1
  cases r1 with
  | cons x xx =>
    cases xx with
    | cons y yy =>
      cases yy
      obtain ⟨t1, rfl⟩ := x
      obtain ⟨t2, rfl⟩ := y
      exact call_range_2 (range_itBig I1 q)
/-- range(a, b), ints of any size -/
def iRB (p q : SE) : SI := fun env => (p env).bind fun r => (q r.2).bind fun s => (asI r.1).bind fun i => (asI s.1).bind fun j => some ((List.range (j - i).toNat).map fun (n : Nat) => .int (i + (n : Int)), none, s.2)
theorem di_rangeB {a b : Expr} {p : Pos} (hg : Gl X "range") (hm : X.mg "range" = none) (ha : DE X a f) (hb : DE X b g) (hs : starEach [a, b] X.env = [(false, eval a X.env), (false, eval b X.env)]) (hs2 : starEach [b] X.env = [(false, eval b X.env)]) :
    DI X tg (.Call (.Name "range" p) [a, b] [] pos) (iRB f g) := by
  have hA : DA X [a, b] (aC (qV f) (aC (qV g) aN)) := da_cons (dq_val ha) (da_cons (dq_val hb) da_nil hs2) (by rw [hs, hs2])
  refine ⟨wkI (pi_rangeBig hg hm hA.pa hs hs2) fun σ H R ⟨C, O, env, E, r, e, k⟩ => ?_⟩
  obtain ⟨r1, e1, e2⟩ := bindS e
  obtain ⟨r2, e5, e6⟩ := bindS e2
  obtain ⟨i, e7, e8⟩ := bindS e6
  obtain ⟨j, e3, e4⟩ := bindS e8
  cases e4
  refine ⟨C, O, env, E, ([.val r1.1, .val r2.1], r2.2), by
    have h1 : qV f env = some (.val r1.1, r1.2) := by unfold qV; rw [e1]; rfl
    have h2 : qV g r1.2 = some (.val r2.1, r2.2) := by unfold qV; rw [e5]; rfl
    have h3 : aC (qV g) aN r1.2 = some ([.val r2.1], r2.2) := by unfold aC; rw [h2]; rfl
    show (qV f env).bind _ = _
    rw [h1]
    show (aC (qV g) aN r1.2).bind _ = _
    rw [h3]
    rfl, fun vs H' O' s E' p => ?_⟩
  cases p with
  | cons p1 p2 =>
    cases p2 with
    | cons p2 p3 =>
      cases p3
      have p1 : Rep X.K H' O' r1.1 _ := p1
      have p2 : Rep X.K H' O' r2.1 _ := p2
      rw [asI_some e7] at p1
      rw [asI_some e3] at p2
      cases p1
      cases p2
      exact ⟨i, j, rfl, k _ H' O' (fun _ _ => True) C s E' back_none it_range True.intro⟩
theorem ev_iRB {s : Slot} {e : Ev} : iRB f g (s :: e) = (f (s :: e)).bind fun r => (g r.2).bind fun s => (asI r.1).bind fun i => (asI s.1).bind fun j => some ((List.range (j - i).toNat).map fun (n : Nat) => .int (i + (n : Int)), none, s.2) := rfl
end
end Z

/-! Layer L2: comprehensions with two fors; list(range(a, b)). -/
namespace Z
open PySem PySem.Spec PyProof.Rows L2
/-- what is walked stands still, and no name is locked -/
def rdI0 (K : PySem.W.Frag) (f : SI) : TI := fun σ H R => ∃ C O env, EnvOk K C H O σ env ∧ ∃ r, f env = some r ∧ r.2.1 = none ∧ ∀ J H' O' Src, Step H O H' O' → EnvOk K C H' O' σ r.2.2 → (∀ C2, ItD K C2 J Src r.1) → Src H' O' → R J H'
structure DI0 (X : Cx) (tg iter : Expr) (f : SI) : Prop where pi : PI X tg iter (rdI0 X.K f)
section
variable {X : Cx} {C : Ctx} {tg l : Expr} {f g : SE} {pos : Pos} {ds : List D}
theorem walk_still0 {H : Hp} {O : Ad} {d : D} {v : V} {R : It → Hp → Prop} (r : Rep X.K H O d v) (e : itemsD d = some ds) (k : ∀ J Src, (∀ C2, ItD X.K C2 J Src ds) → Src H O → R J H) :
    (∃ a, v = .ref a ∧ (∃ xs, SqL X.K H a xs) ∧ R (Itl X.K a) H) ∨ (∃ a, v = .ref a ∧ (∃ xs, SqT X.K H a xs) ∧ R (Itt X.K a) H) ∨ ∃ x, v = .str x ∧ R (Its x) H := by
  cases r <;> try (cases e; done)
  · rename_i x hx
    cases e
    exact .inr (.inr ⟨x, rfl, k _ _ (fun _ => it_str hx) True.intro⟩)
  · rename_i a vs ds' h r
    cases e
    exact .inr (.inl ⟨a, rfl, ⟨vs, kt_sq h⟩, k _ _ (fun _ => it_kt) ⟨h, r⟩⟩)
  · rename_i a vs ds' n h r
    cases e
    exact .inr (.inl ⟨a, rfl, ⟨vs, .of h⟩, k _ _ (fun _ => it_tup) ⟨n, h, r⟩⟩)
  · rename_i a vs ds' n h r
    cases e
    exact .inl ⟨a, rfl, ⟨vs, .of h⟩, k _ _ (fun _ => it_list) ⟨n, h, r⟩⟩
  · rename_i a ns h
    cases e
    refine .inl ⟨a, rfl, ⟨ns.map V.int, ?_⟩, k _ _ (fun _ => it_sc) h⟩
    rcases h with ⟨_, h⟩ | h | h
    · exact .inl h
    · exact (rd0 h).elim
    · exact .inr h
theorem di0_val (h : DE X l f) : DI0 X tg l (iV f) := by
  refine ⟨wkI (pi_seq h.pe) fun σ H R ⟨C, O, env, E, r, e, en, k⟩ => ?_⟩
  obtain ⟨r1, e1, e2⟩ := bindS e
  obtain ⟨ds, e3, e4⟩ := bindS e2
  cases e4
  have main : ∀ v H' O', Step H O H' O' → EnvOk X.K C H' O' σ r1.2 → Rep X.K H' O' r1.1 v →
      (∃ a, v = .ref a ∧ (∃ xs, SqL X.K H' a xs) ∧ R (Itl X.K a) H') ∨ (∃ a, v = .ref a ∧ (∃ xs, SqT X.K H' a xs) ∧ R (Itt X.K a) H') ∨ ∃ x, v = .str x ∧ R (Its x) H' := fun v H' O' s E' rp =>
    walk_still0 rp e3 fun J Src it hs => k J H' O' Src s E' it hs
  cases hd : r1.1 <;> (rw [hd] at e3) <;> try (cases e3; done)
  · refine .inr (.inr ⟨C, O, env, E, r1, e1, fun v H' O' s E' rp => ?_⟩)
    rcases main v H' O' s E' rp with ⟨a, rfl, _⟩ | ⟨a, rfl, _⟩ | q
    · rw [hd] at rp; cases rp
    · rw [hd] at rp; cases rp
    · exact q
  · refine .inr (.inl ⟨C, O, env, E, r1, e1, fun v H' O' s E' rp => ?_⟩)
    rw [hd] at rp
    cases rp with
    | @tup a vs _ n h rl =>
      cases e3
      exact ⟨_, rfl, ⟨_, .of h⟩, k _ H' O' _ s E' (fun _ => it_tup (a := a) (vs := vs)) ⟨n, h, rl⟩⟩
  · refine .inl ⟨C, O, env, E, r1, e1, fun v H' O' s E' rp => ?_⟩
    rw [hd] at rp
    cases rp with
    | @lst a vs _ n h rl =>
      cases e3
      exact ⟨_, rfl, ⟨_, .of h⟩, k _ H' O' _ s E' (fun _ => it_list (a := a) (vs := vs)) ⟨n, h, rl⟩⟩
  · rename_i ns
    refine .inl ⟨C, O, env, E, r1, e1, fun v H' O' s E' rp => ?_⟩
    rw [hd] at rp
    cases rp with
    | @sc a _ h =>
      cases e3
      refine ⟨_, rfl, ⟨ns.map V.int, ?_⟩, k _ H' O' _ s E' (fun _ => it_sc (a := a) (ns := ns)) h⟩
      rcases h with ⟨_, h⟩ | h | h
      · exact .inl h
      · exact (rd0 h).elim
      · exact .inr h
  · refine .inr (.inl ⟨C, O, env, E, r1, e1, fun v H' O' s E' rp => ?_⟩)
    rw [hd] at rp
    cases rp with
    | @kt a vs _ h rl =>
      cases e3
      exact ⟨_, rfl, ⟨_, kt_sq h⟩, k _ H' O' _ s E' (fun _ => it_kt (a := a) (vs := vs)) ⟨h, rl⟩⟩
theorem di0_range1 {a : Expr} {p : Pos} (hg : Gl X "range") (hm : X.mg "range" = none) (ha : DE X a f) (hs : starEach [a] X.env = [(false, eval a X.env)]) : DI0 X tg (.Call (.Name "range" p) [a] [] pos) (iR1 f) := by
  have hA : DA X [a] (aC (qV f) aN) := da_cons (dq_val ha) da_nil hs
  refine ⟨wkI (pi_range1 hg hm hA.pa hs) fun σ H R ⟨C, O, env, E, r, e, en, k⟩ => ?_⟩
  obtain ⟨r1, e1, e2⟩ := bindS e
  obtain ⟨j, e3, e4⟩ := bindS e2
  split at e4
  · rename_i hj
    cases e4
    refine ⟨C, O, env, E, ([.val r1.1], r1.2), by
      have h1 : qV f env = some (.val r1.1, r1.2) := by unfold qV; rw [e1]; rfl
      show (qV f env).bind _ = _
      rw [h1]; rfl, fun vs H' O' s E' p => ?_⟩
    cases p with
    | cons p1 p2 =>
      cases p2
      have p1 : Rep X.K H' O' r1.1 _ := p1
      rw [asI_some e3] at p1
      cases p1
      refine ⟨j, rfl, hj.1, hj.2, k _ H' O' (fun _ _ => True) s E' (fun C2 => ?_) True.intro⟩
      have := it_range (X := X) (C := C2) (lo := 0) (n := j.toNat)
      simpa only [Int.zero_add] using this
  · cases e4
theorem di0_rangeB {a b : Expr} {p : Pos} (hg : Gl X "range") (hm : X.mg "range" = none) (ha : DE X a f) (hb : DE X b g) (hs : starEach [a, b] X.env = [(false, eval a X.env), (false, eval b X.env)]) (hs2 : starEach [b] X.env = [(false, eval b X.env)]) :
    DI0 X tg (.Call (.Name "range" p) [a, b] [] pos) (iRB f g) := by
  have hA : DA X [a, b] (aC (qV f) (aC (qV g) aN)) := da_cons (dq_val ha) (da_cons (dq_val hb) da_nil hs2) (by rw [hs, hs2])
  refine ⟨wkI (pi_rangeBig hg hm hA.pa hs hs2) fun σ H R ⟨C, O, env, E, r, e, en, k⟩ => ?_⟩
  obtain ⟨r1, e1, e2⟩ := bindS e
  obtain ⟨r2, e5, e6⟩ := bindS e2
  obtain ⟨i, e7, e8⟩ := bindS e6
  obtain ⟨j, e3, e4⟩ := bindS e8
  cases e4
  refine ⟨C, O, env, E, ([.val r1.1, .val r2.1], r2.2), by
    have h1 : qV f env = some (.val r1.1, r1.2) := by unfold qV; rw [e1]; rfl
    have h2 : qV g r1.2 = some (.val r2.1, r2.2) := by unfold qV; rw [e5]; rfl
    have h3 : aC (qV g) aN r1.2 = some ([.val r2.1], r2.2) := by unfold aC; rw [h2]; rfl
    show (qV f env).bind _ = _
    rw [h1]
    show (aC (qV g) aN r1.2).bind _ = _
    rw [h3]
    rfl, fun vs H' O' s E' p => ?_⟩
  cases p with
  | cons p1 p2 =>
    cases p2 with
    | cons p2 p3 =>
      cases p3
      have p1 : Rep X.K H' O' r1.1 _ := p1
      have p2 : Rep X.K H' O' r2.1 _ := p2
      rw [asI_some e7] at p1
      rw [asI_some e3] at p2
      cases p1
      cases p2
      exact ⟨i, j, rfl, k _ H' O' (fun _ _ => True) s E' (fun _ => it_range) True.intro⟩
end
/-! ### [e for x in xs if t for y in ys if u] -/
def compL2 (own : List Nat) (g : SG) (t : SB) (it1 : SI) (own1 : List Nat) (g1 : SG) (t1 : SB) (f : SE) : List D → List D → Ev → Option (List D × Ev)
  | [], acc, env => some (acc, env)
  | d :: ds, acc, env => if wipeOk env own = true then (g d (wipeE env own)).bind fun e1 => (t e1).bind fun r => if r.1 = true then (it1 r.2).bind fun q => if q.2.1 = none then (compL own1 g1 t1 f q.1 acc q.2.2).bind fun z => compL2 own g t it1 own1 g1 t1 f ds z.1 (restore env z.2 own) else none
      else compL2 own g t it1 own1 g1 t1 f ds acc (restore env r.2 own)
    else none
def eComp2 (own : List Nat) (it : SI) (g : SG) (t : SB) (it1 : SI) (own1 : List Nat) (g1 : SG) (t1 : SB) (f : SE) : SE := fun env => (it env).bind fun r => (compL2 own g t it1 own1 g1 t1 f r.1 [] (lockE r.2.2 r.2.1)).bind fun z => some (.lst z.1, unlockE r.2.2 z.2 r.2.1)
theorem EnvOk.restoreH {K : PySem.W.Frag} {C : Ctx} {H H' : Hp} {O O' : Ad} {σ : L2.St} {env : Ev} {L : Addr} {o1 o2 : HO} (E : EnvOk K (C.hide L o1) H O σ env) {own : List Nat} (h : wipeOk env own = true) (s : Step H O H' O') {σ2 : L2.St} {e2 : Ev} (E2 : EnvOk K (C.hide L o2) H' O' σ2 e2) (hw : L2.wipe σ2 own = L2.wipe σ own) :
    EnvOk K (C.hide L o2) H' O' σ (Z.restore env e2 own) := by
  have hlen : e2.length = env.length := by
    rw [← E2.len, ← E.len, ← wipe_length σ2 own, hw, wipe_length]
  have sg : ∀ {j : Nat}, j ∉ own → σ2[j]? = σ[j]? := fun {j} n => by
    rw [← wipe_out (σ := σ2) n, hw, wipe_out n]
  have inn : ∀ {j : Nat} {x : Slot}, j ∈ own → (Z.restore env e2 own)[j]? = some x → env[j]? = some x ∧ (x = .no ∨ ∃ d, x = .fz d) := fun {j x} hj e => by
    have hl : j < e2.length := by
      have := (List.getElem?_eq_some_iff.mp e).1
      rw [restore_len] at this
      exact this
    rw [restore_in hj hl] at e
    have e := Option.some.inj e
    rcases wipeOk_at h hj with z | ⟨d, z⟩
    · rw [List.getD_eq_getElem?_getD, z] at e
      subst e
      exact ⟨z, .inl rfl⟩
    · rw [List.getD_eq_getElem?_getD, z] at e
      subst e
      exact ⟨z, .inr ⟨d, rfl⟩⟩
  have out : ∀ {j : Nat} {x : Slot}, (Z.restore env e2 own)[j]? = some x → x ≠ .no → (∀ d, x ≠ .fz d) → j ∉ own := fun {j x} e n1 n2 hj => by
    obtain ⟨_, q | ⟨d, q⟩⟩ := inn hj e
    · exact n1 q
    · exact n2 d q
  have mt : ∀ {j : Nat}, Mt (Z.restore env e2 own) j → j ∉ own ∧ Mt e2 j := fun {j} m => by
    have n : j ∉ own := by
      rcases m with ⟨d, m⟩ | ⟨d, m⟩
      · exact out m (fun z => nomatch z) (fun _ z => nomatch z)
      · exact out m (fun z => nomatch z) (fun _ z => nomatch z)
    unfold Mt at m
    rw [restore_out n] at m
    exact ⟨n, m⟩
  have nio : ∀ {j : Nat} {a : Addr}, C.io j = some a → j ∉ own := fun {j a} e hj => by
    obtain ⟨_, _, _, d, q⟩ := E.ioS j a e
    rcases wipeOk_at h hj with z | ⟨d', z⟩ <;> (rw [z] at q; cases q)
  have nbr : ∀ {j : Nat} {v : V} {d : D}, C.br j = some (v, d) → j ∉ own := fun {j v d} e hj => by
    obtain ⟨_, q, _⟩ := E.brS j v d e
    rcases wipeOk_at h hj with z | ⟨d', z⟩ <;> (rw [z] at q; cases q)
  refine ⟨by rw [restore_len, hlen]; exact E.len, E2.o0, E2.trk, E2.lock, fun j d e => ?_, fun j d e => ?_, fun j d e => ?_, fun j a e => ?_, fun j d e => ?_, fun j v d e => ?_, fun j k a n mj mk => ?_, E2.mx.move .refl (fun j r e => ?_) (fun _ _ => rfl) fun b hb => ⟨(E2.mx.own b hb).1, (E2.mx.own b hb).2.1, (E2.mx.own b hb).2.2.1, fun j m q => ?_⟩⟩
  · by_cases hj : j ∈ own
    · obtain ⟨z, _⟩ := inn hj e
      obtain ⟨v, h1, h2⟩ := E.fz j d z
      exact ⟨v, h1, h2.mono s⟩
    · rw [restore_out hj] at e
      rw [← sg hj]
      exact E2.fz j d e
  · have n := out e (fun z => nomatch z) (fun _ z => nomatch z)
    rw [restore_out n] at e
    rw [← sg n]
    exact E2.ow j d e
  · have n := out e (fun z => nomatch z) (fun _ z => nomatch z)
    rw [restore_out n] at e
    exact E2.io j d e
  · have n := nio e
    rw [← sg n, restore_out n]
    exact E2.ioS j a e
  · have n := out e (fun z => nomatch z) (fun _ z => nomatch z)
    rw [restore_out n] at e
    exact E2.br j d e
  · have n := nbr e
    rw [← sg n, restore_out n]
    exact E2.brS j v d e
  · rw [← sg (mt mj).1, ← sg (mt mk).1]
    exact E2.sep j k a n (mt mj).2 (mt mk).2
  · have n := out e (fun z => nomatch z) (fun _ z => nomatch z)
    rw [restore_out n] at e
    exact ⟨e, (sg n).symm⟩
  · rw [← sg (mt m).1] at q
    exact (E2.mx.own b hb).2.2.2 j (mt m).2 q
section
variable {X : Cx} {elt tg iter tg1 iter1 : Expr} {ifs ifs1 : List Expr} {scope : Scope} {own : List (Str × Nat)} {pos : Pos} {it it1 : SI} {g g1 : SG} {t t1 : SB} {f : SE}
theorem wipe_same {σ σ2 : L2.St} {vs sl : List Nat} (hsl : ∀ j ∈ sl, j ∈ vs) (h1 : σ2.length = σ.length) (h2 : ∀ j, j ∉ sl → σ2[j]? = (L2.wipe σ vs)[j]?) : L2.wipe σ2 vs = L2.wipe σ vs := by
  apply List.ext_getElem?
  intro j
  by_cases hj : j ∈ vs
  · by_cases hl : j < σ.length
    · rw [wipe_in hj hl, wipe_in hj (by rw [h1]; exact hl)]
    · rw [List.getElem?_eq_none (by rw [wipe_length, h1]; omega), List.getElem?_eq_none (by rw [wipe_length]; omega)]
  · rw [wipe_out hj, h2 j (fun z => hj (hsl j z))]
theorem comp_read2 {σ : L2.St} {H : Hp} {Q : VK} {vs vs1 : List Nat} {sl sl1 : List Nat} (hsl : ∀ j ∈ sl, j ∈ vs) (hsl1 : ∀ j ∈ sl1, j ∈ vs1) (h : rdF X.K (eComp2 vs it g t it1 vs1 g1 t1 f) σ H Q) :
    tLc2 (rdI X.K it) (rdG X.K g sl) (rdB X.K t) (rdI0 X.K it1) (rdG X.K g1 sl1) (rdB X.K t1) (rdE X.K f) vs vs1 σ H Q := by
  obtain ⟨C, O, env, E, z, e, k⟩ := h
  obtain ⟨r, e1, e2⟩ := bindS e
  obtain ⟨y, e3, e4⟩ := bindS e2
  cases e4
  refine ⟨C, O, env, E, r, e1, fun J H1 O1 Src C' s1 E1 back itd src => fun L hL => ?_⟩
  obtain ⟨s2, E2, L2'⟩ := E1.new (o := .lst []) hL fun O' s => .lst upd_same .nil
  have nb : NoBr X.K C' L := E1.noBr hL
  have n0 : ¬ C'.O0 L := L2'.n0
  have nl : C'.lock L = none := L2'.nl
  have E3 := E2.hide L2' upd_same
  refine ⟨fun i m H => ∃ O env acc vs', EnvOk X.K (C'.hide L (.lst vs')) H O σ env ∧ Step H1 O1 H O ∧ Src H O ∧ RepL X.K H O acc vs' ∧ i + m = r.1.length ∧ compL2 vs g t it1 vs1 g1 t1 f (r.1.drop i) acc env = some y, ⟨r.1.length, _, _, [], [], E3, s2, itd.keep _ _ _ _ src s2 fun a o ha => ?_, .nil, by omega, e3⟩, fun i m H3 hW => ?_⟩
  · exact E2.lock a o ha
  obtain ⟨O3, env3, acc, vs', E4, s4, src4, racc, hm, e5⟩ := hW
  have lkC : ∀ {vs' : List V} {H : Hp} {O : Ad} {σ : L2.St} {env : Ev}, EnvOk X.K (C'.hide L (.lst vs')) H O σ env → ∀ a o, C'.lock a = some o → H a = some o := fun E a o ha => E.lock a o (by
    show (if a = L then some _ else C'.lock a) = some o
    rw [if_neg (fun z => by rw [z, nl] at ha; cases ha)]; exact ha)
  have atL : ∀ {vs' : List V} {H : Hp} {O : Ad} {σ : L2.St} {env : Ev}, EnvOk X.K (C'.hide L (.lst vs')) H O σ env → H L = some (.lst vs') := fun E => E.lock L _ (if_pos rfl)
  by_cases hi : i < r.1.length
  · rw [List.drop_eq_getElem_cons hi] at e5
    have e5 : (if wipeOk env3 vs = true then (g r.1[i] (wipeE env3 vs)).bind fun e1 => (t e1).bind fun w => if w.1 = true then (it1 w.2).bind fun q => if q.2.1 = none then (compL vs1 g1 t1 f q.1 acc q.2.2).bind fun z => compL2 vs g t it1 vs1 g1 t1 f (r.1.drop (i + 1)) z.1 (restore env3 z.2 vs) else none
      else compL2 vs g t it1 vs1 g1 t1 f (r.1.drop (i + 1)) acc (restore env3 w.2 vs)
    else none) = some y := e5
    split at e5
    · rename_i hwo
      obtain ⟨e6, h1, h2⟩ := bindS e5
      obtain ⟨q, h3, h4⟩ := bindS h2
      refine .inr ⟨itd.go i H3 O3 src4 hi, fun H => ∃ O env acc vs', EnvOk X.K (C'.hide L (.lst vs')) H O σ env ∧ Step H1 O1 H O ∧ Src H O ∧ RepL X.K H O acc vs' ∧ compL2 vs g t it1 vs1 g1 t1 f (r.1.drop (i + 1)) acc env = some y, fun H' ⟨O', env', a', v', q1, q2, q3, q4, q5⟩ => ⟨m - 1, by omega, O', env', a', v', q1, q2, q3, q4, by omega, q5⟩, fun x H' yy => ?_⟩
      obtain ⟨ex, d, hd, rp⟩ := itd.yld i H3 O3 x H' src4 E4.trk hi yy
      rw [List.getElem?_eq_getElem hi] at hd
      cases hd
      have s5 : Step H3 O3 H' O3 := .ext ex
      refine ⟨C'.hide L (.lst vs'), O3, _, _, (E4.ext ex).wipe hwo, rp, e6, h1, fun σ2 H4 O4 s6 E6 but => ?_⟩
      have hw : L2.wipe σ2 vs = L2.wipe σ vs := wipe_same hsl (by rw [but.1, wipe_length]) but.2
      have s46 : Step H3 O3 H4 O4 := s5.trans s6
      refine ⟨hw, C'.hide L (.lst vs'), O4, e6, E6, q, h3, fun H5 O5 s7 E7 => ?_⟩
      have s57 : Step H3 O3 H5 O5 := s46.trans s7
      show if q.1 = true then _ else _
      by_cases hq : q.1 = true
      · rw [if_pos hq]
        rw [if_pos hq] at h4
        obtain ⟨p, h5, h6⟩ := bindS h4
        split at h6
        · rename_i hpn
          obtain ⟨zz, h7, h8⟩ := bindS h6
          refine ⟨C'.hide L (.lst vs'), O5, q.2, E7, p, h5, hpn, fun J1 H6 O6 Src1 s8 E8 itd1 src1 => ?_⟩
          have itd1 := itd1 C'
          have s68 : Step H3 O3 H6 O6 := s57.trans s8
          refine ⟨fun j m H => ∃ O env acc vs', EnvOk X.K (C'.hide L (.lst vs')) H O σ2 env ∧ Step H3 O3 H O ∧ Src1 H O ∧ RepL X.K H O acc vs' ∧ j + m = p.1.length ∧ compL vs1 g1 t1 f (p.1.drop j) acc env = some zz, ⟨p.1.length, O6, _, acc, vs', E8, s68, src1, racc.mono s68, by omega, h7⟩, fun j m H7 hW1 => ?_⟩
          obtain ⟨O7, env7, acc7, vs7, E9, s9, src7, racc7, hm7, e9⟩ := hW1
          by_cases hj : j < p.1.length
          · rw [List.drop_eq_getElem_cons hj] at e9
            have e9 : (if wipeOk env7 vs1 = true then (g1 p.1[j] (wipeE env7 vs1)).bind fun e1 => (t1 e1).bind fun w => if w.1 = true then (f w.2).bind fun z => if acc7.length < sizeLine then compL vs1 g1 t1 f (p.1.drop (j + 1)) (acc7 ++ [z.1]) (restore env7 z.2 vs1) else none
              else compL vs1 g1 t1 f (p.1.drop (j + 1)) acc7 (restore env7 w.2 vs1)
            else none) = some zz := e9
            split at e9
            · rename_i hwo1
              obtain ⟨e10, i1, i2⟩ := bindS e9
              obtain ⟨w, i3, i4⟩ := bindS i2
              refine .inr ⟨itd1.go j H7 O7 src7 hj, fun H => ∃ O env acc vs', EnvOk X.K (C'.hide L (.lst vs')) H O σ2 env ∧ Step H3 O3 H O ∧ Src1 H O ∧ RepL X.K H O acc vs' ∧ compL vs1 g1 t1 f (p.1.drop (j + 1)) acc env = some zz, fun H' ⟨O', env', a', v', q1, q2, q3, q4, q5⟩ => ⟨m - 1, by omega, O', env', a', v', q1, q2, q3, q4, by omega, q5⟩, fun x8 H8 yy1 => ?_⟩
              obtain ⟨ex1, d1, hd1, rp1⟩ := itd1.yld j H7 O7 x8 H8 src7 E9.trk hj yy1
              rw [List.getElem?_eq_getElem hj] at hd1
              cases hd1
              have t5 : Step H7 O7 H8 O7 := .ext ex1
              refine ⟨C'.hide L (.lst vs7), O7, _, _, (E9.ext ex1).wipe hwo1, rp1, e10, i1, fun σ3 H9 O9 t6 F6 but1 => ?_⟩
              have hw1 : L2.wipe σ3 vs1 = L2.wipe σ2 vs1 := wipe_same hsl1 (by rw [but1.1, wipe_length]) but1.2
              have t46 : Step H7 O7 H9 O9 := t5.trans t6
              refine ⟨hw1, C'.hide L (.lst vs7), O9, e10, F6, w, i3, fun H10 O10 t7 F7 => ?_⟩
              have t57 : Step H7 O7 H10 O10 := t46.trans t7
              show if w.1 = true then _ else _
              by_cases hwq : w.1 = true
              · rw [if_pos hwq]
                rw [if_pos hwq] at i4
                obtain ⟨v1, i5, i6⟩ := bindS i4
                split at i6
                · rename_i hlen
                  refine ⟨C'.hide L (.lst vs7), O10, w.2, F7, v1, i5, fun y11 H11 O11 t8 F8 rp8 => ?_⟩
                  have t68 : Step H7 O7 H11 O11 := t57.trans t8
                  have F9 := E9.restore hwo1 t68 F8 hw1
                  obtain ⟨t9, F10⟩ := F9.rehide (o' := .lst (vs7 ++ [y11])) nb
                  have r6 := (racc7.mono (t68.trans t9)).append (.cons (rp8.mono t9) .nil)
                  refine ⟨vs7, atL F8, by rw [← racc7.length]; exact hlen, O11, _, acc7 ++ [v1.1], vs7 ++ [y11], F10, s9.trans (t68.trans t9), ?_, r6, i6⟩
                  exact itd1.keep _ _ _ _ src7 (t68.trans t9) (lkC F10)
                · cases i6
              · rw [if_neg hwq]
                rw [if_neg hwq] at i4
                have F9 := E9.restore hwo1 t57 F7 hw1
                exact ⟨O10, _, acc7, vs7, F9, s9.trans t57, itd1.keep _ _ _ _ src7 t57 (lkC F9), racc7.mono t57, i4⟩
            · cases e9
          · have hj : j = p.1.length := by omega
            rw [hj, List.drop_length] at e9
            cases e9
            have F9 := E4.restoreH hwo s9 E9 hw
            exact .inl ⟨by rw [hj]; exact itd1.stop H7 O7 src7, O7, _, acc7, vs7, F9, s4.trans s9, itd.keep _ _ _ _ src4 s9 (lkC F9), racc7, h8⟩
        · cases h6
      · rw [if_neg hq]
        rw [if_neg hq] at h4
        have E9 := E4.restore hwo s57 E7 hw
        exact ⟨O5, _, acc, vs', E9, s4.trans s57, itd.keep _ _ _ _ src4 s57 (lkC E9), racc.mono s57, h4⟩
    · cases e5
  · have hi : i = r.1.length := by omega
    rw [hi, List.drop_length] at e5
    cases e5
    obtain ⟨E7, L7⟩ := E4.unhide n0 nl nb (.lst (atL E4) racc)
    obtain ⟨b1, b2⟩ := back _ _ _ _ E7
    exact .inl ⟨by rw [hi]; exact itd.stop H3 O3 src4, k L H3 O3 (s1.trans s4) b1 (b2 _ _ L7)⟩
variable {sl sl1 vs vs1 : List Nat}
theorem df_comp2 (hc : X.calm = true) (hN : X.N.Nodup) (hi : DI X tg iter it) (ok : BlkOk X.N X.env.scope scope own) (hv : ∀ i ∈ vs1, i ∈ own.map (·.2)) (hvs : own.map (·.2) = vs) (hsl : ∀ j ∈ sl, j ∈ vs) (hsl1 : ∀ j ∈ sl1, j ∈ vs1) (hg : Blk X scope fun Y => DG Y tg g sl) (ht : Blk X scope fun Y => DTs Y ifs t) (hi1 : Blk X scope fun Y => DI0 Y tg1 iter1 it1) (hg1 : Blk X scope fun Y => DG Y tg1 g1 sl1) (ht1 : Blk X scope fun Y => DTs Y ifs1 t1) (he : Blk X scope fun Y => DE Y elt f)
    (hs : ∀ x, foldedSetIterable iter X.env x = pure x) (hs1 : ∀ env x, foldedSetIterable iter1 env x = pure x) : DF X (.ListComp elt [⟨tg, iter, ifs, 0⟩, ⟨tg1, iter1, ifs1, 0⟩] scope pos) (eComp2 vs it g t it1 vs1 g1 t1 f) :=
  ⟨wkE (pe_lc2 (g := rdG X.K g sl) (tt := rdB X.K t) (g1 := rdG X.K g1 sl1) (tt1 := rdB X.K t1) (te := rdE X.K f) (wi1 := rdI0 X.K it1) hc hN hi.pi ok hv (fun s H C cl fp => (hg s H C cl fp).pg) (fun s H C cl fp => (ht s H C cl fp).pts) (fun s H C cl fp => (hi1 s H C cl fp).pi) (fun s H C cl fp => (hg1 s H C cl fp).pg) (fun s H C cl fp => (ht1 s H C cl fp).pts) (fun s H C cl fp => (he s H C cl fp).pe) hs hs1) fun σ H Q h => by rw [hvs]; exact comp_read2 hsl hsl1 h⟩
/-- y = [.. for .. for ..] -/
theorem ds_setLcN2 {i : Nat} {y : Str} {py : Pos} {spos : Pos} (hc : X.calm = true) (hN : X.N.Nodup) (hy : X.N[i]? = some y) (hyl : X.env.scope.names.lookup y = some .local)
    (hsw : swapsWith (.ListComp elt [⟨tg, iter, ifs, 0⟩, ⟨tg1, iter1, ifs1, 0⟩] scope pos) (some (.Name y py)) spos.line X.env = pure true) (hi : DI X tg iter it) (ok : BlkOk X.N X.env.scope scope own) (hv : ∀ i ∈ vs1, i ∈ own.map (·.2)) (hvs : own.map (·.2) = vs) (hsl : ∀ j ∈ sl, j ∈ vs) (hsl1 : ∀ j ∈ sl1, j ∈ vs1) (hg : Blk X scope fun Y => DG Y tg g sl) (ht : Blk X scope fun Y => DTs Y ifs t) (hi1 : Blk X scope fun Y => DI0 Y tg1 iter1 it1) (hg1 : Blk X scope fun Y => DG Y tg1 g1 sl1) (ht1 : Blk X scope fun Y => DTs Y ifs1 t1) (he : Blk X scope fun Y => DE Y elt f)
    (hs : ∀ x, foldedSetIterable iter X.env x = pure x) (hs1 : ∀ env x, foldedSetIterable iter1 env x = pure x) : DS X (.Assign [.Name y py] (.ListComp elt [⟨tg, iter, ifs, 0⟩, ⟨tg1, iter1, ifs1, 0⟩] scope pos) spos) (sSetN i (eComp2 vs it g t it1 vs1 g1 t1 f)) := by
  refine ⟨wkS (ps_setLc2 (g := rdG X.K g sl) (tt := rdB X.K t) (g1 := rdG X.K g1 sl1) (tt1 := rdB X.K t1) (te := rdE X.K f) (wi1 := rdI0 X.K it1) hc hN hy hyl hsw hi.pi ok hv (fun s H C cl fp => (hg s H C cl fp).pg) (fun s H C cl fp => (ht s H C cl fp).pts) (fun s H C cl fp => (hi1 s H C cl fp).pi) (fun s H C cl fp => (hg1 s H C cl fp).pg) (fun s H C cl fp => (ht1 s H C cl fp).pts) (fun s H C cl fp => (he s H C cl fp).pe) hs hs1) fun N σ H ⟨C, O, env, E, o, e, k⟩ => ?_⟩
  obtain ⟨r1, e1, e2⟩ := bindS e
  obtain ⟨e', e3, e4⟩ := bindS e2
  cases e4
  unfold putOw at e3
  split at e3
  · rename_i hf
    cases e3
    rw [hvs]
    exact comp_read2 hsl hsl1 ⟨C, O, env, E, r1, e1, fun a H1 O1 s1 E1 p => k _ H1 O1 s1 (E1.setOw (free_ok hf) p)⟩
  · cases e3
theorem ds_setLc2 {i : Nat} {y : Str} {py : Pos} {spos : Pos} (hc : X.calm = true) (hN : X.N.Nodup) (hy : X.N[i]? = some y) (hyl : X.env.scope.names.lookup y = some .local)
    (hsw : swapsWith (.ListComp elt [⟨tg, iter, ifs, 0⟩, ⟨tg1, iter1, ifs1, 0⟩] scope pos) (some (.Name y py)) spos.line X.env = pure true) (hi : DI X tg iter it) (ok : BlkOk X.N X.env.scope scope own) (hv : ∀ i ∈ vs1, i ∈ own.map (·.2)) (hvs : own.map (·.2) = vs) (hsl : ∀ j ∈ sl, j ∈ vs) (hsl1 : ∀ j ∈ sl1, j ∈ vs1) (hg : Blk X scope fun Y => DG Y tg g sl) (ht : Blk X scope fun Y => DTs Y ifs t) (hi1 : Blk X scope fun Y => DI0 Y tg1 iter1 it1) (hg1 : Blk X scope fun Y => DG Y tg1 g1 sl1) (ht1 : Blk X scope fun Y => DTs Y ifs1 t1) (he : Blk X scope fun Y => DE Y elt f)
    (hs : ∀ x, foldedSetIterable iter X.env x = pure x) (hs1 : ∀ env x, foldedSetIterable iter1 env x = pure x) : DS X (.Assign [.Name y py] (.ListComp elt [⟨tg, iter, ifs, 0⟩, ⟨tg1, iter1, ifs1, 0⟩] scope pos) spos) (sSet i (eComp2 vs it g t it1 vs1 g1 t1 f)) := by
  refine ⟨wkS (ps_setLc2 (g := rdG X.K g sl) (tt := rdB X.K t) (g1 := rdG X.K g1 sl1) (tt1 := rdB X.K t1) (te := rdE X.K f) (wi1 := rdI0 X.K it1) hc hN hy hyl hsw hi.pi ok hv (fun s H C cl fp => (hg s H C cl fp).pg) (fun s H C cl fp => (ht s H C cl fp).pts) (fun s H C cl fp => (hi1 s H C cl fp).pi) (fun s H C cl fp => (hg1 s H C cl fp).pg) (fun s H C cl fp => (ht1 s H C cl fp).pts) (fun s H C cl fp => (he s H C cl fp).pe) hs hs1) fun N σ H ⟨C, O, env, E, o, e, k⟩ => ?_⟩
  obtain ⟨r1, e1, e2⟩ := bindS e
  obtain ⟨e', e3, e4⟩ := bindS e2
  cases e4
  unfold putFz at e3
  split at e3
  · rename_i hf
    cases e3
    rw [hvs]
    refine comp_read2 hsl hsl1 ⟨C, O, env, E, r1, e1, fun a H1 O1 s1 E1 p => ?_⟩
    obtain ⟨s2, E2, rp⟩ := E1.freeze p
    exact k _ H1 _ (s1.trans s2) (E2.setFz (free_ok hf) rp)
  · cases e3
end
end Z

/-! Layer M2: what a comprehension with two fors gives. -/
namespace Z
open PySem PySem.Spec PyProof.Rows L2
section
variable {own own1 : List Nat} {it it1 : SI} {g g1 : SG} {t t1 : SB} {f : SE}
/-- one turn of the outer for -/
def oneC2 (own : List Nat) (g : SG) (t : SB) (it1 : SI) (own1 : List Nat) (g1 : SG) (t1 : SB) (f : SE) (d : D) (acc : List D) (env : Ev) : Option (List D × Ev) := if wipeOk env own = true then (g d (wipeE env own)).bind fun e1 => (t e1).bind fun r => if r.1 = true then (it1 r.2).bind fun q => if q.2.1 = none then (compL own1 g1 t1 f q.1 acc q.2.2).bind fun z => some (z.1, restore env z.2 own) else none
      else some (acc, restore env r.2 own)
    else none
theorem compL2_cons {d : D} {ds acc : List D} {env : Ev} : compL2 own g t it1 own1 g1 t1 f (d :: ds) acc env = (oneC2 own g t it1 own1 g1 t1 f d acc env).bind fun r => compL2 own g t it1 own1 g1 t1 f ds r.1 r.2 := by
  show (if wipeOk env own = true then (g d (wipeE env own)).bind _ else none) = _
  unfold oneC2
  split
  · cases g d (wipeE env own) with
    | none => rfl
    | some e1 =>
      rw [Option.bind_some, Option.bind_some]
      cases t e1 with
      | none => rfl
      | some r =>
        rw [Option.bind_some, Option.bind_some]
        split
        · cases it1 r.2 with
          | none => rfl
          | some q =>
            rw [Option.bind_some, Option.bind_some]
            split
            · cases compL own1 g1 t1 f q.1 acc q.2.2 with
              | none => rfl
              | some z => rfl
            · rfl
        · rfl
  · rfl
theorem ev_oneC2 {d : D} {acc : List D} {s : Slot} {env : Ev} : oneC2 own g t it1 own1 g1 t1 f d acc (s :: env) = if wipeOk (s :: env) own = true then (g d (wipeE (s :: env) own)).bind fun e1 => (t e1).bind fun r => if r.1 = true then (it1 r.2).bind fun q => if q.2.1 = none then (compL own1 g1 t1 f q.1 acc q.2.2).bind fun z => some (z.1, restore (s :: env) z.2 own) else none
      else some (acc, restore (s :: env) r.2 own)
    else none := rfl
theorem ev_eComp2 {s : Slot} {e : Ev} : eComp2 own it g t it1 own1 g1 t1 f (s :: e) = (it (s :: e)).bind fun r => (compL2 own g t it1 own1 g1 t1 f r.1 [] (lockE r.2.2 r.2.1)).bind fun z => some (.lst z.1, unlockE r.2.2 z.2 r.2.1) := rfl
theorem compL2_flat {α : Type} {env : Ev} (enc : α → D) (φ : α → List D) : ∀ (xs : List α) (acc : List D), (∀ x ∈ xs, ∀ acc', acc'.length ≤ acc.length + (xs.flatMap φ).length - (φ x).length → oneC2 own g t it1 own1 g1 t1 f (enc x) acc' env = some (acc' ++ φ x, env)) →
    compL2 own g t it1 own1 g1 t1 f (xs.map enc) acc env = some (acc ++ xs.flatMap φ, env)
  | [], acc, _ => by rw [List.flatMap_nil, List.append_nil]; rfl
  | x :: xs, acc, h => by
    rw [List.map_cons, compL2_cons, h x List.mem_cons_self acc (by rw [List.flatMap_cons, List.length_append]; omega), Option.bind_some, List.flatMap_cons, ← List.append_assoc]
    refine compL2_flat enc φ xs _ fun y hy acc' hl => h y (List.mem_cons_of_mem _ hy) acc' ?_
    rw [List.length_append] at hl
    rw [List.flatMap_cons, List.length_append]
    omega
/-- every turn of the outer for gives a list -/
theorem gv_flat {α β : Type} {env : Ev} {xs : List α} {k : List D × Ev → Option β} {Q : β → Prop} (enc : α → D) (φ : α → List D)
    (h : ∀ x ∈ xs, ∀ acc : List D, acc.length + (φ x).length ≤ (xs.flatMap φ).length → Gv (oneC2 own g t it1 own1 g1 t1 f (enc x) acc env) fun r => r = (acc ++ φ x, env)) (hk : Gv (k (xs.flatMap φ, env)) Q) :
    Gv ((compL2 own g t it1 own1 g1 t1 f (xs.map enc) [] env).bind k) Q := by
  have hm : ∀ x ∈ xs, (φ x).length ≤ (xs.flatMap φ).length := fun x hx => by
    clear h hk
    induction xs with
    | nil => cases hx
    | cons y ys ih =>
      rw [List.flatMap_cons, List.length_append]
      rcases List.mem_cons.mp hx with rfl | hx
      · omega
      · have := ih hx
        omega
  rw [compL2_flat enc φ xs [] fun x hx acc hl => gv_eq (h x hx acc (by have := hm x hx; rw [List.length_nil] at hl; omega))]
  exact hk
/-- the inner for, behind what is gathered -/
theorem gv_mapA {α β : Type} {env : Ev} {xs : List α} {acc : List D} {k : List D × Ev → Option β} {Q : β → Prop} (enc : α → D) (φ : α → D) (hl : acc.length + xs.length ≤ 16777216)
    (h : ∀ x ∈ xs, oneC own g t f (enc x) env = some (some (φ x), env)) (hk : Gv (k (acc ++ xs.map φ, env)) Q) :
    Gv ((compL own g t f (xs.map enc) acc env).bind k) Q := by
  rw [compL_each enc (fun x => some (φ x)) xs acc hl h, filterMap_some]
  exact hk
theorem gv_filterA {α β : Type} {env : Ev} {xs : List α} {acc : List D} {k : List D × Ev → Option β} {Q : β → Prop} (enc : α → D) (c : α → Bool) (φ : α → D) (hl : acc.length + xs.length ≤ 16777216)
    (h : ∀ x ∈ xs, oneC own g t f (enc x) env = some (if c x = true then some (φ x) else none, env)) (hk : Gv (k (acc ++ (xs.filter c).map φ, env)) Q) :
    Gv ((compL own g t f (xs.map enc) acc env).bind k) Q := by
  rw [compL_each enc (fun x => if c x = true then some (φ x) else none) xs acc hl h, filterMap_if]
  exact hk
end
end Z

/-! Layer N2: list(range(a, b)) over ints of any size. -/
namespace Z
open PySem PySem.Spec PyProof.Rows L2
open Sem (wp)
section
variable {prog : Program} {w : World} {A : Around} {s : Shared} {E : Value → Shared → Prop}
abbrev lngObj (a c : Int) (m : Int) : Obj := { cls := .type "longrange_iterator", data := .fields #[rawInt a, rawInt m, rawInt c] }
theorem extend_long {R : Result → Shared → Prop} {r : Addr} {a b c : Int} {t u v : Tok} {n : Nat} (hh : A.handled = none) (hr : IsRange s.heap r a b c t u v) (hb : Builtin.Range.small a b c = false)
    (hn : Builtin.Range.rangeSize a b c = n) (hl : n ≤ 2 ^ 24) (T : Addr) (res : Value) (c0 : Nat) (hT : s.heap.get? T = some { cls := .type "list", data := .seq #[] c0 })
    (hR : ∀ g tk us c', (∀ x o, x ≠ T → s.heap.get? x = some o → g.get? x = some o) → g.get? T = some { cls := .type "list", dict := none, data := .seq us c', slots := #[] } →
      ItemsOf (fun i v => ∃ t, v = .int (a + i * c) t) us n → R (.ok (.ret res)) { s with heap := g, toks := tk }) :
    wpAny (model prog w) A.in1 (Builtin.List.listExtendWith (.ref T) (.ref r) res)
      (fun fin q => match fin with | .done f => R (.ok f) q | .again d => d.quiet = true ∧ codeAny (model prog w) A d R q) (fun e q => R (.error e) q) s := by
  have n1 : T ≠ r := fun z => by rw [z, hr] at hT; simp at hT
  have n2 : T ≠ s.heap.objs.size := Nat.ne_of_lt (Heap.lt_size hT)
  have n3 : T ∉ [s.heap.objs.size] := fun z => n2 (List.mem_singleton.mp z)
  have WS := (Walks.longrange (prog := prog) (w := w) (A := A.in1) hh s.heap.objs.size a c n).toS
  have go : ∀ (g : Heap) (c1 tk : Nat), IsLongIter g s.heap.objs.size (a + ((0 : Nat) : Int) * c) ((n : Int) - ((0 : Nat) : Int)) c → (∀ x o, x ≠ T → s.heap.get? x = some o → g.get? x = some o) →
      g.get? T = some { cls := .type "list", data := .seq #[] c1 } → codeAny (model prog w) A (.builtin "list.extend.loop" ⟨[.ref T, .ref s.heap.objs.size, res], []⟩) R { s with heap := g, toks := tk } := by
    intro g c1 tk hi hk hT1
    refine codeAny_extend_loopS WS (by rw [sizeLine_eq]; omega) T n3 res n 0 _ #[] c1 rfl (Nat.zero_le _) hi hT1 (ItemsOf.nil _) fun q us c' mv hq hit => ?_
    rw [Moved.eq_with mv]
    refine hR q.heap q.toks us c' (fun x o hx e => mv.heap x o (fun z => ?_) (hk x o hx e)) hq hit
    rcases List.mem_cons.mp z with z2 | z
    · exact hx z2
    · exact absurd (Heap.lt_size e) (by rw [List.mem_singleton.mp z]; exact Nat.lt_irrefl _)
  unfold Builtin.List.listExtendWith; refine wpAny_bind (wpAny_typeOf (T := "range") (Exists.intro _ ⟨hr, rfl⟩) ?_)
  have f1 : Builtin.List.listSameRef (.ref T) (.ref r) = false := by simp [Builtin.List.listSameRef, n1]
  have f2 : ((Value.type "range" == Value.type "list") || (Value.type "range" == Value.type "tuple")) = false := by decide
  simp only [f1, f2, Bool.or_false, Bool.false_eq_true, if_false]
  refine wpAny_bind (wpAny_pyIter_longrange hr hb ?_)
  refine wpAny_bind (wpAny_holding (wpAny_hint_range (n := n) (Heap.get?_push_of_some _ hr) hn hl ?_))
  have i1 : IsLongIter (s.heap.push (lngObj a c (Builtin.Range.rangeSize a b c))) s.heap.objs.size (a + ((0 : Nat) : Int) * c) ((n : Int) - ((0 : Nat) : Int)) c := by
    show IsLongIter _ _ _ _ _
    rw [hn]
    simpa using Heap.get?_push_size _ rfl
  have t1 := Heap.get?_push_of_some (lngObj a c (Builtin.Range.rangeSize a b c)) hT
  refine wpAny_ite_split (fun _ => ?_) fun _ => wpAny_pure ⟨plainId_quiet F.plain_extend_loop _, go _ c0 _ i1 (fun x o _ e => Heap.get?_push_of_some _ e) t1⟩
  refine wpAny_bind (wpAny_rule (wpAny_bind (m := _) ?_))
  show wpAny _ _ (updateSeq T (·.push .none) >>= fun _ => updateSeq T (·.pop)) _ _ _
  refine wpAny_bind (wpAny_updateSeq t1 rfl ?_)
  have t2 := Heap.get?_update_self (Obj.mapSeq (·.push Value.none)) t1 rfl
  refine wpAny_updateSeq (hz := by seq_fits) t2 rfl ?_
  have t3 := Heap.get?_update_self (Obj.mapSeq (·.pop)) t2 rfl
  refine wpAny_pure ⟨plainId_quiet F.plain_extend_loop _, go _ _ _ ?_ (fun x o hx e => ?_) t3⟩
  · exact (Heap.get?_update_other _ _ n2).trans ((Heap.get?_update_other _ _ n2).trans i1)
  · exact (Heap.get?_update_other _ _ (Ne.symm hx)).trans ((Heap.get?_update_other _ _ (Ne.symm hx)).trans (Heap.get?_push_of_some _ e))
theorem init_long {R : Result → Shared → Prop} {r : Addr} {a b c : Int} {t u v : Tok} {n : Nat} (hh : A.handled = none) (hr : IsRange s.heap r a b c t u v) (hb : Builtin.Range.small a b c = false)
    (hn : Builtin.Range.rangeSize a b c = n) (hl : n ≤ 2 ^ 24) (T : Addr) (hT : s.heap.get? T = some { cls := .type "list", data := .seq #[] })
    (hR : ∀ g tk us c', (∀ x o, x ≠ T → s.heap.get? x = some o → g.get? x = some o) → g.get? T = some { cls := .type "list", dict := none, data := .seq us c', slots := #[] } →
      ItemsOf (fun i v => ∃ t, v = .int (a + i * c) t) us n → R (.ok (.ret .none)) { s with heap := g, toks := tk }) :
    wpAny (model prog w) A.in1 (Builtin.«list.__init__» ⟨[.ref T, .ref r], []⟩)
      (fun fin q => match fin with | .done f => R (.ok f) q | .again d => d.quiet = true ∧ codeAny (model prog w) A d R q) (fun e q => R (.error e) q) s := by
  have n1 : T ≠ r := fun z => by rw [z, hr] at hT; simp at hT
  show wpAny _ _ (Builtin.List.listItems (.ref T) >>= fun old => Builtin.List.listUpdate (.ref T) (fun _ => #[]) >>= fun _ => letGo old.toList.reverse >>= fun _ => Builtin.List.listExtendWith (.ref T) (.ref r) .none) _ _ s
  refine wpAny_bind ?_
  unfold Builtin.List.listItems
  refine wpAny_bind (wpAny_seqItems hT rfl (wpAny_pure (wpAny_bind ?_)))
  show wpAny _ _ (updateSeq T fun _ => #[]) _ _ s
  refine wpAny_updateSeq hT rfl ?_
  have t2 := Heap.get?_update_self (Obj.mapSeq (fun _ => (#[] : Array Value))) hT rfl
  have oth : ∀ x o, x ≠ T → s.heap.get? x = some o → (s.heap.update T (Obj.mapSeq (fun _ => (#[] : Array Value)))).get? x = some o := fun x o hx e => (Heap.get?_update_other _ _ (Ne.symm hx)).trans e
  refine wpAny_bind (wpAny_letGo (extend_long hh (oth r _ (Ne.symm n1) hr) hb hn hl T .none _ t2 fun g tk us c' hk hq hit => ?_))
  exact hR g tk us c' (fun x o hx e => hk x o hx (oth x o hx e)) hq hit
theorem call_list_long {Q : Value → Shared → Prop} {r : Addr} {a b c : Int} {t u v : Tok} {n : Nat} (hh : A.handled = none) (hr : IsRange s.heap r a b c t u v) (hb : Builtin.Range.small a b c = false)
    (hn : Builtin.Range.rangeSize a b c = n) (hl : n ≤ 2 ^ 24)
    (hQ : ∀ g tk us c', (∀ x o, s.heap.get? x = some o → g.get? x = some o) →
      g.get? s.heap.objs.size = some { cls := .type "list", dict := none, data := .seq us c', slots := #[] } → ItemsOf (fun i v => ∃ t, v = .int (a + i * c) t) us n → Q (.ref s.heap.objs.size) { s with heap := g, toks := tk }) :
    wpAny (model prog w) A (call (Value.type "list") [Value.ref r]) Q E s := by
  refine callType_codes (Q₁ := fun ob q => ob = .ref s.heap.objs.size ∧ q = { s with heap := s.heap.push { cls := .type "list", data := .seq #[] } }) F.called_list (F.typeCall_list_1 _) F.entry_list_init
    (code_list_new _ ⟨rfl, rfl⟩) fun ob q hq => ?_
  obtain ⟨rfl, rfl⟩ := hq
  have hT : (s.heap.push { cls := .type "list", data := .seq #[] }).get? s.heap.objs.size = some { cls := .type "list", data := .seq #[] } := Heap.get?_push_size _ rfl
  refine ⟨⟨_, hT, rfl⟩, F.args_list_init_2 _ _, init_long (A := A.in1) hh (Heap.get?_push_of_some _ hr) hb hn hl _ hT fun g tk us c' hk ht hit => ?_⟩
  exact ⟨rfl, hQ g tk us c' (fun x o e => hk x o (Nat.ne_of_lt (Heap.lt_size e)) (Heap.get?_push_of_some _ e)) ht hit⟩
end
section
variable {X : Cx} {e : Expr} {te : L2.St → Hp → (Int → Int → Hp → Prop) → Prop} {f g : SE}
def tLstB (te : L2.St → Hp → (Int → Int → Hp → Prop) → Prop) : TE := fun σ H Q => te σ H fun a b H1 => (b - a).toNat ≤ 2 ^ 24 ∧ ∀ q, H1 q = none → Q (.ref q) (upd H1 q (.lst (rgV a b)))
theorem pe_listB {p pos : Pos} (hc : X.calm = true) (hg : Gl X "list") (hm : X.mg "list" = none) (he : PRg X e te) (na : starEach [e] X.env = (false, eval e X.env) :: starEach [] X.env) : PE X (.Call (.Name "list" p) [e] [] pos) (tLstB te) := by
  refine ⟨fun pins s σ H Q I h => Call_ (ld_blt I hg hm boot_list (PyProof.Rows.callWith_type1 (args_cons (thn (he pins s σ H _ I h) fun x s1 ⟨r, a, b, t, u, v, H1, ex, hr, I1, ok, q⟩ => args_nil ?_) na) na))⟩
  cases ex
  have fin : ∀ (gg : Heap) (tk : Nat) (us : Array Value) (c' : Nat), (∀ x o, s1.heap.get? x = some o → gg.get? x = some o) → gg.get? s1.heap.objs.size = some { cls := .type "list", dict := none, data := .seq us c', slots := #[] } → ItemsOf (fun i v => ∃ t, v = .int (a + i * 1) t) us (b - a).toNat → ∃ (x : V) (H' : Hp), Inv X pins σ H' { s1 with heap := gg, toks := tk } ∧ RelV x (.ref s1.heap.objs.size) ∧ Q x H' := fun gg tk us c' hk hl hi => by
    refine ⟨.ref s1.heap.objs.size, upd H1 s1.heap.objs.size (.lst (rgV a b)), I1.laid hk (Nat.le_refl _) (show ObjOk X.prog X.w _ _ _ (.lst (rgV a b)) from ⟨?_, us.toList, c', vals_rg hi, ?_⟩), rfl, q _ (I1.hok.fresh (Nat.le_refl _))⟩
    · rw [sizeLine_eq, rgV_length]; omega
    · rw [Array.toArray_toList]; exact hl
  have hsz : Builtin.Range.rangeSize a b 1 = (((b - a).toNat : Nat) : Int) := by rw [rangeSize_one]; split <;> omega
  cases hs : Builtin.Range.small a b 1 with
  | true => exact call_list_range (I1.ok.hd hc) hr hs hsz ok fun gg tk us c' hk hl hi => fin gg tk us c' hk hl hi
  | false => exact call_list_long (I1.ok.hd hc) hr hs hsz ok fun gg tk us c' hk hl hi => fin gg tk us c' hk hl hi
/-- list(range(a, b)) -/
def eLstB (f g : SE) : SE := fun env => (f env).bind fun r => (g r.2).bind fun s => (asI r.1).bind fun i => (asI s.1).bind fun j => if (j - i).toNat ≤ 16777216 then some (.lst ((List.range (j - i).toNat).map fun (n : Nat) => .int (i + (n : Int))), s.2) else none
theorem repL_rgB {K : PySem.W.Frag} {H : Hp} {O : Ad} (i j : Int) : RepL K H O ((List.range (j - i).toNat).map fun (n : Nat) => D.int (i + (n : Int))) (rgV i j) := by
  unfold rgV
  generalize List.range (j - i).toNat = l
  induction l with
  | nil => exact .nil
  | cons n l ih => exact .cons (.int _) ih
theorem df_listB {a b : Expr} {p p2 pos pos2 : Pos} (hc : X.calm = true) (hgl : Gl X "list") (hml : X.mg "list" = none) (hg : Gl X "range") (hm : X.mg "range" = none) (ha : DE X a f) (hb : DE X b g)
    (na : starEach [a, b] X.env = (false, eval a X.env) :: starEach [b] X.env) (nb : starEach [b] X.env = (false, eval b X.env) :: starEach [] X.env) (hp : (backTo pos (starEach [b] X.env)).any (·.1) = false)
    (nl : starEach [Expr.Call (.Name "range" p) [a, b] [] pos] X.env = (false, eval (Expr.Call (.Name "range" p) [a, b] [] pos) X.env) :: starEach [] X.env) :
    DF X (.Call (.Name "list" p2) [.Call (.Name "range" p) [a, b] [] pos] [] pos2) (eLstB f g) := by
  refine ⟨wkE (pe_listB hc hgl hml (prg_2 hg hm ha.pe hb.pe na nb hp) nl) fun σ H Q ⟨C, O, env, E, z, e, k⟩ => ?_⟩
  obtain ⟨r1, e1, e2⟩ := bindS e
  obtain ⟨r2, e3, e4⟩ := bindS e2
  obtain ⟨i, e5, e6⟩ := bindS e4
  obtain ⟨j, e7, e8⟩ := bindS e6
  split at e8
  · rename_i hle
    cases e8
    refine ⟨C, O, env, E, r1, e1, fun v1 H1 O1 s1 E1 p1 => ⟨C, O1, r1.2, E1, r2, e3, fun v2 H2 O2 s2 E2 p2 => ?_⟩⟩
    rw [asI_some e5] at p1
    rw [asI_some e7] at p2
    cases p1
    cases p2
    refine ⟨i, j, rfl, rfl, hle, fun q n => ?_⟩
    obtain ⟨s3, E3, L3⟩ := E2.new n (own_lst (repL_rgB i j))
    exact k q _ _ ((s1.trans s2).trans s3) E3 L3
  · cases e8
theorem ev_eLstB {s : Slot} {e : Ev} : eLstB f g (s :: e) = (f (s :: e)).bind fun r => (g r.2).bind fun s => (asI r.1).bind fun i => (asI s.1).bind fun j => if (j - i).toNat ≤ 16777216 then some (.lst ((List.range (j - i).toNat).map fun (n : Nat) => .int (i + (n : Int))), s.2) else none := rfl
end
end Z

/-! Layer O2: a dict is walked: it is locked meanwhile. -/
namespace Z
open PySem PySem.Spec PyProof.Rows L2
/-- from H to H2 some dict was locked, or unlocked -/
def Fz (H H2 : Hp) : Prop := ∀ b o, H b = some o → H2 b = some o ∨ ∃ es, (o = .dK es ∨ ∃ od, o = .frz od (.dK es)) ∧ Rd H2 b (.dK es)
theorem Fz.rd {H H2 : Hp} (f : Fz H H2) {b : Addr} {es : List (Key × V)} (h : Rd H b (.dK es)) : Rd H2 b (.dK es) := by
  rcases h with h | ⟨o, h⟩
  · rcases f _ _ h with q | ⟨es', q | ⟨od, q⟩, r⟩
    · exact .inl q
    · cases q; exact r
    · cases q
  · rcases f _ _ h with q | ⟨es', q | ⟨od, q⟩, r⟩
    · exact .inr ⟨o, q⟩
    · cases q
    · cases q; exact r
theorem Fz.tup {H H2 : Hp} (f : Fz H H2) {b : Addr} {vs : List V} (h : H b = some (.tup vs)) : H2 b = some (.tup vs) := by
  rcases f _ _ h with q | ⟨es, q | ⟨od, q⟩, _⟩
  · exact q
  · cases q
  · cases q
theorem Fz.lst {H H2 : Hp} (f : Fz H H2) {b : Addr} {vs : List V} (h : H b = some (.lst vs)) : H2 b = some (.lst vs) := by
  rcases f _ _ h with q | ⟨es, q | ⟨od, q⟩, _⟩
  · exact q
  · cases q
  · cases q
theorem Fz.dT {H H2 : Hp} (f : Fz H H2) {b : Addr} {vs : List (List Key × V)} (h : H b = some (.dT vs)) : H2 b = some (.dT vs) := by
  rcases f _ _ h with q | ⟨es, q | ⟨od, q⟩, _⟩
  · exact q
  · cases q
  · cases q
theorem Fz.frzT {H H2 : Hp} (f : Fz H H2) {b : Addr} {o : Obj} {vs : List V} (h : H b = some (.frz o (.tup vs))) : H2 b = some (.frz o (.tup vs)) := by
  rcases f _ _ h with q | ⟨es, q | ⟨od, q⟩, _⟩
  · exact q
  · cases q
  · cases q
theorem Fz.frzL {H H2 : Hp} (f : Fz H H2) {b : Addr} {o : Obj} {vs : List V} (h : H b = some (.frz o (.lst vs))) : H2 b = some (.frz o (.lst vs)) := by
  rcases f _ _ h with q | ⟨es, q | ⟨od, q⟩, _⟩
  · exact q
  · cases q
  · cases q
mutual
theorem Rep.fz {K : PySem.W.Frag} {H H2 : Hp} {O : Ad} (f : Fz H H2) : ∀ {d : D} {v : V}, Rep K H O d v → Rep K H2 O d v
  | _, _, .non => .non
  | _, _, .bl b => .bl b
  | _, _, .int i => .int i
  | _, _, .str x h => .str x h
  | _, _, .kt h r => .kt (by
      rcases h with h | ⟨n, o, hd, h⟩
      · exact .inl h
      · exact .inr ⟨n, o, hd, f.frzT h⟩) (RepL.fz f r)
  | _, _, .tup n h r => .tup n (f.tup h) (RepL.fz f r)
  | _, _, .lst n h r => .lst n (f.lst h) (RepL.fz f r)
  | _, _, .sc h => .sc (by
      rcases h with ⟨n, h | ⟨o, h⟩⟩ | h
      · exact .inl ⟨n, .inl (f.lst h)⟩
      · exact .inl ⟨n, .inr ⟨o, f.frzL h⟩⟩
      · exact .inr h)
  | _, _, .dk n h k r => .dk n (f.rd h) k (RepL.fz f r)
  | _, _, .dt n h k r => .dt n (f.dT h) k (RepL.fz f r)
theorem RepL.fz {K : PySem.W.Frag} {H H2 : Hp} {O : Ad} (f : Fz H H2) : ∀ {ds : List D} {vs : List V}, RepL K H O ds vs → RepL K H2 O ds vs
  | _, _, .nil => .nil
  | _, _, .cons h r => .cons (Rep.fz f h) (RepL.fz f r)
end
theorem Own.fz {K : PySem.W.Frag} {H H2 : Hp} {O : Ad} (f : Fz H H2) {d : D} {a : Addr} (e : H2 a = H a) (h : Own K H O d a) : Own K H2 O d a := by
  cases h with
  | lst h r => exact .lst (e.trans h) (r.fz f)
  | dk h k r => exact .dk (e.trans h) k (r.fz f)
  | dt h k r => exact .dt (e.trans h) k (r.fz f)
theorem OwnB.fz {K : PySem.W.Frag} {H H2 : Hp} {O : Ad} (f : Fz H H2) {d : D} {a : Addr} (e : H2 a = H a) (h : OwnB K H O d a) : OwnB K H2 O d a := by
  cases h with
  | own h => exact .own (h.fz f e)
  | fdk h k r => exact .fdk (e.trans h) k (r.fz f)
section
variable {K : PySem.W.Frag} {C : Ctx} {H : Hp} {O : Ad} {σ : L2.St} {env : Ev} {a : Addr} {es : List (Key × V)} {od : Obj}
theorem fz_in (h : H a = some (.dK es)) : Fz H (upd H a (.frz od (.dK es))) := fun b o e => by
  by_cases n : b = a
  · subst n
    rw [h] at e; cases e
    exact .inr ⟨es, .inl rfl, .inr ⟨od, upd_same⟩⟩
  · exact .inl (by rw [upd_ne n]; exact e)
theorem fz_out (h : H a = some (.frz od (.dK es))) : Fz H (upd H a (.dK es)) := fun b o e => by
  by_cases n : b = a
  · subst n
    rw [h] at e; cases e
    exact .inr ⟨es, .inr ⟨od, rfl⟩, .inl upd_same⟩
  · exact .inl (by rw [upd_ne n]; exact e)
abbrev Ctx.lk (C : Ctx) (a : Addr) (o : HO) : Ctx := { C with lock := fun b => if b = a then some o else C.lock b }
theorem MxAll.fz (M : MxAll K C H O σ env) {H2 : Hp} {C2 : Ctx} (f : Fz H H2) (hO : C2.O0 = C.O0) (hb : ∀ b, InMx H σ env b → H2 b = H b) (hl : ∀ b, InMx H σ env b → C2.lock b = Option.none) : MxAll K C2 H2 O σ env where
  ats := fun i r e => by
    obtain ⟨a, bs, h1, h2, h3, h4, h5⟩ := M.ats i r e
    refine ⟨a, bs, h1, f.lst h2, h3, h4, fun k b hk => ?_⟩
    obtain ⟨ds, vs, q1, q2, q3⟩ := h5 k b hk
    exact ⟨ds, vs, q1, f.lst q2, q3.fz f⟩
  own := fun b h => by
    have hb' : InMx H σ env b := h.back M (fun i r e => ⟨e, rfl⟩) hb
    obtain ⟨q1, q2, _, q4⟩ := M.own b hb'
    exact ⟨q1, by rw [hO]; exact q2, hl b hb', q4⟩
  one := M.one
/-- a dict is locked -/
theorem EnvOk.lkIn (E : EnvOk K C H O σ env) (h : H a = some (.dK es)) (ho : O a → C.lock a ≠ none) (od : Obj) : EnvOk K (C.lk a (.frz od (.dK es))) (upd H a (.frz od (.dK es))) O σ env := by
  have f := fz_in (od := od) h
  have ne : ∀ {b : Addr}, O b → C.lock b = none → b ≠ a := fun {b} q1 q2 z => by rw [z] at q1 q2; exact ho q1 q2
  have lk : ∀ {b : Addr}, b ≠ a → (C.lk a (.frz od (.dK es))).lock b = C.lock b := fun n => if_neg n
  refine ⟨E.len, E.o0, fun b hb z => ?_, fun b o q => ?_, fun i d e => ?_, fun i d e => ?_, fun i d e => ?_, fun i b e => ?_, E.br, fun i v d e => ?_, E.sep, E.mx.fz f rfl (fun b hb => ?_) fun b hb => ?_⟩
  · by_cases n : b = a
    · rw [n, upd_same] at z; cases z
    · rw [upd_ne n] at z; exact E.trk b hb z
  · by_cases n : b = a
    · have q : (if b = a then some (HO.frz od (.dK es)) else C.lock b) = some o := q
      rw [if_pos n] at q
      cases q
      rw [n, upd_same]
    · rw [lk n] at q
      rw [upd_ne n]; exact E.lock b o q
  · obtain ⟨v, h1, h2⟩ := E.fz i d e
    exact ⟨v, h1, h2.fz f⟩
  · obtain ⟨b, h1, h2, h3, h4, h5⟩ := E.ow i d e
    have n := ne h2 h4
    exact ⟨b, h1, h2, h3, by rw [lk n]; exact h4, h5.fz f (upd_ne n)⟩
  · obtain ⟨b, h1, h2⟩ := E.io i d e
    obtain ⟨h3, h4, h5, _⟩ := E.ioS i b h1
    exact ⟨b, h1, h2.fz f (upd_ne (ne h4 h5))⟩
  · obtain ⟨h3, h4, h5, h6⟩ := E.ioS i b e
    exact ⟨h3, h4, by rw [lk (ne h4 h5)]; exact h5, h6⟩
  · obtain ⟨h1, h2, h3⟩ := E.brS i v d e
    refine ⟨h1, h2, ?_⟩
    rcases h3 with h3 | ⟨b, rfl, h4, h5, h6⟩
    · exact .inl (h3.fz f)
    · refine .inr ⟨b, rfl, h4, ?_, ?_⟩
      · by_cases n : b = a
        · show (if b = a then some (HO.frz od (.dK es)) else C.lock b) ≠ none
          rw [if_pos n]; intro z; cases z
        · rw [lk n]; exact h5
      · by_cases n : b = a
        · subst n
          cases h6 with
          | fdk q _ _ => rw [h] at q; cases q
          | own h6 => cases h6 with
            | lst q _ => rw [h] at q; cases q
            | dt q _ _ => rw [h] at q; cases q
            | dk q k r =>
              rw [h] at q; cases q
              exact .fdk upd_same k (r.fz f)
        · exact h6.fz f (upd_ne n)
  · obtain ⟨q1, _, q3, _⟩ := E.mx.own b hb
    exact upd_ne (ne q1 q3)
  · obtain ⟨q1, _, q3, _⟩ := E.mx.own b hb
    rw [lk (ne q1 q3)]; exact q3
/-- .. and unlocked -/
theorem EnvOk.lkOut (E : EnvOk K (C.lk a (.frz od (.dK es))) H O σ env) (ho : O a → C.lock a ≠ none) (hl : ∀ o, C.lock a = some o → o = .dK es) : EnvOk K C (upd H a (.dK es)) O σ env := by
  have h : H a = some (.frz od (.dK es)) := E.lock a _ (if_pos rfl)
  have f := fz_out h
  have lk : ∀ {b : Addr}, b ≠ a → (C.lk a (.frz od (.dK es))).lock b = C.lock b := fun n => if_neg n
  have ne : ∀ {b : Addr}, (C.lk a (.frz od (.dK es))).lock b = none → b ≠ a := fun {b} q z => by
    have q : (if b = a then some (HO.frz od (.dK es)) else C.lock b) = none := q
    rw [if_pos z] at q; cases q
  refine ⟨E.len, E.o0, fun b hb z => ?_, fun b o q => ?_, fun i d e => ?_, fun i d e => ?_, fun i d e => ?_, fun i b e => ?_, E.br, fun i v d e => ?_, E.sep, E.mx.fz f rfl (fun b hb => ?_) fun b hb => ?_⟩
  · by_cases n : b = a
    · rw [n, upd_same] at z; cases z
    · rw [upd_ne n] at z; exact E.trk b hb z
  · by_cases n : b = a
    · rw [n] at q ⊢
      rw [upd_same, hl o q]
    · rw [upd_ne n]
      exact E.lock b o (by rw [lk n]; exact q)
  · obtain ⟨v, h1, h2⟩ := E.fz i d e
    exact ⟨v, h1, h2.fz f⟩
  · obtain ⟨b, h1, h2, h3, h4, h5⟩ := E.ow i d e
    have n := ne h4
    exact ⟨b, h1, h2, h3, by rw [lk n] at h4; exact h4, h5.fz f (upd_ne n)⟩
  · obtain ⟨b, h1, h2⟩ := E.io i d e
    obtain ⟨h3, h4, h5, _⟩ := E.ioS i b h1
    exact ⟨b, h1, h2.fz f (upd_ne (ne h5))⟩
  · obtain ⟨h3, h4, h5, h6⟩ := E.ioS i b e
    exact ⟨h3, h4, by rw [lk (ne h5)] at h5; exact h5, h6⟩
  · obtain ⟨h1, h2, h3⟩ := E.brS i v d e
    refine ⟨h1, h2, ?_⟩
    rcases h3 with h3 | ⟨b, rfl, h4, h5, h6⟩
    · exact .inl (h3.fz f)
    · by_cases n : b = a
      · subst n
        refine .inr ⟨b, rfl, h4, ho h4, ?_⟩
        cases h6 with
        | fdk q k r =>
          rw [h] at q; cases q
          exact .own (.dk upd_same k (r.fz f))
        | own h6 => cases h6 with
          | lst q _ => rw [h] at q; cases q
          | dt q _ _ => rw [h] at q; cases q
          | dk q k r => rw [h] at q; cases q
      · exact .inr ⟨b, rfl, h4, by rw [lk n] at h5; exact h5, h6.fz f (upd_ne n)⟩
  · obtain ⟨q1, _, q3, _⟩ := E.mx.own b hb
    exact upd_ne (ne q3)
  · obtain ⟨q1, _, q3, _⟩ := E.mx.own b hb
    have n := ne q3
    rw [lk n] at q3; exact q3
theorem Loose.lkOut {d : D} {p : Addr} (L : Loose K (C.lk a (.frz od (.dK es))) H O σ env d p) (E : EnvOk K (C.lk a (.frz od (.dK es))) H O σ env) : Loose K C (upd H a (.dK es)) O σ env d p := by
  have h : H a = some (.frz od (.dK es)) := E.lock a _ (if_pos rfl)
  have f := fz_out h
  have n : p ≠ a := fun z => by
    have q : (if p = a then some (HO.frz od (.dK es)) else C.lock p) = none := L.nl
    rw [if_pos z] at q; cases q
  have hq : C.lock p = none := by
    have q : (if p = a then some (HO.frz od (.dK es)) else C.lock p) = none := L.nl
    rw [if_neg n] at q; exact q
  refine ⟨L.o, L.n0, hq, L.own.fz f (upd_ne n), L.sep, fun z => L.nmx ?_⟩
  obtain ⟨i, r, b, bs, q1, q2, q3, q4⟩ := z
  refine ⟨i, r, b, bs, q1, q2, ?_, q4⟩
  have nb : b ≠ a := fun z => by rw [z, upd_same] at q3; cases q3
  rw [upd_ne nb] at q3; exact q3
end
/-! ### the keys are walked -/
def keyD : Key → D
  | .inl n => .int n
  | .inr x => .str x
theorem keyD_inl (n : Int) : keyD (Sum.inl n) = .int n := rfl
theorem keyD_inr (x : Str) : keyD (Sum.inr x) = .str x := rfl
def keysOk (kvs : List (Key × D)) : Bool := kvs.all fun kv => match kv.1 with
  | .inl _ => true
  | .inr x => PySem.PyData.strOk x
/-- the dict that a name stands for, to be walked -/
def dkAt (env : Ev) (i : Nat) : Option (List (Key × D)) := match env[i]? with
  | some (.fz (.dk kvs)) => if keysOk kvs = true then some kvs else none
  | some (.br (.dk kvs)) => if keysOk kvs = true then some kvs else none
  | _ => none
def keysD (kvs : List (Key × D)) : List D := kvs.map fun kv => keyD kv.1
section
variable {K : PySem.W.Frag} {C : Ctx} {H H' : Hp} {O O' : Ad} {σ : L2.St} {env : Ev} {a : Addr} {es : List (Key × V)} {od : Obj} {kvs : List (Key × D)}
theorem EnvOk.dkAt (E : EnvOk K C H O σ env) {i : Nat} (e : Z.dkAt env i = some kvs) : ∃ a es, σ[i]? = some (some (.ref a)) ∧ Rd H a (.dK es) ∧ kvs.map (·.1) = es.map (·.1) ∧ (O a → C.lock a ≠ none) ∧ keysOk kvs = true := by
  unfold Z.dkAt at e
  split at e
  · rename_i kvs' h
    split at e
    · rename_i ok
      cases e
      obtain ⟨v, h1, h2⟩ := E.fz i _ h
      cases h2 with
      | dk n q k r => exact ⟨_, _, h1, q, k, fun z => (n z).elim, ok⟩
    · cases e
  · rename_i kvs' h
    split at e
    · rename_i ok
      cases e
      obtain ⟨v, h1⟩ := E.br i _ h
      obtain ⟨h2, _, h3⟩ := E.brS i v _ h1
      rcases h3 with h3 | ⟨b, rfl, h4, h5, h6⟩
      · cases h3 with
        | dk n q k r => exact ⟨_, _, h2, q, k, fun z => (n z).elim, ok⟩
      · cases h6 with
        | fdk q k r => exact ⟨_, _, h2, .inr ⟨_, q⟩, k, fun _ => h5, ok⟩
        | own h6 => cases h6 with
          | dk q k r => exact ⟨_, _, h2, .inl q, k, fun _ => h5, ok⟩
    · cases e
  · cases e
theorem Step.lkOut (s : Step (upd H a (.frz od (.dK es))) O H' O') (h : H a = some (.dK es)) : Step H O (upd H' a (.dK es)) O' := by
  refine ⟨fun b o n e => ?_, fun b z => ?_⟩
  · by_cases nb : b = a
    · rw [nb] at e ⊢
      rw [h] at e; cases e
      exact upd_same
    · rw [upd_ne nb]
      exact s.keep b o n (by rw [upd_ne nb]; exact e)
  · rcases s.sub b z with q | q
    · exact .inl q
    · by_cases nb : b = a
      · rw [nb, upd_same] at q; cases q
      · rw [upd_ne nb] at q; exact .inr q
end
section
variable {X : Cx} {C : Ctx} {a : Addr} {es : List (Key × V)} {od : Obj} {kvs : List (Key × D)}
theorem key_rep {H : Hp} {O : Ad} {k : Key} (h : (match k with
  | .inl _ => true
  | .inr x => PySem.PyData.strOk x) = true) : Rep X.K H O (keyD k) (kV k) := by
  cases k with
  | inl n => exact .int n
  | inr x => exact .str x h
theorem it_keys (hk : kvs.map (·.1) = es.map (·.1)) (ok : keysOk kvs = true) : ItD X.K C (Itk a od es) (fun H O => H a = some (.frz od (.dK es)) ∧ (C.lock a = some (.frz od (.dK es)) ∨ ¬ O a)) (keysD kvs) := by
  have hl : (keysD kvs).length = es.length := by
    have := congrArg List.length hk
    rw [List.length_map, List.length_map] at this
    unfold keysD
    rw [List.length_map]; exact this
  refine ⟨fun H O H' O' ⟨h, q⟩ s lk => ?_, fun i H O ⟨h, _⟩ hi => ⟨h, by rw [← hl]; exact hi⟩, fun i H O x H' ⟨h, _⟩ t hi y => ?_, fun H O ⟨h, _⟩ => ⟨h, by rw [hl]; exact Nat.le_refl _⟩⟩
  · rcases q with q | q
    · exact ⟨lk a _ q, .inl q⟩
    · exact ⟨s.keep a _ q h, .inr (s.nO q h)⟩
  · obtain ⟨rfl, k, v, e1, rfl⟩ := y
    have e2 : (kvs.map (·.1))[i]? = some k := by rw [hk, List.getElem?_map, e1]; rfl
    rw [List.getElem?_map] at e2
    obtain ⟨kv, e3, e4⟩ := Option.map_eq_some_iff.mp e2
    refine ⟨Same.refl _, keyD k, ?_, key_rep ?_⟩
    · unfold keysD
      rw [List.getElem?_map, e3]
      show some (keyD kv.1) = _
      rw [e4]
    · have := List.all_eq_true.mp ok kv (List.mem_of_getElem? e3)
      rw [← e4]; exact this
theorem src_of {H : Hp} {O : Ad} {σ : L2.St} {env : Ev} (E : EnvOk X.K C H O σ env) (h : H a = some (.frz od (.dK es))) (ho : O a → C.lock a ≠ none) : H a = some (.frz od (.dK es)) ∧ (C.lock a = some (.frz od (.dK es)) ∨ ¬ O a) := by
  refine ⟨h, ?_⟩
  by_cases n : O a
  · cases q : C.lock a with
    | none => exact (ho n q).elim
    | some o =>
      have := E.lock a o q
      rw [h] at this
      cases this
      exact .inl rfl
  · exact .inr n
variable {tg iter : Expr} {body : List Stmt} {g : SG} {sl : List Nat} {b : SS} {pos : Pos}
/-- the turns of a for -/
theorem for_turns {J : It} {Src : Hp → Ad → Prop} {ds : List D} {H1 : Hp} {O1 : Ad} {σ : L2.St} {env1 : Ev} {o' : Out} {N : Ends} (itd : ItD X.K C J Src ds) (E1 : EnvOk X.K C H1 O1 σ env1) (src : Src H1 O1) (e3 : forL g b ds env1 = some o') (k : OutOk X.K C N H1 O1 o') :
    ∃ W : Nat → Nat → L2.St → Hp → Prop, (∃ m, W 0 m σ H1) ∧ ∀ i m σ H, W i m σ H →
      (J.stop i H ∧ N.nx σ H) ∨ (J.go i H ∧ ∃ Nx : L2.St → Hp → Prop, (∀ σ' H', Nx σ' H' → ∃ m', m' < m ∧ W (i + 1) m' σ' H') ∧ ∀ x H', J.yld i H x H' → rdG X.K g sl x σ H' fun σ2 H2 => rdS X.K b { N with nx := Nx, ct := Nx, bk := N.nx } σ2 H2) := by
  refine ⟨fun i m σ H => ∃ O env, EnvOk X.K C H O σ env ∧ Step H1 O1 H O ∧ Src H O ∧ i + m = ds.length ∧ forL g b (ds.drop i) env = some o', ⟨ds.length, O1, _, E1, .refl, src, by omega, e3⟩, fun i m σ2 H2 hW => ?_⟩
  obtain ⟨O2, env2, E2, s2, src2, hm, e5⟩ := hW
  by_cases hi : i < ds.length
  · rw [List.drop_eq_getElem_cons hi] at e5
    obtain ⟨e6, h1, h2⟩ := bindS e5
    obtain ⟨o1, h3, h4⟩ := bindS h2
    refine .inr ⟨itd.go i H2 O2 src2 hi, fun σ H => ∃ O env, EnvOk X.K C H O σ env ∧ Step H1 O1 H O ∧ Src H O ∧ forL g b (ds.drop (i + 1)) env = some o', fun σ' H' ⟨O', env', q1, q2, q3, q4⟩ => ⟨m - 1, by omega, O', env', q1, q2, q3, by omega, q4⟩, fun x H' y => ?_⟩
    obtain ⟨ex, d, hd, rp⟩ := itd.yld i H2 O2 x H' src2 E2.trk hi y
    rw [List.getElem?_eq_getElem hi] at hd
    cases hd
    have s3 : Step H2 O2 H' O2 := .ext ex
    refine ⟨C, O2, env2, _, E2.ext ex, rp, e6, h1, fun σ4 H4 O4 s4 E4 _ => ⟨C, O4, e6, E4, o1, h3, ?_⟩⟩
    have src4 : Src H4 O4 := itd.keep _ _ _ _ src2 (s3.trans s4) E4.lock
    have s14 : Step H1 O1 H4 O4 := s2.trans (s3.trans s4)
    cases o1 with
    | nx e7 => exact fun σ5 H5 O5 s5 E5 => ⟨O5, e7, E5, s14.trans s5, itd.keep _ _ _ _ src4 s5 E5.lock, h4⟩
    | ct e7 => exact fun σ5 H5 O5 s5 E5 => ⟨O5, e7, E5, s14.trans s5, itd.keep _ _ _ _ src4 s5 E5.lock, h4⟩
    | bk e7 =>
      cases h4
      exact fun σ5 H5 O5 s5 E5 => k σ5 H5 O5 (s14.trans s5) E5
    | rt d e7 =>
      cases h4
      exact fun σ5 v H5 O5 s5 E5 rp => k σ5 v H5 O5 (s14.trans s5) E5 rp
    | rn d e7 =>
      cases h4
      exact fun σ5 a H5 O5 s5 E5 L => k σ5 a H5 O5 (s14.trans s5) E5 L
  · have hi : i = ds.length := by omega
    rw [hi, List.drop_length] at e5
    cases e5
    exact .inl ⟨by rw [hi]; exact itd.stop H2 O2 src2, k σ2 H2 O2 s2 E2⟩
/-- for x in d: d a name that stands for a dict -/
def sForD (i : Nat) (g : SG) (body : SS) : SS := fun env => (dkAt env i).bind fun kvs => forL g body (keysD kvs) env
theorem PS.or {st : Stmt} {t t' : TS} (h : PS X st t) (h' : PS X st t') : PS X st fun N σ H => t N σ H ∨ t' N σ H := by
  refine ⟨fun pins s σ H N I q => ?_⟩
  rcases q with q | q
  · exact h.run pins s σ H N I q
  · exact h'.run pins s σ H N I q
theorem PE.or {e : Expr} {t t' : TE} (h : PE X e t) (h' : PE X e t') : PE X e fun σ H Q => t σ H Q ∨ t' σ H Q := by
  refine ⟨fun pins s σ H Q I q => ?_⟩
  rcases q with q | q
  · exact h.run pins s σ H Q I q
  · exact h'.run pins s σ H Q I q
/-- what is behind the lock -/
theorem out_lk {H : Hp} {O : Ad} {N N' : Ends} {o : Out} (h : H a = some (.dK es)) (ho : O a → C.lock a ≠ none) (hl : ∀ o, C.lock a = some o → o = .dK es) (k : OutOk X.K C N H O o)
    (n1 : ∀ σ' H', H' a = some (.frz od (.dK es)) → N.nx σ' (upd H' a (.dK es)) → N'.nx σ' H') (n2 : ∀ v H', H' a = some (.frz od (.dK es)) → N.rt v (upd H' a (.dK es)) → N'.rt v H') (n3 : ∀ σ' H', H' a = some (.frz od (.dK es)) → N.bk σ' (upd H' a (.dK es)) → N'.bk σ' H') (n4 : ∀ σ' H', H' a = some (.frz od (.dK es)) → N.ct σ' (upd H' a (.dK es)) → N'.ct σ' H') :
    OutOk X.K (C.lk a (.frz od (.dK es))) N' (upd H a (.frz od (.dK es))) O o := by
  have at_ : ∀ {H' : Hp} {O' : Ad} {σ' : L2.St} {env : Ev}, EnvOk X.K (C.lk a (.frz od (.dK es))) H' O' σ' env → H' a = some (.frz od (.dK es)) := fun E => E.lock a _ (if_pos rfl)
  have ho' : ∀ {H' : Hp} {O' : Ad}, Step (upd H a (.frz od (.dK es))) O H' O' → O' a → C.lock a ≠ none := fun s z => by
    rcases s.sub a z with q | q
    · exact ho q
    · rw [upd_same] at q; cases q
  cases o with
  | nx env => exact fun σ' H' O' s E => n1 σ' H' (at_ E) (k σ' _ O' (s.lkOut h) (E.lkOut (ho' s) hl))
  | bk env => exact fun σ' H' O' s E => n3 σ' H' (at_ E) (k σ' _ O' (s.lkOut h) (E.lkOut (ho' s) hl))
  | ct env => exact fun σ' H' O' s E => n4 σ' H' (at_ E) (k σ' _ O' (s.lkOut h) (E.lkOut (ho' s) hl))
  | rt d env => exact fun σ' v H' O' s E r => n2 v H' (at_ E) (k σ' v _ O' (s.lkOut h) (E.lkOut (ho' s) hl) (r.fz (fz_out (at_ E))))
  | rn d env => exact fun σ' p H' O' s E L => n2 (.ref p) H' (at_ E) (k σ' p _ O' (s.lkOut h) (E.lkOut (ho' s) hl) (L.lkOut E))
theorem ds_forD (i : Nat) {x : Str} {p : Pos} (hN : X.N[i]? = some x) (hv : Vis X.env.scope x) (hd : (x == ("__debug__" : Str)) = false) (hcd : (x == ("__classdict__" : Str)) = false) (hp : PassesOwn (model X.prog X.w) X.A X.env X.xe) (hc : X.calm = true) (hg : DG X tg g sl) (hb : DSs X body b)
    (hs : ∀ y, foldedSetIterable (.Name x p) X.env y = pure y) : DS X (.For tg (.Name x p) body [] pos) (sForD i g b) := by
  have P1 := ps_for (pos := pos) hp hc (pi_keys (tg := tg) (pe_var (pos := p) hN hv hd hcd)) hg.pg hb.pss hs
  refine ⟨wkS (PS.or P1 (ps_lock P1)) fun N σ H ⟨C, O, env, E, o, e, k⟩ => ?_⟩
  obtain ⟨kvs, e1, e2⟩ := bindS e
  obtain ⟨a, es, h1, h2, hk, ho, ok⟩ := E.dkAt e1
  rcases h2 with h2 | ⟨od, h2⟩
  · refine .inr ⟨a, .dK es, h2, True.intro, fun od => ?_⟩
    have E2 := E.lkIn h2 ho od
    refine ⟨.ref a, h1, a, od, rfl, .inl ⟨es, upd_same, ?_⟩⟩
    refine for_turns (it_keys hk ok) E2 (src_of E2 upd_same fun _ => ?_) e2 (out_lk h2 ho (fun o q => ?_) k (fun _ _ q r => ⟨q, r⟩) (fun _ _ q r => ⟨q, r⟩) (fun _ _ q r => ⟨q, r⟩) fun _ _ q r => ⟨q, r⟩)
    · show (if a = a then some (HO.frz od (.dK es)) else C.lock a) ≠ none
      rw [if_pos rfl]; intro z; cases z
    · have := E.lock a o q
      rw [h2] at this; cases this; rfl
  · refine .inl ⟨.ref a, h1, a, od, rfl, .inl ⟨es, h2, ?_⟩⟩
    exact for_turns (it_keys hk ok) E (src_of E h2 ho) e2 k
theorem ev_sForD {i : Nat} {s : Slot} {e : Ev} : sForD i g b (s :: e) = (dkAt (s :: e) i).bind fun kvs => forL g b (keysD kvs) (s :: e) := rfl
end
end Z

/-! Layer P2: [e for k in d if t]: d a name that stands for a dict. -/
namespace Z
open PySem PySem.Spec PyProof.Rows L2
section
variable {X : Cx} {elt tg iter : Expr} {ifs : List Expr} {scope : Scope} {own : List (Str × Nat)} {pos : Pos} {g : SG} {t : SB} {f : SE}
/-- the turns of a comprehension -/
theorem comp_turns {σ : L2.St} {C' : Ctx} {J : It} {Src : Hp → Ad → Prop} {ds : List D} {H1 : Hp} {O1 : Ad} {env1 : Ev} {y : List D × Ev} {vs sl : List Nat} {Q : VK} (hsl : ∀ j ∈ sl, j ∈ vs) (itd : ItD X.K C' J Src ds) (E1 : EnvOk X.K C' H1 O1 σ env1) (src : Src H1 O1) (e3 : compL vs g t f ds [] env1 = some y)
    (k : ∀ L H O, Step H1 O1 H O → EnvOk X.K C' H O σ y.2 → Loose X.K C' H O σ y.2 (.lst y.1) L → Q (.ref L) H) : ∀ L, H1 L = none → ∃ W : Nat → Nat → Hp → Prop, (∃ m, W 0 m (upd H1 L (.lst []))) ∧ ∀ i m H, W i m H →
      (J.stop i H ∧ Q (.ref L) H) ∨ (J.go i H ∧ ∃ Nx : Hp → Prop, (∀ H', Nx H' → ∃ m', m' < m ∧ W (i + 1) m' H') ∧ ∀ x H', J.yld i H x H' → rdG X.K g sl x (L2.wipe σ vs) H' fun σ2 H2 => L2.wipe σ2 vs = L2.wipe σ vs ∧ rdB X.K t σ2 H2 fun b H3 =>
        if b = true then rdE X.K f σ2 H3 fun y H4 => ∃ acc, H4 L = some (.lst acc) ∧ acc.length < sizeLine ∧ Nx (upd H4 L (.lst (acc ++ [y]))) else Nx H3) := by
  intro L hL
  obtain ⟨s2, E2, L2'⟩ := E1.new (o := .lst []) hL fun O' s => .lst upd_same .nil
  have nb : NoBr X.K C' L := E1.noBr hL
  have n0 : ¬ C'.O0 L := L2'.n0
  have nl : C'.lock L = none := L2'.nl
  have E3 := E2.hide L2' upd_same
  refine ⟨fun i m H => ∃ O env acc vs', EnvOk X.K (C'.hide L (.lst vs')) H O σ env ∧ Step H1 O1 H O ∧ Src H O ∧ RepL X.K H O acc vs' ∧ i + m = ds.length ∧ compL vs g t f (ds.drop i) acc env = some y, ⟨ds.length, _, _, [], [], E3, s2, itd.keep _ _ _ _ src s2 fun a o ha => ?_, .nil, by omega, e3⟩, fun i m H3 hW => ?_⟩
  · exact E2.lock a o ha
  obtain ⟨O3, env3, acc, vs', E4, s4, src4, racc, hm, e5⟩ := hW
  have lkC : ∀ {vs' : List V} {H : Hp} {O : Ad} {σ : L2.St} {env : Ev}, EnvOk X.K (C'.hide L (.lst vs')) H O σ env → ∀ a o, C'.lock a = some o → H a = some o := fun E a o ha => E.lock a o (by
    show (if a = L then some _ else C'.lock a) = some o
    rw [if_neg (fun z => by rw [z, nl] at ha; cases ha)]; exact ha)
  have atL : ∀ {vs' : List V} {H : Hp} {O : Ad} {σ : L2.St} {env : Ev}, EnvOk X.K (C'.hide L (.lst vs')) H O σ env → H L = some (.lst vs') := fun E => E.lock L _ (if_pos rfl)
  by_cases hi : i < ds.length
  · rw [List.drop_eq_getElem_cons hi] at e5
    have e5 : (if wipeOk env3 vs = true then (g ds[i] (wipeE env3 vs)).bind fun e1 => (t e1).bind fun q => if q.1 = true then (f q.2).bind fun z => if acc.length < sizeLine then compL vs g t f (ds.drop (i + 1)) (acc ++ [z.1]) (restore env3 z.2 vs) else none
      else compL vs g t f (ds.drop (i + 1)) acc (restore env3 q.2 vs)
    else none) = some y := e5
    split at e5
    · rename_i hwo
      obtain ⟨e6, h1, h2⟩ := bindS e5
      obtain ⟨q, h3, h4⟩ := bindS h2
      refine .inr ⟨itd.go i H3 O3 src4 hi, fun H => ∃ O env acc vs', EnvOk X.K (C'.hide L (.lst vs')) H O σ env ∧ Step H1 O1 H O ∧ Src H O ∧ RepL X.K H O acc vs' ∧ compL vs g t f (ds.drop (i + 1)) acc env = some y, fun H' ⟨O', env', a', v', q1, q2, q3, q4, q5⟩ => ⟨m - 1, by omega, O', env', a', v', q1, q2, q3, q4, by omega, q5⟩, fun x H' yy => ?_⟩
      obtain ⟨ex, d, hd, rp⟩ := itd.yld i H3 O3 x H' src4 E4.trk hi yy
      rw [List.getElem?_eq_getElem hi] at hd
      cases hd
      have s5 : Step H3 O3 H' O3 := .ext ex
      refine ⟨C'.hide L (.lst vs'), O3, _, _, (E4.ext ex).wipe hwo, rp, e6, h1, fun σ2 H4 O4 s6 E6 but => ?_⟩
      have hw : L2.wipe σ2 vs = L2.wipe σ vs := wipe_same hsl (by rw [but.1, wipe_length]) but.2
      have s46 : Step H3 O3 H4 O4 := s5.trans s6
      refine ⟨hw, C'.hide L (.lst vs'), O4, e6, E6, q, h3, fun H5 O5 s7 E7 => ?_⟩
      have s57 : Step H3 O3 H5 O5 := s46.trans s7
      show if q.1 = true then _ else _
      by_cases hq : q.1 = true
      · rw [if_pos hq]
        rw [if_pos hq] at h4
        obtain ⟨zz, h5, h6⟩ := bindS h4
        split at h6
        · rename_i hlen
          refine ⟨C'.hide L (.lst vs'), O5, q.2, E7, zz, h5, fun y6 H6 O6 s8 E8 rp8 => ?_⟩
          have s68 : Step H3 O3 H6 O6 := s57.trans s8
          have E9 := E4.restore hwo s68 E8 hw
          obtain ⟨s9, E10⟩ := E9.rehide (o' := .lst (vs' ++ [y6])) nb
          have r6 := (racc.mono (s68.trans s9)).append (.cons (rp8.mono s9) .nil)
          refine ⟨vs', atL E8, by rw [← racc.length]; exact hlen, O6, _, acc ++ [zz.1], vs' ++ [y6], E10, s4.trans (s68.trans s9), ?_, r6, h6⟩
          exact itd.keep _ _ _ _ src4 (s68.trans s9) (lkC E10)
        · cases h6
      · rw [if_neg hq]
        rw [if_neg hq] at h4
        have E9 := E4.restore hwo s57 E7 hw
        exact ⟨O5, _, acc, vs', E9, s4.trans s57, itd.keep _ _ _ _ src4 s57 (lkC E9), racc.mono s57, h4⟩
    · cases e5
  · have hi : i = ds.length := by omega
    rw [hi, List.drop_length] at e5
    cases e5
    obtain ⟨E7, L7⟩ := E4.unhide n0 nl nb (.lst (atL E4) racc)
    exact .inl ⟨by rw [hi]; exact itd.stop H3 O3 src4, k L H3 O3 s4 E7 L7⟩
/-- [e for k in d if t] -/
def eCompD (i : Nat) (own : List Nat) (g : SG) (t : SB) (f : SE) : SE := fun env => (dkAt env i).bind fun kvs => (compL own g t f (keysD kvs) [] env).bind fun z => some (.lst z.1, z.2)
variable {vs sl : List Nat} {i : Nat} {x : Str} {p : Pos}
theorem compD_read {σ : L2.St} {H : Hp} {Q : VK} (hsl : ∀ j ∈ sl, j ∈ vs) (h : rdF X.K (eCompD i vs g t f) σ H Q) :
    tLc (iKeys (tVar i)) (rdG X.K g sl) (rdB X.K t) (rdE X.K f) vs σ H Q ∨ tLockE (tLc (iKeys (tVar i)) (rdG X.K g sl) (rdB X.K t) (rdE X.K f) vs) σ H Q := by
  obtain ⟨C, O, env, E, z, e, k⟩ := h
  obtain ⟨kvs, e1, e2⟩ := bindS e
  obtain ⟨y, e3, e4⟩ := bindS e2
  cases e4
  obtain ⟨a, es, h1, h2, hk, ho, ok⟩ := E.dkAt e1
  rcases h2 with h2 | ⟨od, h2⟩
  · refine .inr ⟨a, .dK es, h2, True.intro, fun od => ?_⟩
    have E2 := E.lkIn h2 ho od
    refine ⟨.ref a, h1, a, od, rfl, .inl ⟨es, upd_same, ?_⟩⟩
    refine comp_turns (Q := fun v H' => H' a = some (.frz od (.dK es)) ∧ Q v (upd H' a (.dK es))) hsl (it_keys hk ok) E2 (src_of E2 upd_same fun _ => ?_) e3 fun L H' O' s E' L' => ?_
    · show (if a = a then some (HO.frz od (.dK es)) else C.lock a) ≠ none
      rw [if_pos rfl]; intro z; cases z
    · have at_ : H' a = some (.frz od (.dK es)) := E'.lock a _ (if_pos rfl)
      refine ⟨at_, k L _ O' (s.lkOut h2) (E'.lkOut (fun z => ?_) fun o q => ?_) (L'.lkOut E')⟩
      · rcases s.sub a z with q | q
        · exact ho q
        · rw [upd_same] at q; cases q
      · have := E.lock a o q
        rw [h2] at this; cases this; rfl
  · refine .inl ⟨.ref a, h1, a, od, rfl, .inl ⟨es, h2, ?_⟩⟩
    exact comp_turns hsl (it_keys hk ok) E (src_of E h2 ho) e3 fun L H' O' s E' L' => k L _ O' s E' L'
theorem df_compD (hN : X.N[i]? = some x) (hv : Vis X.env.scope x) (hd : (x == ("__debug__" : Str)) = false) (hcd : (x == ("__classdict__" : Str)) = false) (hc : X.calm = true) (hNd : X.N.Nodup) (ok : BlkOk X.N X.env.scope scope own) (hvs : own.map (·.2) = vs) (hsl : ∀ j ∈ sl, j ∈ vs) (hg : Blk X scope fun Y => DG Y tg g sl) (ht : Blk X scope fun Y => DTs Y ifs t) (he : Blk X scope fun Y => DE Y elt f)
    (hs : ∀ y, foldedSetIterable (.Name x p) X.env y = pure y) : DF X (.ListComp elt [⟨tg, .Name x p, ifs, 0⟩] scope pos) (eCompD i vs g t f) := by
  have P1 := pe_lc (pos := pos) (g := rdG X.K g sl) (tt := rdB X.K t) (te := rdE X.K f) hc hNd (pi_keys (tg := tg) (pe_var (pos := p) hN hv hd hcd)) ok (fun s H C cl fp => (hg s H C cl fp).pg) (fun s H C cl fp => (ht s H C cl fp).pts) (fun s H C cl fp => (he s H C cl fp).pe) hs
  exact ⟨wkE (PE.or P1 (pe_lock P1)) fun σ H Q h => by rw [hvs]; exact compD_read hsl h⟩
/-- y = [.. for k in d ..]: y stands still -/
theorem ds_setLcD {j : Nat} {y : Str} {py : Pos} {spos : Pos} (hN : X.N[i]? = some x) (hv : Vis X.env.scope x) (hd : (x == ("__debug__" : Str)) = false) (hcd : (x == ("__classdict__" : Str)) = false) (hc : X.calm = true) (hNd : X.N.Nodup) (hy : X.N[j]? = some y) (hyl : X.env.scope.names.lookup y = some .local)
    (hsw : swapsWith (.ListComp elt [⟨tg, .Name x p, ifs, 0⟩] scope pos) (some (.Name y py)) spos.line X.env = pure true) (ok : BlkOk X.N X.env.scope scope own) (hvs : own.map (·.2) = vs) (hsl : ∀ j ∈ sl, j ∈ vs) (hg : Blk X scope fun Y => DG Y tg g sl) (ht : Blk X scope fun Y => DTs Y ifs t) (he : Blk X scope fun Y => DE Y elt f)
    (hs : ∀ y, foldedSetIterable (.Name x p) X.env y = pure y) : DS X (.Assign [.Name y py] (.ListComp elt [⟨tg, .Name x p, ifs, 0⟩] scope pos) spos) (sSet j (eCompD i vs g t f)) := by
  have P1 := ps_setLc (g := rdG X.K g sl) (tt := rdB X.K t) (te := rdE X.K f) hc hNd hy hyl hsw (pi_keys (tg := tg) (pe_var (pos := p) hN hv hd hcd)) ok (fun s H C cl fp => (hg s H C cl fp).pg) (fun s H C cl fp => (ht s H C cl fp).pts) (fun s H C cl fp => (he s H C cl fp).pe) hs
  refine ⟨wkS (PS.or P1 (ps_lock P1)) fun N σ H ⟨C, O, env, E, o, e, k⟩ => ?_⟩
  obtain ⟨r1, e1, e2⟩ := bindS e
  obtain ⟨e', e3, e4⟩ := bindS e2
  cases e4
  obtain ⟨kvs, e5, e6⟩ := bindS e1
  obtain ⟨yy, e7, e8⟩ := bindS e6
  cases e8
  unfold putFz at e3
  split at e3
  · rename_i hf
    cases e3
    obtain ⟨a, es, h1, h2, hk, ho, okk⟩ := E.dkAt e5
    rw [hvs]
    rcases h2 with h2 | ⟨od, h2⟩
    · refine .inr ⟨a, .dK es, h2, True.intro, fun od => ?_⟩
      have E2 := E.lkIn h2 ho od
      refine ⟨.ref a, h1, a, od, rfl, .inl ⟨es, upd_same, ?_⟩⟩
      refine comp_turns (Q := fun v H' => H' a = some (.frz od (.dK es)) ∧ N.nx (σ.set j (some v)) (upd H' a (.dK es))) hsl (it_keys hk okk) E2 (src_of E2 upd_same fun _ => ?_) e7 fun L H' O' s E' L' => ?_
      · show (if a = a then some (HO.frz od (.dK es)) else C.lock a) ≠ none
        rw [if_pos rfl]; intro z; cases z
      · have at_ : H' a = some (.frz od (.dK es)) := E'.lock a _ (if_pos rfl)
        have E3 := E'.lkOut (fun z => by
          rcases s.sub a z with q | q
          · exact ho q
          · rw [upd_same] at q; cases q) fun o q => by
            have := E.lock a o q
            rw [h2] at this; cases this; rfl
        obtain ⟨s2, E4, rp⟩ := E3.freeze (L'.lkOut E')
        exact ⟨at_, k _ _ _ ((s.lkOut h2).trans s2) (E4.setFz (free_ok hf) rp)⟩
    · refine .inl ⟨.ref a, h1, a, od, rfl, .inl ⟨es, h2, ?_⟩⟩
      refine comp_turns (Q := fun v H' => N.nx (σ.set j (some v)) H') hsl (it_keys hk okk) E (src_of E h2 ho) e7 fun L H' O' s E' L' => ?_
      obtain ⟨s2, E4, rp⟩ := E'.freeze L'
      exact k _ _ _ (s.trans s2) (E4.setFz (free_ok hf) rp)
  · cases e3
theorem ev_eCompD {s : Slot} {e : Ev} : eCompD i vs g t f (s :: e) = (dkAt (s :: e) i).bind fun kvs => (compL vs g t f (keysD kvs) [] (s :: e)).bind fun z => some (.lst z.1, z.2) := rfl
end
end Z

/-! Layer Q2: sorted(d): the keys of a dict. -/
namespace Z
open PySem PySem.Spec PyProof.Rows L2
def intsK : List (Key × D) → Option (List Int)
  | [] => some []
  | (.inl n, _) :: r => (intsK r).bind fun ns => some (n :: ns)
  | (.inr _, _) :: _ => none
def strsK : List (Key × D) → Option (List Str)
  | [] => some []
  | (.inr x, _) :: r => if PySem.PyData.strOk x = true then (strsK r).bind fun ns => some (x :: ns) else none
  | (.inl _, _) :: _ => none
theorem intsK_eq : ∀ {kvs : List (Key × D)} {ns : List Int}, intsK kvs = some ns → kvs.map (·.1) = ns.map Sum.inl
  | [], _, e => by cases e; rfl
  | (.inl n, _) :: r, _, e => by
    obtain ⟨ns, e1, e2⟩ := bindS (show (intsK r).bind (fun ns => some (n :: ns)) = _ from e)
    cases e2
    rw [List.map_cons, intsK_eq e1]; rfl
  | (.inr _, _) :: _, _, e => by cases e
theorem strsK_eq : ∀ {kvs : List (Key × D)} {xs : List Str}, strsK kvs = some xs → kvs.map (·.1) = xs.map Sum.inr ∧ ∀ x ∈ xs, PySem.PyData.strOk x = true
  | [], _, e => by cases e; exact ⟨rfl, fun _ h => nomatch h⟩
  | (.inr x, _) :: r, _, e => by
    have e : (if PySem.PyData.strOk x = true then (strsK r).bind fun ns => some (x :: ns) else none) = some _ := e
    split at e
    · rename_i ok
      obtain ⟨ns, e1, e2⟩ := bindS e
      cases e2
      obtain ⟨h1, h2⟩ := strsK_eq e1
      refine ⟨by rw [List.map_cons, h1]; rfl, fun y hy => ?_⟩
      rcases List.mem_cons.mp hy with rfl | hy
      · exact ok
      · exact h2 y hy
    · cases e
  | (.inl _, _) :: _, _, e => by cases e
def gSortedK : List D → Option D
  | [.dk kvs] => match intsK kvs with
    | some ns => if ns.length < 64 then some (.lst ((sortI ns).map D.int)) else none
    | none => (strsK kvs).bind fun xs => if xs.length < 64 then some (.lst ((sortS xs).map D.str)) else none
  | _ => none
section
variable {X : Cx}
theorem cn_sortedK (hc : X.calm = true) : CallN X (.builtin "sorted") gSortedK := by
  refine ⟨_, CallR.or (call_sortedDI hc) (call_sortedD hc), fun H O xs us z Q t hx e k => ?_⟩
  cases xs with
  | nil => cases e
  | cons d ds =>
    cases ds with
    | cons _ _ => cases d <;> cases e
    | nil =>
      obtain ⟨v, rfl, r⟩ := hx.one
      cases d <;> try (cases e; done)
      rename_i kvs
      obtain ⟨a, es, rfl, h1, h2, _⟩ := r.dk
      have e : (match intsK kvs with
        | some ns => if ns.length < 64 then some (D.lst ((sortI ns).map D.int)) else none
        | none => (strsK kvs).bind fun xs => if xs.length < 64 then some (D.lst ((sortS xs).map D.str)) else none) = some z := e
      split at e
      · rename_i ns hn
        split at e
        · rename_i hl
          cases e
          refine .inl ⟨a, es, ns, rfl, h1, by rw [← h2, intsK_eq hn], hl, fun ns' p q1 q2 q3 => ?_⟩
          rw [sortI_eq q1 q2]
          exact k p _ q3 (own_lst (O := O) (RepL.ints _))
        · cases e
      · obtain ⟨ss, e3, e4⟩ := bindS e
        split at e4
        · rename_i hl
          cases e4
          obtain ⟨h3, h4⟩ := strsK_eq e3
          refine .inr ⟨a, es, ss, rfl, h1, by rw [← h2, h3], hl, fun ss' p q1 q2 q3 => ?_⟩
          rw [sortS_eq q1 (sortedS_pair q2)]
          refine k p _ q3 (own_lst (O := O) (RepL.strs fun x hx => h4 x ?_))
          exact (List.mergeSort_perm ss strLe).mem_iff.mp hx
        · cases e4
end
end Z

/-! Layer Q3: sorted(t) of a tuple of data of one shape. -/
namespace Z
open PySem PySem.Spec PyProof.Rows L2
section
variable {prog : Program} {w : World} {A : Around} {E : Value → Shared → Prop} {s : Shared}
/-- what is sorted is collected first: a tuple's things are laid to a new list at one go -/
theorem gather_tup {t : Addr} {us : List Value} {R : List Value → Shared → Prop} (ht : IsTup s.heap t us.toArray) (hz : us.length ≤ sizeLine)
    (k : R us { s with heap := (s.heap.push (seqObj "list" #[] 0)).update s.heap.objs.size (Obj.mapSeq (· ++ us.toArray)) }) :
    wpAny (model prog w) A (collect (.ref t)) R E s := by
  obtain ⟨ob, h1, h2, m, h3⟩ := id ht
  have h1' : (s.heap.push (seqObj "list" #[] 0)).get? t = some ob := Heap.get?_push_of_some _ h1
  have tt : (Value.type "tuple" == Value.type "tuple") = true := rfl
  unfold collect
  refine wpAny_bind (wpAny_runValue (codeAny_builtin entry_proto_collect' ?_))
  refine wpAny_bind (m := newList []) (wpAny_newList (wpAny_pure ⟨Code.quiet_builtin _ (by decide +kernel), codeAny_builtin entry_list_iadd' ?_⟩))
  show wpAny _ _ (Builtin.List.listExtendWith (.ref s.heap.objs.size) (.ref t) (.ref s.heap.objs.size)) _ _ { s with heap := s.heap.push (seqObj "list" #[] 0) }
  unfold Builtin.List.listExtendWith
  refine wpAny_bind (wpAny_typeOf (T := "tuple") ⟨ob, h1', h2⟩ ?_)
  rw [if_pos (by rw [tt, Bool.or_true])]
  refine wpAny_bind (listItems_at h1' h3 (wpAny_bind (listItems_at (xs := #[]) (n := 0) (Heap.get?_push_size _ rfl) rfl ?_)))
  rw [if_neg (by simp)]
  refine wpAny_bind (listUpdate_at (xs := #[]) (n := 0) (Heap.get?_push_size _ rfl) rfl (wpAny_pure ?_) (Nat.zero_le _) (by show (#[] ++ us.toArray).size ≤ sizeLine + 1; rw [Array.size_append, List.size_toArray, List.size_toArray, List.length_nil]; omega))
  refine wpAny_bind (m := load s.heap.objs.size) (wpAny_load (get?_update_seq (Heap.get?_push_size _ rfl) _) ?_)
  show wpAny (model prog w) A (pure ((#[] : Array Value) ++ us.toArray).toList) R E _
  have ee : ((#[] : Array Value) ++ us.toArray).toList = us := by simp
  rw [ee]
  exact wpAny_pure k
/-- sorted(t): the things of the tuple, put in order, in a new list -/
theorem sortedTup {t : Addr} {us : List Value} {κ : PyProof.Rows.KeyKind} {R : Value → Shared → Prop} (ht : IsTup s.heap t us.toArray) (hz : us.length ≤ sizeLine)
    (G : PySem.W.SortsAt prog w A.in1.in1 { s with heap := PySem.W.sortingHeap (PySem.W.copyHeap s.heap us) (s.heap.objs.size + 1) us } κ us)
    (k : R (.ref (s.heap.objs.size + 1)) { s with heap := sortedAll s.heap us (PySem.W.sortVals κ false us us).toArray }) :
    wpAny (model prog w) A (call (.builtin "sorted") [.ref t]) R E s := by
  have hsz : ((s.heap.push (seqObj "list" #[] 0)).update s.heap.objs.size (Obj.mapSeq (· ++ us.toArray))).objs.size = s.heap.objs.size + 1 := (Heap.size_update _ _ _).trans (size_push' _ _)
  refine call_function_entry_kw kind_sorted plain_sorted entry_sorted (args_sorted1 _) ?_
  unfold Builtin.«sorted»
  refine wpAny_bind (m := checkCount "sorted" 1 1 _) (wpAny_pure (wpAny_bind (gather_tup ht hz (wpAny_bind (wpAny_newList ?_ hz)))))
  show wpAny _ _ _ _ _ { s with heap := PySem.W.copyHeap s.heap us }
  rw [hsz]
  have inner : ∀ E' : Value → Shared → Prop, wpAny (model prog w) A.in1.in1 (Builtin.«list.sort» ⟨[.ref (s.heap.objs.size + 1)], []⟩) (fun f s' => f = .done (.ret .none) ∧ R (.ref (s.heap.objs.size + 1)) s') E' { s with heap := PySem.W.copyHeap s.heap us } := fun _ => PySem.W.list_sort_vals (s := { s with heap := PySem.W.copyHeap s.heap us }) (PySem.W.copyHeap_at s.heap us) G hz ⟨rfl, k⟩
  refine wpAny_bind (wpAny_holding (wpAny_call_entry_kw slot_list_sort ⟨_, PySem.W.copyHeap_at s.heap us, rfl⟩ entry_list_sort ?now (args_list_sort _)))
  case now =>
    show wpAny (model prog w) A.in1.in1 (Builtin.«list.sort» ⟨[.ref (s.heap.objs.size + 1)], []⟩) _ _ _
    exact wpAny_mono (inner _) (fun f s' z => by
      obtain ⟨rfl, z⟩ := z
      exact ⟨_, rfl, wpAny_pure ⟨_, rfl, z⟩⟩) fun _ _ e => e
theorem sortedTup_data {β : Type} {us : List Value} {bs : List β} {enc : β → PyData} {W : Value → β → Prop} {t : Addr} {R : Value → Shared → Prop} (ht : IsTup s.heap t us.toArray) (e : PySem.W.EachIs W us bs) (er : PySem.W.EachIs (fun v b => ∃ as, Reads s.heap v (enc b) as) us bs)
    (hal : PySem.W.AllAlike (bs.map enc)) (hk : PySem.W.Sortable (bs.map enc)) (hz : bs.length ≤ sizeLine) (hu : ∀ b, b ∈ bs → A.units + 2 + (enc b).depth < cLine)
    (k : ∀ out, out.length = bs.length → PySem.W.EachIs W out (bs.mergeSort (PySem.W.dataLe false enc)) → R (.ref (s.heap.objs.size + 1)) { s with heap := sortedAll s.heap us (List.toArray out) }) :
    wpAny (model prog w) A (call (.builtin "sorted") [.ref t]) R E s := by
  have er2 : PySem.W.EachIs (fun v b => ∃ as, Reads (PySem.W.sortingHeap (PySem.W.copyHeap s.heap us) (s.heap.objs.size + 1) us) v (enc b) as) us bs := er.mono fun _ _ ⟨as, r⟩ => ⟨as, PyProof.Rows.Reads.keeps (fun _ _ => PySem.W.sorting_copy_old) r⟩
  have at0 := PySem.W.SortsAt.data (prog := prog) (w := w) (A := A.in1.in1) (s := { s with heap := PySem.W.sortingHeap (PySem.W.copyHeap s.heap us) (s.heap.objs.size + 1) us }) (PySem.W.each_map (R := fun v d => ∃ as, Reads (PySem.W.sortingHeap (PySem.W.copyHeap s.heap us) (s.heap.objs.size + 1) us) v d as) enc er2) hal hk (PySem.W.bound_map hu)
  exact sortedTup ht (by rw [e.length]; exact hz) at0 (k _ (by rw [PySem.W.sortVals_length false rfl]; exact e.length) (PySem.W.sortVals_data false e er2 hal))
end
section
variable {X : Cx}
def rSortedT (K : PySem.W.Frag) : List V → Hp → VK → Prop := fun vs H Q => ∃ (a : Addr) (bs : List (V × PyData)), vs = [V.ref a] ∧ SqT K H a (bs.map (·.1)) ∧ (∀ b ∈ bs, Dp K H b.1 b.2) ∧ PySem.W.AllAlike (bs.map (·.2)) ∧ PySem.W.Sortable (bs.map (·.2)) ∧ (∀ b ∈ bs, b.2.depth ≤ 60) ∧
  ∀ p, H p = none → Q (.ref p) (upd H p (.lst ((bs.mergeSort (PySem.W.dataLe false (·.2))).map (·.1))))
theorem cr_sortedT (hu : X.A.units + 65 < cLine) : CallR X (.builtin "sorted") (rSortedT X.K) := by
  intro pins s σ H vs us Q I r h
  obtain ⟨a, bs, rfl, hs, hx, hal, hk, hd, q⟩ := h
  obtain ⟨its, rv, ht, hz⟩ := I.tuple hs
  rw [Vals.ref1 r]
  obtain ⟨e1, e2⟩ := each_vals (h := s.heap) I rv hx
  rw [List.length_map] at hz
  refine sortedTup_data (enc := fun b : V × PyData => b.2) ht e1 e2 hal hk hz (fun b hb => by have := hd b hb; omega) fun out h1 h2 => ?_
  obtain ⟨ep, he'⟩ := PyProof.Rows.sortedAll_at s.heap its out.toArray
  have hlen : ((bs.mergeSort (PySem.W.dataLe false fun b : V × PyData => b.2)).map (·.1)).length ≤ sizeLine := by
    rw [List.length_map, List.length_mergeSort]
    exact hz
  exact ⟨.ref _, upd H (s.heap.objs.size + 1) (.lst ((bs.mergeSort (PySem.W.dataLe false fun b : V × PyData => b.2)).map (·.1))), I.laid (t' := s.toks) (fun _ _ => PyProof.Rows.sortedAll_old) (Nat.le_succ _) ⟨hlen, out, ep, vals_each h2, he'⟩, rfl, q _ (I.hok.fresh (Nat.le_succ _))⟩
def tupD : D → Option (List D)
  | .tup ds => some ds
  | .kt ds => some ds
  | _ => none
theorem tup_ok {K : PySem.W.Frag} {H : Hp} {O : Ad} {d : D} {ds : List D} {v : V} (h : PRep K H O d v) (e : tupD d = some ds) : ∃ a vs, v = .ref a ∧ SqT K H a vs ∧ RepL K H O ds vs := by
  cases d <;> try (cases e; done)
  · cases e
    obtain ⟨a, vs, h1, h2, h3⟩ := h.tup
    exact ⟨a, vs, h1, .inl (.inl h2), h3⟩
  · cases e
    exact h.kt
def gSortedT : List D → Option D
  | [d] => (tupD d).bind fun ds => if srtOk ds = true then some (.lst (sortD ds)) else none
  | _ => none
theorem cn_sortedT (hu : X.A.units + 65 < cLine) : CallN X (.builtin "sorted") gSortedT := by
  refine ⟨_, cr_sortedT hu, fun H O xs us z Q t hx e k => ?_⟩
  cases xs with
  | nil => cases e
  | cons d ds =>
    cases ds with
    | cons _ _ => cases e
    | nil =>
      obtain ⟨v, rfl, r⟩ := hx.one
      obtain ⟨ds, e1, e2⟩ := bindS (show (tupD d).bind (fun ds => if srtOk ds = true then some (D.lst (sortD ds)) else none) = some z from e)
      obtain ⟨a, vs, rfl, h1, h2⟩ := tup_ok r e1
      split at e2
      · rename_i hok
        cases e2
        unfold srtOk at hok
        rw [Bool.and_eq_true, Bool.and_eq_true, Bool.and_eq_true] at hok
        obtain ⟨⟨⟨o1, o2⟩, o3⟩, o4⟩ := hok
        obtain ⟨cs, c1, c2, c3⟩ := repL_zip h2
        have om : ∀ c ∈ cs, ok 60 c.1 = true := fun c hc => okL_mem o1 _ (by rw [← c1]; exact List.mem_map.mpr ⟨c, hc, rfl⟩)
        let bs : List (V × PyData) := cs.map fun c => (c.2, py c.1)
        have b1 : bs.map (·.1) = vs := by show List.map _ (List.map _ cs) = _; rw [List.map_map, ← c2]; rfl
        have b2 : bs.map (·.2) = ds.map py := by show List.map _ (List.map _ cs) = _; rw [List.map_map, ← c1, List.map_map]; rfl
        have e3 : (bs.mergeSort (PySem.W.dataLe false fun b : V × PyData => b.2)).map (·.1) = (cs.mergeSort fun c c' => leD c.1 c'.1).map (·.2) := by
          have : (cs.mergeSort fun c c' => leD c.1 c'.1).map (fun c => (c.2, py c.1)) = bs.mergeSort (PySem.W.dataLe false fun b : V × PyData => b.2) := List.map_mergeSort (fun a _ b _ => rfl)
          rw [← this, List.map_map]; rfl
        have e4 : sortD ds = (cs.mergeSort fun c c' => leD c.1 c'.1).map (·.1) := by
          have : (cs.mergeSort fun c c' => leD c.1 c'.1).map (·.1) = (cs.map (·.1)).mergeSort leD := List.map_mergeSort (fun a _ b _ => rfl)
          rw [this, c1]; rfl
        refine ⟨a, bs, rfl, by rw [b1]; exact h1, fun b hb => ?_, ?_, ?_, fun b hb => ?_, fun p hp => ?_⟩
        · obtain ⟨c, hc, rfl⟩ := List.mem_map.mp hb
          exact (c3 c hc).dp (om c hc)
        · rw [b2]
          intro x hx y hy
          obtain ⟨x', hx', rfl⟩ := List.mem_map.mp hx
          obtain ⟨y', hy', rfl⟩ := List.mem_map.mp hy
          exact List.all_eq_true.mp (List.all_eq_true.mp o2 x' hx') y' hy'
        · rw [b2]
          refine .inl fun x hx => ?_
          obtain ⟨x', hx', rfl⟩ := List.mem_map.mp hx
          have := List.all_eq_true.mp o3 x' hx'
          unfold isTupD at this
          split at this
          · unfold py pyL; exact ⟨_, _, rfl⟩
          · unfold py pyL; exact ⟨_, _, rfl⟩
          · cases this
        · obtain ⟨c, hc, rfl⟩ := List.mem_map.mp hb
          exact depth_ok (om c hc)
        · rw [e3]
          refine k p _ hp ?_
          rw [e4]
          exact own_lst (O := O) (repL_unzip fun c hc => c3 c (List.mem_mergeSort.mp hc))
      · cases e2
theorem ev_sortedPT {L : List Pz} (h : L.length ≤ 16777216) : gSortedT [.tup (L.map ePz)] = some (.lst ((sortP L).map ePz)) := ev_sortedP h
end
end Z

/-! Layer S2: xs.extend(ys) by a list. -/
namespace Z
open PySem PySem.Spec PyProof.Rows L2
section
variable {X : Cx}
def mExtend : D → List D → Option (D × D)
  | .lst ds, [.lst ys] => if ds.length + ys.length ≤ sizeLine then some (.non, .lst (ds ++ ys)) else none
  | _, _ => none
theorem RepL.app {K : PySem.W.Frag} {H : Hp} {O : Ad} : ∀ {ds ys : List D} {vs us : List V}, RepL K H O ds vs → RepL K H O ys us → RepL K H O (ds ++ ys) (vs ++ us)
  | _, _, _, _, .nil, h => h
  | _, _, _, _, .cons r t, h => .cons r (RepL.app t h)
theorem md_extend : MutD X "list.extend" mExtend := by
  refine ⟨_, mt_extend, fun H O a d ds us z Q ow r e k => ?_⟩
  cases ow <;> try (cases e; done)
  rename_i vs ds' h2 h1
  cases r with
  | nil => cases e
  | cons r t =>
    cases t with
    | cons _ _ => cases r <;> cases e
    | nil =>
      cases r <;> try (cases e; done)
      rename_i b us ys nb hb hr
      by_cases hl : ds'.length + ys.length ≤ sizeLine
      · rw [show mExtend (.lst ds') [.lst ys] = some (.non, .lst (ds' ++ ys)) from if_pos hl] at e
        cases e
        exact ⟨a, b, vs, us, rfl, rfl, h1, hb, by rw [← h2.length, ← hr.length]; exact hl, k .non _ fun O' s => ⟨.lst upd_same ((h2.mono s).app (hr.mono s)), .non⟩⟩
      · rw [show mExtend (.lst ds') [.lst ys] = none from if_neg hl] at e
        cases e
theorem ev_extend {ds ys : List D} (h : ds.length + ys.length ≤ 16777216) : mExtend (.lst ds) [.lst ys] = some (.non, .lst (ds ++ ys)) := if_pos (by rw [sizeLine_eq]; exact h)
end
end Z

/-! Layer D3: sorted(xs) of data, with fewer than two things of any kind. -/
namespace Z
open PySem PySem.Spec PyProof.Rows L2
section
variable {X : Cx}
theorem perm_short {α : Type} : ∀ {a b : List α}, a.Perm b → b.length < 2 → a = b
  | a, [], h, _ => List.perm_nil.mp h
  | a, [b], h, _ => List.perm_singleton.mp h
  | _, _ :: _ :: _, _, h => absurd h (by simp)
def rSorted1 (K : PySem.W.Frag) : List V → Hp → VK → Prop := fun vs H Q => ∃ (a : Addr) (ys : List V), vs = [V.ref a] ∧ SqL K H a ys ∧ ys.length < 2 ∧ ∀ p, H p = none → Q (.ref p) (upd H p (.lst ys))
theorem cr_sorted1 : CallR X (.builtin "sorted") (rSorted1 X.K) := by
  intro pins s σ H vs us Q I r h
  obtain ⟨a, ys, rfl, hs, h2, q⟩ := h
  obtain ⟨its, rv, hl, hz⟩ := I.list hs
  rw [Vals.ref1 r]
  have hlen : ys.length = its.length := rv.length
  refine Srt.sorted_any hl.isList (by omega) (fun z => absurd z (by omega)) fun out hp => ?_
  have e := perm_short hp (by omega)
  subst e
  obtain ⟨ep, he'⟩ := PyProof.Rows.sortedAll_at s.heap out out.toArray
  exact ⟨.ref _, upd H (s.heap.objs.size + 1) (.lst ys), I.laid (t' := s.toks) (fun _ _ => PyProof.Rows.sortedAll_old) (Nat.le_succ _) ⟨hz, out, ep, rv, he'⟩, rfl, q _ (I.hok.fresh (Nat.le_succ _))⟩
def gSortedE : List D → Option D
  | [d] => (lstD d).bind fun ds => if ds.length < 2 then some (.lst ds) else gSortedD [d]
  | _ => none
theorem cn_sortedE (hu : X.A.units + 65 < cLine) : CallN X (.builtin "sorted") gSortedE := by
  obtain ⟨r, h1, h2⟩ := cn_sortedD (X := X) hu
  refine ⟨_, CallR.or cr_sorted1 h1, fun H O xs us z Q t hx e k => ?_⟩
  cases xs with
  | nil => cases e
  | cons d ds =>
    cases ds with
    | cons _ _ => cases e
    | nil =>
      obtain ⟨ds, e1, e2⟩ := bindS (show (lstD d).bind (fun ds => if ds.length < 2 then some (D.lst ds) else gSortedD [d]) = some z from e)
      split at e2
      · rename_i hl
        cases e2
        obtain ⟨v, rfl, r⟩ := hx.one
        obtain ⟨a, vs, rfl, h3, h4⟩ := lst_ok r e1
        exact .inl ⟨a, vs, rfl, h3, by rw [← h4.length]; exact hl, fun p hp => k p _ hp (own_lst (O := O) h4)⟩
      · exact .inr (h2 H O [d] us z Q t hx e2 k)
theorem ev_sortedE {ds : List D} : gSortedE [.lst ds] = if ds.length < 2 then some (.lst ds) else gSortedD [.lst ds] := rfl
end
end Z

/-! Layer S3: xs.extend(t) by a tuple. -/
namespace Z
open PySem PySem.Spec PyProof.Rows L2
section
variable {X : Cx}
theorem list_extend_tup (l : Addr) (items : Array Value) (n : Nat) (b : Addr) (items2 : Array Value) (ob : Obj) (n2 : Nat) (hc : ob.cls = .type "tuple") (hd : ob.data = .seq items2 n2) (hs0 : ¬(!items.isEmpty && Builtin.List.listTooLong (items.size + items2.size)) = true) (hs1 : items.size ≤ sizeLine) (hs2 : items.size + items2.size ≤ sizeLine) :
    Meets (Builtin.«list.extend» ⟨[.ref l, .ref b], []⟩) (fun _ R s => s.heap.get? l = some { cls := .type "list", dict := none, data := .seq items n, slots := #[] } ∧ s.heap.get? b = some ob ∧ R (.ok (.ret Value.none)) { s with heap := s.heap.update l (Obj.mapSeq fun x => x ++ items2), toks := s.toks }) :=
  .of_wp fun prog w A R s h => by
    obtain ⟨hl, hb, h⟩ := h
    have tt : (Value.type "tuple" == Value.type "tuple") = true := rfl
    show wpAny _ _ (Builtin.List.listExtendWith (.ref l) (.ref b) .none) _ _ _
    unfold Builtin.List.listExtendWith
    refine wpAny_bind (wpAny_typeOf (T := "tuple") ⟨ob, hb, hc⟩ ?_)
    rw [if_pos (by rw [tt, Bool.or_true])]
    refine wpAny_bind (listItems_at hb hd (wpAny_bind (listItems_at hl rfl ?_)))
    rw [if_neg hs0]
    refine wpAny_bind (listUpdate_at hl rfl (wpAny_pure ⟨_, rfl, h⟩) hs1 (by rw [Array.size_append]; omega))
def rExtendT : V → List V → Hp → VK → Prop := fun x vs H Q => ∃ l b xs zs, x = .ref l ∧ vs = [.ref b] ∧ H l = some (.lst xs) ∧ SqT X.K H b zs ∧ xs.length + zs.length ≤ sizeLine ∧ Q .non (upd H l (.lst (xs ++ zs)))
theorem mt_extendT : MtM X "list.extend" (rExtendT (X := X)) := by
  intro pins s σ H x vs v us Q I rx rv h
  obtain ⟨l, b, xs, zs, rfl, rfl, hH, hB, hz, q⟩ := h
  cases rx
  obtain ⟨u, rfl, ru⟩ := rv.one
  cases ru
  obtain ⟨z, its, n, r, hl, e⟩ := I.lstM hH
  obtain ⟨its2, r2, ht, hz2⟩ := I.tuple hB
  have hl2 := r2.length
  obtain ⟨ob, h1, h2, m, h3⟩ := id ht
  have hsz : its.toArray.size + its2.toArray.size ≤ sizeLine := by rw [List.size_toArray, List.size_toArray]; omega
  have hlong : ¬ (!its.toArray.isEmpty && Builtin.List.listTooLong (its.toArray.size + its2.toArray.size)) = true := by
    rw [notLongL hsz, Bool.and_false]
    exact Bool.false_ne_true
  refine call_meets F.slot_list_extend ⟨_, e, rfl⟩ F.entry_list_extend (F.args_list_extend_2 _ _)
    (list_extend_tup l its.toArray n b its2.toArray ob m h2 h3 hlong (by rw [List.size_toArray]; omega) (by omega)) ⟨e, h1, ?_⟩
  refine ⟨.non, _, I.lset (its' := its ++ its2) hH e (by simp) (r.append r2) ?_, rfl, q⟩
  rw [List.length_append]
  omega
def mExtendT : D → List D → Option (D × D)
  | .lst ds, [d] => (tupD d).bind fun ys => if ds.length + ys.length ≤ sizeLine then some (.non, .lst (ds ++ ys)) else none
  | _, _ => none
theorem md_extendT : MutD X "list.extend" mExtendT := by
  refine ⟨_, mt_extendT, fun H O a d ds us z Q ow r e k => ?_⟩
  cases ow <;> try (cases e; done)
  rename_i vs ds' h2 h1
  cases r with
  | nil => cases e
  | cons r t =>
    cases t with
    | cons _ _ => cases e
    | nil =>
      obtain ⟨ys, e1, e2⟩ := bindS (show (tupD _).bind (fun ys => if ds'.length + ys.length ≤ sizeLine then some (D.non, D.lst (ds' ++ ys)) else none) = some z from e)
      obtain ⟨b, us, rfl, hb, hr⟩ := tup_ok (.inl r) e1
      by_cases hl : ds'.length + ys.length ≤ sizeLine
      · rw [if_pos hl] at e2
        cases e2
        exact ⟨a, b, vs, us, rfl, rfl, h1, hb, by rw [← h2.length, ← hr.length]; exact hl, k .non _ fun O' s => ⟨.lst upd_same ((h2.mono s).app (hr.mono s)), .non⟩⟩
      · rw [if_neg hl] at e2
        cases e2
theorem ev_extendT {ds ys : List D} (h : ds.length + ys.length ≤ 16777216) : mExtendT (.lst ds) [.tup ys] = some (.non, .lst (ds ++ ys)) := by
  show (if ds.length + ys.length ≤ sizeLine then some (D.non, D.lst (ds ++ ys)) else none) = _
  exact if_pos (by rw [sizeLine_eq]; exact h)
end
end Z

/-! Layer V3: min(x) of a list of tuples of ints. -/
namespace Z
open PySem PySem.Spec PyProof.Rows L2
theorem readsAll_each {h : Heap} : ∀ {us : List Value} {ds : List PyData}, PySem.W.EachIs (fun v d => ∃ as, Reads h v d as) us ds → ∃ as, ReadsAll h us ds as
  | _, _, .nil => ⟨[], .nil⟩
  | _, _, .cons h t => by
    obtain ⟨as, r⟩ := h
    obtain ⟨bs, rs⟩ := readsAll_each t
    exact ⟨as ++ bs, .cons r rs⟩
theorem each_at {α β : Type} {R : α → β → Prop} : ∀ {us : List α} {bs : List β}, PySem.W.EachIs R us bs → ∀ (i : Nat) (u : α), us[i]? = some u → ∃ b, bs[i]? = some b ∧ R u b
  | _, _, .nil, i, u, h => by cases h
  | _, _, .cons h t, 0, u, e => by cases e; exact ⟨_, rfl, h⟩
  | _, _, .cons h t, i + 1, u, e => each_at t i u e
def isTI : D → Bool
  | .tup ds => ds.all fun d => match d with
    | .int _ => true
    | _ => false
  | _ => false
def tsI : List Int → D := fun l => .tup (l.map .int)
theorem isTI_eq {d : D} (h : isTI d = true) : ∃ l, d = tsI l := by
  cases d <;> try (cases h; done)
  rename_i ds
  have h : ∀ d ∈ ds, (match d with | .int _ => true | _ => false) = true := List.all_eq_true.mp h
  have key : ∀ ds : List D, (∀ d ∈ ds, (match d with | .int _ => true | _ => false) = true) → ∃ l : List Int, ds = l.map .int := fun ds => by
    induction ds with
    | nil => exact fun _ => ⟨[], rfl⟩
    | cons d ds ih =>
      intro h
      obtain ⟨l, rfl⟩ := ih fun x hx => h x (List.mem_cons_of_mem _ hx)
      have hd := h d List.mem_cons_self
      cases d <;> try (cases hd; done)
      rename_i i
      exact ⟨i :: l, rfl⟩
  obtain ⟨l, rfl⟩ := key ds h
  exact ⟨l, rfl⟩
theorem py_tsI (l : List Int) : py (tsI l) = .tuple (l.map .int) := by
  unfold tsI py
  rw [pyL_map, List.map_map]; rfl
theorem py_inj_tsI {a b : List Int} (h : py (tsI a) = py (tsI b)) : tsI a = tsI b := by
  rw [py_tsI, py_tsI] at h
  have h : a.map PyData.int = b.map PyData.int := by injection h
  rw [List.map_inj_right (fun x y e => by injection e) |>.mp h]
/-- the least by the order of data, the first one of these -/
def minTD (d : D) (ds : List D) : D := ds.foldl (fun a y => if PySem.W.dataLt (py y) (py a) = true then y else a) d
theorem py_minTD : ∀ (ds : List D) (d : D), py (minTD d ds) = PySem.W.minD (py d) (ds.map py)
  | [], d => rfl
  | e :: ds, d => by
    unfold minTD PySem.W.minD
    rw [List.foldl_cons, List.map_cons, List.foldl_cons]
    have := py_minTD ds (if PySem.W.dataLt (py e) (py d) = true then e else d)
    unfold minTD PySem.W.minD at this
    rw [this]
    congr 1
    split <;> rfl
theorem minTD_mem : ∀ (ds : List D) (d : D), minTD d ds ∈ d :: ds
  | [], d => List.mem_cons_self
  | e :: ds, d => by
    unfold minTD
    rw [List.foldl_cons]
    have := minTD_mem ds (if PySem.W.dataLt (py e) (py d) = true then e else d)
    unfold minTD at this
    rcases List.mem_cons.mp this with h | h
    · rw [h]
      split
      · exact List.mem_cons_of_mem _ List.mem_cons_self
      · exact List.mem_cons_self
    · exact List.mem_cons_of_mem _ (List.mem_cons_of_mem _ h)
def gMinT : List D → Option D
  | [.lst (d :: ds)] => if (d :: ds).all isTI = true then some (minTD d ds) else none
  | _ => none
section
variable {X : Cx}
def rMinT (K : PySem.W.Frag) : List V → Hp → VK → Prop := fun vs H Q => ∃ (a : Addr) (b : V × PyData) (bs : List (V × PyData)), vs = [V.ref a] ∧ SqL K H a ((b :: bs).map (·.1)) ∧ (∀ c ∈ b :: bs, Dp K H c.1 c.2) ∧ PySem.W.AlikeAll ((b :: bs).map (·.2)) ∧ PyData.depthAll ((b :: bs).map (·.2)) ≤ 60 ∧
  ∀ c ∈ b :: bs, c.2 = PySem.W.minD b.2 (bs.map (·.2)) → Q c.1 H
theorem cr_minT (hc : X.calm = true) (hu : X.A.units + 65 < cLine) : CallR X (.builtin "min") (rMinT X.K) := by
  intro pins s σ H vs us Q I r h
  obtain ⟨a, b, bs, rfl, hs, hx, hal, hd, q⟩ := h
  obtain ⟨its, rv, hl, hz⟩ := I.list hs
  rw [Vals.ref1 r]
  obtain ⟨e1, e2⟩ := each_vals (h := s.heap) I rv hx
  obtain ⟨as, hr⟩ := readsAll_each (PySem.W.each_map (R := fun v d => ∃ as, Reads s.heap v d as) (fun c : V × PyData => c.2) e2)
  have hr' : ReadsAll s.heap its.toArray.toList (b.2 :: bs.map (·.2)) as := by simpa using hr
  refine PySem.W.min_list_data (x := b.2) (xs := bs.map (·.2)) (I.ok.hd hc) hl.isList hr' (show PySem.W.AlikeAll (b.2 :: bs.map (·.2)) from hal) (by show X.A.units + 1 + PyData.depthAll ((b :: bs).map (·.2)) < cLine; omega) fun i v h' tk cs hi hv hk => ?_
  have hi : its[i]? = some v := by simpa using hi
  obtain ⟨c, hc1, hc2⟩ := each_at e1 i v hi
  obtain ⟨c', hc1', as2, hc3⟩ := each_at e2 i v hi
  rw [hc1] at hc1'
  cases hc1'
  have hm := List.mem_of_getElem? hc1
  have hk2 : Reads h' v c.2 as2 := PyProof.Rows.Reads.keeps hk hc3
  have hmm : PySem.W.minD b.2 (bs.map (·.2)) ∈ (b :: bs).map (·.2) := by
    have : ∀ (xs : List PyData) (x : PyData), PySem.W.minD x xs ∈ x :: xs := fun xs => by
      induction xs with
      | nil => intro x; exact List.mem_cons_self
      | cons y ys ih =>
        intro x
        unfold PySem.W.minD
        rw [List.foldl_cons]
        have := ih (if PySem.W.dataLt y x = true then y else x)
        unfold PySem.W.minD at this
        rcases List.mem_cons.mp this with h | h
        · rw [h]
          split
          · exact List.mem_cons_of_mem _ List.mem_cons_self
          · exact List.mem_cons_self
        · exact List.mem_cons_of_mem _ (List.mem_cons_of_mem _ h)
    exact this _ _
  have he := PySem.W.alike_unique _ _ _ _ _ (hal.1 _ (List.mem_map_of_mem hm) _ hmm) hk2 hv
  exact ⟨c.1, H, I.kept hk, hc2, q c hm he⟩
theorem ok_tsI (l : List Int) : ok 60 (tsI l) = true := by
  unfold tsI ok
  induction l with
  | nil => unfold okL; rfl
  | cons x l ih => rw [List.map_cons]; unfold okL; rw [ih]; rfl
theorem cd_minT (hc : X.calm = true) (hu : X.A.units + 65 < cLine) : CallD X (.builtin "min") gMinT := by
  refine ⟨_, cr_minT hc hu, fun H O xs us z Q t hx e k => ?_⟩
  cases xs with
  | nil => cases e
  | cons d0 ds0 =>
    cases ds0 with
    | cons _ _ => cases d0 <;> try (cases e; done)
                  rename_i ds
                  cases ds <;> cases e
    | nil =>
      obtain ⟨v, rfl, r⟩ := hx.one
      cases d0 <;> try (cases e; done)
      rename_i ds1
      cases ds1 with
      | nil => cases e
      | cons d ds =>
        have e : (if (d :: ds).all isTI = true then some (minTD d ds) else none) = some z := e
        split at e
        · rename_i hall
          cases e
          have hT : ∀ x ∈ d :: ds, ∃ l, x = tsI l := fun x hx => isTI_eq (List.all_eq_true.mp hall x hx)
          have hok : ∀ x ∈ d :: ds, ok 60 x = true := fun x hx => by
            obtain ⟨l, rfl⟩ := hT x hx
            exact ok_tsI l
          have hkey : ∀ L : List D, (∀ x ∈ L, ok 60 x = true) → okL 60 L = true := fun L => by
            induction L with
            | nil => intro _; unfold okL; rfl
            | cons x xs ih =>
              intro h
              unfold okL
              rw [h x List.mem_cons_self, ih fun y hy => h y (List.mem_cons_of_mem _ hy)]; rfl
          have hokL : okL 60 (d :: ds) = true := hkey _ hok
          obtain ⟨a, vs, rfl, h1, h2⟩ := lst_ok r (show lstD (.lst (d :: ds)) = some (d :: ds) from rfl)
          obtain ⟨cs, c1, c2, c3⟩ := repL_zip h2
          cases cs with
          | nil => cases c1
          | cons c cs =>
            obtain ⟨rfl, rfl⟩ := List.cons.inj (show c.1 :: cs.map (·.1) = d :: ds from c1)
            have b1 : (((c.2, py c.1) :: cs.map fun c => (c.2, py c.1)) : List (V × PyData)).map (·.1) = vs := by
              rw [← c2, List.map_cons, List.map_cons, List.map_map]; rfl
            have b2 : (cs.map fun c => ((c.2, py c.1) : V × PyData)).map (·.2) = (cs.map (·.1)).map py := by
              rw [List.map_map, List.map_map]; rfl
            refine ⟨a, (c.2, py c.1), cs.map fun c => (c.2, py c.1), rfl, by rw [b1]; exact h1, fun b hb => ?_, ?_, ?_, fun b hb hm => ?_⟩
            · obtain ⟨w, hw, rfl⟩ := List.mem_map.mp (show b ∈ (c :: cs).map fun c => ((c.2, py c.1) : V × PyData) from hb)
              exact (c3 w hw).dp (hok w.1 (by rw [← List.map_cons (f := fun x : D × V => x.1)]; exact List.mem_map_of_mem hw))
            · rw [List.map_cons, b2]
              have hpy : ∀ x ∈ py c.1 :: (cs.map (·.1)).map py, ∃ l : List Int, x = .tuple (l.map .int) := fun x hx => by
                obtain ⟨y, hy, rfl⟩ := List.mem_map.mp (show x ∈ (c.1 :: cs.map (·.1)).map py from hx)
                obtain ⟨l, rfl⟩ := hT y hy
                exact ⟨l, py_tsI l⟩
              refine ⟨fun x hx y hy => ?_, fun x hx => ?_⟩
              · obtain ⟨l, rfl⟩ := hpy x hx
                obtain ⟨m, rfl⟩ := hpy y hy
                simp only [PySem.W.alike]
                exact PySem.W.alike_ints _ _
              · obtain ⟨l, rfl⟩ := hpy x hx
                intro z
                cases z
            · rw [List.map_cons, b2]
              have := depth_okL hokL
              rw [pyL_map] at this
              exact this
            · obtain ⟨w, hw, rfl⟩ := List.mem_map.mp (show b ∈ (c :: cs).map fun c => ((c.2, py c.1) : V × PyData) from hb)
              have hwm : w.1 ∈ c.1 :: cs.map (·.1) := by rw [← List.map_cons (f := fun x : D × V => x.1)]; exact List.mem_map_of_mem hw
              have hm : py w.1 = PySem.W.minD (py c.1) ((cs.map fun c => ((c.2, py c.1) : V × PyData)).map (·.2)) := hm
              rw [b2, ← py_minTD] at hm
              obtain ⟨l, hl⟩ := hT w.1 hwm
              obtain ⟨m, hm2⟩ := hT _ (minTD_mem (cs.map (·.1)) c.1)
              rw [hl, hm2] at hm
              have := py_inj_tsI hm
              rw [← hl, ← hm2] at this
              have hr := c3 w hw
              rw [this] at hr
              exact k _ H (Same.refl H) hr
        · cases e
theorem dataLt_tsI (a b : List Int) : PySem.W.dataLt (py (tsI a)) (py (tsI b)) = decide (a < b) := by
  rw [py_tsI, py_tsI, PySem.W.dataLt_tuple]
  exact PySem.W.dataLt_ints _ _
theorem ev_minTD : ∀ (ls : List (List Int)) (l : List Int), ∃ m, minTD (tsI l) (ls.map tsI) = tsI m ∧ m ∈ l :: ls ∧ ∀ x ∈ l :: ls, ¬ x < m
  | [], l => ⟨l, rfl, List.mem_cons_self, fun x hx => by rw [List.mem_singleton.mp hx]; exact List.lt_irrefl l⟩
  | k :: ls, l => by
    obtain ⟨m, m1, m2, m3⟩ := ev_minTD ls (if k < l then k else l)
    have e : minTD (tsI l) ((k :: ls).map tsI) = minTD (tsI (if k < l then k else l)) (ls.map tsI) := by
      unfold minTD
      rw [List.map_cons, List.foldl_cons, dataLt_tsI]
      congr 1
      by_cases h : k < l
      · rw [if_pos (decide_eq_true h), if_pos h]
      · rw [if_neg (by rw [decide_eq_true_eq]; exact h), if_neg h]
    refine ⟨m, by rw [e, m1], ?_, fun x hx => ?_⟩
    · rcases List.mem_cons.mp m2 with h | h
      · rw [h]
        split
        · exact List.mem_cons_of_mem _ List.mem_cons_self
        · exact List.mem_cons_self
      · exact List.mem_cons_of_mem _ (List.mem_cons_of_mem _ h)
    · have h0 := m3 _ List.mem_cons_self
      by_cases h : k < l
      · rw [if_pos h] at h0
        rcases List.mem_cons.mp hx with rfl | hx
        · exact fun z => h0 (List.lt_trans h z)
        · rcases List.mem_cons.mp hx with rfl | hx
          · exact h0
          · exact m3 x (List.mem_cons_of_mem _ hx)
      · rw [if_neg h] at h0
        rcases List.mem_cons.mp hx with rfl | hx
        · exact h0
        · rcases List.mem_cons.mp hx with rfl | hx
          · intro z
            rcases Classical.em (x = l) with e | e
            · rw [e] at z; exact h0 z
            · rcases Classical.em (l < x) with q | q
              · exact h0 (List.lt_trans q z)
              · exact e (List.le_antisymm (as := x) (bs := l) q h)
          · exact m3 x (List.mem_cons_of_mem _ hx)
theorem ev_minT {l : List Int} {ls : List (List Int)} : ∃ m, gMinT [.lst ((l :: ls).map tsI)] = some (tsI m) ∧ m ∈ l :: ls ∧ ∀ x ∈ l :: ls, ¬ x < m := by
  obtain ⟨m, m1, m2, m3⟩ := ev_minTD ls l
  refine ⟨m, ?_, m2, m3⟩
  show (if (tsI l :: ls.map tsI).all isTI = true then some (minTD (tsI l) (ls.map tsI)) else none) = _
  rw [if_pos, m1]
  rw [List.all_eq_true]
  intro d hd
  obtain ⟨x, _, rfl⟩ := List.mem_map.mp (show d ∈ (l :: ls).map tsI from hd)
  show (x.map D.int).all _ = true
  rw [List.all_map, List.all_eq_true]
  exact fun _ _ => rfl
end
end Z

/-! Layer W3: zip of two tuples of either kind. -/
namespace Z
open PySem PySem.Spec PyProof.Rows L2
section
variable {X : Cx} {C : Ctx} {ds : List D} {e : Expr} {f : SE} {p pos tpos : Pos} {elts : List Expr} {kk : Nat}
/-- a tuple of either kind -/
def TuOk (K : PySem.W.Frag) (H : Hp) (O : Ad) (a : Addr) (vs : List V) : Prop := (¬ O a ∧ H a = some (.tup vs)) ∨ KtOk K H O a vs
theorem TuOk.sq {K : PySem.W.Frag} {H : Hp} {O : Ad} {a : Addr} {vs : List V} : TuOk K H O a vs → SqT K H a vs
  | .inl h => .of h.2
  | .inr h => kt_sq h
theorem TuOk.mono {K : PySem.W.Frag} {H H' : Hp} {O O' : Ad} {a : Addr} {vs : List V} (s : Step H O H' O') : TuOk K H O a vs → TuOk K H' O' a vs
  | .inl h => .inl ⟨s.nO h.1 h.2, s.keep _ _ h.1 h.2⟩
  | .inr h => .inr (h.mono s)
def tuD : D → Option (List D)
  | .tup xs => some xs
  | .kt xs => some xs
  | _ => none
theorem tuD_rep {K : PySem.W.Frag} {H : Hp} {O : Ad} {d : D} {v : V} {xs : List D} (h : tuD d = some xs) (r : Rep K H O d v) : ∃ a vs, v = .ref a ∧ TuOk K H O a vs ∧ RepL K H O xs vs := by
  cases d <;> try (cases h; done)
  · cases h
    cases r with
    | @tup a vs _ n h rl => exact ⟨a, vs, rfl, .inl ⟨n, h⟩, rl⟩
  · cases h
    cases r with
    | @kt a vs _ h rl => exact ⟨a, vs, rfl, .inr h, rl⟩
def zipK (x y : D) : Option (List D) := (tuD x).bind fun xs => (tuD y).bind fun ys => some (zipD xs ys)
def iZipK (p q : SE) : SI := fun env => (p env).bind fun r => (q r.2).bind fun s => (zipK r.1 s.1).bind fun ds => some (ds, none, s.2)
theorem it_zipM {xs ys : List D} {a b : Addr} {vs ws : List V} : ItD X.K C (RZ.ItzT X.K a b) (fun H O => (TuOk X.K H O a vs ∧ RepL X.K H O xs vs) ∧ (TuOk X.K H O b ws ∧ RepL X.K H O ys ws)) (zipD xs ys) where
  keep := fun H O H' O' ⟨⟨h, r⟩, h', r'⟩ s _ => ⟨⟨h.mono s, r.mono s⟩, h'.mono s, r'.mono s⟩
  go := fun i H O ⟨⟨h, r⟩, h', r'⟩ hi => by
    rw [zipD_len] at hi
    obtain ⟨v, h1, h2⟩ := r.get (List.getElem?_eq_getElem (show i < xs.length by omega))
    obtain ⟨v', h1', h2'⟩ := r'.get (List.getElem?_eq_getElem (show i < ys.length by omega))
    exact ⟨vs, ws, v, v', h.sq, h'.sq, h1, h1'⟩
  yld := fun i H O x H' ⟨⟨h, r⟩, h', r'⟩ t hi y => by
    obtain ⟨T, x, x', rfl, hT, rfl, y, y'⟩ := y
    obtain ⟨d, h1, h2⟩ := r.getV (y vs h.sq)
    obtain ⟨d', h1', h2'⟩ := r'.getV (y' ws h'.sq)
    exact ⟨upd_ext hT, _, zipD_get h1 h1', new_tup t hT (.cons h2 (.cons h2' .nil))⟩
  stop := fun H O ⟨⟨h, r⟩, h', r'⟩ => ⟨vs, ws, h.sq, h'.sq, by rw [zipD_len, ← r.length, ← r'.length]; omega⟩
theorem di_zipK {b : Expr} {g : SE} (hg : Gl X "zip") (hm : X.mg "zip" = none) (ha : DE X e f) (hb : DE X b g) (hs : starEach [e, b] X.env = (false, eval e X.env) :: starEach [b] X.env) (hs2 : starEach [b] X.env = [(false, eval b X.env)]) (hpl : (backTo pos (starEach [b] X.env)).any (·.1) = false) :
    DI X (.Tuple elts kk tpos) (.Call (.Name "zip" p) [e, b] [] pos) (iZipK f g) := by
  have hA : DA X [e, b] (aC (qV f) (aC (qV g) aN)) := da_cons (dq_val ha) (da_cons (dq_val hb) da_nil hs2) hs
  refine ⟨wkI (RZ.pi_zipA hg hm hA.pa hs hpl) fun σ H R ⟨C, O, env, E, r, e, k⟩ => ?_⟩
  obtain ⟨r1, e1, e2⟩ := bindS e
  obtain ⟨r2, e5, e6⟩ := bindS e2
  obtain ⟨ds, e3, e4⟩ := bindS e6
  cases e4
  have e7 : (aC (qV f) (aC (qV g) aN)) env = some ([.val r1.1, .val r2.1], r2.2) := by
    have h1 : qV f env = some (.val r1.1, r1.2) := by unfold qV; rw [e1]; rfl
    have h2 : qV g r1.2 = some (.val r2.1, r2.2) := by unfold qV; rw [e5]; rfl
    have h3 : aC (qV g) aN r1.2 = some ([.val r2.1], r2.2) := by unfold aC; rw [h2]; rfl
    show (qV f env).bind _ = _
    rw [h1]
    show (aC (qV g) aN r1.2).bind _ = _
    rw [h3]
    rfl
  refine ⟨C, O, env, E, _, e7, fun vs H' O' s E' p => ?_⟩
  cases p with
  | cons p1 p2 =>
    cases p2 with
    | cons p2 p3 =>
      cases p3
      obtain ⟨xs, x1, x2⟩ := bindS e3
      obtain ⟨ys, y1, y2⟩ := bindS x2
      cases y2
      obtain ⟨a, vs, rfl, h, rl⟩ := tuD_rep x1 (show Rep X.K H' O' r1.1 _ from p1)
      obtain ⟨b, ws, rfl, h', rl'⟩ := tuD_rep y1 (show Rep X.K H' O' r2.1 _ from p2)
      exact ⟨_, _, _, _, rfl, .inr ⟨h.sq, h'.sq, k _ H' O' _ C s E' back_none (it_zipM (a := a) (vs := vs) (b := b) (ws := ws)) ⟨⟨h, rl⟩, h', rl'⟩⟩⟩
theorem ev_iZipK {g : SE} {s : Slot} {e : Ev} : iZipK f g (s :: e) = (f (s :: e)).bind fun r => (g r.2).bind fun s => (zipK r.1 s.1).bind fun ds => some (ds, none, s.2) := rfl
theorem ev_zipK {x y : D} {xs ys : List D} (h : tuD x = some xs) (h' : tuD y = some ys) : zipK x y = some (zipD xs ys) := by unfold zipK; rw [h, h']; rfl
end
end Z

/-! Layer X3: sorted(set(list of ints)). -/
namespace Z
open PySem PySem.Spec PyProof.Rows L2
section
variable {P : Program} {w : World} {A : Around} {E : Value → Shared → Prop} {s : Shared}
abbrev newSet (w : World) : Obj := { cls := .type "set", dict := none, data := .set #[] 0 (.fresh 0 0 (!w.params.followText "set-order")) }
/-- a class called: its new, then its init -/
theorem call_new_init {T newId initId : String} {args : List Value} {Q Q₁ : Value → Shared → Prop} (ft : TypeCalled T newId initId) (hct : checkTypeCall T ⟨args, []⟩ = pure ())
    (hnew : codeAny (model P w) A.in1 (.call (.builtin newId) ⟨.type T :: args, []⟩) (wants Q₁ E) s)
    (hini : ∀ ob q, Q₁ ob q → q.TypeIs ob T ∧ codeAny (model P w) A.in1 (.call (.builtin initId) ⟨ob :: args, []⟩) (wants (fun r q2 => r = .none ∧ Q ob q2) E) q) :
    wpAny (model P w) A (call (.type T) args) Q E s := by
  obtain ⟨c, tl, hmro⟩ := ft.mro
  have hmade := ft.made
  have hsub := ft.sub
  have h1 := ft.notType
  have h2 := ft.canCreate
  refine wpAny_call (codeAny_of_tree ?_)
  refine wpAny_pure (a := _) ⟨Code.quiet_builtin _ (by decide +kernel), codeAny_builtin F.entry_type_call ?_⟩
  rw [Around.under_plain (weight_type_call_type T args []) rfl]
  repeat (any_goals (first | assumption | wp_step))
  refine codeAny_mono hnew fun r q hr => ?_
  cases r with
  | error e => exact hr
  | ok fl =>
    cases fl with
    | ret ob =>
      obtain ⟨hT, hi⟩ := hini _ _ hr
      have hli := ft.init.lookup
      have hbi := ft.init.bind ob
      repeat (any_goals (first | assumption | wp_step))
      refine codeAny_mono hi fun r2 q2 h2 => ?_
      cases r2 with
      | error e => exact h2
      | ok fl2 =>
        cases fl2 with
        | ret r =>
          obtain ⟨rfl, hq⟩ := h2
          repeat (any_goals (first | assumption | wp_step))
        | _ => exact h2.elim
    | _ => exact hr.elim
set_option maxHeartbeats 3200000 in
theorem set_of_list {l : Addr} {items : Array Value} (ns : List Int) {Q : Value → Shared → Prop} (hh : A.handled = none) (hl : s.heap.IsList l items) (hit : IntsAre items.toList ns) (hb : ns.length + 1 < scanBound)
    (h : ∀ (h' : Heap) (tk c : Nat), SetR w h' s.heap.objs.size (fun j => decide (j ∈ ns)) c → c ≤ ns.length → (∀ b o, s.heap.get? b = some o → h'.get? b = some o) → Q (.ref s.heap.objs.size) { s with heap := h', toks := tk }) :
    wpAny (model P w) A (call (.type "set") [.ref l]) Q E s := by
  have hsz : items.size = ns.length := by rw [← Array.length_toList]; exact IntsAre.length hit
  refine call_new_init (Q₁ := fun ob q => ob = .ref s.heap.objs.size ∧ q = { s with heap := s.heap.push (newSet w) }) F.called_set (F.typeCall_set_1 _) (code_set_led1 _ ⟨rfl, rfl⟩) fun ob q hq => ?_
  obtain ⟨rfl, rfl⟩ := hq
  have hS : (s.heap.push (newSet w)).get? s.heap.objs.size = some (newSet w) := Heap.get?_push_size _ rfl
  have hT : Shared.TypeIs { s with heap := s.heap.push (newSet w) } (.ref s.heap.objs.size) "set" := ⟨_, hS, rfl⟩
  refine ⟨hT, codeAny_call_builtin F.called_set.init.plain F.entry_set_init (check_set_init_1 hT ?_)⟩
  obtain ⟨⟨oc, od, odt, osl⟩, hol, hcl, nl, hdl⟩ := hl
  simp only at hcl hdl
  subst hcl; subst hdl
  have hL : (s.heap.push (newSet w)).get? l = some { cls := .type "list", dict := od, data := .seq items nl, slots := osl } := Heap.get?_push_of_some _ hol
  have hLl : (s.heap.push (newSet w)).IsList l items := ⟨_, hL, rfl, nl, rfl⟩
  have f1 := F.sub_list_set
  have f2 := F.sub_list_frozenset
  have f3 : (Value.type "list" == Value.type "dict") = false := by decide
  unfold Builtin.«set.__init__» noKeywords Builtin.Frozenset.updateFrom
  generalize hPI : pyIter = PI
  wp_walk
  subst hPI
  refine wpAny_pyIter_list hLl ?_
  refine wpAny_bind (wpAny_runValue ?_)
  have lt := Heap.lt_size hol
  have z1 : (s.heap.push (newSet w)).objs.size = s.heap.objs.size + 1 := Heap.size_push ..
  have n1 : l ≠ (s.heap.push (newSet w)).objs.size := by rw [z1]; exact Nat.ne_of_lt (Nat.lt_succ_of_lt lt)
  have n2 : s.heap.objs.size ∉ [(s.heap.push (newSet w)).objs.size, l] := by
    simp only [List.mem_cons, List.not_mem_nil, or_false, not_or]
    exact ⟨by rw [z1]; exact Nat.ne_of_lt (Nat.lt_succ_self _), Nat.ne_of_gt lt⟩
  have hv : ∀ (i : Nat) (v : Value), items[i]? = some v → ∃ k t, ns[i]? = some k ∧ v = .int k t := fun i v hi => by
    obtain ⟨t, e⟩ := PyProof.Rows.IntsAre.int_at hit i v (by rw [Array.getElem?_toList]; exact hi)
    have hi2 : i < ns.length := by rw [← hsz]; exact (Array.getElem?_eq_some_iff.mp hi).1
    exact ⟨ns[i], t, List.getElem?_eq_getElem hi2, by rw [e, List.getD_eq_getElem?_getD, List.getElem?_eq_getElem hi2] <;> rfl⟩
  refine set_update_ints ((Walks.list (by simp [hh]) _ l n1 items).toS) s.heap.objs.size n2 ns hsz hb hv (items.size - 0) 0 _ (by omega) (Nat.zero_le _) ⟨⟨_, Heap.get?_push_size _ rfl, rfl, rfl⟩, hLl.push _⟩ ⟨0, Nat.le_refl 0, setR_new_at (Heap.get?_push_of_some _ hS)⟩ fun q c hm hc hR => ?_
  obtain ⟨h', g2, d', tk', os'⟩ := q
  have e1 : g2 = s.gens := hm.gens
  have e2 : d' = s.drawn := hm.drawn
  have e3 : os' = s.os := hm.os
  subst e1; subst e2; subst e3
  refine wpAny_pure (a := _) ?_
  refine wpAny_pure (a := _) ⟨rfl, h h' tk' c hR (by rw [← hsz]; exact hc) fun b o e => ?_⟩
  have lb := Heap.lt_size e
  exact hm.heap b o (by
    simp only [List.mem_cons, List.not_mem_nil, or_false, not_or]
    exact ⟨Nat.ne_of_lt lb, by rw [z1]; exact Nat.ne_of_lt (Nat.lt_succ_of_lt lb)⟩) (Heap.get?_push_of_some _ (Heap.get?_push_of_some _ e))
end
section
variable {X : Cx}
/-- each once -/
def ddI : List Int → List Int
  | [] => []
  | x :: l => if x ∈ l then ddI l else x :: ddI l
theorem mem_ddI {k : Int} : ∀ {l : List Int}, k ∈ ddI l ↔ k ∈ l
  | [] => Iff.rfl
  | x :: l => by
    unfold ddI
    by_cases h : x ∈ l
    · rw [if_pos h, mem_ddI, List.mem_cons]
      exact ⟨.inr, fun q => q.elim (fun e => e ▸ h) id⟩
    · rw [if_neg h, List.mem_cons, List.mem_cons, mem_ddI]
theorem ddI_nodup : ∀ {l : List Int}, (ddI l).Nodup
  | [] => List.nodup_nil
  | x :: l => by
    unfold ddI
    by_cases h : x ∈ l
    · rw [if_pos h]; exact ddI_nodup
    · rw [if_neg h, List.nodup_cons]
      exact ⟨fun q => h (mem_ddI.mp q), ddI_nodup⟩
theorem setR_count {w : World} {h : Heap} {a : Addr} {ns : List Int} {n : Nat} (R : SetR w h a (fun j => decide (j ∈ ns)) n) : n = (ddI ns).length := by
  obtain ⟨o, es, ep, t, ho, hex, hd, g, nd, hm, hb, hf, hn, hr, hl⟩ := R
  have p := (List.perm_ext_iff_of_nodup nd ddI_nodup).mpr fun k => by rw [← hm k, mem_ddI, decide_eq_true_eq]
  rw [← p.length_eq, List.length_map, Array.length_toList, hn]
/-- set(xs), a list of ints -/
def rSetL (K : PySem.W.Frag) (w : World) : List V → Hp → VK → Prop := fun vs H Q => ∃ (a : Addr) (ns : List Int), vs = [V.ref a] ∧ SqL K H a (ns.map V.int) ∧ ns.length ≤ 1000 ∧
  ∀ (p : Addr) (n : Nat), n = (ddI ns).length → H p = none → Q (.ref p) (upd H p (SetO w p (fun j => decide (j ∈ ns)) n))
theorem cr_setL (hc : X.calm = true) : CallR X (.type "set") (rSetL X.K X.w) := by
  intro pins s σ H vs us Q I r h
  obtain ⟨a, ns, rfl, ha, h64, q⟩ := h
  rw [Vals.ref1 r]
  obtain ⟨its, rv, pl, hz⟩ := I.list ha
  have hi : IntsAre its.toArray.toList ns := ints_of_vals rv
  refine set_of_list ns (I.ok.hd hc) pl.isList hi (by unfold scanBound; omega) fun h' tk c R hcn k => ?_
  exact ⟨.ref _, upd H s.heap.objs.size (SetO X.w s.heap.objs.size (fun j => decide (j ∈ ns)) c), I.laid (t' := tk) k (Nat.le_refl _) (setO_new R), rfl, q _ c (setR_count R) (I.hok.fresh (Nat.le_refl _))⟩
theorem sortSet_eq {ns ms : List Int} (h : ms.Pairwise (· < ·)) (hm : ∀ k : Int, k ∈ ms ↔ k ∈ ns) : ms = sortI (ddI ns) := by
  refine sortI_eq ?_ (h.imp fun q => Int.le_of_lt q)
  exact (List.perm_ext_iff_of_nodup (h.imp fun q => Int.ne_of_lt q) ddI_nodup).mpr fun k => by rw [hm, mem_ddI]
def gSortSet (d : D) : Option D := (lstD d).bind fun ds => (intsOf ds).bind fun ns => if ns.length ≤ 1000 ∧ (ddI ns).length < 64 then some (.lst ((sortI (ddI ns)).map .int)) else none
theorem df_sortSet {e : Expr} {q : SQ} {p p2 pos pos2 : Pos} (hc : X.calm = true) (hg : Gl X "sorted") (hm : X.mg "sorted" = none) (hg2 : Gl X "set") (hm2 : X.mg "set" = none) (ha : DQ X e q)
    (hs : starEach [e] X.env = (false, eval e X.env) :: starEach [] X.env) (hs2 : starEach [Expr.Call (.Name "set" p2) [e] [] pos2] X.env = (false, eval (Expr.Call (.Name "set" p2) [e] [] pos2) X.env) :: starEach [] X.env) :
    DF X (.Call (.Name "sorted" p) [.Call (.Name "set" p2) [e] [] pos2] [] pos) (eOp1 gSortSet q) := by
  have hA : DA X [e] (aC q aN) := da_cons ha da_nil hs
  refine ⟨wkE (pe_callB (cr_sortedSet hc) hg hm (by decide +kernel) (pa_cons (pe_callTy (cr_setL hc) hg2 hm2 (by decide +kernel) hA.pa (by decide) (by decide) hs (by rfl)) pa_nil hs2) (by decide) (by decide) hs2 (by rfl)) fun σ H Q ⟨C, O, env, E, z, e1, k⟩ => ?_⟩
  obtain ⟨r1, e2, e3⟩ := bindS e1
  obtain ⟨x, e4, e5⟩ := bindS e3
  obtain ⟨z1, e6, e7⟩ := bindS e5
  cases e7
  have e8 : (aC q aN) env = some ([r1.1], r1.2) := by
    unfold aC
    rw [e2]; rfl
  refine ⟨C, O, env, E, _, e8, fun vs H1 O1 s1 E1 pp => ?_⟩
  cases pp with
  | cons p1 p3 =>
    cases p3
    obtain ⟨ds, d1, d2⟩ := bindS (show (lstD x).bind (fun ds => (intsOf ds).bind fun ns => if ns.length ≤ 1000 ∧ (ddI ns).length < 64 then some (D.lst ((sortI (ddI ns)).map .int)) else none) = some z1 from e6)
    obtain ⟨ns, d3, d4⟩ := bindS d2
    split at d4
    · rename_i h64
      cases d4
      obtain ⟨a, ws, rfl, h1, h2⟩ := lst_ok (E1.getP e4 p1) d1
      rw [intsOf_eq d3] at h2
      rw [h2.intsV] at h1
      refine ⟨a, ns, rfl, h1, h64.1, fun p n hn hp => ?_⟩
      refine ⟨p, _, n, rfl, upd_same, by rw [hn]; exact h64.2, fun ms p' m1 m2 m3 hp' => ?_⟩
      have ex := upd_ext (o := SetO X.w p (fun j => decide (j ∈ ns)) n) hp
      have E2 := E1.ext ex
      rw [sortSet_eq (ns := ns) m1 fun k => (m2 k).trans decide_eq_true_iff]
      obtain ⟨s3, E3, L⟩ := E2.new hp' (own_lst (RepL.ints _))
      exact k p' _ _ ((s1.trans (.ext ex)).trans s3) E3 L
    · cases d4
theorem dd_le {l : List Int} : (ddI l).length ≤ l.length := by
  induction l with
  | nil => exact Nat.le_refl _
  | cons x l ih =>
    unfold ddI
    split
    · rw [List.length_cons]; omega
    · rw [List.length_cons, List.length_cons]; omega
theorem ev_sortSet2 {ns : List Int} (h : ns.length ≤ 1000) (h2 : (ddI ns).length < 64) : gSortSet (.lst (ns.map D.int)) = some (.lst ((sortI (ddI ns)).map .int)) := by
  show (intsOf (ns.map D.int)).bind _ = _
  rw [intsOf_map, Option.bind_some, if_pos ⟨h, h2⟩]
theorem ev_sortSet {ns : List Int} (h : ns.length < 64) : gSortSet (.lst (ns.map D.int)) = some (.lst ((sortI (ddI ns)).map .int)) := ev_sortSet2 (by omega) (Nat.lt_of_le_of_lt dd_le h)
end
end Z

/-! Layer Y3: name += e, ints. -/
namespace Z
open PySem PySem.Spec PyProof.Rows L2
section
variable {X : Cx} {e : Expr} {f : SE} {pos : Pos}
def sAug (i : Nat) (f : SE) : SS := fun env => match env[i]? with
  | some (.fz (.int a)) => (f env).bind fun r => (asI r.1).bind fun b => (putFz r.2 i (.int (a + b))).bind fun e => some (.nx e)
  | _ => none
theorem ds_aug (i : Nat) {x : Str} {p : Pos} (hN : X.N.Nodup) (hi : X.N[i]? = some x) (hx : Loc X.env.scope x) (h : DE X e f) (hf : X.fn x = true ∨ X.env.scope.names.lookup x = some .local) :
    DS X (.AugAssign (.Name x p) .Add e pos) (sAug i f) := by
  refine ⟨wkS (ps_aug hN hi hx h.pe ip_add hf) fun D σ H ⟨C, O, env, E, o, e, k⟩ => ?_⟩
  unfold sAug at e
  split at e
  · rename_i a ha
    obtain ⟨r1, e1, e2⟩ := bindS e
    obtain ⟨b, e3, e4⟩ := bindS e2
    obtain ⟨e', e5, e6⟩ := bindS e4
    cases e6
    obtain ⟨v, v1, v2⟩ := E.fz i _ ha
    cases v2
    refine ⟨.int a, v1, C, O, env, E, r1, e1, fun w H1 O1 s1 E1 p => ?_⟩
    rw [asI_some e3] at p
    cases p
    refine ⟨a, b, rfl, rfl, ?_⟩
    unfold putFz at e5
    split at e5
    · rename_i hfr
      cases e5
      exact k _ H1 O1 s1 (E1.setFz (free_ok hfr) (.int _))
    · cases e5
  · cases e
theorem ev_sAug {i : Nat} {env : Ev} {a : Int} (h : env[i]? = some (.fz (.int a))) : sAug i f env = (f env).bind fun r => (asI r.1).bind fun b => (putFz r.2 i (.int (a + b))).bind fun e => some (.nx e) := by
  unfold sAug
  rw [h]
theorem ev_sAug1 {s0 : Slot} {a : Int} {e : Ev} : sAug 1 f (s0 :: .fz (.int a) :: e) = (f (s0 :: .fz (.int a) :: e)).bind fun r => (asI r.1).bind fun b => (putFz r.2 1 (.int (a + b))).bind fun e => some (.nx e) := ev_sAug rfl
theorem ev_sAug2 {s0 s1 : Slot} {a : Int} {e : Ev} : sAug 2 f (s0 :: s1 :: .fz (.int a) :: e) = (f (s0 :: s1 :: .fz (.int a) :: e)).bind fun r => (asI r.1).bind fun b => (putFz r.2 2 (.int (a + b))).bind fun e => some (.nx e) := ev_sAug rfl
theorem ev_sAug3 {s0 s1 s2 : Slot} {a : Int} {e : Ev} : sAug 3 f (s0 :: s1 :: s2 :: .fz (.int a) :: e) = (f (s0 :: s1 :: s2 :: .fz (.int a) :: e)).bind fun r => (asI r.1).bind fun b => (putFz r.2 3 (.int (a + b))).bind fun e => some (.nx e) := ev_sAug rfl
end
end Z

/-! Layer Z3: zip of three tuples. -/
namespace Z
open PySem PySem.Spec PyProof.Rows L2
theorem sep3 {n a b c : Nat} (ha : a < n) (hb : b < n) (hc : c < n) : ZipSep3 (n + 5) (n + 3) (n + 4) n (n + 1) (n + 2) [n, a] [n + 1, b] [n + 2, c] := by
  constructor <;> first | (show (_ : Nat) ≠ _; omega) | exact List.mem_cons_self | (simp only [List.mem_cons, List.not_mem_nil, or_false, not_or]; constructor <;> (show ¬ (_ : Nat) = _; omega))
/-- three tuples as they stand at each turn, the things in new triples -/
def Itz3 (K : PySem.W.Frag) (a b c : Addr) : It :=
  ⟨fun i H => ∃ (xs ys ws : List V) (x y w : V), SqT K H a xs ∧ SqT K H b ys ∧ SqT K H c ws ∧ xs[i]? = some x ∧ ys[i]? = some y ∧ ws[i]? = some w,
    fun i H v H' => ∃ T x y w, v = .ref T ∧ H T = none ∧ H' = upd H T (.tup [x, y, w]) ∧ (∀ l, SqT K H a l → l[i]? = some x) ∧ (∀ l, SqT K H b l → l[i]? = some y) ∧ ∀ l, SqT K H c l → l[i]? = some w,
    fun i H => ∃ xs ys ws : List V, SqT K H a xs ∧ SqT K H b ys ∧ SqT K H c ws ∧ (i ≤ xs.length ∧ i ≤ ys.length ∧ i ≤ ws.length) ∧ (i = xs.length ∨ i = ys.length ∨ i = ws.length)⟩
theorem turn_zip3 {P : Program} {w : World} {K : PySem.W.Frag} {elts : List Expr} {kk : Nat} {tpos : Pos} {n a b c : Nat} (ha : a < n) (hb : b < n) (hc : c < n) :
    Turn P w K (.Tuple elts kk tpos) (Itz3 K a b c) [n + 5, n + 3, n + 4, n, n + 1, n + 2] (n + 5) (fun i h => IsZip h (n + 5) (n + 3) (n + 4) .none ∧ IsTupOf3 h (n + 3) (.ref n) (.ref (n + 1)) (.ref (n + 2)) ∧ (∃ x y w, IsTupOf3 h (n + 4) x y w) ∧ h.IsTupleIter n a i ∧ h.IsTupleIter (n + 1) b i ∧ h.IsTupleIter (n + 2) c i) where
  mem := List.mem_cons_self
  obj := fun i h st q hq => by
    obtain ⟨hz, hI, ⟨x, y, w, hO⟩, ⟨o1, e1, _, d1⟩, ⟨o2, e2, _, d2⟩, ⟨o3, e3, _, d3⟩⟩ := st
    simp only [List.mem_cons, List.not_mem_nil, or_false] at hq
    rcases hq with rfl | rfl | rfl | rfl | rfl | rfl
    · exact ⟨_, hz, fun v q => nomatch q⟩
    · exact ⟨_, hI, fun v q => nomatch q⟩
    · exact ⟨_, hO, fun v q => nomatch q⟩
    · exact ⟨o1, e1, fun v q => by rw [d1] at q; cases q⟩
    · exact ⟨o2, e2, fun v q => by rw [d2] at q; cases q⟩
    · exact ⟨o3, e3, fun v q => by rw [d3] at q; cases q⟩
  keep := fun i h h' st k => by
    obtain ⟨hz, hI, ⟨x, y, w, hO⟩, h1, h2, h3⟩ := st
    exact ⟨k _ (by simp) _ hz, k _ (by simp) _ hI, ⟨x, y, w, k _ (by simp) _ hO⟩, h1.at fun o q => k _ (by simp) o q, h2.at fun o q => k _ (by simp) o q, h3.at fun o q => k _ (by simp) o q⟩
  item := by
    intro X hP hw hK hcalm i pins s σ H E I hf st hg
    subst hP hw hK
    obtain ⟨hz, hI, ⟨x0, y0, w0, hO⟩, h1, h2, h3⟩ := st
    obtain ⟨xs, ys, ws, x, y, v, qx, qy, qw, hx, hy, hv⟩ := hg
    obtain ⟨t1, r1, p1, _⟩ := I.tuple qx
    obtain ⟨t2, r2, p2, _⟩ := I.tuple qy
    obtain ⟨t3, r3, p3, _⟩ := I.tuple qw
    obtain ⟨u1, m1, k1⟩ := r1.get hx
    obtain ⟨u2, m2, k2⟩ := r2.get hy
    obtain ⟨u3, m3, k3⟩ := r3.get hv
    have S := sep3 ha hb hc
    have hd := I.ok.hd hcalm
    have lz : n + 5 < s.heap.objs.size := Heap.lt_size hz
    have len1 := (List.getElem?_eq_some_iff.mp m1).1
    have len2 := (List.getElem?_eq_some_iff.mp m2).1
    have len3 := (List.getElem?_eq_some_iff.mp m3).1
    refine wpAny_pyNext_zipD3_item S (Draws.tuple (by simpa using hd) n a (Nat.ne_of_lt ha) t1.toArray) (Draws.tuple (by simpa using hd) (n + 1) b (Nat.ne_of_lt (Nat.lt_succ_of_lt hb)) t2.toArray) (Draws.tuple (by simpa using hd) (n + 2) c (Nat.ne_of_lt (Nat.lt_succ_of_lt (Nat.lt_succ_of_lt hc))) t3.toArray)
      hz hI hO ⟨h1, p1⟩ ⟨h2, p2⟩ ⟨h3, p3⟩ (by simpa using len1) (by simpa using len2) (by simpa using len3) fun z1 z2 z3 h' tk e1 e2 e3 b1 b2 d1 d2 d3 b5 b6 hk => ?_
    have e1 : z1 = u1 := by
      have : t1[i]? = some z1 := by simpa using e1
      rw [m1] at this
      exact (Option.some.inj this).symm
    have e2 : z2 = u2 := by
      have : t2[i]? = some z2 := by simpa using e2
      rw [m2] at this
      exact (Option.some.inj this).symm
    have e3 : z3 = u3 := by
      have : t3[i]? = some z3 := by simpa using e3
      rw [m3] at this
      exact (Option.some.inj this).symm
    subst e1; subst e2; subst e3
    refine ⟨_, rfl, wpAny_letOwnedTupleGo_zip (s := { s with heap := h', toks := tk }) b1 fun h'' b1' sb => ?_⟩
    have hT : h''.get? s.heap.objs.size = some { cls := .type "tuple", data := .seq #[z1, z2, z3] } := (sb.2 _ (Nat.ne_of_gt lz)).trans b5
    have new : ObjOk X.prog X.w (upd H s.heap.objs.size (.tup [x, y, v])) h'' s.heap.objs.size (.tup [x, y, v]) :=
      ⟨by show 3 ≤ sizeLine; decide, [z1, z2, z3], .cons k1 (.cons k2 (.cons k3 .nil)), ⟨_, hT, rfl, _, rfl⟩⟩
    have I1 : Inv X pins σ (upd H s.heap.objs.size (.tup [x, y, v])) { s with heap := h'', toks := tk } :=
      I.turnedNew (t' := tk) (ch := [n + 5, n + 3, n + 4, n, n + 1, n + 2]) (fun q o hb q2 => (sb.2 q (fun q' => hb (by simp [q']))).trans (hk q o (fun q' => hb (by simp [q'])) (fun q' => hb (by simp [q'])) (fun q' => hb (by simp [q'])) (fun q' => hb (by simp [q'])) (fun q' => hb (by simp [q'])) q2)) hf (Nat.le_refl _) new
    refine ⟨.ref s.heap.objs.size, _, I1, rfl, ⟨_, x, y, v, rfl, I.hok.fresh (Nat.le_refl _), rfl, fun l hl => by rw [I.tuple_inj hl qx]; exact hx, fun l hl => by rw [I.tuple_inj hl qy]; exact hy, fun l hl => by rw [I.tuple_inj hl qw]; exact hv⟩, ⟨b1', ?_, ⟨z1, z2, z3, ?_⟩, ?_, ?_, ?_⟩, fun q hq => ?_⟩
    · exact (sb.2 _ S.TIz).trans (hk _ _ S.TIz S.TITO S.TIi1 S.TIi2 S.TIi3 hI)
    · exact (sb.2 _ S.TOz).trans b2
    · exact d1.1.at fun o q => (sb.2 _ (Ne.symm S.zi1)).trans q
    · exact d2.1.at fun o q => (sb.2 _ (Ne.symm S.zi2)).trans q
    · exact d3.1.at fun o q => (sb.2 _ (Ne.symm S.zi3)).trans q
    · have hlt : q < s.heap.objs.size := by
        have hq2 := hq
        simp only [List.mem_cons, List.not_mem_nil, or_false] at hq2
        rcases hq2 with q1 | q1 | q1 | q1 | q1 | q1
        · rw [q1]; exact lz
        · rw [q1]; exact Heap.lt_size hI
        · rw [q1]; exact Heap.lt_size hO
        · rw [q1]; obtain ⟨_, e1, _⟩ := h1; exact Heap.lt_size e1
        · rw [q1]; obtain ⟨_, e1, _⟩ := h2; exact Heap.lt_size e1
        · rw [q1]; obtain ⟨_, e1, _⟩ := h3; exact Heap.lt_size e1
      rw [upd_ne (Nat.ne_of_lt hlt)]
      exact (hf q hq).1
  done := by
    intro X hP hw hK hcalm i pins s σ H E I hf st hg
    subst hP hw hK
    obtain ⟨hz, hI, ⟨x0, y0, w0, hO⟩, h1, h2, h3⟩ := st
    obtain ⟨xs, ys, ws, qx, qy, qw, ⟨l1, l2, l3⟩, hend⟩ := hg
    obtain ⟨t1, r1, p1, _⟩ := I.tuple qx
    obtain ⟨t2, r2, p2, _⟩ := I.tuple qy
    obtain ⟨t3, r3, p3, _⟩ := I.tuple qw
    have m1 : t1.toArray.size = xs.length := by rw [List.size_toArray, r1.length]
    have m2 : t2.toArray.size = ys.length := by rw [List.size_toArray, r2.length]
    have m3 : t3.toArray.size = ws.length := by rw [List.size_toArray, r3.length]
    have S := sep3 ha hb hc
    have hd := I.ok.hd hcalm
    refine wpAny_pyNext_zipD3_end S (Draws.tuple (by simpa using hd) n a (Nat.ne_of_lt ha) t1.toArray) (Draws.tuple (by simpa using hd) (n + 1) b (Nat.ne_of_lt (Nat.lt_succ_of_lt hb)) t2.toArray) (Draws.tuple (by simpa using hd) (n + 2) c (Nat.ne_of_lt (Nat.lt_succ_of_lt (Nat.lt_succ_of_lt hc))) t3.toArray)
      hz hI hO ⟨h1, p1⟩ ⟨h2, p2⟩ ⟨h3, p3⟩ (by rw [m1]; exact l1) (by rw [m2]; exact l2) (by rw [m3]; exact l3) (by rw [m1, m2, m3]; exact hend) fun h' tk hk => ⟨rfl, I.turnedL (t' := tk) (ch := [n + 5, n + 3, n + 4, n, n + 1, n + 2]) (fun q o hb q2 =>
      hk q o (fun q' => hb (by simp [q'])) (fun q' => hb (by simp [q'])) (fun q' => hb (by simp [q'])) (fun q' => hb (by simp [q'])) (fun q' => hb (by simp [q'])) q2) hf⟩
  self := fun A i s Q E st h => wpAny_pyIter_zip st.1 h
section
variable {X : Cx} {C : Ctx} {ds : List D} {e : Expr} {f : SE} {p pos tpos : Pos} {elts : List Expr} {kk : Nat}
def zip3D : List D → List D → List D → List D
  | x :: xs, y :: ys, w :: ws => .tup [x, y, w] :: zip3D xs ys ws
  | _, _, _ => []
theorem zip3D_len : ∀ {xs ys ws : List D}, (zip3D xs ys ws).length = min (min xs.length ys.length) ws.length
  | [], _, _ => by unfold zip3D; simp
  | _ :: _, [], _ => by unfold zip3D; simp
  | _ :: _, _ :: _, [] => by unfold zip3D; simp
  | x :: xs, y :: ys, w :: ws => by
    unfold zip3D
    rw [List.length_cons, zip3D_len, List.length_cons, List.length_cons, List.length_cons]
    omega
theorem zip3D_get : ∀ {xs ys ws : List D} {i : Nat} {x y w : D}, xs[i]? = some x → ys[i]? = some y → ws[i]? = some w → (zip3D xs ys ws)[i]? = some (.tup [x, y, w])
  | [], _, _, i, _, _, _, h, _, _ => by cases h
  | _ :: _, [], _, i, _, _, _, _, h, _ => by cases h
  | _ :: _, _ :: _, [], i, _, _, _, _, _, h => by cases h
  | a :: xs, b :: ys, c :: ws, 0, _, _, _, h1, h2, h3 => by cases h1; cases h2; cases h3; rfl
  | a :: xs, b :: ys, c :: ws, i + 1, _, _, _, h1, h2, h3 => zip3D_get (xs := xs) (ys := ys) (ws := ws) (i := i) h1 h2 h3
theorem it_zip3 {xs ys ws : List D} {a b c : Addr} {us vs ts : List V} : ItD X.K C (Itz3 X.K a b c) (fun H O => (TuOk X.K H O a us ∧ RepL X.K H O xs us) ∧ (TuOk X.K H O b vs ∧ RepL X.K H O ys vs) ∧ (TuOk X.K H O c ts ∧ RepL X.K H O ws ts)) (zip3D xs ys ws) where
  keep := fun H O H' O' ⟨⟨h, r⟩, ⟨h', r'⟩, h'', r''⟩ s _ => ⟨⟨h.mono s, r.mono s⟩, ⟨h'.mono s, r'.mono s⟩, h''.mono s, r''.mono s⟩
  go := fun i H O ⟨⟨h, r⟩, ⟨h', r'⟩, h'', r''⟩ hi => by
    rw [zip3D_len] at hi
    obtain ⟨v, h1, h2⟩ := r.get (List.getElem?_eq_getElem (show i < xs.length by omega))
    obtain ⟨v', h1', h2'⟩ := r'.get (List.getElem?_eq_getElem (show i < ys.length by omega))
    obtain ⟨v'', h1'', h2''⟩ := r''.get (List.getElem?_eq_getElem (show i < ws.length by omega))
    exact ⟨us, vs, ts, v, v', v'', h.sq, h'.sq, h''.sq, h1, h1', h1''⟩
  yld := fun i H O x H' ⟨⟨h, r⟩, ⟨h', r'⟩, h'', r''⟩ t hi y => by
    obtain ⟨T, x, x', x'', rfl, hT, rfl, y, y', y''⟩ := y
    obtain ⟨d, h1, h2⟩ := r.getV (y us h.sq)
    obtain ⟨d', h1', h2'⟩ := r'.getV (y' vs h'.sq)
    obtain ⟨d'', h1'', h2''⟩ := r''.getV (y'' ts h''.sq)
    exact ⟨upd_ext hT, _, zip3D_get h1 h1' h1'', new_tup t hT (.cons h2 (.cons h2' (.cons h2'' .nil)))⟩
  stop := fun H O ⟨⟨h, r⟩, ⟨h', r'⟩, h'', r''⟩ => ⟨us, vs, ts, h.sq, h'.sq, h''.sq, by rw [zip3D_len, ← r.length, ← r'.length, ← r''.length]; omega, by rw [zip3D_len, ← r.length, ← r'.length, ← r''.length]; omega⟩
def iZip3T (K : PySem.W.Frag) (ta : TA) : TI := fun σ H R => ta σ H fun vs H1 => ∃ a b c xs ys ws, vs = [.ref a, .ref b, .ref c] ∧ SqT K H1 a xs ∧ SqT K H1 b ys ∧ SqT K H1 c ws ∧ R (Itz3 K a b c) H1
theorem pi_zip3 {e1 e2 e3 : Expr} {ta : TA} (hg : Gl X "zip") (hm : X.mg "zip" = none) (ha : PA X [e1, e2, e3] ta)
    (hs : starEach [e1, e2, e3] X.env = (false, eval e1 X.env) :: starEach [e2, e3] X.env) (hpl : (backTo pos (starEach [e2, e3] X.env)).any (·.1) = false) :
    PI X (.Tuple elts kk tpos) (.Call (.Name "zip" p) [e1, e2, e3] [] pos) (iZip3T X.K ta) := by
  refine ⟨fun pins s σ H R I h => ?_⟩
  refine Call_ (ld_blt I hg hm PyProof.Rows.boot_zip (PyProof.Rows.callWith_type1 (thn (ha.run pos pins s σ H _ I h) fun us s1 ⟨vs, H1, I1, r1, q1⟩ => ?_) hs hpl))
  obtain ⟨a, b, c, xs, ys, ws, rfl, qx, qy, qw, q⟩ := q1
  cases r1 with
  | cons r1 rr =>
    cases rr with
    | cons r2 rr =>
      cases rr with
      | cons r3 rr =>
        cases rr
        cases r1
        cases r2
        cases r3
        obtain ⟨t1, v1, p1, _⟩ := I1.tuple qx
        obtain ⟨t2, v2, p2, _⟩ := I1.tuple qy
        obtain ⟨t3, v3, p3, _⟩ := I1.tuple qw
        obtain ⟨o1, ho1, _⟩ := id p1
        obtain ⟨o2, ho2, _⟩ := id p2
        obtain ⟨o3, ho3, _⟩ := id p3
        have fr : ∀ q, q ∈ [s1.heap.objs.size + 5, s1.heap.objs.size + 3, s1.heap.objs.size + 4, s1.heap.objs.size, s1.heap.objs.size + 1, s1.heap.objs.size + 2] → FpOk X pins H1 q := fun q hq => by
          simp only [List.mem_cons, List.not_mem_nil, or_false] at hq
          have hle : s1.heap.objs.size ≤ q := by
            rcases hq with z | z | z | z | z | z
            · rw [z]; exact Nat.le_add_right _ _
            · rw [z]; exact Nat.le_add_right _ _
            · rw [z]; exact Nat.le_add_right _ _
            · rw [z]; exact Nat.le_refl _
            · rw [z]; exact Nat.le_add_right _ _
            · rw [z]; exact Nat.le_add_right _ _
          exact I1.fpOk hle (I1.hok.fresh hle)
        refine zip_begins3 (begins_tuple a t1.toArray) (begins_tuple b t2.toArray) (begins_tuple c t3.toArray) p1 p2 p3 fun h' hz hI hO g1 g2 g3 hsz hk => wpAny_pyIter_zip hz ?_
        have I2 : Inv X pins σ H1 { s1 with heap := h' } := I1.kept (t' := s1.toks) hk
        exact ⟨s1.heap.objs.size + 5, _, _, _, H1, rfl, I2, turn_zip3 (Heap.lt_size ho1) (Heap.lt_size ho2) (Heap.lt_size ho3), ⟨hz, hI, ⟨_, _, _, hO⟩, ⟨_, g1, rfl, rfl⟩, ⟨_, g2, rfl, rfl⟩, ⟨_, g3, rfl, rfl⟩⟩, fr, q⟩
def zip3K (x y w : D) : Option (List D) := (tuD x).bind fun xs => (tuD y).bind fun ys => (tuD w).bind fun ws => some (zip3D xs ys ws)
def iZip3 (p q r : SE) : SI := fun env => (p env).bind fun a => (q a.2).bind fun b => (r b.2).bind fun c => (zip3K a.1 b.1 c.1).bind fun ds => some (ds, none, c.2)
theorem di_zip3 {e2 e3 : Expr} {g h : SE} (hg : Gl X "zip") (hm : X.mg "zip" = none) (ha : DE X e f) (hb : DE X e2 g) (hc : DE X e3 h) (hs : starEach [e, e2, e3] X.env = (false, eval e X.env) :: starEach [e2, e3] X.env) (hs2 : starEach [e2, e3] X.env = (false, eval e2 X.env) :: starEach [e3] X.env) (hs3 : starEach [e3] X.env = [(false, eval e3 X.env)]) (hpl : (backTo pos (starEach [e2, e3] X.env)).any (·.1) = false) :
    DI X (.Tuple elts kk tpos) (.Call (.Name "zip" p) [e, e2, e3] [] pos) (iZip3 f g h) := by
  have hA : DA X [e, e2, e3] (aC (qV f) (aC (qV g) (aC (qV h) aN))) := da_cons (dq_val ha) (da_cons (dq_val hb) (da_cons (dq_val hc) da_nil hs3) hs2) hs
  refine ⟨wkI (pi_zip3 hg hm hA.pa hs hpl) fun σ H R ⟨C, O, env, E, r, e, k⟩ => ?_⟩
  obtain ⟨r1, e1, e2⟩ := bindS e
  obtain ⟨r2, e3, e4⟩ := bindS e2
  obtain ⟨r3, e5, e6⟩ := bindS e4
  obtain ⟨ds, e7, e8⟩ := bindS e6
  cases e8
  have e9 : (aC (qV f) (aC (qV g) (aC (qV h) aN))) env = some ([.val r1.1, .val r2.1, .val r3.1], r3.2) := by
    simp only [aC, qV, e1, e3, e5, Option.bind_some]
    rfl
  refine ⟨C, O, env, E, _, e9, fun vs H' O' s E' p => ?_⟩
  cases p with
  | cons p1 p2 =>
    cases p2 with
    | cons p2 p3 =>
      cases p3 with
      | cons p3 p4 =>
        cases p4
        obtain ⟨xs, x1, x2⟩ := bindS e7
        obtain ⟨ys, y1, y2⟩ := bindS x2
        obtain ⟨ws, w1, w2⟩ := bindS y2
        cases w2
        obtain ⟨a, us, rfl, h1, rl1⟩ := tuD_rep x1 (show Rep X.K H' O' r1.1 _ from p1)
        obtain ⟨b, vs, rfl, h2, rl2⟩ := tuD_rep y1 (show Rep X.K H' O' r2.1 _ from p2)
        obtain ⟨c, ts, rfl, h3, rl3⟩ := tuD_rep w1 (show Rep X.K H' O' r3.1 _ from p3)
        exact ⟨_, _, _, _, _, _, rfl, h1.sq, h2.sq, h3.sq, k _ H' O' _ C s E' back_none (it_zip3 (a := a) (us := us) (b := b) (vs := vs) (c := c) (ts := ts)) ⟨⟨h1, rl1⟩, ⟨h2, rl2⟩, h3, rl3⟩⟩
theorem ev_iZip3 {g h : SE} {s : Slot} {e : Ev} : iZip3 f g h (s :: e) = (f (s :: e)).bind fun a => (g a.2).bind fun b => (h b.2).bind fun c => (zip3K a.1 b.1 c.1).bind fun ds => some (ds, none, c.2) := rfl
theorem ev_zip3K {x y w : D} {xs ys ws : List D} (h : tuD x = some xs) (h' : tuD y = some ys) (h'' : tuD w = some ws) : zip3K x y w = some (zip3D xs ys ws) := by unfold zip3K; rw [h, h', h'']; rfl
/-! math.gcd -/
def gGcd : List D → Option D
  | [.int a, .int b] => some (.int ((Nat.gcd a.natAbs b.natAbs : Nat) : Int))
  | _ => none
theorem cd_gcd : CallD X (.builtin "math.gcd") gGcd := by
  refine ⟨_, cr_gcd, fun H O xs us z Q t hx e k => ?_⟩
  cases xs with
  | nil => cases e
  | cons d ds =>
    cases ds with
    | nil => cases d <;> cases e
    | cons d2 ds =>
      cases ds with
      | cons _ _ => cases d <;> cases d2 <;> cases e
      | nil =>
        obtain ⟨v, w, rfl, r, q⟩ := hx.two
        cases d <;> cases d2 <;> try (cases e; done)
        rw [r.int, q.int]
        cases e
        exact ⟨_, _, rfl, k _ H (Same.refl H) (.int _)⟩
theorem de_callG {id : String} {x : Str} {n : Pos} {es : List Expr} {as : SA} {gg : List D → Option D} (hc : CallD X (.builtin id) gg) (hg : Gl X x) (hm : X.mg x = some (.builtin id)) (ha : DA X (e :: es) as) (hdb : (x == ("__debug__" : Str)) = false)
    (he : starEach (e :: es) X.env = (false, eval e X.env) :: starEach es X.env) (hpl : (backTo pos (starEach es X.env)).any (·.1) = false) : DE X (.Call (.Name x n) (e :: es) [] pos) (eOps gg as) := by
  obtain ⟨r, hR, hr⟩ := hc
  exact ⟨wkE (pe_callBfun hR hg hm ha.pa hdb he hpl) fun σ H Q h => opsC h hr⟩
theorem ev_gcd {a b : Int} : gGcd [.int a, .int b] = some (.int ((Nat.gcd a.natAbs b.natAbs : Nat) : Int)) := rfl
/-! str of an int from 0 -/
def dgts (n : Nat) : List Nat := TL.numL n
def gStr : List D → Option D
  | [.int i] => if 0 ≤ i ∧ i.toNat.log2 < 1920 then some (.str (S (dgts i.toNat))) else none
  | _ => none
theorem dgts_ok (n : Nat) : PySem.PyData.strOk (S (dgts n)) = true := by
  have h := TL.numL_digits n
  show (S (dgts n)).cps.all (· < 0x110000) = true
  rw [Array.all_eq_true_iff_forall_mem]
  intro c hc
  have hc2 : c ∈ dgts n := by
    have : c ∈ (S (dgts n)).cps.toList := Array.mem_toList_iff.mpr hc
    exact this
  have := h c hc2
  exact decide_eq_true (by omega)
theorem cd_str : CallD X (.type "str") gStr := by
  refine ⟨_, call_str_int, fun H O xs us z Q t hx e k => ?_⟩
  cases xs with
  | nil => cases e
  | cons d ds =>
    cases ds with
    | cons _ _ => cases d <;> cases e
    | nil =>
      obtain ⟨v, rfl, r⟩ := hx.one
      cases d <;> try (cases e; done)
      rename_i i
      rw [r.int]
      have e : (if 0 ≤ i ∧ i.toNat.log2 < 1920 then some (D.str (S (dgts i.toNat))) else none) = some z := e
      split at e
      · rename_i hi
        cases e
        obtain ⟨n, rfl⟩ : ∃ n : Nat, i = (n : Int) := ⟨i.toNat, by omega⟩
        refine ⟨n, rfl, by simpa using hi.2, ?_⟩
        have en : (toString ((n : Nat) : Int) : Str) = S (dgts n) := SX.num_S n
        rw [en]
        exact k _ H (Same.refl H) (.str _ (dgts_ok n))
      · cases e
theorem ev_str {i : Int} (h : 0 ≤ i ∧ i.toNat.log2 < 1920) : gStr [.int i] = some (.str (S (dgts i.toNat))) := if_pos h
theorem dgts_big : ∀ (n : Nat), n < 10 ^ (dgts n).length := by
  intro n
  induction n using Nat.strongRecOn with
  | _ n ih =>
    unfold dgts at *
    by_cases h : n < 10
    · rw [TL.numL_lt h]
      exact h
    · rw [TL.numL_step (by omega), List.length_append]
      have := ih (n / 10) (by omega)
      show n < 10 ^ ((TL.numL (n / 10)).length + 1)
      rw [Nat.pow_succ]
      omega
/-! products and quotients of numbers below 10^130 -/
theorem bits130 {i : Int} (h : -10000000000000000000000000000000000000000000000000000000000000000000000000000000000000000000000000000000000000000000000000000000000 < i ∧ i < 10000000000000000000000000000000000000000000000000000000000000000000000000000000000000000000000000000000000000000000000000000000000) : i.natAbs < 2 ^ 440 := by
  have : i.natAbs < 10000000000000000000000000000000000000000000000000000000000000000000000000000000000000000000000000000000000000000000000000000000000 := by omega
  exact Nat.lt_trans this (by decide)
def gMulX : D → D → Option D
  | .int i, .int j => if (-10000000000000000000000000000000000000000000000000000000000000000000000000000000000000000000000000000000000000000000000000000000000 < i ∧ i < 10000000000000000000000000000000000000000000000000000000000000000000000000000000000000000000000000000000000000000000000000000000000) ∧ -10000000000000000000000000000000000000000000000000000000000000000000000000000000000000000000000000000000000000000000000000000000000 < j ∧ j < 10000000000000000000000000000000000000000000000000000000000000000000000000000000000000000000000000000000000000000000000000000000000 then some (.int (i * j)) else none
  | _, _ => none
theorem od_mulX : OpD X (binaryOp .Mult) gMulX := by
  refine ⟨_, op_mulW, fun H O x y u v z Q t hx hy e k => ?_⟩
  cases x <;> cases y <;> try (cases e; done)
  rename_i i j
  rw [hx.int, hy.int]
  by_cases h : (-10000000000000000000000000000000000000000000000000000000000000000000000000000000000000000000000000000000000000000000000000000000000 < i ∧ i < 10000000000000000000000000000000000000000000000000000000000000000000000000000000000000000000000000000000000000000000000000000000000) ∧ -10000000000000000000000000000000000000000000000000000000000000000000000000000000000000000000000000000000000000000000000000000000000 < j ∧ j < 10000000000000000000000000000000000000000000000000000000000000000000000000000000000000000000000000000000000000000000000000000000000
  · rw [show gMulX (.int i) (.int j) = some (.int (i * j)) from if_pos h] at e
    cases e
    exact ⟨_, _, rfl, rfl, wide_mul (bits130 h.1) (bits130 h.2) (by decide) (by decide) (by decide), k _ H (Same.refl H) (.int _)⟩
  · rw [show gMulX (.int i) (.int j) = none from if_neg h] at e
    cases e
theorem ev_mulX {i j : Int} (h : (-10000000000000000000000000000000000000000000000000000000000000000000000000000000000000000000000000000000000000000000000000000000000 < i ∧ i < 10000000000000000000000000000000000000000000000000000000000000000000000000000000000000000000000000000000000000000000000000000000000) ∧ -10000000000000000000000000000000000000000000000000000000000000000000000000000000000000000000000000000000000000000000000000000000000 < j ∧ j < 10000000000000000000000000000000000000000000000000000000000000000000000000000000000000000000000000000000000000000000000000000000000) : gMulX (.int i) (.int j) = some (.int (i * j)) := if_pos h
def gDivX : D → D → Option D
  | .int i, .int j => if 0 < j ∧ j < 10000000000000000000000000000000000000000000000000000000000000000000000000000000000000000000000000000000000000000000000000000000000 then some (.int (i / j)) else none
  | _, _ => none
theorem od_divX : OpD X (binaryOp .FloorDiv) gDivX := by
  refine ⟨_, op_fdivW, fun H O x y u v z Q t hx hy e k => ?_⟩
  cases x <;> cases y <;> try (cases e; done)
  rename_i i j
  rw [hx.int, hy.int]
  by_cases h : 0 < j ∧ j < 10000000000000000000000000000000000000000000000000000000000000000000000000000000000000000000000000000000000000000000000000000000000
  · rw [show gDivX (.int i) (.int j) = some (.int (i / j)) from if_pos h] at e
    cases e
    exact ⟨_, _, rfl, rfl, wide_div h.1 (bits130 ⟨by omega, h.2⟩) (by decide) (by decide), k _ H (Same.refl H) (.int _)⟩
  · rw [show gDivX (.int i) (.int j) = none from if_neg h] at e
    cases e
theorem ev_divX {i j : Int} (h : 0 < j ∧ j < 10000000000000000000000000000000000000000000000000000000000000000000000000000000000000000000000000000000000000000000000000000000000) : gDivX (.int i) (.int j) = some (.int (i / j)) := if_pos h
end
/-! sum of a tuple of ints -/
section
variable {P : Program} {w : World} {A : Around} {E : Value → Shared → Prop} {s : Shared}
theorem preSum_take (ns : List Int) : ∀ n, n ≤ ns.length → PySem.preSum (fun i => ns.getD i 0) n = (ns.take n).sum
  | 0, _ => rfl
  | n + 1, h => by
    have hn : n < ns.length := by omega
    show PySem.preSum (fun i => ns.getD i 0) n + ns.getD n 0 = _
    rw [preSum_take ns n (by omega), List.take_add_one, List.getElem?_eq_getElem hn, List.sum_append, List.getD_eq_getElem?_getD, List.getElem?_eq_getElem hn]
    simp
theorem sum_of_tuple {l : Addr} {items : Array Value} (ns : List Int) {Q : Value → Shared → Prop} (hh : A.handled = none) (hl : s.heap.IsTuple l items) (hi : IntsAre items.toList ns)
    (h : ∀ h' tk t', (∀ b o, s.heap.get? b = some o → h'.get? b = some o) → Q (.int ns.sum t') { s with heap := h', toks := tk }) :
    wpAny (model P w) A (call (.builtin "sum") [.ref l]) Q E s := by
  have hsz : items.size = ns.length := by rw [← Array.length_toList]; exact IntsAre.length hi
  obtain ⟨o, ho, hrest⟩ := id hl
  have lt := Heap.lt_size ho
  refine call_sum_walkG (wpAny_pyIter_tuple hl ?_)
  have z1 : (s.heap.push { cls := .type "tuple_iterator", data := .fields #[.ref l, .int 0 0] }).objs.size = s.heap.objs.size + 1 := Heap.size_push ..
  refine ⟨_, _, _, _, _, _, fun i => ns.getD i 0, rfl, Walks.tuple (A := A.in1) (by simp [hh]) s.heap.objs.size l (Nat.ne_of_lt lt) items, ⟨⟨_, Heap.get?_push_size _ rfl, rfl, rfl⟩, hl.push _⟩, ?_, ?_, ?_⟩
  · intro b hb
    rw [z1]
    simp only [List.mem_cons, List.not_mem_nil, or_false] at hb
    rcases hb with rfl | rfl
    · exact Nat.lt_succ_self _
    · exact Nat.lt_succ_of_lt lt
  · intro i v hv
    exact PyProof.Rows.IntsAre.int_at hi i v (by rw [Array.getElem?_toList]; exact hv)
  · intro h' tk t' hk
    rw [hsz, preSum_take ns _ (Nat.le_refl _), List.take_length]
    refine h h' tk t' fun b o e => hk b o ?_ (Heap.get?_push_of_some _ e)
    intro hm
    simp only [List.mem_cons, List.not_mem_nil, or_false] at hm
    exact Nat.ne_of_lt (Heap.lt_size e) hm
end
section
variable {X : Cx}
def rSumT (K : PySem.W.Frag) : List V → Hp → VK → Prop := fun vs H Q => ∃ (a : Addr) (ns : List Int), vs = [V.ref a] ∧ SqT K H a (ns.map V.int) ∧ Q (.int ns.sum) H
theorem cr_sumT (hc : X.calm = true) : CallR X (.builtin "sum") (rSumT X.K) := by
  intro pins s σ H vs us Q I r h
  obtain ⟨a, ns, rfl, hs, q⟩ := h
  obtain ⟨its, rv, pl, hz⟩ := I.tuple hs
  rw [Vals.ref1 r]
  have hi : IntsAre its.toArray.toList ns := ints_of_vals rv
  exact sum_of_tuple ns (I.ok.hd hc) pl hi fun h' tk t' hk => ⟨.int _, H, I.kept (t' := tk) hk, ⟨_, rfl⟩, q⟩
def gSumT : List D → Option D
  | [.tup ds] => (intsOf ds).bind fun ns => some (.int ns.sum)
  | [.lst ds] => (intsOf ds).bind fun ns => some (.int ns.sum)
  | _ => none
theorem cd_sumT (hc : X.calm = true) : CallD X (.builtin "sum") gSumT := by
  refine ⟨_, CallR.or (cr_sum hc) (cr_sumT hc), fun H O xs us z Q t hx e k => ?_⟩
  cases xs with
  | nil => cases e
  | cons d ds =>
    cases ds with
    | cons _ _ => cases d <;> cases e
    | nil =>
      obtain ⟨v, rfl, r⟩ := hx.one
      cases d <;> try (cases e; done)
      · rename_i ds
        obtain ⟨ns, e3, e4⟩ := bindS (show (intsOf ds).bind (fun ns => some (D.int ns.sum)) = some z from e)
        cases e4
        obtain ⟨a, vs, rfl, h1, h2⟩ := r.tup
        rw [intsOf_eq e3] at h2
        rw [h2.intsV] at h1
        exact .inr ⟨a, ns, rfl, .of h1, k _ H (Same.refl H) (.int _)⟩
      · rename_i ds
        obtain ⟨ns, e3, e4⟩ := bindS (show (intsOf ds).bind (fun ns => some (D.int ns.sum)) = some z from e)
        cases e4
        obtain ⟨a, vs, rfl, h1, h2⟩ := lst_ok (d := .lst ds) r rfl
        rw [intsOf_eq e3] at h2
        rw [h2.intsV] at h1
        exact .inl ⟨a, ns, rfl, h1, k _ H (Same.refl H) (.int _)⟩
theorem ev_sumT {ns : List Int} : gSumT [.tup (ns.map D.int)] = some (.int ns.sum) := by
  show (intsOf (ns.map D.int)).bind _ = _
  rw [intsOf_map]; rfl
theorem ev_sumTl {ns : List Int} : gSumT [.lst (ns.map D.int)] = some (.int ns.sum) := by
  show (intsOf (ns.map D.int)).bind _ = _
  rw [intsOf_map]; rfl
end
end Z

/-! Layer A4: two defs that call one another. -/
namespace Z
open PySem PySem.Spec PyProof.Rows L2
section
variable {P : Program} {w : World} {K : PySem.W.Frag} {mg : Str → Option Value} {base : Heap}
theorem def_rec2 {x : Str} {ms : List Mode} {fr : Bool} {n L : Nat} {B : (List D → Option (D × List D)) → SS} (h0 : DefOk P w K mg base L x ms fr (fun _ => none))
    (step : ∀ {k : Nat}, L ≤ k → ∀ (R : List D → Option (D × List D)), DefOk P w K mg base k x ms fr R → DefOk P w K mg base (k + 2) x ms fr (runDef fr ms n (B R))) : ∀ m : Nat, DefOk P w K mg base (L + 2 * m) x ms fr (fuel B fr ms n m)
  | 0 => h0
  | m + 1 => step (Nat.le_add_right L (2 * m)) _ (def_rec2 h0 step m)
end
end Z

/-! Layer XB: list(zip(xs, ys)) of tuples. -/
namespace Z
open PySem PySem.Spec PyProof.Rows L2 RZ
open Sem (wp)
section
variable {prog : Program} {w : World} {A : Around} {E : Value → Shared → Prop} {s : Shared}
/-- a zip whose tuple went out -/
abbrev ZipU (h : Heap) (z TI TO : Addr) (T : Addr) (f : Bool) : Prop :=
  h.get? z = some { cls := .type "zip", dict := none, data := .fields #[rawInt T, .bool f, .bool false, .ref TI, .ref TO], slots := #[] }
theorem zipU_item {z TI TO i1 i2 l1 l2 T : Addr} {f : Bool} {oT : Obj} {k1 k2 : Nat} {xs ys : Array Value} {x y : Value} {Q : Value → Shared → Prop} (D : ZipApart z TI TO i1 i2 l1 l2)
    (hz : ZipU s.heap z TI TO T f) (hTI : IsPair s.heap TI (.ref i1) (.ref i2)) (hT : s.heap.get? T = some oT)
    (h1 : s.heap.IsTupleIter i1 l1 k1) (h2 : s.heap.IsTupleIter i2 l2 k2) (hl1 : s.heap.IsTuple l1 xs) (hl2 : s.heap.IsTuple l2 ys) (hx : xs[k1]? = some x) (hy : ys[k2]? = some y)
    (hQ : ∀ h', ZipU h' z TI TO T true → h'.IsTupleIter i1 l1 (k1 + 1) → h'.IsTupleIter i2 l2 (k2 + 1) → IsPair h' s.heap.objs.size x y → h'.objs.size = s.heap.objs.size + 1 →
      (∀ c o, c ≠ z → c ≠ i1 → c ≠ i2 → s.heap.get? c = some o → h'.get? c = some o) → Q (.ref s.heap.objs.size) { s with heap := h' }) :
    wpAny (model prog w) A (Builtin.«zip.__next__» ⟨[.ref z], []⟩) (fun fin s' => ∃ v, fin = .done (.ret v) ∧ Q v s') E s := by
  show wpAny _ _ (field (.ref z) 2 >>= _) _ _ _
  refine wpAny_bind (wpAny_field hz rfl (x := .bool false) rfl ?_)
  show wpAny _ _ (field (.ref z) 3 >>= _) _ _ _
  refine wpAny_bind (wpAny_field hz rfl (x := .ref TI) rfl ?_)
  refine wpAny_bind (wpAny_seqItems hTI rfl ?_)
  show wpAny _ _ (Builtin.SmallTypes.ownedTupleIsFree (.ref z) >>= _) _ _ _
  refine wpAny_bind ?_
  unfold Builtin.SmallTypes.ownedTupleIsFree
  refine wpAny_bind (wpAny_field hz rfl (x := rawInt T) rfl ?_)
  show wpAny _ _ (loadIfAlive ((T : Int).toNat) >>= _) _ _ _
  rw [Int.toNat_natCast]
  refine wpAny_bind (PySem.W.kdx_alive hT ?_)
  simp only [Option.isNone_some, Bool.false_eq_true, if_false]
  refine wpAny_bind (wpAny_field hz rfl (x := .bool f) rfl ?_)
  obtain ⟨hp, g, dr, tk, os⟩ := s
  replace hz : ZipU hp z TI TO T f := hz
  replace hTI : IsPair hp TI (.ref i1) (.ref i2) := hTI
  replace hT : hp.get? T = some oT := hT
  replace h1 : hp.IsTupleIter i1 l1 k1 := h1
  replace h2 : hp.IsTupleIter i2 l2 k2 := h2
  replace hl1 : hp.IsTuple l1 xs := hl1
  replace hl2 : hp.IsTuple l2 ys := hl2
  cases f with
  | true =>
    rw [if_neg (show ¬ ((Value.bool true != Value.bool true) = true) from Bool.false_ne_true)]
    refine wpAny_pure ?_
    obtain ⟨h₀, e₀⟩ : ∃ h₀, h₀ = hp := ⟨_, rfl⟩
    have hz₀ : ZipU h₀ z TI TO T true := by rw [e₀]; exact hz
    have hs₀ : Heap.SameBut z hp h₀ := by rw [e₀]; exact Heap.SameBut.refl _ _
    rw [← e₀]
    clear hz
    simp only [Bool.false_eq_true, if_false, List.forIn_toArray, List.forIn_cons, List.forIn_nil]
    refine wpAny_bind (wpAny_bind (wpAny_bind (wpAny_holding ?_)))
    show wpAny _ _ (Builtin.SmallTypes.nextOf (.ref i1) >>= _) _ _ _
    refine wpAny_bind (nextOf_tuple_item (h1.extBut hs₀.extBut D.i1z) (hl1.extBut hs₀.extBut D.l1z) hx fun h₂ h1₂ hs₂ => wpAny_pure ?_)
    refine wpAny_pure ?_
    refine wpAny_bind (wpAny_bind (wpAny_holding ?_))
    show wpAny _ _ (Builtin.SmallTypes.nextOf (.ref i2) >>= _) _ _ _
    refine wpAny_bind (nextOf_tuple_item ((h2.extBut hs₀.extBut D.i2z).extBut hs₂.extBut D.i12.symm) ((hl2.extBut hs₀.extBut D.l2z).extBut hs₂.extBut D.l2i1) hy fun h₃ h2₃ hs₃ => wpAny_pure ?_)
    refine wpAny_pure (wpAny_pure ?_)
    show wpAny _ _ (newTuple [x, y] >>= _) _ _ _
    refine wpAny_bind (wpAny_newTuple (wpAny_pure ⟨_, rfl, ?_⟩))
    have hsz : h₃.objs.size = hp.objs.size := by rw [hs₃.1, hs₂.1, hs₀.1]
    have hz₃ : ZipU h₃ z TI TO T true := hs₃.extBut _ _ D.i2z.symm (hs₂.extBut _ _ D.i1z.symm hz₀)
    have nT : IsPair (h₃.push { cls := .type "tuple", data := .seq #[x, y] }) hp.objs.size x y := by rw [← hsz]; exact Heap.get?_push_size _ rfl
    show Q (.ref h₃.objs.size) _
    rw [hsz]
    exact hQ _ (Heap.get?_push_of_some _ hz₃) ((h1₂.extBut hs₃.extBut D.i12).at fun o e => Heap.get?_push_of_some _ e) (h2₃.at fun o e => Heap.get?_push_of_some _ e) nT (by show _ = hp.objs.size + 1; rw [Heap.size_push, hsz])
      fun c o c1 c2 c3 e => Heap.get?_push_of_some _ (hs₃.extBut _ _ c3 (hs₂.extBut _ _ c2 (hs₀.extBut _ _ c1 e)))
  | false =>
    rw [if_pos (show (Value.bool false != Value.bool true) = true from rfl)]
    refine wpAny_bind (wpAny_setField_rec hz (by simp) fun h₀ hz₀ hs₀ => ?_)
    replace hs₀ : Heap.SameBut z hp h₀ := hs₀
    replace hz₀ : ZipU h₀ z TI TO T true := hz₀
    refine wpAny_pure ?_
    clear hz
    simp only [Bool.false_eq_true, if_false, List.forIn_toArray, List.forIn_cons, List.forIn_nil]
    refine wpAny_bind (wpAny_bind (wpAny_bind (wpAny_holding ?_)))
    show wpAny _ _ (Builtin.SmallTypes.nextOf (.ref i1) >>= _) _ _ _
    refine wpAny_bind (nextOf_tuple_item (h1.extBut hs₀.extBut D.i1z) (hl1.extBut hs₀.extBut D.l1z) hx fun h₂ h1₂ hs₂ => wpAny_pure ?_)
    refine wpAny_pure ?_
    refine wpAny_bind (wpAny_bind (wpAny_holding ?_))
    show wpAny _ _ (Builtin.SmallTypes.nextOf (.ref i2) >>= _) _ _ _
    refine wpAny_bind (nextOf_tuple_item ((h2.extBut hs₀.extBut D.i2z).extBut hs₂.extBut D.i12.symm) ((hl2.extBut hs₀.extBut D.l2z).extBut hs₂.extBut D.l2i1) hy fun h₃ h2₃ hs₃ => wpAny_pure ?_)
    refine wpAny_pure (wpAny_pure ?_)
    show wpAny _ _ (newTuple [x, y] >>= _) _ _ _
    refine wpAny_bind (wpAny_newTuple (wpAny_pure ⟨_, rfl, ?_⟩))
    have hsz : h₃.objs.size = hp.objs.size := by rw [hs₃.1, hs₂.1, hs₀.1]
    have hz₃ : ZipU h₃ z TI TO T true := hs₃.extBut _ _ D.i2z.symm (hs₂.extBut _ _ D.i1z.symm hz₀)
    have nT : IsPair (h₃.push { cls := .type "tuple", data := .seq #[x, y] }) hp.objs.size x y := by rw [← hsz]; exact Heap.get?_push_size _ rfl
    show Q (.ref h₃.objs.size) _
    rw [hsz]
    exact hQ _ (Heap.get?_push_of_some _ hz₃) ((h1₂.extBut hs₃.extBut D.i12).at fun o e => Heap.get?_push_of_some _ e) (h2₃.at fun o e => Heap.get?_push_of_some _ e) nT (by show _ = hp.objs.size + 1; rw [Heap.size_push, hsz])
      fun c o c1 c2 c3 e => Heap.get?_push_of_some _ (hs₃.extBut _ _ c3 (hs₂.extBut _ _ c2 (hs₀.extBut _ _ c1 e)))
theorem zipU_end {z TI TO i1 i2 l1 l2 T : Addr} {f : Bool} {oT : Obj} {k1 k2 : Nat} {xs ys : Array Value} {Q : Fin → Shared → Prop} (hh : A.handled = none) (D : ZipApart z TI TO i1 i2 l1 l2)
    (hz : ZipU s.heap z TI TO T f) (hTI : IsPair s.heap TI (.ref i1) (.ref i2)) (hT : s.heap.get? T = some oT)
    (h1 : s.heap.IsTupleIter i1 l1 k1) (h2 : s.heap.IsTupleIter i2 l2 k2) (hl1 : s.heap.IsTuple l1 xs) (hl2 : s.heap.IsTuple l2 ys) (hend : xs[k1]? = none ∨ ys[k2]? = none)
    (hE : ∀ h' e, (∀ c o, c ≠ z → c ≠ i1 → c ≠ i2 → s.heap.get? c = some o → h'.get? c = some o) → (∃ o, h'.get? e = some o ∧ o.cls = .type "StopIteration") → E (.ref e) { s with heap := h' }) :
    wpAny (model prog w) A (Builtin.«zip.__next__» ⟨[.ref z], []⟩) Q E s := by
  show wpAny _ _ (field (.ref z) 2 >>= _) _ _ _
  refine wpAny_bind (wpAny_field hz rfl (x := .bool false) rfl ?_)
  show wpAny _ _ (field (.ref z) 3 >>= _) _ _ _
  refine wpAny_bind (wpAny_field hz rfl (x := .ref TI) rfl ?_)
  refine wpAny_bind (wpAny_seqItems hTI rfl ?_)
  show wpAny _ _ (Builtin.SmallTypes.ownedTupleIsFree (.ref z) >>= _) _ _ _
  refine wpAny_bind ?_
  unfold Builtin.SmallTypes.ownedTupleIsFree
  refine wpAny_bind (wpAny_field hz rfl (x := rawInt T) rfl ?_)
  show wpAny _ _ (loadIfAlive ((T : Int).toNat) >>= _) _ _ _
  rw [Int.toNat_natCast]
  refine wpAny_bind (PySem.W.kdx_alive hT ?_)
  simp only [Option.isNone_some, Bool.false_eq_true, if_false]
  refine wpAny_bind (wpAny_field hz rfl (x := .bool f) rfl ?_)
  obtain ⟨hp, g, dr, tk, os⟩ := s
  replace hz : ZipU hp z TI TO T f := hz
  replace hTI : IsPair hp TI (.ref i1) (.ref i2) := hTI
  replace hT : hp.get? T = some oT := hT
  replace h1 : hp.IsTupleIter i1 l1 k1 := h1
  replace h2 : hp.IsTupleIter i2 l2 k2 := h2
  replace hl1 : hp.IsTuple l1 xs := hl1
  replace hl2 : hp.IsTuple l2 ys := hl2
  cases f with
  | true =>
    rw [if_neg (show ¬ ((Value.bool true != Value.bool true) = true) from Bool.false_ne_true)]
    refine wpAny_pure ?_
    obtain ⟨h₀, e₀⟩ : ∃ h₀, h₀ = hp := ⟨_, rfl⟩
    have hz₀ : ZipU h₀ z TI TO T true := by rw [e₀]; exact hz
    have hs₀ : Heap.SameBut z hp h₀ := by rw [e₀]; exact Heap.SameBut.refl _ _
    rw [← e₀]
    clear hz
    simp only [Bool.false_eq_true, if_false, List.forIn_toArray, List.forIn_cons, List.forIn_nil]
    refine wpAny_bind (wpAny_bind (wpAny_bind (wpAny_holding ?_)))
    show wpAny _ _ (Builtin.SmallTypes.nextOf (.ref i1) >>= _) _ _ _
    cases hx : xs[k1]? with
    | none => exact wpAny_bind (nextOf_tuple_end hh (h1.extBut hs₀.extBut D.i1z) (hl1.extBut hs₀.extBut D.l1z) hx fun h₂ e hs₂ he => hE h₂ e (fun c o c1 c3 _ q => hs₂ _ _ c3 (hs₀.extBut _ _ c1 q)) he)
    | some x =>
      have hy : ys[k2]? = none := by rcases hend with h | h; rw [hx] at h; cases h; exact h
      refine wpAny_bind (nextOf_tuple_item (h1.extBut hs₀.extBut D.i1z) (hl1.extBut hs₀.extBut D.l1z) hx fun h₂ h1₂ hs₂ => wpAny_pure ?_)
      refine wpAny_pure ?_
      refine wpAny_bind (wpAny_bind (wpAny_holding ?_))
      show wpAny _ _ (Builtin.SmallTypes.nextOf (.ref i2) >>= _) _ _ _
      exact wpAny_bind (nextOf_tuple_end hh ((h2.extBut hs₀.extBut D.i2z).extBut hs₂.extBut D.i12.symm) ((hl2.extBut hs₀.extBut D.l2z).extBut hs₂.extBut D.l2i1) hy fun h₃ e hs₃ he => hE h₃ e (fun c o c1 c3 c4 q => hs₃ _ _ c4 (hs₂.extBut _ _ c3 (hs₀.extBut _ _ c1 q))) he)
  | false =>
    rw [if_pos (show (Value.bool false != Value.bool true) = true from rfl)]
    refine wpAny_bind (wpAny_setField_rec hz (by simp) fun h₀ hz₀ hs₀ => ?_)
    replace hs₀ : Heap.SameBut z hp h₀ := hs₀
    replace hz₀ : ZipU h₀ z TI TO T true := hz₀
    refine wpAny_pure ?_
    clear hz
    simp only [Bool.false_eq_true, if_false, List.forIn_toArray, List.forIn_cons, List.forIn_nil]
    refine wpAny_bind (wpAny_bind (wpAny_bind (wpAny_holding ?_)))
    show wpAny _ _ (Builtin.SmallTypes.nextOf (.ref i1) >>= _) _ _ _
    cases hx : xs[k1]? with
    | none => exact wpAny_bind (nextOf_tuple_end hh (h1.extBut hs₀.extBut D.i1z) (hl1.extBut hs₀.extBut D.l1z) hx fun h₂ e hs₂ he => hE h₂ e (fun c o c1 c3 _ q => hs₂ _ _ c3 (hs₀.extBut _ _ c1 q)) he)
    | some x =>
      have hy : ys[k2]? = none := by rcases hend with h | h; rw [hx] at h; cases h; exact h
      refine wpAny_bind (nextOf_tuple_item (h1.extBut hs₀.extBut D.i1z) (hl1.extBut hs₀.extBut D.l1z) hx fun h₂ h1₂ hs₂ => wpAny_pure ?_)
      refine wpAny_pure ?_
      refine wpAny_bind (wpAny_bind (wpAny_holding ?_))
      show wpAny _ _ (Builtin.SmallTypes.nextOf (.ref i2) >>= _) _ _ _
      exact wpAny_bind (nextOf_tuple_end hh ((h2.extBut hs₀.extBut D.i2z).extBut hs₂.extBut D.i12.symm) ((hl2.extBut hs₀.extBut D.l2z).extBut hs₂.extBut D.l2i1) hy fun h₃ e hs₃ he => hE h₃ e (fun c o c1 c3 c4 q => hs₃ _ _ c4 (hs₂.extBut _ _ c3 (hs₀.extBut _ _ c1 q))) he)
theorem nextU_item {z TI TO i1 i2 l1 l2 T : Addr} {f : Bool} {oT : Obj} {k1 k2 : Nat} {xs ys : Array Value} {x y : Value} {Q : Option Value → Shared → Prop} (D : ZipApart z TI TO i1 i2 l1 l2)
    (hz : ZipU s.heap z TI TO T f) (hTI : IsPair s.heap TI (.ref i1) (.ref i2)) (hT : s.heap.get? T = some oT)
    (h1 : s.heap.IsTupleIter i1 l1 k1) (h2 : s.heap.IsTupleIter i2 l2 k2) (hl1 : s.heap.IsTuple l1 xs) (hl2 : s.heap.IsTuple l2 ys) (hx : xs[k1]? = some x) (hy : ys[k2]? = some y)
    (hQ : ∀ h', ZipU h' z TI TO T true → h'.IsTupleIter i1 l1 (k1 + 1) → h'.IsTupleIter i2 l2 (k2 + 1) → IsPair h' s.heap.objs.size x y → h'.objs.size = s.heap.objs.size + 1 →
      (∀ c o, c ≠ z → c ≠ i1 → c ≠ i2 → s.heap.get? c = some o → h'.get? c = some o) → Q (some (.ref s.heap.objs.size)) { s with heap := h' }) :
    wpAny (model prog w) A (pyNext (.ref z)) Q E s := by
  have hT' : s.TypeIs (.ref z) "zip" := ⟨_, hz, rfl⟩
  unfold pyNext
  exact wpAny_bind (wpAny_attempt (wpAny_callSpecial?_slot (name := Str.ofString "__next__") hT' F.slot_zip_next
    (wpAny_call_entry F.slot_zip_next hT' F.entry_zip_next
      (zipU_item D hz hTI hT h1 h2 hl1 hl2 hx hy fun h' a1 a2 a3 a4 a5 a6 => wpAny_pure (hQ h' a1 a2 a3 a4 a5 a6)) (F.args_zip_next_1 _))))
theorem nextU_end {z TI TO i1 i2 l1 l2 T : Addr} {f : Bool} {oT : Obj} {k1 k2 : Nat} {xs ys : Array Value} {Q : Option Value → Shared → Prop} (hh : A.handled = none) (D : ZipApart z TI TO i1 i2 l1 l2)
    (hz : ZipU s.heap z TI TO T f) (hTI : IsPair s.heap TI (.ref i1) (.ref i2)) (hT : s.heap.get? T = some oT)
    (h1 : s.heap.IsTupleIter i1 l1 k1) (h2 : s.heap.IsTupleIter i2 l2 k2) (hl1 : s.heap.IsTuple l1 xs) (hl2 : s.heap.IsTuple l2 ys) (hend : xs[k1]? = none ∨ ys[k2]? = none)
    (hQ : ∀ h', (∀ c o, c ≠ z → c ≠ i1 → c ≠ i2 → s.heap.get? c = some o → h'.get? c = some o) → Q none { s with heap := h' }) : wpAny (model prog w) A (pyNext (.ref z)) Q E s := by
  have hT' : s.TypeIs (.ref z) "zip" := ⟨_, hz, rfl⟩
  unfold pyNext
  refine wpAny_bind (wpAny_attempt (wpAny_callSpecial?_slot (name := Str.ofString "__next__") hT' F.slot_zip_next
    (wpAny_call_entry F.slot_zip_next hT' F.entry_zip_next (zipU_end hh D hz hTI hT h1 h2 hl1 hl2 hend fun h' e hk he => ?_) (F.args_zip_next_1 _))))
  obtain ⟨o, ho, hc⟩ := he
  refine wpAny_bind (wpAny_isInstance (T := "StopIteration") (b := true) ⟨o, ho, hc⟩ isSubtype_stop ?_)
  exact wpAny_pure (hQ _ hk)
end
theorem zip_no_len : typeLookup (.type "zip") "__len__" = pure none := by rw [typeLookup_type, builtinLookup_eq_fast]; kernel_rfl
theorem zip_no_hint : typeLookup (.type "zip") "__length_hint__" = pure none := by rw [typeLookup_type, builtinLookup_eq_fast]; kernel_rfl
/-- pairs laid one behind the other -/
inductive LaidP : Hp → List (V × V) → List Addr → Hp → Prop
  | nil {H : Hp} : LaidP H [] [] H
  | snoc {H H2 : Hp} {ps : List (V × V)} {ts : List Addr} {T : Addr} {p : V × V} : LaidP H ps ts H2 → H2 T = none → LaidP H (ps ++ [p]) (ts ++ [T]) (upd H2 T (.tup [p.1, p.2]))
theorem SqT.up {K : PySem.W.Frag} {H H2 : Hp} {a : Addr} {xs : List V} (e : Ext H H2) : SqT K H a xs → SqT K H2 a xs
  | .inl (.inl h) => .inl (.inl (e _ _ h))
  | .inl (.inr ⟨o, h⟩) => .inl (.inr ⟨o, e _ _ h⟩)
  | .inr h => .inr h
section
variable {X : Cx} {pins : List (Addr × Obj)} {σ : L2.St}
/-- how the zip stands behind i turns -/
def ZSt (h : Heap) (z TI TO i1 i2 a b : Addr) (i : Nat) : Prop :=
  ((IsZip h z TI TO .none ∧ ∃ x y, IsPair h TO x y) ∨ ∃ T f x y, ZipU h z TI TO T f ∧ IsPair h T x y) ∧ IsPair h TI (.ref i1) (.ref i2) ∧ h.IsTupleIter i1 a i ∧ h.IsTupleIter i2 b i ∧ TO < h.objs.size
abbrev lsOb (us : Array Value) (c : Nat) : Obj := { cls := .type "list", dict := none, data := .seq us c, slots := #[] }
theorem zip_loop {A : Around} (hh : A.handled = none) {H1 : Hp} {S z TI TO i1 i2 a b : Addr} (D : ZipApart z TI TO i1 i2 a b) (hS : S ∉ [z, TI, TO, i1, i2]) {xs ys : List V} (hn : (xs.zip ys).length ≤ sizeLine) {R : Result → Shared → Prop} {res : Value}
    (hR : ∀ s H2 ts us c, Inv X pins σ H2 s → LaidP H1 (xs.zip ys) ts H2 → FpOk X pins H2 S → s.heap.get? S = some (lsOb us c) → Vals (ts.map V.ref) us.toList → R (.ok (.ret res)) s) :
    ∀ (k i : Nat) (s : Shared) (H2 : Hp) (ts : List Addr) (us : Array Value) (c : Nat), (xs.zip ys).length - i = k → i ≤ (xs.zip ys).length → Inv X pins σ H2 s → LaidP H1 ((xs.zip ys).take i) ts H2 → SqT X.K H2 a xs → SqT X.K H2 b ys → (∀ q ∈ [z, TI, TO, i1, i2, S], FpOk X pins H2 q) →
      ZSt s.heap z TI TO i1 i2 a b i → s.heap.get? S = some (lsOb us c) → Vals (ts.map V.ref) us.toList → us.size = i →
      codeAny (model X.prog X.w) A (.builtin "list.extend.loop" ⟨[.ref S, .ref z, res], []⟩) R s := by
  have hlen : (xs.zip ys).length = min xs.length ys.length := List.length_zip
  intro k
  induction k with
  | zero =>
    intro i s H2 ts us c hk hi I L hqx hqy hf st hSo hv hu
    obtain ⟨its, rv, p, _⟩ := I.tuple hqx
    obtain ⟨its2, rv2, p2, _⟩ := I.tuple hqy
    have l1 := rv.length
    have l2 := rv2.length
    have he : its.toArray[i]? = none ∨ its2.toArray[i]? = none := by
      by_cases q : xs.length ≤ i
      · exact .inl (by simp; omega)
      · exact .inr (by simp; omega)
    obtain ⟨st0, hTI, h1, h2, TOl⟩ := st
    refine codeAny_builtin F.entry_extend_loop ?_
    rw [Around.under_plainId F.plain_extend_loop _]
    show wpAny _ A.in1 (pyNext (.ref z) >>= _) _ _ s
    have fin : ∀ h' : Heap, (∀ c o, c ≠ z → c ≠ TO → c ≠ i1 → c ≠ i2 → s.heap.get? c = some o → h'.get? c = some o) → R (.ok (.ret res)) { s with heap := h' } := fun h' hk' => by
      have I2 : Inv X pins σ H2 { s with heap := h' } := I.turnedL (t' := s.toks) (ch := [z, TI, TO, i1, i2, S]) (fun c o hb q => hk' c o (fun q' => hb (by simp [q'])) (fun q' => hb (by simp [q'])) (fun q' => hb (by simp [q'])) (fun q' => hb (by simp [q'])) q) hf
      have et : (xs.zip ys).take i = xs.zip ys := List.take_of_length_le (by omega)
      rw [et] at L
      simp only [List.mem_cons, List.not_mem_nil, or_false, not_or] at hS
      exact hR _ H2 ts us c I2 L (hf S (by simp)) (hk' S _ hS.1 hS.2.2.1 hS.2.2.2.1 hS.2.2.2.2 hSo) hv
    rcases st0 with ⟨hz, x0, y0, hTO⟩ | ⟨T, f, x1, y1, hz, hT⟩
    · exact wpAny_bind (pyNext_zipT_end (by simp [hh]) D hz hTI hTO h1 h2 p p2 he fun h' hk' => wpAny_pure (fin h' hk'))
    · exact wpAny_bind (nextU_end (by simp [hh]) D hz hTI hT h1 h2 p p2 he fun h' hk' => wpAny_pure (fin h' fun c o c1 _ c3 c4 q => hk' c o c1 c3 c4 q))
  | succ k ih =>
    intro i s H2 ts us c hk hi I L hqx hqy hf st hSo hv hu
    have hix : i < xs.length := by omega
    have hiy : i < ys.length := by omega
    obtain ⟨its, rv, p, _⟩ := I.tuple hqx
    obtain ⟨its2, rv2, p2, _⟩ := I.tuple hqy
    obtain ⟨u, hu1, ru⟩ := rv.get (List.getElem?_eq_getElem hix)
    obtain ⟨u2, hu2, ru2⟩ := rv2.get (List.getElem?_eq_getElem hiy)
    obtain ⟨st0, hTI, h1, h2, TOl⟩ := st
    have hTIl := Heap.lt_size hTI
    have hil1 : i1 < s.heap.objs.size := by obtain ⟨_, e, _⟩ := h1; exact Heap.lt_size e
    have hil2 : i2 < s.heap.objs.size := by obtain ⟨_, e, _⟩ := h2; exact Heap.lt_size e
    have hSl := Heap.lt_size hSo
    simp only [List.mem_cons, List.not_mem_nil, or_false, not_or] at hS
    obtain ⟨nSz, nSTI, nSTO, nSi1, nSi2⟩ := hS
    refine codeAny_builtin F.entry_extend_loop ?_
    rw [Around.under_plainId F.plain_extend_loop _]
    show wpAny _ A.in1 (pyNext (.ref z) >>= _) _ _ s
    have fin : ∀ h' f T x1 y1, z < s.heap.objs.size → ZipU h' z TI TO T f → IsPair h' T x1 y1 → h'.IsTupleIter i1 a (i + 1) → h'.IsTupleIter i2 b (i + 1) → IsPair h' s.heap.objs.size u u2 → h'.objs.size = s.heap.objs.size + 1 →
        (∀ c o, c ≠ z → c ≠ TO → c ≠ i1 → c ≠ i2 → s.heap.get? c = some o → h'.get? c = some o) →
        wpAny (model X.prog X.w) A.in1 (updateSeq S (·.push (Value.ref s.heap.objs.size)) >>= fun _ => again (.builtin "list.extend.loop" ⟨[.ref S, .ref z, res], []⟩))
          (fun fin q => match fin with | .done f => R (.ok f) q | .again d => d.quiet = true ∧ codeAny (model X.prog X.w) A d R q) (fun e q => R (.error e) q) { s with heap := h' } := by
      intro h' f T x1 y1 zl hz' hTa h1' h2' hT hsz hk'
      have hS' := hk' S _ nSz nSTO nSi1 nSi2 hSo
      refine wpAny_bind (wpAny_updateSeq hS' rfl (wpAny_pure ⟨plainId_quiet F.plain_extend_loop _, ?_⟩) (by rw [hu]; omega) (by show (us.push _).size ≤ sizeLine + 1; rw [Array.size_push, hu]; omega))
      have hS2 := Heap.get?_update_self (Obj.mapSeq (fun x => x.push (Value.ref s.heap.objs.size))) hS' rfl
      have oth : ∀ c o, c ≠ S → h'.get? c = some o → (h'.update S (Obj.mapSeq (fun x => x.push (Value.ref s.heap.objs.size)))).get? c = some o := fun c o hc e => (Heap.get?_update_other _ _ (Ne.symm hc)).trans e
      have hT2 := oth _ _ (Nat.ne_of_gt hSl) hT
      have new : ObjOk X.prog X.w (upd H2 s.heap.objs.size (.tup [xs[i], ys[i]])) (h'.update S (Obj.mapSeq (fun x => x.push (Value.ref s.heap.objs.size)))) s.heap.objs.size (.tup [xs[i], ys[i]]) :=
        ⟨by show 2 ≤ sizeLine; decide, [u, u2], .cons ru (.cons ru2 .nil), ⟨_, hT2, rfl, _, rfl⟩⟩
      have I1 := I.turnedNew (t' := s.toks) (ch := [z, TI, TO, i1, i2, S]) (fun c o hb q => oth c o (fun q' => hb (by simp [q'])) (hk' c o (fun q' => hb (by simp [q'])) (fun q' => hb (by simp [q'])) (fun q' => hb (by simp [q'])) (fun q' => hb (by simp [q'])) q)) hf (Nat.le_refl _) new
      have hn2 : H2 s.heap.objs.size = none := I.hok.fresh (Nat.le_refl _)
      have ex := upd_ext (o := HO.tup [xs[i], ys[i]]) hn2
      have et : (xs.zip ys).take (i + 1) = (xs.zip ys).take i ++ [(xs[i], ys[i])] := by
        have g : (xs.zip ys)[i]? = some (xs[i], ys[i]) := List.getElem?_zip_eq_some.mpr ⟨List.getElem?_eq_getElem hix, List.getElem?_eq_getElem hiy⟩
        rw [List.take_add_one, g]; rfl
      refine ih (i + 1) _ _ (ts ++ [s.heap.objs.size]) (us.push (.ref s.heap.objs.size)) _ (by omega) (by omega) I1 (by rw [et]; exact .snoc (p := (xs[i], ys[i])) L hn2) (SqT.up ex hqx) (SqT.up ex hqy) (fun q hq => ?_) ⟨.inr ⟨T, f, x1, y1, ?_, oth _ _ (fun q => by rw [q] at hTa; have v := hS'.symm.trans hTa; simp at v) hTa⟩, ?_, ?_, ?_, ?_⟩ hS2 ?_ (by rw [Array.size_push, hu])
      · obtain ⟨q1, q2⟩ := hf q hq
        refine ⟨?_, q2⟩
        have lt : q < s.heap.objs.size := by
          simp only [List.mem_cons, List.not_mem_nil, or_false] at hq
          rcases hq with rfl | rfl | rfl | rfl | rfl | rfl <;> assumption
        rw [upd_ne (Nat.ne_of_lt lt)]
        exact q1
      · exact oth _ _ (Ne.symm nSz) hz'
      · exact oth _ _ (Ne.symm nSTI) (hk' _ _ D.TIz D.TITO D.TIi1 D.TIi2 hTI)
      · exact h1'.at fun o q => oth _ _ (Ne.symm nSi1) q
      · exact h2'.at fun o q => oth _ _ (Ne.symm nSi2) q
      · rw [(Heap.SameBut.update ..).1, hsz]; exact Nat.lt_succ_of_lt TOl
      · rw [List.map_append, Array.toList_push]
        exact hv.append (.cons rfl .nil)
    rcases st0 with ⟨hz, x0, y0, hTO⟩ | ⟨T, f, x1, y1, hz, hT⟩
    · exact wpAny_bind (pyNext_zipT_item D hz hTI hTO h1 h2 p p2 (x := u) (y := u2) (by simpa using hu1) (by simpa using hu2) fun h' a1 a2 a3 a4 a5 a6 a7 => fin h' false _ _ _ (Heap.lt_size hz) a1 a5 a3 a4 a5 a6 a7)
    · exact wpAny_bind (nextU_item D hz hTI hT h1 h2 p p2 (x := u) (y := u2) (by simpa using hu1) (by simpa using hu2) fun h' a1 a2 a3 a4 a5 a6 => fin h' true T x1 y1 (Heap.lt_size hz) a1 (a6 T _ (fun q => by rw [q] at hT; have v := hz.symm.trans hT; simp at v) (fun q => by obtain ⟨w, e, e2, _⟩ := h1; rw [q] at hT; have v := Option.some.inj (e.symm.trans hT); rw [v] at e2; simp at e2) (fun q => by obtain ⟨w, e, e2, _⟩ := h2; rw [q] at hT; have v := Option.some.inj (e.symm.trans hT); rw [v] at e2; simp at e2) hT) a2 a3 a4 a5 fun c o c1 _ c3 c4 q => a6 c o c1 c3 c4 q)
theorem extend_zip {A : Around} (hh : A.handled = none) {H1 : Hp} {S z TI TO i1 i2 a b : Addr} (D : ZipApart z TI TO i1 i2 a b) (hS : S ∉ [z, TI, TO, i1, i2]) {xs ys : List V} (hn : (xs.zip ys).length ≤ sizeLine) {R : Result → Shared → Prop} {res : Value}
    (hR : ∀ s H2 ts us c, Inv X pins σ H2 s → LaidP H1 (xs.zip ys) ts H2 → FpOk X pins H2 S → s.heap.get? S = some (lsOb us c) → Vals (ts.map V.ref) us.toList → R (.ok (.ret res)) s)
    {s : Shared} {c : Nat} (I : Inv X pins σ H1 s) (hqx : SqT X.K H1 a xs) (hqy : SqT X.K H1 b ys) (hf : ∀ q ∈ [z, TI, TO, i1, i2, S], FpOk X pins H1 q) (st : IsZip s.heap z TI TO .none) (hTO : ∃ x y, IsPair s.heap TO x y)
    (hTI : IsPair s.heap TI (.ref i1) (.ref i2)) (h1 : s.heap.IsTupleIter i1 a 0) (h2 : s.heap.IsTupleIter i2 b 0) (hSo : s.heap.get? S = some (lsOb #[] c)) :
    wpAny (model X.prog X.w) A.in1 (Builtin.List.listExtendWith (.ref S) (.ref z) res)
      (fun fin q => match fin with | .done f => R (.ok f) q | .again d => d.quiet = true ∧ codeAny (model X.prog X.w) A d R q) (fun e q => R (.error e) q) s := by
  have hS' := hS
  simp only [List.mem_cons, List.not_mem_nil, or_false, not_or] at hS'
  obtain ⟨nSz, nSTI, nSTO, nSi1, nSi2⟩ := hS'
  have hT : s.TypeIs (.ref z) "zip" := ⟨_, st, rfl⟩
  unfold Builtin.List.listExtendWith
  refine wpAny_bind (wpAny_typeOf hT ?_)
  have e1 : Builtin.List.listSameRef (.ref S) (.ref z) = false := by simp [Builtin.List.listSameRef, nSz]
  have e2 : (Value.type "zip" == Value.type "list") = false := by decide
  have e3 : (Value.type "zip" == Value.type "tuple") = false := by decide
  simp only [e1, e2, e3, Bool.or_false, Bool.false_eq_true, if_false]
  refine wpAny_bind (wpAny_pyIter_zip st ?_)
  refine wpAny_bind (wpAny_holding ?_)
  unfold Builtin.List.listLengthHint
  refine wpAny_bind (wpAny_specialOf hT zip_no_len ?_)
  show wpAny _ A.in1 (specialOf (Value.ref z) (Str.ofString "__length_hint__") >>= _) _ _ _
  refine wpAny_bind (wpAny_specialOf hT zip_no_hint ?_)
  refine wpAny_pure ?_
  show wpAny _ A.in1 (rule "list.extend.makes-room" >>= fun _ => Builtin.List.listTouch (.ref S) >>= fun _ =>
    again (.builtin "list.extend.loop" ⟨[.ref S, .ref z, res], []⟩)) _ _ _
  refine wpAny_bind (wpAny_rule ?_)
  refine wpAny_bind ?_
  show wpAny _ A.in1 (updateSeq S (·.push .none) >>= fun _ => updateSeq S (·.pop)) _ _ _
  refine wpAny_bind (wpAny_updateSeq hSo rfl ?_)
  have hS₂ := Heap.get?_update_self (Obj.mapSeq (·.push Value.none)) hSo rfl
  refine wpAny_updateSeq (hz := by seq_fits) hS₂ rfl ?_
  have hS₃ := Heap.get?_update_self (Obj.mapSeq (·.pop)) hS₂ rfl
  have oth : ∀ b o, b ≠ S → s.heap.get? b = some o → ((s.heap.update S (Obj.mapSeq (·.push Value.none))).update S (Obj.mapSeq (·.pop))).get? b = some o :=
    fun b o hb e => (Heap.get?_update_other _ _ (Ne.symm hb)).trans ((Heap.get?_update_other _ _ (Ne.symm hb)).trans e)
  have I2 := I.turnedL (t' := s.toks) (ch := [z, TI, TO, i1, i2, S]) (h' := (s.heap.update S (Obj.mapSeq (·.push Value.none))).update S (Obj.mapSeq (·.pop))) (fun c o hb q => oth c o (fun q' => hb (by simp [q'])) q) hf
  obtain ⟨x0, y0, hTO⟩ := hTO
  refine wpAny_pure ⟨plainId_quiet F.plain_extend_loop _, zip_loop hh D hS hn hR _ 0 _ H1 [] #[] _ rfl (Nat.zero_le _) I2 (by rw [List.take_zero]; exact .nil) hqx hqy hf ⟨.inl ⟨oth _ _ (Ne.symm nSz) st, x0, y0, oth _ _ (Ne.symm nSTO) hTO⟩, oth _ _ (Ne.symm nSTI) hTI, h1.at fun o q => oth _ _ (Ne.symm nSi1) q, h2.at fun o q => oth _ _ (Ne.symm nSi2) q, ?_⟩ hS₃ .nil rfl⟩
  rw [(Heap.SameBut.update ..).1, (Heap.SameBut.update ..).1]
  exact Heap.lt_size hTO
theorem init_zip {A : Around} (hh : A.handled = none) {H1 : Hp} {S z TI TO i1 i2 a b : Addr} (D : ZipApart z TI TO i1 i2 a b) (hS : S ∉ [z, TI, TO, i1, i2]) {xs ys : List V} (hn : (xs.zip ys).length ≤ sizeLine) {R : Result → Shared → Prop}
    (hR : ∀ s H2 ts us c, Inv X pins σ H2 s → LaidP H1 (xs.zip ys) ts H2 → FpOk X pins H2 S → s.heap.get? S = some (lsOb us c) → Vals (ts.map V.ref) us.toList → R (.ok (.ret .none)) s)
    {s : Shared} (I : Inv X pins σ H1 s) (hqx : SqT X.K H1 a xs) (hqy : SqT X.K H1 b ys) (hf : ∀ q ∈ [z, TI, TO, i1, i2, S], FpOk X pins H1 q) (st : IsZip s.heap z TI TO .none) (hTO : ∃ x y, IsPair s.heap TO x y)
    (hTI : IsPair s.heap TI (.ref i1) (.ref i2)) (h1 : s.heap.IsTupleIter i1 a 0) (h2 : s.heap.IsTupleIter i2 b 0) (hSo : s.heap.get? S = some (lsOb #[] 0)) :
    wpAny (model X.prog X.w) A.in1 (Builtin.«list.__init__» ⟨[.ref S, .ref z], []⟩)
      (fun fin q => match fin with | .done f => R (.ok f) q | .again d => d.quiet = true ∧ codeAny (model X.prog X.w) A d R q) (fun e q => R (.error e) q) s := by
  have hS' := hS
  simp only [List.mem_cons, List.not_mem_nil, or_false, not_or] at hS'
  obtain ⟨nSz, nSTI, nSTO, nSi1, nSi2⟩ := hS'
  show wpAny _ _ (Builtin.List.listItems (.ref S) >>= fun old => Builtin.List.listUpdate (.ref S) (fun _ => #[]) >>= fun _ => letGo old.toList.reverse >>= fun _ => Builtin.List.listExtendWith (.ref S) (.ref z) .none) _ _ s
  refine wpAny_bind ?_
  unfold Builtin.List.listItems
  refine wpAny_bind (wpAny_seqItems hSo rfl (wpAny_pure (wpAny_bind ?_)))
  show wpAny _ _ (updateSeq S fun _ => #[]) _ _ s
  refine wpAny_updateSeq hSo rfl ?_
  have t2 := Heap.get?_update_self (Obj.mapSeq (fun _ => (#[] : Array Value))) hSo rfl
  have oth : ∀ x o, x ≠ S → s.heap.get? x = some o → (s.heap.update S (Obj.mapSeq (fun _ => (#[] : Array Value)))).get? x = some o := fun x o hx e => (Heap.get?_update_other _ _ (Ne.symm hx)).trans e
  have I2 := I.turnedL (t' := s.toks) (ch := [z, TI, TO, i1, i2, S]) (h' := s.heap.update S (Obj.mapSeq (fun _ => (#[] : Array Value)))) (fun c o hb q => oth c o (fun q' => hb (by simp [q'])) q) hf
  obtain ⟨x0, y0, hTO⟩ := hTO
  exact wpAny_bind (wpAny_letGo (extend_zip hh D hS hn hR I2 hqx hqy hf (oth _ _ (Ne.symm nSz) st) ⟨x0, y0, oth _ _ (Ne.symm nSTO) hTO⟩ (oth _ _ (Ne.symm nSTI) hTI) (h1.at fun o q => oth _ _ (Ne.symm nSi1) q) (h2.at fun o q => oth _ _ (Ne.symm nSi2) q) t2))
theorem call_list_zip {A : Around} (hh : A.handled = none) {E : Value → Shared → Prop} {Q : Value → Shared → Prop} {H1 : Hp} {z TI TO i1 i2 a b : Addr} (D : ZipApart z TI TO i1 i2 a b) {xs ys : List V} (hn : (xs.zip ys).length ≤ sizeLine)
    {s : Shared} (I : Inv X pins σ H1 s) (hqx : SqT X.K H1 a xs) (hqy : SqT X.K H1 b ys) (hf : ∀ q ∈ [z, TI, TO, i1, i2], FpOk X pins H1 q) (st : IsZip s.heap z TI TO .none) (hTO : ∃ x y, IsPair s.heap TO x y)
    (hTI : IsPair s.heap TI (.ref i1) (.ref i2)) (h1 : s.heap.IsTupleIter i1 a 0) (h2 : s.heap.IsTupleIter i2 b 0)
    (hQ : ∀ s' H2 ts us c, Inv X pins σ H2 s' → LaidP H1 (xs.zip ys) ts H2 → FpOk X pins H2 s.heap.objs.size → s'.heap.get? s.heap.objs.size = some (lsOb us c) → Vals (ts.map V.ref) us.toList → Q (.ref s.heap.objs.size) s') :
    wpAny (model X.prog X.w) A (call (Value.type "list") [Value.ref z]) Q E s := by
  obtain ⟨x0, y0, hTO⟩ := hTO
  have lt : ∀ q ∈ [z, TI, TO, i1, i2], q < s.heap.objs.size := fun q hq => by
    simp only [List.mem_cons, List.not_mem_nil, or_false] at hq
    rcases hq with rfl | rfl | rfl | rfl | rfl
    · exact Heap.lt_size st
    · exact Heap.lt_size hTI
    · exact Heap.lt_size hTO
    · obtain ⟨_, e, _⟩ := h1; exact Heap.lt_size e
    · obtain ⟨_, e, _⟩ := h2; exact Heap.lt_size e
  refine callType_codes (Q₁ := fun ob q => ob = .ref s.heap.objs.size ∧ q = { s with heap := s.heap.push { cls := .type "list", data := .seq #[] } }) F.called_list (F.typeCall_list_1 _) F.entry_list_init
    (code_list_new _ ⟨rfl, rfl⟩) fun ob q hq => ?_
  obtain ⟨rfl, rfl⟩ := hq
  have hT : (s.heap.push { cls := .type "list", data := .seq #[] }).get? s.heap.objs.size = some { cls := .type "list", data := .seq #[] } := Heap.get?_push_size _ rfl
  have up : ∀ c o, s.heap.get? c = some o → (s.heap.push { cls := .type "list", data := .seq #[] }).get? c = some o := fun c o e => Heap.get?_push_of_some _ e
  have I2 : Inv X pins σ H1 { s with heap := s.heap.push { cls := .type "list", data := .seq #[] } } := I.kept (t' := s.toks) up
  refine ⟨⟨_, hT, rfl⟩, F.args_list_init_2 _ _, init_zip (A := A.in1) (by simp [hh]) D (S := s.heap.objs.size) (fun z => absurd (lt _ z) (Nat.lt_irrefl _)) hn (fun s' H2 ts us c J L f e v => ⟨rfl, hQ s' H2 ts us c J L f e v⟩) I2 hqx hqy (fun q hq => ?_) (up _ _ st) ⟨x0, y0, up _ _ hTO⟩ (up _ _ hTI) (h1.at fun o q => up _ _ q) (h2.at fun o q => up _ _ q) hT⟩
  by_cases e : q = s.heap.objs.size
  · rw [e]; exact I.fpOk (Nat.le_refl _) (I.hok.fresh (Nat.le_refl _))
  · refine hf q ?_
    simp only [List.mem_cons, List.not_mem_nil, or_false] at hq ⊢
    rcases hq with h | h | h | h | h | h
    · exact .inl h
    · exact .inr (.inl h)
    · exact .inr (.inr (.inl h))
    · exact .inr (.inr (.inr (.inl h)))
    · exact .inr (.inr (.inr (.inr h)))
    · exact absurd h e
end
section
variable {X : Cx} {e e2 : Expr} {ta : TA} {f g : SE}
def tLZ (K : PySem.W.Frag) (ta : TA) : TE := fun σ H Q => ta σ H fun vs H1 => ∃ a b xs ys, vs = [.ref a, .ref b] ∧ SqT K H1 a xs ∧ SqT K H1 b ys ∧ (xs.zip ys).length ≤ sizeLine ∧ ∀ H2 ts q, LaidP H1 (xs.zip ys) ts H2 → H2 q = none → Q (.ref q) (upd H2 q (.lst (ts.map V.ref)))
theorem LaidP.len {H H2 : Hp} {ps : List (V × V)} {ts : List Addr} (h : LaidP H ps ts H2) : ts.length = ps.length := by
  induction h with
  | nil => rfl
  | snoc _ _ ih => rw [List.length_append, List.length_append, ih]; rfl
theorem pe_listZip {p pos p2 pos2 : Pos} (hc : X.calm = true) (hgl : Gl X "list") (hml : X.mg "list" = none) (hg : Gl X "zip") (hm : X.mg "zip" = none) (ha : PA X [e, e2] ta)
    (hs : starEach [e, e2] X.env = (false, eval e X.env) :: starEach [e2] X.env) (hpl : (backTo pos (starEach [e2] X.env)).any (·.1) = false)
    (nl : starEach [Expr.Call (.Name "zip" p) [e, e2] [] pos] X.env = (false, eval (Expr.Call (.Name "zip" p) [e, e2] [] pos) X.env) :: starEach [] X.env) :
    PE X (.Call (.Name "list" p2) [.Call (.Name "zip" p) [e, e2] [] pos] [] pos2) (tLZ X.K ta) := by
  refine ⟨fun pins s σ H Q I h => Call_ (ld_blt I hgl hml boot_list (PyProof.Rows.callWith_type1 (args_cons (thn (Q := fun x s1 => ∃ z TI TO i1 i2 a b xs ys H1, x = Value.ref z ∧ ZipApart z TI TO i1 i2 a b ∧ Inv X pins σ H1 s1 ∧ SqT X.K H1 a xs ∧ SqT X.K H1 b ys ∧ (∀ q ∈ [z, TI, TO, i1, i2], FpOk X pins H1 q) ∧ IsZip s1.heap z TI TO .none ∧ (∃ x y, IsPair s1.heap TO x y) ∧ IsPair s1.heap TI (.ref i1) (.ref i2) ∧ s1.heap.IsTupleIter i1 a 0 ∧ s1.heap.IsTupleIter i2 b 0 ∧ (xs.zip ys).length ≤ sizeLine ∧ ∀ H2 ts q, LaidP H1 (xs.zip ys) ts H2 → H2 q = none → Q (.ref q) (upd H2 q (.lst (ts.map V.ref)))) ?_ fun x s1 ⟨z, TI, TO, i1, i2, a, b, xs, ys, H1, ex, D, I1, hqx, hqy, hf, st, hTO, hTI, h1, h2, hn, q⟩ => args_nil ?_) nl) nl))⟩
  · refine Call_ (ld_blt I hg hm PyProof.Rows.boot_zip (PyProof.Rows.callWith_type1 (thn (ha.run pos pins s σ H _ I h) fun us s1 ⟨vs, H1, I1, r1, q1⟩ => ?_) hs hpl))
    obtain ⟨a, b, xs, ys, ex, hqx, hqy, hn, q⟩ := q1
    subst ex
    cases r1 with
    | cons r rr =>
      cases rr with
      | cons r' rr =>
        cases rr
        cases r
        cases r'
        obtain ⟨its, rv, p1, _⟩ := I1.tuple hqx
        obtain ⟨its2, rv2, p2, _⟩ := I1.tuple hqy
        obtain ⟨o1, ho1, _⟩ := id p1
        obtain ⟨o2, ho2, _⟩ := id p2
        refine call_zipT (show s1.heap.IsTuple a its.toArray from p1) (show s1.heap.IsTuple b its2.toArray from p2) fun h' hz hTI hTO h1 h2 hsz hk => ?_
        refine ⟨_, _, _, _, _, a, b, xs, ys, H1, rfl, PySem.W.ktu_apart s1.heap.objs.size a b (Heap.lt_size ho1) (Heap.lt_size ho2), I1.kept (t' := s1.toks) hk, hqx, hqy, fun c hcm => ?_, hz, ⟨_, _, hTO⟩, hTI, h1, h2, hn, q⟩
        have e' : c = s1.heap.objs.size + 4 ∨ c = s1.heap.objs.size + 2 ∨ c = s1.heap.objs.size + 3 ∨ c = s1.heap.objs.size ∨ c = s1.heap.objs.size + 1 := by simpa using hcm
        have hle : s1.heap.objs.size ≤ c := by
          rcases e' with z | z | z | z | z
          · rw [z]; exact Nat.le_add_right _ _
          · rw [z]; exact Nat.le_add_right _ _
          · rw [z]; exact Nat.le_add_right _ _
          · rw [z]; exact Nat.le_refl _
          · rw [z]; exact Nat.le_add_right _ _
        exact I1.fpOk hle (I1.hok.fresh hle)
  · subst ex
    refine call_list_zip (I1.ok.hd hc) D hn I1 hqx hqy hf st hTO hTI h1 h2 fun s' H2 ts us c J L fp eq v => ?_
    have new : ObjOk X.prog X.w (upd H2 s1.heap.objs.size (.lst (ts.map V.ref))) s'.heap s1.heap.objs.size (.lst (ts.map V.ref)) := ⟨by rw [List.length_map, L.len]; exact hn, us.toList, c, v, by rw [Array.toArray_toList]; exact eq⟩
    exact ⟨.ref s1.heap.objs.size, _, J.take (t' := s'.toks) (fun _ _ _ e => e) fp new, rfl, q H2 ts _ L fp.1⟩
/-- list(zip(x, y)) of tuples -/
def gListZip (x y : D) : Option D := (zipK x y).bind fun ds => if ds.length ≤ sizeLine then some (.lst ds) else none
def eListZip (f g : SE) : SE := fun env => (f env).bind fun r => (g r.2).bind fun s => (gListZip r.1 s.1).bind fun d => some (d, s.2)
theorem RepL.snoc {K : PySem.W.Frag} {H : Hp} {O : Ad} : ∀ {ds : List D} {vs : List V} {d : D} {v : V}, RepL K H O ds vs → Rep K H O d v → RepL K H O (ds ++ [d]) (vs ++ [v])
  | _, _, _, _, .nil, h => .cons h .nil
  | _, _, _, _, .cons r t, h => .cons r (t.snoc h)
theorem laid_rep {C : Ctx} {σ : L2.St} {env : Ev} {O : Ad} {H1 : Hp} (E1 : EnvOk X.K C H1 O σ env) {xs ys : List D} {vs ws : List V} (hx : RepL X.K H1 O xs vs) (hy : RepL X.K H1 O ys ws) {ps : List (V × V)} {ts : List Addr} {H2 : Hp} (L : LaidP H1 ps ts H2) :
    ∀ n, ps = (vs.zip ws).take n → Step H1 O H2 O ∧ EnvOk X.K C H2 O σ env ∧ RepL X.K H2 O ((zipD xs ys).take ps.length) (ts.map V.ref) := by
  induction L with
  | nil => exact fun n _ => ⟨.refl, E1, .nil⟩
  | @snoc H2 ps ts T p L hT ih =>
    intro n hn
    have hlen : (ps ++ [p]).length ≤ (vs.zip ws).length := by rw [hn, List.length_take]; omega
    have hps : ps = (vs.zip ws).take ps.length := by
      have := congrArg (List.take ps.length) hn
      rw [List.take_left, List.take_take] at this
      rw [List.length_append] at hlen
      have h2 : (ps ++ [p]).length ≤ n := by rw [hn, List.length_take]; omega
      rw [List.length_append] at h2
      rw [Nat.min_eq_left (by have : [p].length = 1 := rfl; omega)] at this
      exact this
    have hp : (vs.zip ws)[ps.length]? = some p := by
      have h1 : ((vs.zip ws).take n)[ps.length]? = some p := by rw [← hn, List.getElem?_append_right (Nat.le_refl _), Nat.sub_self]; rfl
      rw [List.getElem?_take] at h1
      split at h1
      · exact h1
      · cases h1
    obtain ⟨s1, E2, r⟩ := ih _ hps
    obtain ⟨hv, hw⟩ := List.getElem?_zip_eq_some.mp hp
    obtain ⟨d, d1, d2⟩ := hx.getV hv
    obtain ⟨d', d1', d2'⟩ := hy.getV hw
    have ex := upd_ext (o := HO.tup [p.1, p.2]) hT
    have E3 := E2.ext ex
    have s3 : Step H2 O (upd H2 T (.tup [p.1, p.2])) O := .ext ex
    refine ⟨s1.trans s3, E3, ?_⟩
    have et : (zipD xs ys).take (ps ++ [p]).length = (zipD xs ys).take ps.length ++ [.tup [d, d']] := by
      rw [List.length_append, show [p].length = 1 from rfl, List.take_add_one, zipD_get d1 d1']; rfl
    rw [et, List.map_append]
    exact (r.mono s3).snoc (new_tup E2.trk hT (.cons (d2.mono s1) (.cons (d2'.mono s1) .nil)))
theorem df_listZip {a b : Expr} {p p2 pos pos2 : Pos} (hc : X.calm = true) (hgl : Gl X "list") (hml : X.mg "list" = none) (hg : Gl X "zip") (hm : X.mg "zip" = none) (ha : DE X a f) (hb : DE X b g)
    (hs : starEach [a, b] X.env = (false, eval a X.env) :: starEach [b] X.env) (hs2 : starEach [b] X.env = [(false, eval b X.env)]) (hpl : (backTo pos (starEach [b] X.env)).any (·.1) = false)
    (nl : starEach [Expr.Call (.Name "zip" p) [a, b] [] pos] X.env = (false, eval (Expr.Call (.Name "zip" p) [a, b] [] pos) X.env) :: starEach [] X.env) :
    DF X (.Call (.Name "list" p2) [.Call (.Name "zip" p) [a, b] [] pos] [] pos2) (eListZip f g) := by
  have hA : DA X [a, b] (aC (qV f) (aC (qV g) aN)) := da_cons (dq_val ha) (da_cons (dq_val hb) da_nil hs2) hs
  refine ⟨wkE (pe_listZip hc hgl hml hg hm hA.pa hs hpl nl) fun σ H Q ⟨C, O, env, E, z, e, k⟩ => ?_⟩
  obtain ⟨r1, e1, e2⟩ := bindS e
  obtain ⟨r2, e3, e4⟩ := bindS e2
  obtain ⟨d, e5, e6⟩ := bindS e4
  cases e6
  obtain ⟨ds, e8, e9⟩ := bindS (show (zipK r1.1 r2.1).bind (fun ds => if ds.length ≤ sizeLine then some (D.lst ds) else none) = some d from e5)
  split at e9
  · rename_i hlen
    cases e9
    have e7 : (aC (qV f) (aC (qV g) aN)) env = some ([.val r1.1, .val r2.1], r2.2) := by
      have h1 : qV f env = some (.val r1.1, r1.2) := by unfold qV; rw [e1]; rfl
      have h2 : qV g r1.2 = some (.val r2.1, r2.2) := by unfold qV; rw [e3]; rfl
      have h3 : aC (qV g) aN r1.2 = some ([.val r2.1], r2.2) := by unfold aC; rw [h2]; rfl
      show (qV f env).bind _ = _
      rw [h1]
      show (aC (qV g) aN r1.2).bind _ = _
      rw [h3]
      rfl
    refine ⟨C, O, env, E, _, e7, fun vs H' O' s E' p => ?_⟩
    cases p with
    | cons p1 p2 =>
      cases p2 with
      | cons p2 p3 =>
        cases p3
        obtain ⟨xs, x1, x2⟩ := bindS e8
        obtain ⟨ys, y1, y2⟩ := bindS x2
        cases y2
        obtain ⟨a, vs, rfl, h, rl⟩ := tuD_rep x1 (show Rep X.K H' O' r1.1 _ from p1)
        obtain ⟨b, ws, rfl, h', rl'⟩ := tuD_rep y1 (show Rep X.K H' O' r2.1 _ from p2)
        have hzl : (vs.zip ws).length = (zipD xs ys).length := by rw [List.length_zip, zipD_len, rl.length, rl'.length]
        refine ⟨a, b, vs, ws, rfl, h.sq, h'.sq, by rw [hzl]; exact hlen, fun H2 ts q L hq => ?_⟩
        obtain ⟨s2, E2, r⟩ := laid_rep E' rl rl' L _ (List.take_length).symm
        rw [hzl, List.take_length] at r
        obtain ⟨s3, E3, L3⟩ := E2.new hq (own_lst r)
        exact k q _ _ ((s.trans s2).trans s3) E3 L3
  · cases e9
theorem ev_eListZip {s : Slot} {e : Ev} : eListZip f g (s :: e) = (f (s :: e)).bind fun r => (g r.2).bind fun s => (gListZip r.1 s.1).bind fun d => some (d, s.2) := rfl
theorem ev_listZip {x y : D} {xs ys : List D} (h : tuD x = some xs) (h' : tuD y = some ys) (hl : xs.length ≤ 16777216) : gListZip x y = some (.lst (zipD xs ys)) := by
  unfold gListZip
  rw [ev_zipK h h']
  exact if_pos (by rw [zipD_len, sizeLine_eq]; exact Nat.le_trans (Nat.min_le_left _ _) hl)
end
section
variable {X : Cx}
def geI (ns ms : List Int) : Bool := Ob.lexAt (fun j => decide (ns.getD j 0 = ms.getD j 0)) (fun j => decide (ms.getD j 0 ≤ ns.getD j 0)) (decide (ns.length ≥ ms.length)) 0 (min ns.length ms.length)
def rGeT (K : PySem.W.Frag) : R2 := fun x y H Q => ∃ (a b : Addr) (ns ms : List Int), x = .ref a ∧ y = .ref b ∧ SqT K H a (ns.map V.int) ∧ SqT K H b (ms.map V.int) ∧ Q (.bl (geI ns ms)) H
theorem op_geT (hu : X.A.units < cLine) : OpR X (compareOp .GtE) (rGeT X.K) := by
  intro pins s σ H x y v u Q I rx ry h
  obtain ⟨a, b, ns, ms, rfl, rfl, ha, hb, q⟩ := h
  cases rx
  cases ry
  obtain ⟨its, r1, p1, _⟩ := I.tuple ha
  obtain ⟨its2, r2, p2, _⟩ := I.tuple hb
  have i1 : IntsAre its ns := Vals.ints r1
  have i2 : IntsAre its2 ms := Vals.ints r2
  have e1 : its.toArray.size = ns.length := by rw [List.size_toArray]; exact i1.length
  have e2 : its2.toArray.size = ms.length := by rw [List.size_toArray]; exact i2.length
  have at1 : ∀ j (h1 : j < its.toArray.size), ∃ t, its.toArray[j] = .int (ns.getD j 0) t := fun j h1 => PyProof.Rows.IntsAre.int_at i1 _ _ (by simp at h1; simp [h1])
  have at2 : ∀ j (h1 : j < its2.toArray.size), ∃ t, its2.toArray[j] = .int (ms.getD j 0) t := fun j h1 => PyProof.Rows.IntsAre.int_at i2 _ _ (by simp at h1; simp [h1])
  have R := Ob.RcOp.tuples_ge (A := X.A) (s := s) (e := fun j => decide (ns.getD j 0 = ms.getD j 0)) (r := fun j => decide (ms.getD j 0 ≤ ns.getD j 0)) p1 p2 hu (fun j h1 h2 => by
    obtain ⟨t, et⟩ := at1 j h1
    obtain ⟨t', et'⟩ := at2 j h2
    rw [et, et']
    have z : (ns.getD j 0 == ms.getD j 0) = decide (ns.getD j 0 = ms.getD j 0) := by
      by_cases q : ns.getD j 0 = ms.getD j 0
      · rw [decide_eq_true q]; exact beq_iff_eq.mpr q
      · rw [decide_eq_false q]; exact beq_eq_false_iff_ne.mpr q
    rw [← z]
    exact SeqAt.EqAt.int_int _ _ _ _) (fun j h1 h2 _ => by
    obtain ⟨t, et⟩ := at1 j h1
    obtain ⟨t', et'⟩ := at2 j h2
    rw [et, et']
    exact Ob.RcOp.ge_int _ _ _ _)
  rw [e1, e2] at R
  have z : wpAny (model X.prog X.w) X.A (compareOp .GtE (.ref a) (.ref b)) (EP X pins σ Q) X.xe s := R X.prog X.w X.xe (EP X pins σ Q) ⟨.bl _, H, I, rfl, q⟩
  exact z
/-- t >= u of tuples of ints -/
def gGeT : D → D → Option D := fun x y => (tupD x).bind fun xs => (tupD y).bind fun ys => (intsOf xs).bind fun ns => (intsOf ys).bind fun ms => some (.bl (geI ns ms))
theorem od_geT (hu : X.A.units < cLine) : OpD X (compareOp .GtE) gGeT := by
  refine ⟨_, op_geT hu, fun H O x y u v z Q t hx hy e k => ?_⟩
  obtain ⟨xs, x1, x2⟩ := bindS e
  obtain ⟨ys, y1, y2⟩ := bindS x2
  obtain ⟨ns, e1, e2⟩ := bindS y2
  obtain ⟨ms, e3, e4⟩ := bindS e2
  cases e4
  obtain ⟨a, vs, rfl, h1, h2⟩ := tup_ok hx x1
  obtain ⟨b, ws, rfl, h3, h4⟩ := tup_ok hy y1
  rw [intsOf_eq e1] at h2
  rw [intsOf_eq e3] at h4
  rw [h2.intsV] at h1
  rw [h4.intsV] at h3
  exact ⟨a, b, ns, ms, rfl, rfl, h1, h3, k _ H (Same.refl H) (.bl _)⟩
theorem ev_geT {ns ms : List Int} : gGeT (.tup (ns.map D.int)) (.tup (ms.map D.int)) = some (.bl (geI ns ms)) := by
  show (intsOf _).bind _ = _
  rw [intsOf_map]
  show (intsOf _).bind _ = _
  rw [intsOf_map]; rfl
end
end Z

/-! Layer XC: comprehensions with two fors of any kind; sorted({.. for .. for ..}) of ints. -/
namespace Z
open PySem PySem.Spec PyProof.Rows L2
/-- the first clause's turn -/
def TurnO (ce t0 i0 i1 : Expr) (ifs0 : List Expr) : Prop := ∀ (it acc : Value) (env : Env), compTurn ce 0 it acc env = (do
  standAt i0.pos
  match ← pyNext it with
  | none => pure (.done .next)
  | some v =>
    letOwnedTupleGo t0 it v
    assign t0 env v
    let mut ok := true
    for c in ifs0 do
      if ok then ok ← isTrue c env (eval c env)
    if ok then
      let x ← eval i1 env
      standAt i1.pos
      let x ← foldedSetIterable i1 env x
      let _ ← runOwn (.compStart ce 1 (← holding [x] (pyIter x)) acc env) env
    again (.compLoop ce 0 it acc env))
/-- the second clause's turn -/
def TurnI (ce t1 i1 : Expr) (ifs1 : List Expr) (body : Value → Env → Sem Unit) : Prop := ∀ (it acc : Value) (env : Env), compTurn ce 1 it acc env = (do
  standAt i1.pos
  match ← pyNext it with
  | none => pure (.done .next)
  | some v =>
    letOwnedTupleGo t1 it v
    assign t1 env v
    let mut ok := true
    for c in ifs1 do
      if ok then ok ← isTrue c env (eval c env)
    if ok then body acc env
    again (.compLoop ce 1 it acc env))
/-- a comprehension's loop leaves what stands around as it is -/
def LoopP (ce : Expr) : Prop := ∀ (k : Nat) (it acc : Value) (env : Env), (∀ A : Around, A.under (.compLoop ce k it acc env) = A) ∧ ∀ (prog : Program) (w : World), (model prog w).den (.compLoop ce k it acc env) = (compTurn ce k it acc env).onRaise (fun x => do noteFrame x env; theTreesLotGoes x)
/-- how a clause starts -/
def StartsAt (ce : Expr) (k : Nat) : Prop := ∀ (prog : Program) (w : World) (A : Around) (R : Result → Shared → Prop) (s : Shared) (it acc : Value) (env : Env), codeAny (model prog w) A (.compLoop ce k it acc env) R s →
  wpAny (model prog w) A (pyIter it) (fun it' s' => codeAny (model prog w) A (.compLoop ce k it' acc env) R s') (notedBy (model prog w) A env fun x s' => R (.error x) s') s → codeAny (model prog w) A (.compStart ce k it acc env) R s
section
variable {prog : Program} {w : World} {A : Around} {R : Result → Shared → Prop} {s : Shared} {ce t0 i0 t1 i1 : Expr} {ifs0 ifs1 : List Expr} {it acc : Value} {env : Env} {body : Value → Env → Sem Unit}
theorem walkO (hp : LoopP ce) (hT : TurnO ce t0 i0 i1 ifs0) (hs : ∀ x, foldedSetIterable i1 env x = pure x) (I : Nat → Shared → Prop)
    (turn : ∀ n s, I n s → wpAny (model prog w) A (pyNext it) (fun r s₁ => match r with
      | none => R (.ok .next) s₁
      | some v => wpAny (model prog w) A (letOwnedTupleGo t0 it v) (fun _ s₁' => wpAny (model prog w) A (assign t0 env v) (fun _ s₂ =>
          wpAny (model prog w) A (forIn ifs0 true fun c r => if r = true then do let ok ← isTrue c env (eval c env); pure (ForInStep.yield ok) else pure (ForInStep.yield r)) (fun ok s₃ =>
            if ok = true then wpAny (model prog w) A (eval i1 env) (fun x s₄ => wpAny (model prog w) A (pyIter x) (fun it1 s₅ =>
              codeAny (model prog w) A (.compStart ce 1 it1 acc env) (fun r s' => match r with
                | .ok _ => ∃ m, m < n ∧ I m s'
                | .error _ => False) s₅) (notedBy (model prog w) A env fun e s' => R (.error e) s') s₄) (notedBy (model prog w) A env fun e s' => R (.error e) s') s₃
            else ∃ m, m < n ∧ I m s₃) (notedBy (model prog w) A env fun e s' => R (.error e) s') s₂) (notedBy (model prog w) A env fun e s' => R (.error e) s') s₁') (notedBy (model prog w) A env fun e s' => R (.error e) s') s₁) (notedBy (model prog w) A env fun e s' => R (.error e) s') s)
    (n : Nat) (h : I n s) : codeAny (model prog w) A (.compLoop ce 0 it acc env) R s := by
  refine codeAny_loop rfl I (fun n s hI => ?_) n h
  rw [(hp _ _ _ _).1, (hp _ _ _ _).2]
  show wpAny _ A ((compTurn ce 0 it acc env).onRaise (fun x => do noteFrame x env; theTreesLotGoes x)) _ _ s
  refine wpAny_noted ?_
  rw [hT]
  refine wpAny_bind (wpAny_standAt (wpAny_bind (wpAny_mono (turn n s hI) (fun r s₁ h₁ => ?_) fun _ _ h' => h')))
  match r with
  | none => exact wpAny_pure h₁
  | some v =>
    refine wpAny_bind (wpAny_mono h₁ (fun _ s₁' h₁' => wpAny_bind (wpAny_mono h₁' (fun _ s₂ h₂ => wpAny_bind (wpAny_mono h₂ (fun ok s₃ h₃ => ?_) fun _ _ h' => h')) fun _ _ h' => h')) fun _ _ h' => h')
    match ok with
    | false => exact wpAny_pure ⟨rfl, h₃⟩
    | true =>
      refine wpAny_bind (wpAny_mono h₃ (fun x s₄ h₄ => wpAny_bind (wpAny_standAt (wpAny_bind (wpAny_of_eq (hs x) (wpAny_bind (wpAny_holding (wpAny_mono h₄ (fun it1 s₅ h₅ => ?_) fun _ _ h' => h'))))))) fun _ _ h' => h')
      refine wpAny_bind (wpAny_runOwn ?_)
      rw [Around.mark_none]
      refine codeAny_mono h₅ fun r s' hr => ?_
      match r with
      | .ok f => first | exact wpAny_pure ⟨rfl, hr⟩ | exact wpAny_bind (wpAny_pure (wpAny_pure ⟨rfl, hr⟩))
      | .error e => exact hr.elim
theorem walkI (hp : LoopP ce) (hT : TurnI ce t1 i1 ifs1 body) (I : Nat → Shared → Prop)
    (turn : ∀ n s, I n s → wpAny (model prog w) A (pyNext it) (fun r s₁ => match r with
      | none => R (.ok .next) s₁
      | some v => wpAny (model prog w) A (letOwnedTupleGo t1 it v) (fun _ s₁' => wpAny (model prog w) A (assign t1 env v) (fun _ s₂ =>
          wpAny (model prog w) A (forIn ifs1 true fun c r => if r = true then do let ok ← isTrue c env (eval c env); pure (ForInStep.yield ok) else pure (ForInStep.yield r)) (fun ok s₃ =>
            if ok = true then wpAny (model prog w) A (body acc env) (fun _ s₅ => ∃ m, m < n ∧ I m s₅) (notedBy (model prog w) A env fun e s' => R (.error e) s') s₃
            else ∃ m, m < n ∧ I m s₃) (notedBy (model prog w) A env fun e s' => R (.error e) s') s₂) (notedBy (model prog w) A env fun e s' => R (.error e) s') s₁') (notedBy (model prog w) A env fun e s' => R (.error e) s') s₁) (notedBy (model prog w) A env fun e s' => R (.error e) s') s)
    (n : Nat) (h : I n s) : codeAny (model prog w) A (.compLoop ce 1 it acc env) R s := by
  refine codeAny_loop rfl I (fun n s hI => ?_) n h
  rw [(hp _ _ _ _).1, (hp _ _ _ _).2]
  show wpAny _ A ((compTurn ce 1 it acc env).onRaise (fun x => do noteFrame x env; theTreesLotGoes x)) _ _ s
  refine wpAny_noted ?_
  rw [hT]
  refine wpAny_bind (wpAny_standAt (wpAny_bind (wpAny_mono (turn n s hI) (fun r s₁ h₁ => ?_) fun _ _ h' => h')))
  match r with
  | none => exact wpAny_pure h₁
  | some v =>
    refine wpAny_bind (wpAny_mono h₁ (fun _ s₁' h₁' => wpAny_bind (wpAny_mono h₁' (fun _ s₂ h₂ => wpAny_bind (wpAny_mono h₂ (fun ok s₃ h₃ => ?_) fun _ _ h' => h')) fun _ _ h' => h')) fun _ _ h' => h')
    match ok with
    | false => exact wpAny_pure ⟨rfl, h₃⟩
    | true => exact wpAny_bind (wpAny_mono h₃ (fun _ s₅ h₅ => wpAny_pure ⟨rfl, h₅⟩) fun _ _ h' => h')
end
theorem loopP_set {elt : Expr} {gens : List Comprehension} {scope : Scope} {pos : Pos} : LoopP (.SetComp elt gens scope pos) := fun _ _ _ _ => ⟨fun _ => rfl, fun _ _ => rfl⟩
theorem turnO_set {elt t0 i0 t1 i1 : Expr} {ifs0 ifs1 : List Expr} {scope : Scope} {pos : Pos} : TurnO (.SetComp elt [⟨t0, i0, ifs0, 0⟩, ⟨t1, i1, ifs1, 0⟩] scope pos) t0 i0 i1 ifs0 := fun _ _ _ => rfl
theorem turnI_set {elt t0 i0 t1 i1 : Expr} {ifs0 ifs1 : List Expr} {scope : Scope} {pos : Pos} : TurnI (.SetComp elt [⟨t0, i0, ifs0, 0⟩, ⟨t1, i1, ifs1, 0⟩] scope pos) t1 i1 ifs1 (fun acc env => do let v ← eval elt env; standAt elt.pos; let _ ← call (.builtin "set.add") [acc, v]) := fun _ _ _ => rfl
theorem starts0_set {elt t0 i0 t1 i1 : Expr} {ifs0 ifs1 : List Expr} {scope : Scope} {pos : Pos} : StartsAt (.SetComp elt [⟨t0, i0, ifs0, 0⟩, ⟨t1, i1, ifs1, 0⟩] scope pos) 0 := fun _ _ _ _ _ _ _ _ h0 h => PpSet.codeAny_compStart_set h0 h
theorem starts1_set {elt t0 i0 t1 i1 : Expr} {ifs0 ifs1 : List Expr} {scope : Scope} {pos : Pos} : StartsAt (.SetComp elt [⟨t0, i0, ifs0, 0⟩, ⟨t1, i1, ifs1, 0⟩] scope pos) 1 := fun prog w A R s it acc env h0 h => by
  refine codeAny_of_tree ?_
  show wpAny _ _ ((compStart (.SetComp elt [⟨t0, i0, ifs0, 0⟩, ⟨t1, i1, ifs1, 0⟩] scope pos) 1 it acc env).onRaise (fun x => do noteFrame x env; standAt theWindowsPlace)) _ _ s
  refine wpAny_notedAt ?_
  unfold compStart
  show wpAny _ _ (ask >>= _) _ _ s
  refine wpAny_bind (wpAny_askSetting (wpAny_ite ?_))
  split
  · first | exact wpAny_bind (wpAny_pure (wpAny_pure (And.intro rfl h0))) | exact wpAny_pure (And.intro rfl h0)
  · refine wpAny_bind (wpAny_rule ?_)
    show wpAny _ _ (standAt i1.pos >>= _) _ _ s
    exact wpAny_bind (wpAny_standAt (wpAny_bind (wpAny_mono h (fun it' s' h' => wpAny_pure (And.intro rfl h')) fun _ _ x => x)))
/-! ### the core -/
section
variable {X : Cx}
/-- a comprehension with two fors over what is new at D: the body turns what is at D -/
def tC2 (o0 : Addr → HO) (wi : TI) (g : TG) (tt : TT) (wi1 : TI) (g1 : TG) (tt1 : TT) (tb : Addr → L2.St → Hp → (Hp → Prop) → Prop) (vs vs1 : List Nat) : TE := fun σ H Q => wi σ H fun J H1 => ∀ D, H1 D = none → ∃ W : Nat → Nat → Hp → Prop, (∃ m, W 0 m (upd H1 D (o0 D))) ∧ ∀ i m H, W i m H →
  (J.stop i H ∧ Q (.ref D) H) ∨ (J.go i H ∧ ∃ Nx : Hp → Prop, (∀ H', Nx H' → ∃ m', m' < m ∧ W (i + 1) m' H') ∧ ∀ x H', J.yld i H x H' → g x (L2.wipe σ vs) H' fun σ2 H2 => L2.wipe σ2 vs = L2.wipe σ vs ∧ tt σ2 H2 fun b H3 =>
    if b = true then wi1 σ2 H3 fun J1 H4 => ∃ W1 : Nat → Nat → Hp → Prop, (∃ m, W1 0 m H4) ∧ ∀ j k H, W1 j k H →
      (J1.stop j H ∧ Nx H) ∨ (J1.go j H ∧ ∃ Nx1 : Hp → Prop, (∀ H', Nx1 H' → ∃ k', k' < k ∧ W1 (j + 1) k' H') ∧ ∀ x H', J1.yld j H x H' → g1 x (L2.wipe σ2 vs1) H' fun σ3 H5 => L2.wipe σ3 vs1 = L2.wipe σ2 vs1 ∧ tt1 σ3 H5 fun b H6 =>
        if b = true then tb D σ3 H6 Nx1 else Nx1 H6)
    else Nx H3)
def Blk' (X : Cx) (scope : Scope) (φ : Cx → Env → Prop) : Prop := ∀ (s : Shared) (H : Hp) (C : Addr) (cl : List (Str × Addr)) (fp : List Addr), φ (X.blk s H scope (compEnvC scope cl C X.env) fp) (compEnvC scope cl C X.env)
/-- what the body asks -/
def BodyR (Y : Cx) (env : Env) (body : Value → Env → Sem Unit) (tb : Addr → L2.St → Hp → (Hp → Prop) → Prop) : Prop := ∀ (pins : List (Addr × Obj)) (s : Shared) (σ : L2.St) (H : Hp) (D : Addr) (Nx : Hp → Prop), Inv Y pins σ H s → tb D σ H Nx →
  wpAny (model Y.prog Y.w) Y.A (body (.ref D) env) (fun _ s' => ∃ H', Inv Y pins σ H' s' ∧ Nx H') Y.xe s
theorem c2_core {pins : List (Addr × Obj)} {s : Shared} {σ : L2.St} {H : Hp} {Q : VK} {ce tg iter tg1 iter1 : Expr} {ifs ifs1 : List Expr} {scope : Scope} {own : List (Str × Nat)} {vs1 : List Nat} {pos' : Pos} {wi wi1 : TI} {g g1 : TG} {tt tt1 : TT} {o0 : Addr → HO} {mk : Sem Value} {ob : Obj} {tb : Addr → L2.St → Hp → (Hp → Prop) → Prop} {body : Value → Env → Sem Unit} {use : Option (Value → Sem Unit)} {Qf : Value → Shared → Prop}
    (hp : LoopP ce) (hO : TurnO ce tg iter iter1 ifs) (hI : TurnI ce tg1 iter1 ifs1 body) (h0 : StartsAt ce 0) (h1 : StartsAt ce 1)
    (hmk : ∀ {s : Shared} {Q' : Value → Shared → Prop} {E : Value → Shared → Prop}, Q' (.ref s.heap.objs.size) { s with heap := s.heap.push ob } → wpAny (model X.prog X.w) X.A mk Q' E s) (hob : ∀ (h : Heap) (H : Hp), ObjOk X.prog X.w (upd H h.objs.size (o0 h.objs.size)) (h.push ob) h.objs.size (o0 h.objs.size))
    (hc : X.calm = true) (hN : X.N.Nodup) (I : Inv X pins σ H s) (hi : PI X tg iter wi) (ok : BlkOk X.N X.env.scope scope own) (hv : ∀ i ∈ vs1, i ∈ own.map (·.2))
    (hg : Blk' X scope fun Y _ => PG Y tg g) (ht : Blk' X scope fun Y _ => PTs Y ifs tt) (hs : ∀ x, foldedSetIterable iter X.env x = pure x)
    (hi1 : Blk' X scope fun Y _ => PI Y tg1 iter1 wi1) (hg1 : Blk' X scope fun Y _ => PG Y tg1 g1) (ht1 : Blk' X scope fun Y _ => PTs Y ifs1 tt1) (hb : Blk' X scope fun Y env => BodyR Y env body tb)
    (hs1 : ∀ env x, foldedSetIterable iter1 env x = pure x)
    {gs : List Comprehension} (hcl : clausesOf ce = ⟨tg, iter, ifs, 0⟩ :: gs)
    (h : tC2 o0 wi g tt wi1 g1 tt1 tb (own.map (·.2)) vs1 σ H Q)
    (hRR : ∀ D C s' m H', Inv X pins σ H' s' → Q (.ref D) H' → s'.heap.Ns C m → FpOk X pins H' C → compPost (model X.prog X.w) X.A X.xe use Qf (.ref D) C (.ok .next) s') :
    wpAny (model X.prog X.w) X.A (comprehension ce scope X.env pos' mk false (eval iter X.env) use) Qf X.xe s := by
  have hfree : ∀ y ∈ scope.names, y.2 = .free → ∃ c, X.env.cells.lookup y.1 = some c := fun y hy e => (ok.free y hy e).elim (fun k => I.ok.has _ (.inl k)) fun k => I.ok.has _ (.inr k)
  refine wpAny_comprehension_free (use := use) hcl hs (closure_ok hfree) ok.kind (fun y hy e => by rw [ok.uniq y hy, e]) (thn (hi.run pins s σ H _ I h) fun xv s1 hx => thn hx fun itv s2 h2 => ?_)
  obtain ⟨it, fp, tn, J, H2, e, I2, T, st2, f2, q⟩ := h2
  subst e
  refine hmk (newEnv_comp ?_)
  have hDn : H2 s2.heap.objs.size = none := I2.hok.fresh (Nat.le_refl _)
  obtain ⟨W, ⟨m0, w0⟩, turn⟩ := q _ hDn
  have I3 : Inv X pins σ (upd H2 s2.heap.objs.size (o0 s2.heap.objs.size)) { s2 with heap := s2.heap.push ob } := I2.laid (t' := s2.toks) (fun b o e => Heap.get?_push_of_some _ e) (Nat.le_refl _) (hob _ _)
  have sz : ∀ b ∈ fp, b < s2.heap.objs.size := fun b hb => by
    obtain ⟨o, e, _⟩ := T.obj _ _ st2 b hb
    exact Heap.lt_size e
  have st3 : tn 0 (s2.heap.push ob) := T.keep _ _ _ st2 fun b _ o e => Heap.get?_push_of_some _ e
  have z3 : (s2.heap.push ob).objs.size = s2.heap.objs.size + 1 := Heap.size_push ..
  have f3 : ∀ b ∈ fp, FpOk X pins (upd H2 s2.heap.objs.size (o0 s2.heap.objs.size)) b ∧ b < (s2.heap.push ob).objs.size := fun b hb => ⟨⟨by rw [upd_ne (Nat.ne_of_lt (sz b hb))]; exact (f2 b hb).1, (f2 b hb).2⟩, by rw [z3]; exact Nat.lt_succ_of_lt (sz b hb)⟩
  generalize s2.heap.objs.size = D at hDn w0 turn I3 f3 sz z3 ⊢
  generalize hs3 : ({ s2 with heap := s2.heap.push ob } : Shared) = s3 at I3 ⊢
  have h3 : s3.heap = s2.heap.push ob := by rw [← hs3]
  rw [← h3] at st3 f3 z3
  generalize upd H2 D (o0 D) = H3 at I3 w0 f3
  have I4 := block_start I3 ok hN f3
  have pg := hg s3 H3 s3.heap.objs.size (cellsFrom (s3.heap.objs.size + 1) scope.names (cloFrom X.env.cells scope.names [])) fp
  have pt := ht s3 H3 s3.heap.objs.size (cellsFrom (s3.heap.objs.size + 1) scope.names (cloFrom X.env.cells scope.names [])) fp
  have pi1 := hi1 s3 H3 s3.heap.objs.size (cellsFrom (s3.heap.objs.size + 1) scope.names (cloFrom X.env.cells scope.names [])) fp
  have pg1 := hg1 s3 H3 s3.heap.objs.size (cellsFrom (s3.heap.objs.size + 1) scope.names (cloFrom X.env.cells scope.names [])) fp
  have pt1 := ht1 s3 H3 s3.heap.objs.size (cellsFrom (s3.heap.objs.size + 1) scope.names (cloFrom X.env.cells scope.names [])) fp
  have pb := hb s3 H3 s3.heap.objs.size (cellsFrom (s3.heap.objs.size + 1) scope.names (cloFrom X.env.cells scope.names [])) fp
  have stat : ∀ {σ' : L2.St} {H' : Hp} {s' : Shared} {ce' : Env}, Inv (X.blk s3 H3 scope ce' fp) [] σ' H' s' → (∀ b ∈ fp, H' b = none) → ∀ b ∈ fp, FpOk (X.blk s3 H3 scope ce' fp) [] H' b := fun {σ' H' s' ce'} I' hn b hb =>
    ⟨hn b hb, (I'.ok.exf b hb).1, I'.ok.exfs b hb, .inl hb, fun x c e => (I'.ok.exf b hb).2 x c e, fun p hp => absurd (show p ∈ ([] : List (Addr × Obj)) ++ [] from hp) (by simp)⟩
  have nfp : ∀ b ∈ fp, H3 b = none := fun b hb => (f3 b hb).1.1
  show codeAny _ _ (.compStart ce 0 (.ref it) (.ref D) (compEnvC scope (cellsFrom (s3.heap.objs.size + 1) scope.names (cloFrom X.env.cells scope.names [])) s3.heap.objs.size X.env)) (compPost (model X.prog X.w) X.A X.xe use Qf (.ref D) s3.heap.objs.size) { s3 with heap := pushCells (s3.heap.push { cls := .type "dict", data := .dict #[] }) scope.names }
  generalize hev : compEnvC scope (cellsFrom (s3.heap.objs.size + 1) scope.names (cloFrom X.env.cells scope.names [])) s3.heap.objs.size X.env = ev at I4 pg pt pi1 pg1 pt1 pb ⊢
  have cL : ev.locals = s3.heap.objs.size := by rw [← hev]; rfl
  generalize hs4 : ({ s3 with heap := pushCells (s3.heap.push { cls := .type "dict", data := .dict #[] }) scope.names } : Shared) = s4 at I4 ⊢
  have st4 : tn 0 s4.heap := T.keep _ _ _ st3 fun b _ o e => by rw [← hs4]; exact pushCells_keeps _ _ _ _ (Heap.get?_push_of_some _ e)
  have loop : codeAny (model X.prog X.w) X.A (.compLoop ce 0 (.ref it) (.ref D) ev) (compPost (model X.prog X.w) X.A X.xe use Qf (.ref D) s3.heap.objs.size) s4 := by
    refine walkO hp hO (hs1 ev) (fun n s' => ∃ i H', Inv (X.blk s3 H3 scope ev fp) [] (L2.wipe σ (own.map (·.2))) H' s' ∧ tn i s'.heap ∧ (∀ b ∈ fp, H' b = none) ∧ W i n H') ?_ m0 ⟨0, H3, I4, st4, nfp, w0⟩
    rintro n s5 ⟨i, H5, I5, st5, n5, w5⟩
    rcases turn i n H5 w5 with ⟨stop, qq⟩ | ⟨go, Nx, hNx, step⟩
    · refine thnF (T.done (X.blk s3 H3 scope ev fp) rfl rfl rfl hc i [] s5 _ H5 (fun _ _ => False) I5 (stat I5 n5) st5 stop) fun r s6 ⟨hr, I6⟩ => ?_
      subst hr
      have I7 : Inv X pins σ H5 s6 := I3.call' (ch := fp) I6.os I6.base I6.hok I6.bare fun b hb => ⟨(f3 b hb).1.2.2.2.1, (f3 b hb).1.2.1, (f3 b hb).1.2.2.2.2.1, (f3 b hb).1.2.2.2.2.2⟩
      have nC : H5 s3.heap.objs.size = none := by
        have z : H5 ev.locals = none := I6.free
        rwa [cL] at z
      obtain ⟨m, hn, _⟩ := I6.loc
      have hn : s6.heap.Ns ev.locals m := hn
      rw [cL] at hn
      exact hRR D s3.heap.objs.size s6 m H5 I7 qq hn (I3.fpOk (Nat.le_refl _) nC)
    · refine thnF (T.item (X.blk s3 H3 scope ev fp) rfl rfl rfl hc i [] s5 _ H5 (fun _ _ => False) I5 (stat I5 n5) st5 go) fun r s6 ⟨u, hr, h6⟩ => ?_
      subst hr
      refine thnF h6 fun _ s7 ⟨x, H7, I7, r7, y7, st7, n7⟩ => ?_
      have I7' := I7.pinned (stat I7 n7) (T.obj _ _ st7)
      refine thnF (pg.run _ s7 _ H7 x u _ I7' r7 (step x H7 y7)) fun _ s8 ⟨σ8, H8, I8, hw8, q8⟩ => ?_
      refine thnF (pt.run _ s8 σ8 H8 _ I8 q8) fun b s9 ⟨H9, I9, q9⟩ => ?_
      have fin : ∀ {σ9 : L2.St} {s' : Shared} {H' : Hp}, Inv (X.blk s3 H3 scope ev fp) ([] ++ pinsAt fp s7.heap) σ9 H' s' → (L2.wipe σ (own.map (·.2))).length = σ9.length → (∀ (j : Nat) v, (L2.wipe σ (own.map (·.2)))[j]? = some (some v) → σ9[j]? = some (some v)) → Nx H' →
          ∃ m, m < n ∧ ∃ i H', Inv (X.blk s3 H3 scope ev fp) [] (L2.wipe σ (own.map (·.2))) H' s' ∧ tn i s'.heap ∧ (∀ b ∈ fp, H' b = none) ∧ W i m H' := fun {σ9 s' H'} I' hl hk nx => by
        obtain ⟨m', hm, w'⟩ := hNx H' nx
        have pin' : ∀ b ∈ fp, ∀ o, s7.heap.get? b = some o → s'.heap.get? b = some o ∧ H' b = none := fun b hb o e =>
          let z := I'.pin (b, o) (List.mem_append_right _ (List.mem_append_right _ (mem_pinsAt hb e)))
          ⟨z.1, z.2.1⟩
        refine ⟨m', hm, i + 1, H', (I'.unpinned (pins := [])).weak hl hk, T.keep _ _ _ st7 fun b hb o e => (pin' b hb o e).1, fun b hb => ?_, w'⟩
        obtain ⟨o, e, _⟩ := T.obj _ _ st7 b hb
        exact (pin' b hb o e).2
      have hl8 : (L2.wipe σ (own.map (·.2))).length = σ8.length := by rw [← hw8, wipe_length]
      have hk8 : ∀ (j : Nat) v, (L2.wipe σ (own.map (·.2)))[j]? = some (some v) → σ8[j]? = some (some v) := fun j v e => by
        rw [← hw8] at e
        exact (wipe_some e).1
      have hk9 : ∀ (j : Nat) v, (L2.wipe σ (own.map (·.2)))[j]? = some (some v) → (L2.wipe σ8 vs1)[j]? = some (some v) := fun j v e => by
        rw [← hw8] at e
        obtain ⟨e1, e2⟩ := wipe_some e
        rw [L2.wipe_out fun z => e2 (hv j z)]
        exact e1
      by_cases hbt : b = true
      · subst hbt
        simp only [if_true] at q9 ⊢
        refine thnF (pi1.run _ s9 σ8 H9 _ I9 q9) fun xv s10 hx => thnF hx fun itv s11 h11 => ?_
        obtain ⟨it1, fp1, tn1, J1, H11, e1, I11, T1, st11, f11, W1, ⟨m1, w1⟩, turn1⟩ := h11
        subst e1
        have stat1 : ∀ {H' : Hp}, (∀ b ∈ fp1, H' b = none) → ∀ b ∈ fp1, FpOk (X.blk s3 H3 scope ev fp) ([] ++ pinsAt fp s7.heap) H' b := fun hn b hb => ⟨hn b hb, (f11 b hb).2⟩
        have loop1 : codeAny (model X.prog X.w) X.A (.compLoop ce 1 (.ref it1) (.ref D) ev)
            (fun r s' => match r with
              | .ok _ => ∃ m, m < n ∧ ∃ i H', Inv (X.blk s3 H3 scope ev fp) [] (L2.wipe σ (own.map (·.2))) H' s' ∧ tn i s'.heap ∧ (∀ b ∈ fp, H' b = none) ∧ W i m H'
              | .error _ => False) s11 := by
          refine walkI hp hI (fun k s' => ∃ j H', Inv (X.blk s3 H3 scope ev fp) ([] ++ pinsAt fp s7.heap) (L2.wipe σ8 vs1) H' s' ∧ tn1 j s'.heap ∧ (∀ b ∈ fp1, H' b = none) ∧ W1 j k H') ?_ m1 ⟨0, H11, I11.weak (wipe_length _ _) (fun j v e => (wipe_some e).1), st11, fun b hb => (f11 b hb).1, w1⟩
          rintro k s12 ⟨j, H12, I12, st12, n12, w12⟩
          rcases turn1 j k H12 w12 with ⟨stop1, nx1⟩ | ⟨go1, Nx1, hNx1, step1⟩
          · refine thnF (T1.done (X.blk s3 H3 scope ev fp) rfl rfl rfl hc j _ s12 (L2.wipe σ8 vs1) H12 (fun _ _ => False) I12 (stat1 n12) st12 stop1) fun r s13 ⟨hr, I13⟩ => ?_
            subst hr
            exact fin I13 (hl8.trans (wipe_length σ8 vs1).symm) hk9 nx1
          · refine thnF (T1.item (X.blk s3 H3 scope ev fp) rfl rfl rfl hc j _ s12 (L2.wipe σ8 vs1) H12 (fun _ _ => False) I12 (stat1 n12) st12 go1) fun r s13 ⟨u1, hr, h13⟩ => ?_
            subst hr
            refine thnF h13 fun _ s14 ⟨x1, H14, I14, r14, y14, st14, n14⟩ => ?_
            have I14' := I14.pinned (stat1 n14) (T1.obj _ _ st14)
            refine thnF (pg1.run _ s14 (L2.wipe σ8 vs1) H14 x1 u1 _ I14' r14 (step1 x1 H14 y14)) fun _ s15 ⟨σ15, H15, I15, hw15, q15⟩ => ?_
            refine thnF (pt1.run _ s15 σ15 H15 _ I15 q15) fun b1 s16 ⟨H16, I16, q16⟩ => ?_
            have fin1 : ∀ {s' : Shared} {H' : Hp}, Inv (X.blk s3 H3 scope ev fp) (([] ++ pinsAt fp s7.heap) ++ pinsAt fp1 s14.heap) σ15 H' s' → Nx1 H' → ∃ m, m < k ∧ ∃ j H', Inv (X.blk s3 H3 scope ev fp) ([] ++ pinsAt fp s7.heap) (L2.wipe σ8 vs1) H' s' ∧ tn1 j s'.heap ∧ (∀ b ∈ fp1, H' b = none) ∧ W1 j m H' := fun {s' H'} I' nx => by
              obtain ⟨m', hm, w'⟩ := hNx1 H' nx
              have pin' : ∀ b ∈ fp1, ∀ o, s14.heap.get? b = some o → s'.heap.get? b = some o ∧ H' b = none := fun b hb o e =>
                let z := I'.pin (b, o) (List.mem_append_right _ (List.mem_append_right _ (mem_pinsAt hb e)))
                ⟨z.1, z.2.1⟩
              refine ⟨m', hm, j + 1, H', I'.unpinned.weak (by rw [← hw15, wipe_length]) (fun j v e => by rw [← hw15] at e; exact (wipe_some e).1), T1.keep _ _ _ st14 fun b hb o e => (pin' b hb o e).1, fun b hb => ?_, w'⟩
              obtain ⟨o, e, _⟩ := T1.obj _ _ st14 b hb
              exact (pin' b hb o e).2
            by_cases hb1 : b1 = true
            · subst hb1
              simp only [if_true] at q16 ⊢
              exact thnF (pb _ s16 σ15 H16 D Nx1 I16 q16) fun _ s17 ⟨H17, I17, nx⟩ => fin1 I17 nx
            · have hb1 : b1 = false := Bool.eq_false_iff.mpr hb1
              subst hb1
              simp only [Bool.false_eq_true, if_false] at q16 ⊢
              exact fin1 I16 q16
        exact h1 _ _ _ _ _ _ _ _ loop1 (T1.self X.A 0 _ _ _ st11 loop1)
      · have hbt : b = false := Bool.eq_false_iff.mpr hbt
        subst hbt
        simp only [Bool.false_eq_true, if_false] at q9 ⊢
        exact fin I9 hl8 hk8 q9
  exact h0 _ _ _ _ _ _ _ _ loop (T.self X.A 0 _ _ _ st4 loop)
end
/-! ### a set of ints -/
section
variable {K : PySem.W.Frag} {C : Ctx} {H : Hp} {O : Ad} {σ : L2.St} {env : Ev}
theorem EnvOk.unhide0 {a : Addr} {o : HO} (E : EnvOk K (C.hide a o) H O σ env) (nl : C.lock a = none) (nb : NoBr K C a) : EnvOk K C H O σ env := by
  have drop : ∀ {b : Addr}, (C.hide a o).lock b = none → C.lock b = none := fun {b} h => by
    have h : (if b = a then some o else C.lock b) = none := h
    split at h
    · cases h
    · exact h
  refine ⟨E.len, fun b z => E.o0 b (.inl z), E.trk, fun b u z => E.lock b u ?_, E.fz, fun i e q => ?_, E.io, fun i b q => ?_, E.br, fun i v e q => ?_, E.sep, E.mx.move .refl (fun _ _ e => ⟨e, rfl⟩) (fun _ _ => rfl) fun b hb => ?_⟩
  · show (if b = a then some o else C.lock b) = some u
    rw [if_neg (fun q => by rw [q, nl] at z; cases z)]; exact z
  · obtain ⟨b, q1, h1, h2, h3, h4⟩ := E.ow i e q
    exact ⟨b, q1, h1, fun z => h2 (.inl z), drop h3, h4⟩
  · obtain ⟨q1, h1, h2, h3⟩ := E.ioS i b q
    exact ⟨q1, h1, drop h2, h3⟩
  · obtain ⟨q1, q2, h⟩ := E.brS i v e q
    refine ⟨q1, q2, h.imp id fun ⟨b, e1, h1, h2, h3⟩ => ⟨b, e1, h1, ?_, h3⟩⟩
    subst e1
    have n : b ≠ a := fun z => nb i e (z ▸ q) H O (z ▸ h3)
    have h2 : (if b = a then some o else C.lock b) ≠ none := h2
    rwa [if_neg n] at h2
  · obtain ⟨h1, h2, h3, h4⟩ := E.mx.own b hb
    exact ⟨h1, fun z => h2 (.inl z), drop h3, h4⟩
theorem upd_upd {a : Addr} {x y : HO} : upd (upd H a x) a y = upd H a y := by
  funext b
  by_cases h : b = a
  · rw [h, upd_same, upd_same]
  · rw [upd_ne h, upd_ne h, upd_ne h]
/-- a new thing of any kind, out of sight -/
theorem EnvOk.newH (E : EnvOk K C H O σ env) {a : Addr} {o : HO} (n : H a = none) : Step H O (upd H a o) (fun b => O b ∨ b = a) ∧ EnvOk K (C.hide a o) (upd H a o) (fun b => O b ∨ b = a) σ env ∧ C.lock a = none ∧ NoBr K C a := by
  have nb : NoBr K C a := E.noBr n
  obtain ⟨s2, E2, L⟩ := E.new (o := .lst []) (d := .lst []) n fun O' s => .lst upd_same .nil
  have E3 := E2.hide L upd_same
  obtain ⟨s4, E4⟩ := E3.rehide (o' := o) nb
  rw [upd_upd] at s4 E4
  exact ⟨s2.trans s4, E4, L.nl, nb⟩
end
theorem compL_pre {own : List Nat} {g : SG} {t : SB} {f : SE} : ∀ {ds acc : List D} {env : Ev} {z : List D × Ev}, compL own g t f ds acc env = some z → ∃ l, z.1 = acc ++ l
  | [], acc, env, z, h => by
    cases (show some (acc, env) = some z from h)
    exact ⟨[], (List.append_nil _).symm⟩
  | d :: ds, acc, env, z, h => by
    have h : (if wipeOk env own = true then (g d (wipeE env own)).bind fun e1 => (t e1).bind fun r => if r.1 = true then (f r.2).bind fun z => if acc.length < sizeLine then compL own g t f ds (acc ++ [z.1]) (restore env z.2 own) else none
      else compL own g t f ds acc (restore env r.2 own)
    else none) = some z := h
    split at h
    · obtain ⟨e1, _, h⟩ := bindS h
      obtain ⟨r, _, h⟩ := bindS h
      split at h
      · obtain ⟨v, _, h⟩ := bindS h
        split at h
        · obtain ⟨l, e⟩ := compL_pre h
          exact ⟨v.1 :: l, by rw [e, List.append_assoc]; rfl⟩
        · cases h
      · exact compL_pre h
    · cases h
theorem compL2_pre {own own1 : List Nat} {g g1 : SG} {t t1 : SB} {it1 : SI} {f : SE} : ∀ {ds acc : List D} {env : Ev} {z : List D × Ev}, compL2 own g t it1 own1 g1 t1 f ds acc env = some z → ∃ l, z.1 = acc ++ l
  | [], acc, env, z, h => by
    cases (show some (acc, env) = some z from h)
    exact ⟨[], (List.append_nil _).symm⟩
  | d :: ds, acc, env, z, h => by
    rw [compL2_cons] at h
    obtain ⟨r, h1, h2⟩ := bindS h
    obtain ⟨l, e⟩ := compL2_pre h2
    unfold oneC2 at h1
    split at h1
    · obtain ⟨e1, _, h1⟩ := bindS h1
      obtain ⟨b, _, h1⟩ := bindS h1
      split at h1
      · obtain ⟨q, _, h1⟩ := bindS h1
        split at h1
        · obtain ⟨y, h3, h1⟩ := bindS h1
          cases h1
          obtain ⟨l', e'⟩ := compL_pre h3
          exact ⟨l' ++ l, by rw [e, ← List.append_assoc, ← e']⟩
        · cases h1
      · cases h1
        exact ⟨l, e⟩
    · cases h1
/-- what adding to a set does -/
def tbS (w : World) (te : TE) : Addr → L2.St → Hp → (Hp → Prop) → Prop := fun D σ H Nx => te σ H fun y H7 => ∃ (k : Int) (S : Int → Bool) (n : Nat), y = .int k ∧ H7 D = some (SetO w D S n) ∧ n + 1 < scanBound ∧ Nx (upd H7 D (SetO w D (fun j => S j || decide (j = k)) (if S k = true then n else n + 1)))
theorem body_set {Y : Cx} {elt : Expr} {te : TE} (he : PE Y elt te) : BodyR Y Y.env (fun acc env => do let v ← eval elt env; standAt elt.pos; let _ ← call (.builtin "set.add") [acc, v]) (tbS Y.w te) := by
  intro pins s σ H D Nx I h
  refine wpAny_bind (thn (he.run pins s σ H _ I h) fun v s1 ⟨y, H1, I1, r1, k, S, n, ey, hD, room, nx⟩ => wpAny_bind (wpAny_standAt (wpAny_bind ?_)))
  subst ey
  obtain ⟨tk, rfl⟩ : ∃ tk, v = .int k tk := r1
  refine setR_add (setO_get I1 hD) room fun h' sb new => ?_
  have hx : ∃ u, h'.get? D = some u := by
    have ⟨o, _, _, _, ho, _⟩ := new
    exact ⟨o, ho⟩
  exact wpAny_pure ⟨_, I1.write (e := D) (t' := s1.toks + 1) (by rw [hD]; trivial) (.inl rfl) (fun b u hb hu => (sb.2 b hb).trans hu) hx (setO_new new), nx⟩
/-! ### what is read -/
abbrev sO (w : World) (a : Addr) (ks : List Int) (n : Nat) : HO := SetO w a (fun j => decide (j ∈ ks)) n
theorem sO_nil {w : World} {a : Addr} : SetO w a (fun _ => false) 0 = sO w a [] 0 := by
  congr 1
theorem sO_snoc {w : World} {a : Addr} {ks : List Int} {k : Int} {n : Nat} : SetO w a (fun j => decide (j ∈ ks) || decide (j = k)) n = sO w a (ks ++ [k]) n := by
  congr 1
  funext j
  rw [Bool.eq_iff_iff]
  simp
section
variable {X : Cx} {elt tg iter tg1 iter1 : Expr} {ifs ifs1 : List Expr} {scope : Scope} {own : List (Str × Nat)} {pos : Pos} {it it1 : SI} {g g1 : SG} {t t1 : SB} {f : SE}
theorem ints_map_inj : ∀ {ks ns : List Int}, ks.map D.int = ns.map D.int → ks = ns
  | [], [], _ => rfl
  | [], _ :: _, h => by cases h
  | _ :: _, [], h => by cases h
  | a :: ks, b :: ns, h => by
    injection h with h1 h2
    injection h1 with h1
    rw [h1, ints_map_inj h2]
theorem comp_readS {σ : L2.St} {H : Hp} {Q : VK} {vs vs1 sl sl1 : List Nat} (hsl : ∀ j ∈ sl, j ∈ vs) (hsl1 : ∀ j ∈ sl1, j ∈ vs1)
    (h : ∃ C O env, EnvOk X.K C H O σ env ∧ ∃ (r : List D × Option Nat × Ev) (y : List D × Ev) (ns : List Int), it env = some r ∧ compL2 vs g t it1 vs1 g1 t1 f r.1 [] (lockE r.2.2 r.2.1) = some y ∧ y.1 = ns.map D.int ∧ ns.length < 64 ∧ ∀ p n H' O', n ≤ ns.length → Step H O H' O' → EnvOk X.K C H' O' σ (unlockE r.2.2 y.2 r.2.1) → H' p = some (sO X.w p ns n) → Q (.ref p) H') :
    tC2 (fun D => SetO X.w D (fun _ => false) 0) (rdI X.K it) (rdG X.K g sl) (rdB X.K t) (rdI0 X.K it1) (rdG X.K g1 sl1) (rdB X.K t1) (tbS X.w (rdE X.K f)) vs vs1 σ H Q := by
  obtain ⟨C, O, env, E, r, y, ns, e1, e3, hy, h64, k⟩ := h
  refine ⟨C, O, env, E, r, e1, fun J H1 O1 Src C' s1 E1 back itd src => fun L hL => ?_⟩
  obtain ⟨s2, E3, nl, nb⟩ := E1.newH (o := SetO X.w L (fun _ => false) 0) hL
  have lkC : ∀ {o : HO} {H : Hp} {O : Ad} {σ : L2.St} {env : Ev}, EnvOk X.K (C'.hide L o) H O σ env → ∀ a o, C'.lock a = some o → H a = some o := fun E a o ha => E.lock a o (by
    show (if a = L then some _ else C'.lock a) = some o
    rw [if_neg (fun z => by rw [z, nl] at ha; cases ha)]; exact ha)
  have atL : ∀ {o : HO} {H : Hp} {O : Ad} {σ : L2.St} {env : Ev}, EnvOk X.K (C'.hide L o) H O σ env → H L = some o := fun E => E.lock L _ (if_pos rfl)
  rw [sO_nil] at s2 E3
  show ∃ W : Nat → Nat → Hp → Prop, (∃ m, W 0 m (upd H1 L (SetO X.w L (fun _ => false) 0))) ∧ _
  rw [sO_nil]
  refine ⟨fun i m H => ∃ O env ks n, EnvOk X.K (C'.hide L (sO X.w L ks n)) H O σ env ∧ Step H1 O1 H O ∧ Src H O ∧ n ≤ ks.length ∧ i + m = r.1.length ∧ compL2 vs g t it1 vs1 g1 t1 f (r.1.drop i) (ks.map D.int) env = some y, ⟨r.1.length, _, _, [], 0, E3, s2, itd.keep _ _ _ _ src s2 (lkC E3), Nat.le_refl _, by omega, e3⟩, fun i m H3 hW => ?_⟩
  obtain ⟨O3, env3, ks, n, E4, s4, src4, hn, hm, e5⟩ := hW
  by_cases hi : i < r.1.length
  · rw [List.drop_eq_getElem_cons hi] at e5
    have e5 : (if wipeOk env3 vs = true then (g r.1[i] (wipeE env3 vs)).bind fun e1 => (t e1).bind fun w => if w.1 = true then (it1 w.2).bind fun q => if q.2.1 = none then (compL vs1 g1 t1 f q.1 (ks.map D.int) q.2.2).bind fun z => compL2 vs g t it1 vs1 g1 t1 f (r.1.drop (i + 1)) z.1 (restore env3 z.2 vs) else none
      else compL2 vs g t it1 vs1 g1 t1 f (r.1.drop (i + 1)) (ks.map D.int) (restore env3 w.2 vs)
    else none) = some y := e5
    split at e5
    · rename_i hwo
      obtain ⟨e6, h1, h2⟩ := bindS e5
      obtain ⟨q, h3, h4⟩ := bindS h2
      refine .inr ⟨itd.go i H3 O3 src4 hi, fun H => ∃ O env ks n, EnvOk X.K (C'.hide L (sO X.w L ks n)) H O σ env ∧ Step H1 O1 H O ∧ Src H O ∧ n ≤ ks.length ∧ compL2 vs g t it1 vs1 g1 t1 f (r.1.drop (i + 1)) (ks.map D.int) env = some y, fun H' ⟨O', env', a', v', q1, q2, q3, q4, q5⟩ => ⟨m - 1, by omega, O', env', a', v', q1, q2, q3, q4, by omega, q5⟩, fun x H' yy => ?_⟩
      obtain ⟨ex, d, hd, rp⟩ := itd.yld i H3 O3 x H' src4 E4.trk hi yy
      rw [List.getElem?_eq_getElem hi] at hd
      cases hd
      have s5 : Step H3 O3 H' O3 := .ext ex
      refine ⟨C'.hide L (sO X.w L ks n), O3, _, _, (E4.ext ex).wipe hwo, rp, e6, h1, fun σ2 H4 O4 s6 E6 but => ?_⟩
      have hw : L2.wipe σ2 vs = L2.wipe σ vs := wipe_same hsl (by rw [but.1, wipe_length]) but.2
      have s46 : Step H3 O3 H4 O4 := s5.trans s6
      refine ⟨hw, C'.hide L (sO X.w L ks n), O4, e6, E6, q, h3, fun H5 O5 s7 E7 => ?_⟩
      have s57 : Step H3 O3 H5 O5 := s46.trans s7
      show if q.1 = true then _ else _
      by_cases hq : q.1 = true
      · rw [if_pos hq]
        rw [if_pos hq] at h4
        obtain ⟨p, h5, h6⟩ := bindS h4
        split at h6
        · rename_i hpn
          obtain ⟨zz, h7, h8⟩ := bindS h6
          obtain ⟨l8, p8⟩ := compL2_pre h8
          refine ⟨C'.hide L (sO X.w L ks n), O5, q.2, E7, p, h5, hpn, fun J1 H6 O6 Src1 s8 E8 itd1 src1 => ?_⟩
          have itd1 := itd1 C'
          have s68 : Step H3 O3 H6 O6 := s57.trans s8
          refine ⟨fun j m H => ∃ O env ks n, EnvOk X.K (C'.hide L (sO X.w L ks n)) H O σ2 env ∧ Step H3 O3 H O ∧ Src1 H O ∧ n ≤ ks.length ∧ j + m = p.1.length ∧ compL vs1 g1 t1 f (p.1.drop j) (ks.map D.int) env = some zz, ⟨p.1.length, O6, _, ks, n, E8, s68, src1, hn, by omega, h7⟩, fun j m H7 hW1 => ?_⟩
          obtain ⟨O7, env7, ks7, n7, E9, s9, src7, hn7, hm7, e9⟩ := hW1
          by_cases hj : j < p.1.length
          · rw [List.drop_eq_getElem_cons hj] at e9
            have e9 : (if wipeOk env7 vs1 = true then (g1 p.1[j] (wipeE env7 vs1)).bind fun e1 => (t1 e1).bind fun w => if w.1 = true then (f w.2).bind fun z => if (ks7.map D.int).length < sizeLine then compL vs1 g1 t1 f (p.1.drop (j + 1)) (ks7.map D.int ++ [z.1]) (restore env7 z.2 vs1) else none
              else compL vs1 g1 t1 f (p.1.drop (j + 1)) (ks7.map D.int) (restore env7 w.2 vs1)
            else none) = some zz := e9
            split at e9
            · rename_i hwo1
              obtain ⟨e10, i1, i2⟩ := bindS e9
              obtain ⟨w, i3, i4⟩ := bindS i2
              refine .inr ⟨itd1.go j H7 O7 src7 hj, fun H => ∃ O env ks n, EnvOk X.K (C'.hide L (sO X.w L ks n)) H O σ2 env ∧ Step H3 O3 H O ∧ Src1 H O ∧ n ≤ ks.length ∧ compL vs1 g1 t1 f (p.1.drop (j + 1)) (ks.map D.int) env = some zz, fun H' ⟨O', env', a', v', q1, q2, q3, q4, q5⟩ => ⟨m - 1, by omega, O', env', a', v', q1, q2, q3, q4, by omega, q5⟩, fun x8 H8 yy1 => ?_⟩
              obtain ⟨ex1, d1, hd1, rp1⟩ := itd1.yld j H7 O7 x8 H8 src7 E9.trk hj yy1
              rw [List.getElem?_eq_getElem hj] at hd1
              cases hd1
              have t5 : Step H7 O7 H8 O7 := .ext ex1
              refine ⟨C'.hide L (sO X.w L ks7 n7), O7, _, _, (E9.ext ex1).wipe hwo1, rp1, e10, i1, fun σ3 H9 O9 t6 F6 but1 => ?_⟩
              have hw1 : L2.wipe σ3 vs1 = L2.wipe σ2 vs1 := wipe_same hsl1 (by rw [but1.1, wipe_length]) but1.2
              have t46 : Step H7 O7 H9 O9 := t5.trans t6
              refine ⟨hw1, C'.hide L (sO X.w L ks7 n7), O9, e10, F6, w, i3, fun H10 O10 t7 F7 => ?_⟩
              have t57 : Step H7 O7 H10 O10 := t46.trans t7
              show if w.1 = true then _ else _
              by_cases hwq : w.1 = true
              · rw [if_pos hwq]
                rw [if_pos hwq] at i4
                obtain ⟨v1, i5, i6⟩ := bindS i4
                split at i6
                · rename_i hlen
                  obtain ⟨l6, p6⟩ := compL_pre i6
                  have hall : y.1 = ks7.map D.int ++ (v1.1 :: (l6 ++ l8)) := by rw [p8, p6, List.append_assoc, List.append_assoc]; rfl
                  have hin : v1.1 ∈ ns.map D.int := by rw [← hy, hall]; exact List.mem_append_right _ List.mem_cons_self
                  obtain ⟨kk, _, hkk⟩ := List.mem_map.mp hin
                  have hlen7 : ks7.length < ns.length := by
                    have := congrArg List.length hall
                    rw [hy, List.length_map, List.length_append, List.length_map, List.length_cons] at this
                    omega
                  refine ⟨C'.hide L (sO X.w L ks7 n7), O10, w.2, F7, v1, i5, fun y11 H11 O11 t8 F8 rp8 => ?_⟩
                  rw [← hkk] at rp8 i6
                  cases rp8
                  have t68 : Step H7 O7 H11 O11 := t57.trans t8
                  have F9 := E9.restore hwo1 t68 F8 hw1
                  refine ⟨kk, _, n7, rfl, atL F8, by unfold scanBound; omega, ?_⟩
                  rw [sO_snoc]
                  obtain ⟨t9, F10⟩ := F9.rehide (o' := sO X.w L (ks7 ++ [kk]) (if decide (kk ∈ ks7) = true then n7 else n7 + 1)) nb
                  refine ⟨O11, _, ks7 ++ [kk], _, F10, s9.trans (t68.trans t9), itd1.keep _ _ _ _ src7 (t68.trans t9) (lkC F10), ?_, ?_⟩
                  · rw [List.length_append]
                    show _ ≤ ks7.length + 1
                    split <;> omega
                  · rw [List.map_append]; exact i6
                · cases i6
              · rw [if_neg hwq]
                rw [if_neg hwq] at i4
                have F9 := E9.restore hwo1 t57 F7 hw1
                exact ⟨O10, _, ks7, n7, F9, s9.trans t57, itd1.keep _ _ _ _ src7 t57 (lkC F9), hn7, i4⟩
            · cases e9
          · have hj : j = p.1.length := by omega
            rw [hj, List.drop_length] at e9
            cases e9
            have F9 := E4.restoreH hwo s9 E9 hw
            exact .inl ⟨by rw [hj]; exact itd1.stop H7 O7 src7, O7, _, ks7, n7, F9, s4.trans s9, itd.keep _ _ _ _ src4 s9 (lkC F9), hn7, h8⟩
        · cases h6
      · rw [if_neg hq]
        rw [if_neg hq] at h4
        have E9 := E4.restore hwo s57 E7 hw
        exact ⟨O5, _, ks, n, E9, s4.trans s57, itd.keep _ _ _ _ src4 s57 (lkC E9), hn, h4⟩
    · cases e5
  · have hi : i = r.1.length := by omega
    rw [hi, List.drop_length] at e5
    cases e5
    have hks : ks = ns := by
      have := hy
      exact ints_map_inj this
    subst hks
    obtain ⟨b1, _⟩ := back _ _ _ _ (E4.unhide0 nl nb)
    exact .inl ⟨by rw [hi]; exact itd.stop H3 O3 src4, k L n H3 O3 hn (s1.trans s4) b1 (atL E4)⟩
end
/-! ### sorted({.. for .. for ..}) -/
section
variable {X : Cx} {elt tg iter tg1 iter1 : Expr} {ifs ifs1 : List Expr} {scope : Scope} {own : List (Str × Nat)} {pos : Pos} {it it1 : SI} {g g1 : SG} {t t1 : SB} {f : SE}
theorem pe_sc2 {vs1 : List Nat} {wi wi1 : TI} {G G1 : TG} {tt tt1 : TT} {te : TE} (hc : X.calm = true) (hN : X.N.Nodup) (hi : PI X tg iter wi) (ok : BlkOk X.N X.env.scope scope own) (hv : ∀ i ∈ vs1, i ∈ own.map (·.2))
    (hg : Blk' X scope fun Y _ => PG Y tg G) (ht : Blk' X scope fun Y _ => PTs Y ifs tt) (hi1 : Blk' X scope fun Y _ => PI Y tg1 iter1 wi1) (hg1 : Blk' X scope fun Y _ => PG Y tg1 G1) (ht1 : Blk' X scope fun Y _ => PTs Y ifs1 tt1) (he : Blk' X scope fun Y _ => PE Y elt te)
    (hs : ∀ x, foldedSetIterable iter X.env x = pure x) (hs1 : ∀ env x, foldedSetIterable iter1 env x = pure x) :
    PE X (.SetComp elt [⟨tg, iter, ifs, 0⟩, ⟨tg1, iter1, ifs1, 0⟩] scope pos) (tC2 (fun D => SetO X.w D (fun _ => false) 0) wi G tt wi1 G1 tt1 (tbS X.w te) (own.map (·.2)) vs1) := by
  refine ⟨fun pins s σ H Q I h => ?_⟩
  rw [PpSet.eval_SetComp]
  refine c2_core loopP_set turnO_set turnI_set starts0_set starts1_set (fun h => PpSet.newSet_ok h) (fun h H => setO_new (setR_fresh X.w)) hc hN I hi ok hv hg ht hs hi1 hg1 ht1 (fun s H C cl fp => body_set (he s H C cl fp)) hs1 rfl h fun D C s' m H' I' q hn f => ⟨m, hn, fun h'' sb => ?_⟩
  obtain ⟨f0, f1, f2, f3, f4, f5⟩ := f
  exact ⟨.ref D, H', I'.turned (t' := s'.toks) (fun b o hb e => (sb.2 b hb).trans e) f0 f1 f3 f4 f5, rfl, q⟩
def gSortSC (d : D) : Option D := (lstD d).bind fun ds => (intsOf ds).bind fun ns => if ns.length < 64 then some (.lst ((sortI (ddI ns)).map .int)) else none
/-- sorted({e for x in xs for y in ys}) of ints -/
def eSortSC (own : List Nat) (it : SI) (g : SG) (t : SB) (it1 : SI) (own1 : List Nat) (g1 : SG) (t1 : SB) (f : SE) : SE := fun env => (eComp2 own it g t it1 own1 g1 t1 f env).bind fun r => (gSortSC r.1).bind fun d => some (d, r.2)
theorem df_sortSC {p pos2 : Pos} {sl sl1 vs vs1 : List Nat} (hgs : Gl X "sorted") (hms : X.mg "sorted" = none) (hc : X.calm = true) (hN : X.N.Nodup) (hi : DI X tg iter it) (ok : BlkOk X.N X.env.scope scope own) (hv : ∀ i ∈ vs1, i ∈ own.map (·.2)) (hvs : own.map (·.2) = vs) (hsl : ∀ j ∈ sl, j ∈ vs) (hsl1 : ∀ j ∈ sl1, j ∈ vs1) (hg : Blk X scope fun Y => DG Y tg g sl) (ht : Blk X scope fun Y => DTs Y ifs t) (hi1 : Blk X scope fun Y => DI0 Y tg1 iter1 it1) (hg1 : Blk X scope fun Y => DG Y tg1 g1 sl1) (ht1 : Blk X scope fun Y => DTs Y ifs1 t1) (he : Blk X scope fun Y => DE Y elt f)
    (hs : ∀ x, foldedSetIterable iter X.env x = pure x) (hs1 : ∀ env x, foldedSetIterable iter1 env x = pure x)
    (hs2 : starEach [Expr.SetComp elt [⟨tg, iter, ifs, 0⟩, ⟨tg1, iter1, ifs1, 0⟩] scope pos] X.env = (false, eval (Expr.SetComp elt [⟨tg, iter, ifs, 0⟩, ⟨tg1, iter1, ifs1, 0⟩] scope pos) X.env) :: starEach [] X.env) :
    DF X (.Call (.Name "sorted" p) [.SetComp elt [⟨tg, iter, ifs, 0⟩, ⟨tg1, iter1, ifs1, 0⟩] scope pos] [] pos2) (eSortSC vs it g t it1 vs1 g1 t1 f) := by
  have pe := pe_sc2 (pos := pos) (G := rdG X.K g sl) (tt := rdB X.K t) (G1 := rdG X.K g1 sl1) (tt1 := rdB X.K t1) (te := rdE X.K f) (wi1 := rdI0 X.K it1) hc hN hi.pi ok hv (fun s H C cl fp => (hg s H C cl fp).pg) (fun s H C cl fp => (ht s H C cl fp).pts) (fun s H C cl fp => (hi1 s H C cl fp).pi) (fun s H C cl fp => (hg1 s H C cl fp).pg) (fun s H C cl fp => (ht1 s H C cl fp).pts) (fun s H C cl fp => (he s H C cl fp).pe) hs hs1
  refine ⟨wkE (pe_callB (cr_sortedSet hc) hgs hms (by decide +kernel) (pa_cons pe pa_nil hs2) (by decide) (by decide) hs2 (by rfl)) fun σ H Q ⟨C, O, env, E, z, e, k⟩ => ?_⟩
  obtain ⟨r1, e1, e2⟩ := bindS e
  obtain ⟨d, e3, e4⟩ := bindS e2
  cases e4
  obtain ⟨r, e5, e6⟩ := bindS e1
  obtain ⟨y, e7, e8⟩ := bindS e6
  cases e8
  obtain ⟨ds, d1, d2⟩ := bindS (show (lstD (.lst y.1)).bind (fun ds => (intsOf ds).bind fun ns => if ns.length < 64 then some (D.lst ((sortI (ddI ns)).map D.int)) else none) = some d from e3)
  cases d1
  obtain ⟨ns, d3, d4⟩ := bindS d2
  split at d4
  · rename_i h64
    cases d4
    rw [hvs]
    show tC2 _ _ _ _ _ _ _ _ vs vs1 σ H (fun x H1 => rSortedSet X.w [x] H1 Q)
    refine comp_readS hsl hsl1 ⟨C, O, env, E, r, y, ns, e5, e7, intsOf_eq d3, h64, fun p n H' O' hn s' E' hp => ?_⟩
    refine ⟨p, _, n, rfl, hp, Nat.lt_of_le_of_lt hn h64, fun ms p' m1 m2 m3 hp' => ?_⟩
    rw [sortSet_eq (ns := ns) m1 fun k => (m2 k).trans decide_eq_true_iff]
    obtain ⟨s3, E3, L⟩ := E'.new hp' (own_lst (RepL.ints _))
    exact k p' _ _ (s'.trans s3) E3 L
  · cases d4
theorem ev_eSortSC {own own1 : List Nat} {s : Slot} {e : Ev} : eSortSC own it g t it1 own1 g1 t1 f (s :: e) = (eComp2 own it g t it1 own1 g1 t1 f (s :: e)).bind fun r => (gSortSC r.1).bind fun d => some (d, r.2) := rfl
theorem ev_sortSC {ns : List Int} (h : ns.length < 64) : gSortSC (.lst (ns.map D.int)) = some (.lst ((sortI (ddI ns)).map .int)) := by
  show (intsOf (ns.map D.int)).bind _ = _
  rw [intsOf_map, Option.bind_some, if_pos h]
end
/-! ### max(xs, default=n), ints -/
theorem maxOf_int : ∀ (ys : List Int) (y : Int), PySem.W.maxOf y ys ∈ y :: ys ∧ ∀ x ∈ y :: ys, x ≤ PySem.W.maxOf y ys
  | [], y => ⟨List.mem_cons_self, fun x hx => by rw [List.mem_singleton.mp hx]; exact Int.le_refl _⟩
  | z :: ys, y => by
    have e : PySem.W.maxOf y (z :: ys) = PySem.W.maxOf (if y < z then z else y) ys := by
      show (z :: ys).foldl (fun a y => if PySem.W.DatumOrd.lt a y = true then y else a) y = _
      rw [List.foldl_cons]
      show ys.foldl _ (if decide (y < z) = true then z else y) = _
      by_cases h : y < z
      · rw [if_pos (decide_eq_true h), if_pos h]; rfl
      · rw [if_neg (by rw [decide_eq_true_eq]; exact h), if_neg h]; rfl
    obtain ⟨h1, h2⟩ := maxOf_int ys (if y < z then z else y)
    rw [e]
    generalize PySem.W.maxOf (if y < z then z else y) ys = m at h1 h2
    have hh := h2 _ List.mem_cons_self
    constructor
    · rcases List.mem_cons.mp h1 with h | h
      · rw [h]
        split
        · exact List.mem_cons_of_mem _ List.mem_cons_self
        · exact List.mem_cons_self
      · exact List.mem_cons_of_mem _ (List.mem_cons_of_mem _ h)
    · intro x hx
      rcases List.mem_cons.mp hx with rfl | hx
      · split at hh <;> omega
      · rcases List.mem_cons.mp hx with rfl | hx
        · split at hh <;> omega
        · exact h2 x (List.mem_cons_of_mem _ hx)
section
variable {X : Cx}
def rMaxDef (K : PySem.W.Frag) (d : Int) : List V → List V → Hp → VK → Prop := fun vs zs H Q => ∃ (a : Addr) (ns : List Int), vs = [V.ref a] ∧ zs = [V.int d] ∧ SqL K H a (ns.map V.int) ∧ (ns = [] → Q (.int d) H) ∧ ∀ M, M ∈ ns → (∀ x ∈ ns, x ≤ M) → Q (.int M) H
theorem crk_maxDef {d : Int} (hc : X.calm = true) (hu : X.A.units + 65 < cLine) : CallRK X (.builtin "max") [Str.ofString "default"] (rMaxDef X.K d) := by
  intro pins s σ H xs zs us ws Q I r r2 h
  obtain ⟨a, ns, rfl, rfl, hs, q0, q1⟩ := h
  obtain ⟨its, rv, hl, _⟩ := I.list hs
  rw [Vals.ref1 r]
  obtain ⟨u, rfl, ru⟩ := vals1 r2
  obtain ⟨t, rfl⟩ := ru
  show wpAny (model X.prog X.w) X.A (call (.builtin "max") [.ref a] [(Str.ofString "default", Value.int d t)]) _ _ _
  refine PySem.W.max_list_datum_default (α := Int) (xs := ns) (I.ok.hd hc) hl.isList (PySem.W.HoldAll.of_ints rv.ints) (by show X.A.units + 1 + 0 < cLine; omega) (fun e h' tk hk => ⟨.int d, H, I.kept hk, ⟨t, rfl⟩, q0 e⟩) fun y ys i v h' tk e hi hv hk => ?_
  obtain ⟨as, hr⟩ := hv
  have hr : Reads h' v (.int (PySem.W.maxOf y ys)) as := hr
  obtain ⟨m1, m2⟩ := maxOf_int ys y
  rw [← e] at m1 m2
  cases hr with
  | int n t' => exact ⟨.int _, H, I.kept hk, ⟨t', rfl⟩, q1 _ m1 m2⟩
def maxDef (d : Int) (ns : List Int) : Int := match ns.max? with
  | some m => m
  | none => d
def eMaxDef (d : Int) (f : SE) : SE := fun env => (f env).bind fun r => (lstD r.1).bind fun ds => (intsOf ds).bind fun ns => some (.int (maxDef d ns), r.2)
theorem de_maxDef {a : Expr} {f : SE} {d : Int} {j : Nat} {p pos p2 kp : Pos} (hc : X.calm = true) (hu : X.A.units + 65 < cLine) (hg : Gl X "max") (hm : X.mg "max" = none) (ha : DE X a f) (na : starEach [a] X.env = (false, eval a X.env) :: starEach [] X.env)
    (he : backTo pos (starEach [a] X.env) = (false, eval a X.env) :: backTo pos (starEach [] X.env)) (hpl : (backTo pos (starEach [a] X.env)).any (·.1) = false) :
    DE X (.Call (.Name "max" p) [a] [⟨some (Str.ofString "default"), .Constant (.int d) j p2, kp⟩] pos) (eMaxDef d f) := by
  refine ⟨wkE (pe_callBK (crk_maxDef (d := d) hc hu) hg hm (by decide +kernel) (pa_cons ha.pe pa_nil na) (pk_cons pe_int pk_nil) (by decide) (by decide) he hpl (by rfl) (by rfl) (by rfl)) fun σ H Q ⟨C, O, env, E, z, e, k⟩ => ?_⟩
  obtain ⟨r1, e1, e2⟩ := bindS e
  obtain ⟨ds, e3, e4⟩ := bindS e2
  obtain ⟨ns, e5, e6⟩ := bindS e4
  cases e6
  refine ⟨C, O, env, E, r1, e1, fun v H1 O1 s1 E1 p1 => ?_⟩
  obtain ⟨a, vs, rfl, h1, h2⟩ := lst_ok (.inl p1) e3
  rw [intsOf_eq e5] at h2
  rw [h2.intsV] at h1
  refine ⟨a, ns, rfl, rfl, h1, fun e => ?_, fun M m1 m2 => ?_⟩
  · have : maxDef d ns = d := by rw [e]; rfl
    rw [this] at k
    exact k _ _ O1 s1 E1 (.int d)
  · have : maxDef d ns = M := by
      unfold maxDef
      cases hq : ns.max? with
      | none => rw [List.max?_eq_none_iff.mp hq] at m1; cases m1
      | some m =>
        obtain ⟨w1, w2⟩ := List.max?_eq_some_iff.mp hq
        exact Int.le_antisymm (m2 m w1) (w2 M m1)
    rw [this] at k
    exact k _ _ O1 s1 E1 (.int M)
theorem ev_eMaxDef {d : Int} {f : SE} {s : Slot} {e : Ev} : eMaxDef d f (s :: e) = (f (s :: e)).bind fun r => (lstD r.1).bind fun ds => (intsOf ds).bind fun ns => some (.int (maxDef d ns), r.2) := rfl
end
end Z

namespace Lw
open PySem PySem.Spec PyProof.Rows L2 Z
def topS (i : Nat) : Stmt := PySem.Challenge.pw_timesagree_k67_loads_and_peaks.main.body.getD i (.Pass ⟨0, 0, 0, 0⟩)
/-! times_in(schedule:v) -/
abbrev s_times_in : Stmt := topS 1
theorem sc_times_in : FnScope ["schedule", "point", "time"] ["schedule"] (defScope s_times_in) := ⟨rfl, rfl, rfl, by decide +kernel, rfl, by decide +kernel, by decide +kernel⟩
def B_times_in : SS := (sRet (eDcomp [1, 2] (iS 0) (gTup 2 (gsCons (gName 1) (gsCons (gName 2) gsNil))) tTrue (eVar 1) (eVar 2)))
def F_times_in : List D → Option (D × List D) := runDef false [.v] 3 B_times_in
set_option maxHeartbeats 4000000 in
theorem ok_times_in {P : Program} {w : World} {K : PySem.W.Frag} {mg : Str → Option Value} {base : Heap} {f : Addr} {fd : FuncData} (F : Fun K "times_in" "times_in" s_times_in f fd) (b : L2.Binds K fd ["schedule"] []) (gm : mg "times_in" = some (.ref f)) : DefOk P w K mg base 1 "times_in" [.v] false F_times_in :=
  def_ok F sc_times_in rfl gm b fun cdv A outer s H E hr => (show DSs _ _ B_times_in from
    (dss_one (ds_ret (de_new (df_dcomp rfl sc_times_in.nd (di_slot 0 rfl (Or.inl rfl) (by decide) (by decide)) (blkOk_by (N := ["schedule", "point", "time"]) (sc := defScope s_times_in) (own := [("point", 1), ("time", 2)]) (by decide +kernel)) (by rfl) (by decide) (fun _ _ _ _ _ => (dg_tup rfl (dgs_cons (dg_name 1 sc_times_in.nd rfl (Or.inl rfl) (Or.inr rfl)) (dgs_cons (dg_name 2 sc_times_in.nd rfl (Or.inl rfl) (Or.inr rfl)) dgs_nil (by rfl)) (by rfl)) (by rfl) (by rfl))) (fun _ _ _ _ _ => dts_nil) (fun _ _ _ _ _ => (de_var 1 rfl (Or.inl rfl) (by decide) (by decide))) (fun _ _ _ _ _ => (de_var 2 rfl (Or.inl rfl) (by decide) (by decide))) (fun _ => rfl))))))
/-! running_needs(jobs:v, times:v, moment:v) -/
abbrev s_running_needs : Stmt := topS 3
theorem sc_running_needs : FnScope ["jobs", "times", "moment", "point", "length", "need"] ["jobs", "times", "moment"] (defScope s_running_needs) := ⟨rfl, rfl, rfl, by decide +kernel, rfl, by decide +kernel, by decide +kernel⟩
def B_running_needs : SS := (sRet (eOps gSum (aC (qV (eComp [3, 4, 5] (iS 0) (gTup 3 (gsCons (gName 3) (gsCons (gName 4) (gsCons (gName 5) gsNil)))) (bV (eChain gLe gLt (qV (eOp2 gIx (qS 1) (qS 3))) (qS 2) (qV (eOp2 gAdd (qV (eOp2 gIx (qS 1) (qS 3))) (qS 4))))) (eVar 5))) aN)))
def F_running_needs : List D → Option (D × List D) := runDef false [.v, .v, .v] 6 B_running_needs
set_option maxHeartbeats 4000000 in
theorem ok_running_needs {P : Program} {w : World} {K : PySem.W.Frag} {mg : Str → Option Value} {base : Heap} {f : Addr} {fd : FuncData} (F : Fun K "running_needs" "running_needs" s_running_needs f fd) (b : L2.Binds K fd ["jobs", "times", "moment"] []) (gm : mg "running_needs" = some (.ref f)) (m_sum : mg "sum" = none) : DefOk P w K mg base 1 "running_needs" [.v, .v, .v] false F_running_needs :=
  def_ok F sc_running_needs rfl gm b fun cdv A outer s H E hr => (show DSs _ _ B_running_needs from
    (dss_one (ds_ret (de_callB (cd_sum rfl) (by rfl) m_sum (by decide +kernel) (da_cons (dq_val (de_new (df_comp rfl sc_running_needs.nd (di_slot 0 rfl (Or.inl rfl) (by decide) (by decide)) (blkOk_by (N := ["jobs", "times", "moment", "point", "length", "need"]) (sc := defScope s_running_needs) (own := [("point", 3), ("length", 4), ("need", 5)]) (by decide +kernel)) (by rfl) (by decide) (fun _ _ _ _ _ => (dg_tup rfl (dgs_cons (dg_name 3 sc_running_needs.nd rfl (Or.inl rfl) (Or.inr rfl)) (dgs_cons (dg_name 4 sc_running_needs.nd rfl (Or.inl rfl) (Or.inr rfl)) (dgs_cons (dg_name 5 sc_running_needs.nd rfl (Or.inl rfl) (Or.inr rfl)) dgs_nil (by rfl)) (by rfl)) (by rfl)) (by rfl) (by rfl))) (fun _ _ _ _ _ => (dts_one (dt_chain od_le od_lt (dq_val (de_ix (hu1 hr) (dq_slot 1 rfl (Or.inr (Or.inl rfl)) (by decide) (by decide)) (dq_slot 3 rfl (Or.inl rfl) (by decide) (by decide)) (fun _ _ => rfl))) (dq_slot 2 rfl (Or.inr (Or.inl rfl)) (by decide) (by decide)) (dq_val (de_bin od_add (dq_val (de_ix (hu1 hr) (dq_slot 1 rfl (Or.inr (Or.inl rfl)) (by decide) (by decide)) (dq_slot 3 rfl (Or.inl rfl) (by decide) (by decide)) (fun _ _ => rfl))) (dq_slot 4 rfl (Or.inl rfl) (by decide) (by decide)))) (by with_unfolding_all rfl)))) (fun _ _ _ _ _ => (de_var 5 rfl (Or.inl rfl) (by decide) (by decide))) (fun _ => rfl)))) da_nil (by rfl)) (by decide) (by decide) (by rfl) (by rfl)))))
/-! load(jobs:v, schedule:v) -/
abbrev s_load : Stmt := topS 5
theorem sc_load : FnScope ["jobs", "schedule", "times", "moments", "steps", "before", "moment", "needs", "point", "length", "need"] ["jobs", "schedule"] (defScope s_load) := ⟨rfl, rfl, rfl, by decide +kernel, rfl, by decide +kernel, by decide +kernel⟩
def B_load : SS := (sSeq (sSet 2 (eCall [.v] F_times_in (aC (qS 1) aN)))
    (sSeq (sSet 3 (eSortSC [8, 9, 10, 6] (iS 0) (gTup 3 (gsCons (gName 8) (gsCons (gName 9) (gsCons (gName 10) gsNil)))) tTrue (iV (eTup (aC (qV (eOp2 gIx (qS 2) (qS 8))) (aC (qV (eOp2 gAdd (qV (eOp2 gIx (qS 2) (qS 8))) (qS 9))) aN)))) [6] (gName 6) tTrue (eVar 6)))
    (sSeq (sSetN 4 (eLst aN))
    (sSeq (sSet 5 (eC (.int 0)))
    (sSeq (sFor (iS 3) (gName 6) (sSeq (sSet 7 (eCall [.v, .v, .v] F_running_needs (aC (qS 0) (aC (qS 2) (aC (qS 6) aN)))))
    (sIf (bV (eOp2 gNe (qS 7) (qS 5))) (sSeq (sExpr (eMut "list" 4 (aC (qV (eTup (aC (qV (eVar 6)) (aC (qV (eVar 7)) aN)))) aN) mAppend))
    (sSet 5 (eVar 7))) sNil)))
    (sRet (eOps gTuple (aC (qS 4) aN))))))))
def F_load : List D → Option (D × List D) := runDef false [.v, .v] 11 B_load
set_option maxHeartbeats 4000000 in
theorem ok_load {P : Program} {w : World} {K : PySem.W.Frag} {mg : Str → Option Value} {base : Heap} {f : Addr} {fd : FuncData} (F : Fun K "load" "load" s_load f fd) (b : L2.Binds K fd ["jobs", "schedule"] []) (gm : mg "load" = some (.ref f)) (m_sorted : mg "sorted" = none) (m_tuple : mg "tuple" = none) (G_running_needs : DefOk P w K mg base 1 "running_needs" [.v, .v, .v] false F_running_needs) (G_times_in : DefOk P w K mg base 1 "times_in" [.v] false F_times_in) : DefOk P w K mg base 2 "load" [.v, .v] false F_load :=
  def_ok F sc_load rfl gm b fun cdv A outer s H E hr => (show DSs _ _ B_load from
    (dss_cons (ds_set 2 sc_load.nd rfl (Or.inr rfl) (de_call G_times_in (hr.mono (by decide)) rfl (da_cons (dq_slot 1 rfl (Or.inl rfl) (by decide) (by decide)) da_nil (by rfl)) (by decide) (by rfl) (by rfl)) (Or.inl rfl) (by rfl))
    (dss_cons (ds_set 3 sc_load.nd rfl (Or.inl rfl) (de_new (df_sortSC (by rfl) m_sorted rfl sc_load.nd (di_slot 0 rfl (Or.inl rfl) (by decide) (by decide)) (blkOk_by (N := ["jobs", "schedule", "times", "moments", "steps", "before", "moment", "needs", "point", "length", "need"]) (sc := defScope s_load) (own := [("point", 8), ("length", 9), ("need", 10), ("moment", 6)]) (by decide +kernel)) (by decide) (by rfl) (by decide) (by decide) (fun _ _ _ _ _ => (dg_tup rfl (dgs_cons (dg_name 8 sc_load.nd rfl (Or.inl rfl) (Or.inr rfl)) (dgs_cons (dg_name 9 sc_load.nd rfl (Or.inl rfl) (Or.inr rfl)) (dgs_cons (dg_name 10 sc_load.nd rfl (Or.inl rfl) (Or.inr rfl)) dgs_nil (by rfl)) (by rfl)) (by rfl)) (by rfl) (by rfl))) (fun _ _ _ _ _ => dts_nil) (fun _ _ _ _ _ => (di0_val (de_tup (da_cons (dq_val (de_ix (hu1 hr) (dq_slot 2 rfl (Or.inr (Or.inl rfl)) (by decide) (by decide)) (dq_slot 8 rfl (Or.inl rfl) (by decide) (by decide)) (fun _ _ => rfl))) (da_cons (dq_val (de_bin od_add (dq_val (de_ix (hu1 hr) (dq_slot 2 rfl (Or.inr (Or.inl rfl)) (by decide) (by decide)) (dq_slot 8 rfl (Or.inl rfl) (by decide) (by decide)) (fun _ _ => rfl))) (dq_slot 9 rfl (Or.inl rfl) (by decide) (by decide)))) da_nil (by rfl)) (by rfl))))) (fun _ _ _ _ _ => (dg_name 6 sc_load.nd rfl (Or.inl rfl) (Or.inr rfl))) (fun _ _ _ _ _ => dts_nil) (fun _ _ _ _ _ => (de_var 6 rfl (Or.inl rfl) (by decide) (by decide))) (fun _ => rfl) (fun _ _ => rfl) (by rfl))) (Or.inl rfl) (by rfl))
    (dss_cons (ds_setN 4 sc_load.nd rfl (Or.inl rfl) (df_lst da_nil) (Or.inl rfl) (by rfl))
    (dss_cons (ds_set 5 sc_load.nd rfl (Or.inl rfl) de_int (Or.inl rfl) (by rfl))
    (dss_cons (ds_for PassesOwn.never rfl (di_slot 3 rfl (Or.inl rfl) (by decide) (by decide)) (dg_name 6 sc_load.nd rfl (Or.inl rfl) (Or.inl rfl)) (dss_cons (ds_set 7 sc_load.nd rfl (Or.inl rfl) (de_call G_running_needs (hr.mono (by decide)) rfl (da_cons (dq_slot 0 rfl (Or.inl rfl) (by decide) (by decide)) (da_cons (dq_slot 2 rfl (Or.inr (Or.inl rfl)) (by decide) (by decide)) (da_cons (dq_slot 6 rfl (Or.inl rfl) (by decide) (by decide)) da_nil (by rfl)) (by rfl)) (by rfl)) (by decide) (by rfl) (by rfl)) (Or.inl rfl) (by rfl))
    (dss_one (ds_if (dt_cmp (od_ne (hu64 hr)) (dq_slot 7 rfl (Or.inl rfl) (by decide) (by decide)) (dq_slot 5 rfl (Or.inl rfl) (by decide) (by decide)) (nomark _)) (dss_cons (ds_expr (de_mut 4 PySem.F.plainAttrs_list PySem.F.slot_list_append PySem.F.type_list_append md_append rfl (Or.inl rfl) (da_cons (dq_val (de_tup (da_cons (dq_val (de_var 6 rfl (Or.inl rfl) (by decide) (by decide))) (da_cons (dq_val (de_var 7 rfl (Or.inl rfl) (by decide) (by decide))) da_nil (by rfl)) (by rfl)))) da_nil (by rfl)) (by rfl) (by rfl) (by rfl) (by rfl) (by rfl) (by decide) (by decide)) (by rfl))
    (dss_one (ds_set 5 sc_load.nd rfl (Or.inl rfl) (de_var 7 rfl (Or.inl rfl) (by decide) (by decide)) (Or.inl rfl) (by rfl)))) dss_nil))) (fun _ => rfl))
    (dss_one (ds_ret (de_callTy cd_tuple (by rfl) m_tuple (by decide +kernel) (da_cons (dq_slot 4 rfl (Or.inl rfl) (by decide) (by decide)) da_nil (by rfl)) (by decide) (by decide) (by rfl) (by rfl))))))))))
/-! peak(jobs:v, schedule:v) -/
abbrev s_peak : Stmt := topS 6
theorem sc_peak : FnScope ["jobs", "schedule", "moment", "needs"] ["jobs", "schedule"] (defScope s_peak) := ⟨rfl, rfl, rfl, by decide +kernel, rfl, by decide +kernel, by decide +kernel⟩
def B_peak : SS := (sRet (eMaxDef 0 (eComp [2, 3] (iV (eCall [.v, .v] F_load (aC (qS 0) (aC (qS 1) aN)))) (gTup 2 (gsCons (gName 2) (gsCons (gName 3) gsNil))) tTrue (eVar 3))))
def F_peak : List D → Option (D × List D) := runDef false [.v, .v] 4 B_peak
set_option maxHeartbeats 4000000 in
theorem ok_peak {P : Program} {w : World} {K : PySem.W.Frag} {mg : Str → Option Value} {base : Heap} {f : Addr} {fd : FuncData} (F : Fun K "peak" "peak" s_peak f fd) (b : L2.Binds K fd ["jobs", "schedule"] []) (gm : mg "peak" = some (.ref f)) (m_max : mg "max" = none) (G_load : DefOk P w K mg base 2 "load" [.v, .v] false F_load) : DefOk P w K mg base 3 "peak" [.v, .v] false F_peak :=
  def_ok F sc_peak rfl gm b fun cdv A outer s H E hr => (show DSs _ _ B_peak from
    (dss_one (ds_ret (de_maxDef rfl (hu65 hr) rfl m_max (de_new (df_comp rfl sc_peak.nd (di_val (de_call G_load (hr.mono (by decide)) rfl (da_cons (dq_slot 0 rfl (Or.inl rfl) (by decide) (by decide)) (da_cons (dq_slot 1 rfl (Or.inl rfl) (by decide) (by decide)) da_nil (by rfl)) (by rfl)) (by decide) (by rfl) (by rfl))) (blkOk_by (N := ["jobs", "schedule", "moment", "needs"]) (sc := defScope s_peak) (own := [("moment", 2), ("needs", 3)]) (by decide +kernel)) (by rfl) (by decide) (fun _ _ _ _ _ => (dg_tup rfl (dgs_cons (dg_name 2 sc_peak.nd rfl (Or.inl rfl) (Or.inr rfl)) (dgs_cons (dg_name 3 sc_peak.nd rfl (Or.inl rfl) (Or.inr rfl)) dgs_nil (by rfl)) (by rfl)) (by rfl) (by rfl))) (fun _ _ _ _ _ => dts_nil) (fun _ _ _ _ _ => (de_var 3 rfl (Or.inl rfl) (by decide) (by decide))) (fun _ => rfl))) (by rfl) (by rfl) (by rfl)))))
/-! _law_draws(script:v, many:v) -/
abbrev s__law_draws : Stmt := topS 8
theorem sc__law_draws : FnScope ["script", "many", "cells", "left", "draws", "k", "place", "mixed", "cell"] ["script", "many"] (defScope s__law_draws) := ⟨rfl, rfl, rfl, by decide +kernel, rfl, by decide +kernel, by decide +kernel⟩
def B__law_draws : SS := (sSeq (sSetN 2 (eComp [8] (iS 0) (gName 8) tTrue (eOps gInt (aC (qS 8) aN))))
    (sSeq (sIf (bV (eOp2 gEq (qV (eOps gLen (aC (qS 2) aN))) (qV (eC (.int 0))))) (sExpr (eMut "list" 2 (aC (qV (eC (.int 0))) aN) mAppend)) sNil)
    (sSeq (sSetN 3 (eOps gList (aC (qS 2) aN)))
    (sSeq (sSetN 4 (eLst aN))
    (sSeq (sFor (iR1 (eVar 1)) (gName 5) (sSeq (sSet 6 (eOp2 gMod (qV (eOps gInt (aC (qS 5) aN))) (qV (eOps gLen (aC (qS 2) aN)))))
    (sIf (bAnd (bV (eOp2 gGe (qV (eOp2 gIx (qS 2) (qS 6))) (qV (eOp2 gPow (qV (eC (.int 10))) (qV (eC (.int 18))))))) (bV (eOp2 gGt (qV (eOp2 gIx (qS 3) (qS 6))) (qV (eC (.int 0)))))) (sSeq (sExpr (eMut "list" 4 (aC (qV (eOp2 gMod (qV (eOps gInt (aC (qV (eOp2 gIx (qS 3) (qS 6))) aN))) (qV (eC (.int 1000))))) aN) mAppend))
    (sPut 3 (eVar 6) (eOp2 gDiv (qV (eOp2 gIx (qS 3) (qS 6))) (qV (eC (.int 1000)))))) (sSeq (sSet 7 (eOp2 gMod (qV (eOps gInt (aC (qV (eOp2 gAdd (qV (eOp2 gAdd (qV (eOp2 gMul (qV (eOp2 gIx (qS 2) (qS 6))) (qV (eC (.int 48271))))) (qV (eOp2 gMul (qS 5) (qV (eC (.int 69621))))))) (qV (eC (.int 11))))) aN))) (qV (eC (.int 2147483647)))))
    (sExpr (eMut "list" 4 (aC (qV (eOp2 gMod (qV (eOps gInt (aC (qV (eOp2 gAdd (qV (eOp2 gAdd (qV (eOp2 gMul (qS 7) (qS 7))) (qV (eOp2 gMul (qV (eC (.int 3))) (qS 7))))) (qS 5))) aN))) (qV (eC (.int 1000003))))) aN) mAppend))))))
    (sSeq (sExpr (eMut "list" 4 aN mReverse))
    (sRetO 4)))))))
def F__law_draws : List D → Option (D × List D) := runDef true [.v, .v] 9 B__law_draws
set_option maxHeartbeats 4000000 in
theorem ok__law_draws {P : Program} {w : World} {K : PySem.W.Frag} {mg : Str → Option Value} {base : Heap} {f : Addr} {fd : FuncData} (F : Fun K "_law_draws" "_law_draws" s__law_draws f fd) (b : L2.Binds K fd ["script", "many"] []) (gm : mg "_law_draws" = some (.ref f)) (m_int : mg "int" = none) (m_len : mg "len" = none) (m_list : mg "list" = none) (m_range : mg "range" = none) : DefOk P w K mg base 1 "_law_draws" [.v, .v] true F__law_draws :=
  def_ok F sc__law_draws rfl gm b fun cdv A outer s H E hr => (show DSs _ _ B__law_draws from
    (dss_cons (ds_setLcN (i := 2) rfl sc__law_draws.nd rfl rfl (sw_true rfl rfl rfl (by decide +kernel)) (di_slot 0 rfl (Or.inl rfl) (by decide) (by decide)) (blkOk_by (N := ["script", "many", "cells", "left", "draws", "k", "place", "mixed", "cell"]) (sc := defScope s__law_draws) (own := [("cell", 8)]) (by decide +kernel)) (by rfl) (by decide) (fun _ _ _ _ _ => (dg_name 8 sc__law_draws.nd rfl (Or.inl rfl) (Or.inr rfl))) (fun _ _ _ _ _ => dts_nil) (fun _ _ _ _ _ => (de_callTy cd_int (by rfl) m_int (by decide +kernel) (da_cons (dq_slot 8 rfl (Or.inl rfl) (by decide) (by decide)) da_nil (by rfl)) (by decide) (by decide) (by rfl) (by rfl))) (fun _ => rfl))
    (dss_cons (ds_if (dt_cmp (od_eq (hu64 hr)) (dq_val (de_callB cd_len (by rfl) m_len (by decide +kernel) (da_cons (dq_slot 2 rfl (Or.inl rfl) (by decide) (by decide)) da_nil (by rfl)) (by decide) (by decide) (by rfl) (by rfl))) (dq_val de_int) (nomark _)) (dss_one (ds_expr (de_mut 2 PySem.F.plainAttrs_list PySem.F.slot_list_append PySem.F.type_list_append md_append rfl (Or.inl rfl) (da_cons (dq_val de_int) da_nil (by rfl)) (by rfl) (by rfl) (by rfl) (by rfl) (by rfl) (by decide) (by decide)) (by rfl))) dss_nil)
    (dss_cons (ds_setN 3 sc__law_draws.nd rfl (Or.inl rfl) (df_callTy cn_list (by rfl) m_list (by decide +kernel) (da_cons (dq_slot 2 rfl (Or.inl rfl) (by decide) (by decide)) da_nil (by rfl)) (by decide) (by decide) (by rfl) (by rfl)) (Or.inl rfl) (by rfl))
    (dss_cons (ds_setN 4 sc__law_draws.nd rfl (Or.inl rfl) (df_lst da_nil) (Or.inl rfl) (by rfl))
    (dss_cons (ds_for PassesOwn.never rfl (di_range1 rfl m_range (de_var 1 rfl (Or.inl rfl) (by decide) (by decide)) (by rfl)) (dg_name 5 sc__law_draws.nd rfl (Or.inl rfl) (Or.inl rfl)) (dss_cons (ds_set 6 sc__law_draws.nd rfl (Or.inl rfl) (de_bin od_mod (dq_val (de_callTy cd_int (by rfl) m_int (by decide +kernel) (da_cons (dq_slot 5 rfl (Or.inl rfl) (by decide) (by decide)) da_nil (by rfl)) (by decide) (by decide) (by rfl) (by rfl))) (dq_val (de_callB cd_len (by rfl) m_len (by decide +kernel) (da_cons (dq_slot 2 rfl (Or.inl rfl) (by decide) (by decide)) da_nil (by rfl)) (by decide) (by decide) (by rfl) (by rfl)))) (Or.inl rfl) (by rfl))
    (dss_one (ds_if (dt_w (dw_and (dt_cmp od_ge (dq_val (de_ix (hu1 hr) (dq_slot 2 rfl (Or.inl rfl) (by decide) (by decide)) (dq_slot 6 rfl (Or.inl rfl) (by decide) (by decide)) (fun _ _ => rfl))) (dq_val (de_bin od_pow (dq_val de_int) (dq_val de_int))) (nomark _)) (dw_and1 (dt_cmp od_gt (dq_val (de_ix (hu1 hr) (dq_slot 3 rfl (Or.inl rfl) (by decide) (by decide)) (dq_slot 6 rfl (Or.inl rfl) (by decide) (by decide)) (fun _ _ => rfl))) (dq_val de_int) (nomark _))))) (dss_cons (ds_expr (de_mut 4 PySem.F.plainAttrs_list PySem.F.slot_list_append PySem.F.type_list_append md_append rfl (Or.inl rfl) (da_cons (dq_val (de_bin od_mod (dq_val (de_callTy cd_int (by rfl) m_int (by decide +kernel) (da_cons (dq_val (de_ix (hu1 hr) (dq_slot 3 rfl (Or.inl rfl) (by decide) (by decide)) (dq_slot 6 rfl (Or.inl rfl) (by decide) (by decide)) (fun _ _ => rfl))) da_nil (by rfl)) (by decide) (by decide) (by rfl) (by rfl))) (dq_val de_int))) da_nil (by rfl)) (by rfl) (by rfl) (by rfl) (by rfl) (by rfl) (by decide) (by decide)) (by rfl))
    (dss_one (ds_put (hu1 hr) 3 rfl (Or.inl rfl) (de_var 6 rfl (Or.inl rfl) (by decide) (by decide)) (de_bin od_div (dq_val (de_ix (hu1 hr) (dq_slot 3 rfl (Or.inl rfl) (by decide) (by decide)) (dq_slot 6 rfl (Or.inl rfl) (by decide) (by decide)) (fun _ _ => rfl))) (dq_val de_int)) (fun _ => rfl) (by rfl) (by rfl) (by rfl) (by decide) (by decide)))) (dss_cons (ds_set 7 sc__law_draws.nd rfl (Or.inl rfl) (de_bin od_mod (dq_val (de_callTy cd_int (by rfl) m_int (by decide +kernel) (da_cons (dq_val (de_bin od_add (dq_val (de_bin od_add (dq_val (de_bin od_mul (dq_val (de_ix (hu1 hr) (dq_slot 2 rfl (Or.inl rfl) (by decide) (by decide)) (dq_slot 6 rfl (Or.inl rfl) (by decide) (by decide)) (fun _ _ => rfl))) (dq_val de_int))) (dq_val (de_bin od_mul (dq_slot 5 rfl (Or.inl rfl) (by decide) (by decide)) (dq_val de_int))))) (dq_val de_int))) da_nil (by rfl)) (by decide) (by decide) (by rfl) (by rfl))) (dq_val de_int)) (Or.inl rfl) (by rfl))
    (dss_one (ds_expr (de_mut 4 PySem.F.plainAttrs_list PySem.F.slot_list_append PySem.F.type_list_append md_append rfl (Or.inl rfl) (da_cons (dq_val (de_bin od_mod (dq_val (de_callTy cd_int (by rfl) m_int (by decide +kernel) (da_cons (dq_val (de_bin od_add (dq_val (de_bin od_add (dq_val (de_bin od_mul (dq_slot 7 rfl (Or.inl rfl) (by decide) (by decide)) (dq_slot 7 rfl (Or.inl rfl) (by decide) (by decide)))) (dq_val (de_bin od_mul (dq_val de_int) (dq_slot 7 rfl (Or.inl rfl) (by decide) (by decide)))))) (dq_slot 5 rfl (Or.inl rfl) (by decide) (by decide)))) da_nil (by rfl)) (by decide) (by decide) (by rfl) (by rfl))) (dq_val de_int))) da_nil (by rfl)) (by rfl) (by rfl) (by rfl) (by rfl) (by rfl) (by decide) (by decide)) (by rfl))))))) (fun _ => rfl))
    (dss_cons (ds_expr (de_mut0 4 PySem.F.plainAttrs_list PySem.F.slot_list_reverse PySem.F.type_list_reverse md_reverse rfl (Or.inl rfl) (by rfl) (by rfl) (by decide) (by decide)) (by rfl))
    (dss_one (ds_retO 4 rfl (Or.inl rfl) (by decide) (by decide))))))))))
/-! _law_take(draws:io, many:v) -/
abbrev s__law_take : Stmt := topS 9
theorem sc__law_take : FnScope ["draws", "many"] ["draws", "many"] (defScope s__law_take) := ⟨rfl, rfl, rfl, by decide +kernel, rfl, by decide +kernel, by decide +kernel⟩
def B__law_take : SS := (sSeq (sIf (bV (eOp2 gEq (qV (eOps gLen (aC (qS 0) aN))) (qV (eC (.int 0))))) (sRet (eC (.int 0))) sNil)
    (sRet (eOp2 gMod (qV (eOps gInt (aC (qV (eMut "list" 0 aN mPop)) aN))) (qS 1))))
def F__law_take : List D → Option (D × List D) := runDef false [.io, .v] 2 B__law_take
set_option maxHeartbeats 4000000 in
theorem ok__law_take {P : Program} {w : World} {K : PySem.W.Frag} {mg : Str → Option Value} {base : Heap} {f : Addr} {fd : FuncData} (F : Fun K "_law_take" "_law_take" s__law_take f fd) (b : L2.Binds K fd ["draws", "many"] []) (gm : mg "_law_take" = some (.ref f)) (m_int : mg "int" = none) (m_len : mg "len" = none) : DefOk P w K mg base 1 "_law_take" [.io, .v] false F__law_take :=
  def_ok F sc__law_take rfl gm b fun cdv A outer s H E hr => (show DSs _ _ B__law_take from
    (dss_cons (ds_if (dt_cmp (od_eq (hu64 hr)) (dq_val (de_callB cd_len (by rfl) m_len (by decide +kernel) (da_cons (dq_slot 0 rfl (Or.inl rfl) (by decide) (by decide)) da_nil (by rfl)) (by decide) (by decide) (by rfl) (by rfl))) (dq_val de_int) (nomark _)) (dss_one (ds_ret de_int)) dss_nil)
    (dss_one (ds_ret (de_bin od_mod (dq_val (de_callTy cd_int (by rfl) m_int (by decide +kernel) (da_cons (dq_val (de_mut0 0 PySem.F.plainAttrs_list PySem.F.slot_list_pop PySem.F.type_list_pop md_pop rfl (Or.inl rfl) (by rfl) (by rfl) (by decide) (by decide))) da_nil (by rfl)) (by decide) (by decide) (by rfl) (by rfl))) (dq_slot 1 rfl (Or.inl rfl) (by decide) (by decide)))))))
/-! _law_pick(draws:io, row:v) -/
abbrev s__law_pick : Stmt := topS 10
theorem sc__law_pick : FnScope ["draws", "row"] ["draws", "row"] (defScope s__law_pick) := ⟨rfl, rfl, rfl, by decide +kernel, rfl, by decide +kernel, by decide +kernel⟩
def B__law_pick : SS := (sRet (eOp2 gIx (qS 1) (qV (eCall [.io, .v] F__law_take (aC (qS 0) (aC (qV (eOps gLen (aC (qS 1) aN))) aN))))))
def F__law_pick : List D → Option (D × List D) := runDef false [.io, .v] 2 B__law_pick
set_option maxHeartbeats 4000000 in
theorem ok__law_pick {P : Program} {w : World} {K : PySem.W.Frag} {mg : Str → Option Value} {base : Heap} {f : Addr} {fd : FuncData} (F : Fun K "_law_pick" "_law_pick" s__law_pick f fd) (b : L2.Binds K fd ["draws", "row"] []) (gm : mg "_law_pick" = some (.ref f)) (m_len : mg "len" = none) (G__law_take : DefOk P w K mg base 1 "_law_take" [.io, .v] false F__law_take) : DefOk P w K mg base 2 "_law_pick" [.io, .v] false F__law_pick :=
  def_ok F sc__law_pick rfl gm b fun cdv A outer s H E hr => (show DSs _ _ B__law_pick from
    (dss_one (ds_ret (de_ix (hu1 hr) (dq_slot 1 rfl (Or.inl rfl) (by decide) (by decide)) (dq_val (de_call G__law_take (hr.mono (by decide)) rfl (da_cons (dq_slot 0 rfl (Or.inl rfl) (by decide) (by decide)) (da_cons (dq_val (de_callB cd_len (by rfl) m_len (by decide +kernel) (da_cons (dq_slot 1 rfl (Or.inl rfl) (by decide) (by decide)) da_nil (by rfl)) (by decide) (by decide) (by rfl) (by rfl))) da_nil (by rfl)) (by rfl)) (by decide) (by rfl) (by rfl))) (fun _ _ => rfl)))))
/-! _law_same(actual:br, due:v) -/
abbrev s__law_same : Stmt := topS 11
theorem sc__law_same : FnScope ["actual", "due", "k"] ["actual", "due"] (defScope s__law_same) := ⟨rfl, rfl, rfl, by decide +kernel, rfl, by decide +kernel, by decide +kernel⟩
def B__law_same (R : List D → Option (D × List D)) : SS := (sSeq (sIf (bQ (qV (eOp1 (gIsi2 "tuple" "list") (qS 1)))) (sSeq (sIf (bOr (bV (eOp2 gNe (qV (eOp1 (gIsi "tuple") (qS 0))) (qV (eOp1 (gIsi "tuple") (qS 1))))) (bV (eOp2 gNe (qV (eOp1 (gIsi "list") (qS 0))) (qV (eOp1 (gIsi "list") (qS 1)))))) (sRet (eC (.bl false))) sNil)
    (sSeq (sIf (bV (eOp2 gNe (qV (eOps gLen (aC (qS 0) aN))) (qV (eOps gLen (aC (qS 1) aN))))) (sRet (eC (.bl false))) sNil)
    (sRet (eOp2 gNotIn (qV (eC (.bl false))) (qV (eComp [2] (iR1 (eOps gLen (aC (qS 1) aN))) (gName 2) tTrue (eCall [.br, .v] R (aC (qV (eOp2 gIx (qS 0) (qS 2))) (aC (qV (eOp2 gIx (qS 1) (qS 2))) aN))))))))) sNil)
    (sSeq (sIf (bOr (bV (eOp2 gNe (qV (eOp1 (gIsi "bool") (qS 0))) (qV (eOp1 (gIsi "bool") (qS 1))))) (bV (eOp2 gNe (qV (eOp1 (gIsi "int") (qS 0))) (qV (eOp1 (gIsi "int") (qS 1)))))) (sRet (eC (.bl false))) sNil)
    (sSeq (sIf (bOr (bV (eOp2 gNe (qV (eOp1 (gIsi "str") (qS 0))) (qV (eOp1 (gIsi "str") (qS 1))))) (bV (eOp2 gNe (qV (eOp2 gIs (qS 0) (qV (eC .non)))) (qV (eOp2 gIs (qS 1) (qV (eC .non))))))) (sRet (eC (.bl false))) sNil)
    (sRet (eOp2 gEq (qS 0) (qS 1))))))
def F__law_same : List D → Option (D × List D) := fuel B__law_same false [.br, .v] 3 8
set_option maxHeartbeats 4000000 in
theorem okr__law_same {P : Program} {w : World} {K : PySem.W.Frag} {mg : Str → Option Value} {base : Heap} {f : Addr} {fd : FuncData} (F : Fun K "_law_same" "_law_same" s__law_same f fd) (b : L2.Binds K fd ["actual", "due"] []) (gm : mg "_law_same" = some (.ref f)) (m_bool : mg "bool" = none) (m_int : mg "int" = none) (m_isinstance : mg "isinstance" = none) (m_len : mg "len" = none) (m_list : mg "list" = none) (m_range : mg "range" = none) (m_str : mg "str" = none) (m_tuple : mg "tuple" = none) {k : Nat} (hk : 0 ≤ k) {R : List D → Option (D × List D)} (G__law_same : DefOk P w K mg base k "_law_same" [.br, .v] false R) : DefOk P w K mg base (k + 1) "_law_same" [.br, .v] false (runDef false [.br, .v] 3 (B__law_same R)) :=
  def_ok F sc__law_same rfl gm b fun cdv A outer s H E hr => (show DSs _ _ (B__law_same R) from
    (dss_cons (ds_if (dt_truth (dq_val (de_isi2 rfl m_isinstance rfl m_tuple (by decide +kernel) (by decide) (by decide) rfl m_list (by decide +kernel) (by decide) (by decide) (dq_slot 1 rfl (Or.inr (Or.inl rfl)) (by decide) (by decide)) (by rfl) (by rfl) (by rfl) (by rfl) (by rfl))) (fun _ => rfl)) (dss_cons (ds_if (dt_w (dw_or (dt_cmp (od_ne (hu64 hr)) (dq_val (de_isi rfl m_isinstance rfl m_tuple (by decide +kernel) (by decide) (by decide) (dq_slot 0 rfl (Or.inr (Or.inl rfl)) (by decide) (by decide)) (by rfl) (by rfl) (by rfl))) (dq_val (de_isi rfl m_isinstance rfl m_tuple (by decide +kernel) (by decide) (by decide) (dq_slot 1 rfl (Or.inr (Or.inl rfl)) (by decide) (by decide)) (by rfl) (by rfl) (by rfl))) (nomark _)) (dw_or1 (dt_cmp (od_ne (hu64 hr)) (dq_val (de_isi rfl m_isinstance rfl m_list (by decide +kernel) (by decide) (by decide) (dq_slot 0 rfl (Or.inr (Or.inl rfl)) (by decide) (by decide)) (by rfl) (by rfl) (by rfl))) (dq_val (de_isi rfl m_isinstance rfl m_list (by decide +kernel) (by decide) (by decide) (dq_slot 1 rfl (Or.inr (Or.inl rfl)) (by decide) (by decide)) (by rfl) (by rfl) (by rfl))) (nomark _))))) (dss_one (ds_ret de_bl)) dss_nil)
    (dss_cons (ds_if (dt_cmp (od_ne (hu64 hr)) (dq_val (de_callB cd_len (by rfl) m_len (by decide +kernel) (da_cons (dq_slot 0 rfl (Or.inr (Or.inl rfl)) (by decide) (by decide)) da_nil (by rfl)) (by decide) (by decide) (by rfl) (by rfl))) (dq_val (de_callB cd_len (by rfl) m_len (by decide +kernel) (da_cons (dq_slot 1 rfl (Or.inr (Or.inl rfl)) (by decide) (by decide)) da_nil (by rfl)) (by decide) (by decide) (by rfl) (by rfl))) (nomark _)) (dss_one (ds_ret de_bl)) dss_nil)
    (dss_one (ds_ret (de_cmp (od_notIn (hu65 hr)) (dq_val de_bl) (dq_val (de_new (df_comp rfl sc__law_same.nd (di_range1 rfl m_range (de_callB cd_len (by rfl) m_len (by decide +kernel) (da_cons (dq_slot 1 rfl (Or.inr (Or.inl rfl)) (by decide) (by decide)) da_nil (by rfl)) (by decide) (by decide) (by rfl) (by rfl)) (by rfl)) (blkOk_by (N := ["actual", "due", "k"]) (sc := defScope s__law_same) (own := [("k", 2)]) (by decide +kernel)) (by rfl) (by decide) (fun _ _ _ _ _ => (dg_name 2 sc__law_same.nd rfl (Or.inl rfl) (Or.inr rfl))) (fun _ _ _ _ _ => dts_nil) (fun _ _ _ _ _ => (de_call G__law_same (hr.mono (Nat.le_refl _)) rfl (da_cons (dq_val (de_ix (hu1 hr) (dq_slot 0 rfl (Or.inr (Or.inl rfl)) (by decide) (by decide)) (dq_slot 2 rfl (Or.inl rfl) (by decide) (by decide)) (fun _ _ => rfl))) (da_cons (dq_val (de_ix (hu1 hr) (dq_slot 1 rfl (Or.inr (Or.inl rfl)) (by decide) (by decide)) (dq_slot 2 rfl (Or.inl rfl) (by decide) (by decide)) (fun _ _ => rfl))) da_nil (by rfl)) (by rfl)) (by decide) (by rfl) (by rfl))) (fun _ => rfl)))) (by rfl)))))) dss_nil)
    (dss_cons (ds_if (dt_w (dw_or (dt_cmp (od_ne (hu64 hr)) (dq_val (de_isi rfl m_isinstance rfl m_bool (by decide +kernel) (by decide) (by decide) (dq_slot 0 rfl (Or.inr (Or.inl rfl)) (by decide) (by decide)) (by rfl) (by rfl) (by rfl))) (dq_val (de_isi rfl m_isinstance rfl m_bool (by decide +kernel) (by decide) (by decide) (dq_slot 1 rfl (Or.inr (Or.inl rfl)) (by decide) (by decide)) (by rfl) (by rfl) (by rfl))) (nomark _)) (dw_or1 (dt_cmp (od_ne (hu64 hr)) (dq_val (de_isi rfl m_isinstance rfl m_int (by decide +kernel) (by decide) (by decide) (dq_slot 0 rfl (Or.inr (Or.inl rfl)) (by decide) (by decide)) (by rfl) (by rfl) (by rfl))) (dq_val (de_isi rfl m_isinstance rfl m_int (by decide +kernel) (by decide) (by decide) (dq_slot 1 rfl (Or.inr (Or.inl rfl)) (by decide) (by decide)) (by rfl) (by rfl) (by rfl))) (nomark _))))) (dss_one (ds_ret de_bl)) dss_nil)
    (dss_cons (ds_if (dt_w (dw_or (dt_cmp (od_ne (hu64 hr)) (dq_val (de_isi rfl m_isinstance rfl m_str (by decide +kernel) (by decide) (by decide) (dq_slot 0 rfl (Or.inr (Or.inl rfl)) (by decide) (by decide)) (by rfl) (by rfl) (by rfl))) (dq_val (de_isi rfl m_isinstance rfl m_str (by decide +kernel) (by decide) (by decide) (dq_slot 1 rfl (Or.inr (Or.inl rfl)) (by decide) (by decide)) (by rfl) (by rfl) (by rfl))) (nomark _)) (dw_or1 (dt_cmp (od_ne (hu64 hr)) (dq_val (de_cmp od_is (dq_slot 0 rfl (Or.inr (Or.inl rfl)) (by decide) (by decide)) (dq_val de_non) (nomark _))) (dq_val (de_cmp od_is (dq_slot 1 rfl (Or.inr (Or.inl rfl)) (by decide) (by decide)) (dq_val de_non) (nomark _))) (nomark _))))) (dss_one (ds_ret de_bl)) dss_nil)
    (dss_one (ds_ret (de_cmp (od_eq (hu64 hr)) (dq_slot 0 rfl (Or.inr (Or.inl rfl)) (by decide) (by decide)) (dq_slot 1 rfl (Or.inr (Or.inl rfl)) (by decide) (by decide)) (nomark _))))))))
theorem ok__law_same {P : Program} {w : World} {K : PySem.W.Frag} {mg : Str → Option Value} {base : Heap} {f : Addr} {fd : FuncData} (F : Fun K "_law_same" "_law_same" s__law_same f fd) (b : L2.Binds K fd ["actual", "due"] []) (gm : mg "_law_same" = some (.ref f)) (m_bool : mg "bool" = none) (m_int : mg "int" = none) (m_isinstance : mg "isinstance" = none) (m_len : mg "len" = none) (m_list : mg "list" = none) (m_range : mg "range" = none) (m_str : mg "str" = none) (m_tuple : mg "tuple" = none) : DefOk P w K mg base 8 "_law_same" [.br, .v] false F__law_same :=
  def_rec (L := 0) (def_no F b gm) (fun hk R G => okr__law_same F b gm m_bool m_int m_isinstance m_len m_list m_range m_str m_tuple hk (R := R) G) 8
/-! _law_words(draws:io, many:v) -/
abbrev s__law_words : Stmt := topS 12
theorem sc__law_words : FnScope ["draws", "many", "words", "k", "size", "word", "j", "other"] ["draws", "many"] (defScope s__law_words) := ⟨rfl, rfl, rfl, by decide +kernel, rfl, by decide +kernel, by decide +kernel⟩
def B__law_words : SS := (sSeq (sSetN 2 (eLst aN))
    (sSeq (sFor (iR1 (eVar 1)) (gName 3) (sSeq (sSet 4 (eOp2 gAdd (qV (eC (.int 1))) (qV (eCall [.io, .v] F__law_take (aC (qS 0) (aC (qV (eC (.int 3))) aN))))))
    (sSeq (sIf (bV (eOp2 gEq (qV (eCall [.io, .v] F__law_take (aC (qS 0) (aC (qV (eC (.int 9))) aN)))) (qV (eC (.int 0))))) (sSet 4 (eOp2 gAdd (qV (eOp2 gAdd (qS 4) (qV (eC (.int 3))))) (qV (eCall [.io, .v] F__law_take (aC (qS 0) (aC (qV (eC (.int 20))) aN)))))) sNil)
    (sSeq (sSet 5 (eOp1 (gJoin "") (qV (eComp [6] (iR1 (eVar 4)) (gName 6) tTrue (eOp2 gIx (qV (eC (.str "abcdefghijklmnopqrstuvwxyz"))) (qV (eCall [.io, .v] F__law_take (aC (qS 0) (aC (qV (eC (.int 26))) aN)))))))))
    (sSeq (sIf (bOr (bV (eOp2 gIn (qS 5) (qS 2))) (bV (eOp2 gEq (qS 5) (qV (eC (.str "start")))))) (sSet 5 (eOp2 gMul (qV (eC (.str "z"))) (qV (eOp2 gAdd (qV (eC (.int 1))) (qV (eOps gMax (aC (qV (eOp2 gCat (qV (eLst (aC (qV (eC (.int 5))) aN))) (qV (eComp [7] (iS 2) (gName 7) tTrue (eOps gLen (aC (qS 7) aN)))))) aN))))))) sNil)
    (sExpr (eMut "list" 2 (aC (qV (eVar 5)) aN) mAppend)))))))
    (sRet (eVar 2))))
def F__law_words : List D → Option (D × List D) := runDef false [.io, .v] 8 B__law_words
set_option maxHeartbeats 4000000 in
theorem ok__law_words {P : Program} {w : World} {K : PySem.W.Frag} {mg : Str → Option Value} {base : Heap} {f : Addr} {fd : FuncData} (F : Fun K "_law_words" "_law_words" s__law_words f fd) (b : L2.Binds K fd ["draws", "many"] []) (gm : mg "_law_words" = some (.ref f)) (m_len : mg "len" = none) (m_max : mg "max" = none) (m_range : mg "range" = none) (G__law_take : DefOk P w K mg base 1 "_law_take" [.io, .v] false F__law_take) : DefOk P w K mg base 2 "_law_words" [.io, .v] false F__law_words :=
  def_ok F sc__law_words rfl gm b fun cdv A outer s H E hr => (show DSs _ _ B__law_words from
    (dss_cons (ds_setN 2 sc__law_words.nd rfl (Or.inl rfl) (df_lst da_nil) (Or.inl rfl) (by rfl))
    (dss_cons (ds_for PassesOwn.never rfl (di_range1 rfl m_range (de_var 1 rfl (Or.inl rfl) (by decide) (by decide)) (by rfl)) (dg_name 3 sc__law_words.nd rfl (Or.inl rfl) (Or.inl rfl)) (dss_cons (ds_set 4 sc__law_words.nd rfl (Or.inl rfl) (de_bin od_add (dq_val de_int) (dq_val (de_call G__law_take (hr.mono (by decide)) rfl (da_cons (dq_slot 0 rfl (Or.inr (Or.inl rfl)) (by decide) (by decide)) (da_cons (dq_val de_int) da_nil (by rfl)) (by rfl)) (by decide) (by rfl) (by rfl)))) (Or.inl rfl) (by rfl))
    (dss_cons (ds_if (dt_cmp (od_eq (hu64 hr)) (dq_val (de_call G__law_take (hr.mono (by decide)) rfl (da_cons (dq_slot 0 rfl (Or.inr (Or.inl rfl)) (by decide) (by decide)) (da_cons (dq_val de_int) da_nil (by rfl)) (by rfl)) (by decide) (by rfl) (by rfl))) (dq_val de_int) (nomark _)) (dss_one (ds_set 4 sc__law_words.nd rfl (Or.inl rfl) (de_bin od_add (dq_val (de_bin od_add (dq_slot 4 rfl (Or.inl rfl) (by decide) (by decide)) (dq_val de_int))) (dq_val (de_call G__law_take (hr.mono (by decide)) rfl (da_cons (dq_slot 0 rfl (Or.inr (Or.inl rfl)) (by decide) (by decide)) (da_cons (dq_val de_int) da_nil (by rfl)) (by rfl)) (by decide) (by rfl) (by rfl)))) (Or.inl rfl) (by rfl))) dss_nil)
    (dss_cons (ds_set 5 sc__law_words.nd rfl (Or.inl rfl) (de_join (by decide +kernel) (dq_val (de_new (df_comp rfl sc__law_words.nd (di_range1 rfl m_range (de_var 4 rfl (Or.inl rfl) (by decide) (by decide)) (by rfl)) (blkOk_by (N := ["draws", "many", "words", "k", "size", "word", "j", "other"]) (sc := defScope s__law_words) (own := [("j", 6)]) (by decide +kernel)) (by rfl) (by decide) (fun _ _ _ _ _ => (dg_name 6 sc__law_words.nd rfl (Or.inl rfl) (Or.inr rfl))) (fun _ _ _ _ _ => dts_nil) (fun _ _ _ _ _ => (de_ix (hu1 hr) (dq_val (de_str (by decide +kernel))) (dq_val (de_call G__law_take (hr.mono (by decide)) rfl (da_cons (dq_slot 0 rfl (Or.inr (Or.inl rfl)) (by decide) (by decide)) (da_cons (dq_val de_int) da_nil (by rfl)) (by rfl)) (by decide) (by rfl) (by rfl))) (fun _ _ => rfl))) (fun _ => rfl)))) (by rfl) (by rfl) (by rfl)) (Or.inl rfl) (by rfl))
    (dss_cons (ds_if (dt_w (dw_or (dt_cmp (od_in (hu65 hr)) (dq_slot 5 rfl (Or.inl rfl) (by decide) (by decide)) (dq_slot 2 rfl (Or.inl rfl) (by decide) (by decide)) (by rfl)) (dw_or1 (dt_cmp (od_eq (hu64 hr)) (dq_slot 5 rfl (Or.inl rfl) (by decide) (by decide)) (dq_val (de_str (by decide +kernel))) (nomark _))))) (dss_one (ds_set 5 sc__law_words.nd rfl (Or.inl rfl) (de_bin od_mul (dq_val (de_str (by decide +kernel))) (dq_val (de_bin od_add (dq_val de_int) (dq_val (de_callB (cd_max rfl) (by rfl) m_max (by decide +kernel) (da_cons (dq_val (de_new (df_bin on_cat (dq_val (de_new (df_lst (da_cons (dq_val de_int) da_nil (by rfl))))) (dq_val (de_new (df_comp rfl sc__law_words.nd (di_slot 2 rfl (Or.inl rfl) (by decide) (by decide)) (blkOk_by (N := ["draws", "many", "words", "k", "size", "word", "j", "other"]) (sc := defScope s__law_words) (own := [("other", 7)]) (by decide +kernel)) (by rfl) (by decide) (fun _ _ _ _ _ => (dg_name 7 sc__law_words.nd rfl (Or.inl rfl) (Or.inr rfl))) (fun _ _ _ _ _ => dts_nil) (fun _ _ _ _ _ => (de_callB cd_len (by rfl) m_len (by decide +kernel) (da_cons (dq_slot 7 rfl (Or.inl rfl) (by decide) (by decide)) da_nil (by rfl)) (by decide) (by decide) (by rfl) (by rfl))) (fun _ => rfl))))))) da_nil (by rfl)) (by decide) (by decide) (by rfl) (by rfl)))))) (Or.inl rfl) (by rfl))) dss_nil)
    (dss_one (ds_expr (de_mut 2 PySem.F.plainAttrs_list PySem.F.slot_list_append PySem.F.type_list_append md_append rfl (Or.inl rfl) (da_cons (dq_val (de_var 5 rfl (Or.inl rfl) (by decide) (by decide))) da_nil (by rfl)) (by rfl) (by rfl) (by rfl) (by rfl) (by rfl) (by decide) (by decide)) (by rfl))))))) (fun _ => rfl))
    (dss_one (ds_ret (de_var 2 rfl (Or.inl rfl) (by decide) (by decide)))))))
/-! _law_points(words:v) -/
abbrev s__law_points : Stmt := topS 13
theorem sc__law_points : FnScope ["words"] ["words"] (defScope s__law_points) := ⟨rfl, rfl, rfl, by decide +kernel, rfl, by decide +kernel, by decide +kernel⟩
def B__law_points : SS := (sRet (eOps gTuple (aC (qV (eOps gSorted (aC (qV (eOp2 gCat (qV (eOps gList (aC (qS 0) aN))) (qV (eLst (aC (qV (eC (.str "start"))) aN))))) aN))) aN)))
def F__law_points : List D → Option (D × List D) := runDef false [.v] 1 B__law_points
set_option maxHeartbeats 4000000 in
theorem ok__law_points {P : Program} {w : World} {K : PySem.W.Frag} {mg : Str → Option Value} {base : Heap} {f : Addr} {fd : FuncData} (F : Fun K "_law_points" "_law_points" s__law_points f fd) (b : L2.Binds K fd ["words"] []) (gm : mg "_law_points" = some (.ref f)) (m_list : mg "list" = none) (m_sorted : mg "sorted" = none) (m_tuple : mg "tuple" = none) : DefOk P w K mg base 1 "_law_points" [.v] false F__law_points :=
  def_ok F sc__law_points rfl gm b fun cdv A outer s H E hr => (show DSs _ _ B__law_points from
    (dss_one (ds_ret (de_callTy cd_tuple (by rfl) m_tuple (by decide +kernel) (da_cons (dq_val (de_new (df_callB cn_sorted (by rfl) m_sorted (by decide +kernel) (da_cons (dq_val (de_new (df_bin on_cat (dq_val (de_new (df_callTy cn_list (by rfl) m_list (by decide +kernel) (da_cons (dq_slot 0 rfl (Or.inl rfl) (by decide) (by decide)) da_nil (by rfl)) (by decide) (by decide) (by rfl) (by rfl)))) (dq_val (de_new (df_lst (da_cons (dq_val (de_str (by decide +kernel))) da_nil (by rfl)))))))) da_nil (by rfl)) (by decide) (by decide) (by rfl) (by rfl)))) da_nil (by rfl)) (by decide) (by decide) (by rfl) (by rfl)))))
/-! _law_time(schedule:br, point:v) -/
abbrev s__law_time : Stmt := topS 14
theorem sc__law_time : FnScope ["schedule", "point", "pair"] ["schedule", "point"] (defScope s__law_time) := ⟨rfl, rfl, rfl, by decide +kernel, rfl, by decide +kernel, by decide +kernel⟩
def B__law_time : SS := (sRet (eOp2 gIx (qV (eComp [2] (iS 0) (gName 2) (bV (eOp2 gEq (qV (eOp2 gIx (qS 2) (qV (eC (.int 0))))) (qS 1))) (eOp2 gIx (qS 2) (qV (eC (.int 1)))))) (qV (eC (.int 0)))))
def F__law_time : List D → Option (D × List D) := runDef false [.br, .v] 3 B__law_time
set_option maxHeartbeats 4000000 in
theorem ok__law_time {P : Program} {w : World} {K : PySem.W.Frag} {mg : Str → Option Value} {base : Heap} {f : Addr} {fd : FuncData} (F : Fun K "_law_time" "_law_time" s__law_time f fd) (b : L2.Binds K fd ["schedule", "point"] []) (gm : mg "_law_time" = some (.ref f)) : DefOk P w K mg base 1 "_law_time" [.br, .v] false F__law_time :=
  def_ok F sc__law_time rfl gm b fun cdv A outer s H E hr => (show DSs _ _ B__law_time from
    (dss_one (ds_ret (de_ix (hu1 hr) (dq_val (de_new (df_comp rfl sc__law_time.nd (di_slot 0 rfl (Or.inl rfl) (by decide) (by decide)) (blkOk_by (N := ["schedule", "point", "pair"]) (sc := defScope s__law_time) (own := [("pair", 2)]) (by decide +kernel)) (by rfl) (by decide) (fun _ _ _ _ _ => (dg_name 2 sc__law_time.nd rfl (Or.inl rfl) (Or.inr rfl))) (fun _ _ _ _ _ => (dts_one (dt_cmp (od_eq (hu64 hr)) (dq_val (de_ix (hu1 hr) (dq_slot 2 rfl (Or.inl rfl) (by decide) (by decide)) (dq_val de_int) (fun _ _ => rfl))) (dq_slot 1 rfl (Or.inr (Or.inl rfl)) (by decide) (by decide)) (nomark _)))) (fun _ _ _ _ _ => (de_ix (hu1 hr) (dq_slot 2 rfl (Or.inl rfl) (by decide) (by decide)) (dq_val de_int) (fun _ _ => rfl))) (fun _ => rfl)))) (dq_val de_int) (fun _ _ => rfl)))))
/-! _law_jobs(draws:io, words:v, longest:v, most:v) -/
abbrev s__law_jobs : Stmt := topS 15
theorem sc__law_jobs : FnScope ["draws", "words", "longest", "most", "word"] ["draws", "words", "longest", "most"] (defScope s__law_jobs) := ⟨rfl, rfl, rfl, by decide +kernel, rfl, by decide +kernel, by decide +kernel⟩
def B__law_jobs : SS := (sRet (eOps gTuple (aC (qV (eComp [4] (iV (eOps gSorted (aC (qS 1) aN))) (gName 4) tTrue (eTup (aC (qV (eVar 4)) (aC (qV (eOp2 gAdd (qV (eC (.int 1))) (qV (eCall [.io, .v] F__law_take (aC (qS 0) (aC (qS 2) aN)))))) (aC (qV (eOp2 gAdd (qV (eC (.int 1))) (qV (eCall [.io, .v] F__law_take (aC (qS 0) (aC (qS 3) aN)))))) aN)))))) aN)))
def F__law_jobs : List D → Option (D × List D) := runDef false [.io, .v, .v, .v] 5 B__law_jobs
set_option maxHeartbeats 4000000 in
theorem ok__law_jobs {P : Program} {w : World} {K : PySem.W.Frag} {mg : Str → Option Value} {base : Heap} {f : Addr} {fd : FuncData} (F : Fun K "_law_jobs" "_law_jobs" s__law_jobs f fd) (b : L2.Binds K fd ["draws", "words", "longest", "most"] []) (gm : mg "_law_jobs" = some (.ref f)) (m_sorted : mg "sorted" = none) (m_tuple : mg "tuple" = none) (G__law_take : DefOk P w K mg base 1 "_law_take" [.io, .v] false F__law_take) : DefOk P w K mg base 2 "_law_jobs" [.io, .v, .v, .v] false F__law_jobs :=
  def_ok F sc__law_jobs rfl gm b fun cdv A outer s H E hr => (show DSs _ _ B__law_jobs from
    (dss_one (ds_ret (de_callTy cd_tuple (by rfl) m_tuple (by decide +kernel) (da_cons (dq_val (de_new (df_comp rfl sc__law_jobs.nd (di_val (de_new (df_callB cn_sorted (by rfl) m_sorted (by decide +kernel) (da_cons (dq_slot 1 rfl (Or.inl rfl) (by decide) (by decide)) da_nil (by rfl)) (by decide) (by decide) (by rfl) (by rfl)))) (blkOk_by (N := ["draws", "words", "longest", "most", "word"]) (sc := defScope s__law_jobs) (own := [("word", 4)]) (by decide +kernel)) (by rfl) (by decide) (fun _ _ _ _ _ => (dg_name 4 sc__law_jobs.nd rfl (Or.inl rfl) (Or.inr rfl))) (fun _ _ _ _ _ => dts_nil) (fun _ _ _ _ _ => (de_tup (da_cons (dq_val (de_var 4 rfl (Or.inl rfl) (by decide) (by decide))) (da_cons (dq_val (de_bin od_add (dq_val de_int) (dq_val (de_call G__law_take (hr.mono (by decide)) rfl (da_cons (dq_slot 0 rfl (Or.inr (Or.inl rfl)) (by decide) (by decide)) (da_cons (dq_slot 2 rfl (Or.inr (Or.inl rfl)) (by decide) (by decide)) da_nil (by rfl)) (by rfl)) (by decide) (by rfl) (by rfl))))) (da_cons (dq_val (de_bin od_add (dq_val de_int) (dq_val (de_call G__law_take (hr.mono (by decide)) rfl (da_cons (dq_slot 0 rfl (Or.inr (Or.inl rfl)) (by decide) (by decide)) (da_cons (dq_slot 3 rfl (Or.inr (Or.inl rfl)) (by decide) (by decide)) da_nil (by rfl)) (by rfl)) (by decide) (by rfl) (by rfl))))) da_nil (by rfl)) (by rfl)) (by rfl)))) (fun _ => rfl)))) da_nil (by rfl)) (by decide) (by decide) (by rfl) (by rfl)))))
/-! _law_running(jobs:v, schedule:br, time:v) -/
abbrev s__law_running : Stmt := topS 16
theorem sc__law_running : FnScope ["jobs", "schedule", "time", "found", "job", "begin"] ["jobs", "schedule", "time"] (defScope s__law_running) := ⟨rfl, rfl, rfl, by decide +kernel, rfl, by decide +kernel, by decide +kernel⟩
def B__law_running : SS := (sSeq (sSet 3 (eC (.int 0)))
    (sSeq (sFor (iS 0) (gName 4) (sSeq (sSet 5 (eCall [.br, .v] F__law_time (aC (qS 1) (aC (qV (eOp2 gIx (qS 4) (qV (eC (.int 0))))) aN))))
    (sSet 3 (eOp2 gAdd (qS 3) (qV (eOp2 gMul (qV (eOp2 gIx (qS 4) (qV (eC (.int 2))))) (qV (eOps gInt (aC (qV (eAnd (eOp2 gLe (qS 5) (qS 2)) (eOp2 gLt (qS 2) (qV (eOp2 gAdd (qS 5) (qV (eOp2 gIx (qS 4) (qV (eC (.int 1)))))))))) aN)))))))))
    (sRet (eVar 3))))
def F__law_running : List D → Option (D × List D) := runDef false [.v, .br, .v] 6 B__law_running
set_option maxHeartbeats 4000000 in
theorem ok__law_running {P : Program} {w : World} {K : PySem.W.Frag} {mg : Str → Option Value} {base : Heap} {f : Addr} {fd : FuncData} (F : Fun K "_law_running" "_law_running" s__law_running f fd) (b : L2.Binds K fd ["jobs", "schedule", "time"] []) (gm : mg "_law_running" = some (.ref f)) (m_int : mg "int" = none) (G__law_time : DefOk P w K mg base 1 "_law_time" [.br, .v] false F__law_time) : DefOk P w K mg base 2 "_law_running" [.v, .br, .v] false F__law_running :=
  def_ok F sc__law_running rfl gm b fun cdv A outer s H E hr => (show DSs _ _ B__law_running from
    (dss_cons (ds_set 3 sc__law_running.nd rfl (Or.inl rfl) de_int (Or.inl rfl) (by rfl))
    (dss_cons (ds_for PassesOwn.never rfl (di_slot 0 rfl (Or.inl rfl) (by decide) (by decide)) (dg_name 4 sc__law_running.nd rfl (Or.inl rfl) (Or.inl rfl)) (dss_cons (ds_set 5 sc__law_running.nd rfl (Or.inl rfl) (de_call G__law_time (hr.mono (by decide)) rfl (da_cons (dq_slot 1 rfl (Or.inl rfl) (by decide) (by decide)) (da_cons (dq_val (de_ix (hu1 hr) (dq_slot 4 rfl (Or.inl rfl) (by decide) (by decide)) (dq_val de_int) (fun _ _ => rfl))) da_nil (by rfl)) (by rfl)) (by decide) (by rfl) (by rfl)) (Or.inl rfl) (by rfl))
    (dss_one (ds_set 3 sc__law_running.nd rfl (Or.inl rfl) (de_bin od_add (dq_slot 3 rfl (Or.inl rfl) (by decide) (by decide)) (dq_val (de_bin od_mul (dq_val (de_ix (hu1 hr) (dq_slot 4 rfl (Or.inl rfl) (by decide) (by decide)) (dq_val de_int) (fun _ _ => rfl))) (dq_val (de_callTy cd_int (by rfl) m_int (by decide +kernel) (da_cons (dq_val (de_and (de_cmp od_le (dq_slot 5 rfl (Or.inl rfl) (by decide) (by decide)) (dq_slot 2 rfl (Or.inl rfl) (by decide) (by decide)) (nomark _)) (de_one (de_cmp od_lt (dq_slot 2 rfl (Or.inl rfl) (by decide) (by decide)) (dq_val (de_bin od_add (dq_slot 5 rfl (Or.inl rfl) (by decide) (by decide)) (dq_val (de_ix (hu1 hr) (dq_slot 4 rfl (Or.inl rfl) (by decide) (by decide)) (dq_val de_int) (fun _ _ => rfl))))) (nomark _))))) da_nil (by rfl)) (by decide) (by decide) (by rfl) (by rfl)))))) (Or.inl rfl) (by rfl)))) (fun _ => rfl))
    (dss_one (ds_ret (de_var 3 rfl (Or.inl rfl) (by decide) (by decide)))))))
/-! _law_peak(jobs:v, schedule:br) -/
abbrev s__law_peak : Stmt := topS 17
theorem sc__law_peak : FnScope ["jobs", "schedule", "job"] ["jobs", "schedule"] (defScope s__law_peak) := ⟨rfl, rfl, rfl, by decide +kernel, rfl, by decide +kernel, by decide +kernel⟩
def B__law_peak : SS := (sRet (eOps gMax (aC (qV (eOp2 gCat (qV (eLst (aC (qV (eC (.int 0))) aN))) (qV (eComp [2] (iS 0) (gName 2) tTrue (eCall [.v, .br, .v] F__law_running (aC (qS 0) (aC (qS 1) (aC (qV (eCall [.br, .v] F__law_time (aC (qS 1) (aC (qV (eOp2 gIx (qS 2) (qV (eC (.int 0))))) aN)))) aN)))))))) aN)))
def F__law_peak : List D → Option (D × List D) := runDef false [.v, .br] 3 B__law_peak
set_option maxHeartbeats 4000000 in
theorem ok__law_peak {P : Program} {w : World} {K : PySem.W.Frag} {mg : Str → Option Value} {base : Heap} {f : Addr} {fd : FuncData} (F : Fun K "_law_peak" "_law_peak" s__law_peak f fd) (b : L2.Binds K fd ["jobs", "schedule"] []) (gm : mg "_law_peak" = some (.ref f)) (m_max : mg "max" = none) (G__law_running : DefOk P w K mg base 2 "_law_running" [.v, .br, .v] false F__law_running) (G__law_time : DefOk P w K mg base 1 "_law_time" [.br, .v] false F__law_time) : DefOk P w K mg base 3 "_law_peak" [.v, .br] false F__law_peak :=
  def_ok F sc__law_peak rfl gm b fun cdv A outer s H E hr => (show DSs _ _ B__law_peak from
    (dss_one (ds_ret (de_callB (cd_max rfl) (by rfl) m_max (by decide +kernel) (da_cons (dq_val (de_new (df_bin on_cat (dq_val (de_new (df_lst (da_cons (dq_val de_int) da_nil (by rfl))))) (dq_val (de_new (df_comp rfl sc__law_peak.nd (di_slot 0 rfl (Or.inr (Or.inl rfl)) (by decide) (by decide)) (blkOk_by (N := ["jobs", "schedule", "job"]) (sc := defScope s__law_peak) (own := [("job", 2)]) (by decide +kernel)) (by rfl) (by decide) (fun _ _ _ _ _ => (dg_name 2 sc__law_peak.nd rfl (Or.inl rfl) (Or.inr rfl))) (fun _ _ _ _ _ => dts_nil) (fun _ _ _ _ _ => (de_call G__law_running (hr.mono (by decide)) rfl (da_cons (dq_slot 0 rfl (Or.inr (Or.inl rfl)) (by decide) (by decide)) (da_cons (dq_slot 1 rfl (Or.inr (Or.inl rfl)) (by decide) (by decide)) (da_cons (dq_val (de_call G__law_time (hr.mono (by decide)) rfl (da_cons (dq_slot 1 rfl (Or.inr (Or.inl rfl)) (by decide) (by decide)) (da_cons (dq_val (de_ix (hu1 hr) (dq_slot 2 rfl (Or.inl rfl) (by decide) (by decide)) (dq_val de_int) (fun _ _ => rfl))) da_nil (by rfl)) (by rfl)) (by decide) (by rfl) (by rfl))) da_nil (by rfl)) (by rfl)) (by rfl)) (by decide) (by rfl) (by rfl))) (fun _ => rfl))))))) da_nil (by rfl)) (by decide) (by decide) (by rfl) (by rfl)))))
/-! _law_steps(jobs:v, schedule:br) -/
abbrev s__law_steps : Stmt := topS 18
theorem sc__law_steps : FnScope ["jobs", "schedule", "times", "job", "begin", "found", "before", "time", "now"] ["jobs", "schedule"] (defScope s__law_steps) := ⟨rfl, rfl, rfl, by decide +kernel, rfl, by decide +kernel, by decide +kernel⟩
def B__law_steps : SS := (sSeq (sSet 2 (eLst aN))
    (sSeq (sFor (iS 0) (gName 3) (sSeq (sSet 4 (eCall [.br, .v] F__law_time (aC (qS 1) (aC (qV (eOp2 gIx (qS 3) (qV (eC (.int 0))))) aN))))
    (sSet 2 (eOp2 gCat (qS 2) (qV (eLst (aC (qV (eVar 4)) (aC (qV (eOp2 gAdd (qS 4) (qV (eOp2 gIx (qS 3) (qV (eC (.int 1))))))) aN))))))))
    (sSeq (sSetN 5 (eLst aN))
    (sSeq (sSet 6 (eC (.int 0)))
    (sSeq (sFor (iV (eOp1 gSortSet (qS 2))) (gName 7) (sSeq (sSet 8 (eCall [.v, .br, .v] F__law_running (aC (qS 0) (aC (qS 1) (aC (qS 7) aN)))))
    (sSeq (sIf (bV (eOp2 gNe (qS 8) (qS 6))) (sExpr (eMut "list" 5 (aC (qV (eTup (aC (qV (eVar 7)) (aC (qV (eVar 8)) aN)))) aN) mAppend)) sNil)
    (sSet 6 (eVar 8)))))
    (sRet (eOps gTuple (aC (qS 5) aN))))))))
def F__law_steps : List D → Option (D × List D) := runDef false [.v, .br] 9 B__law_steps
set_option maxHeartbeats 4000000 in
theorem ok__law_steps {P : Program} {w : World} {K : PySem.W.Frag} {mg : Str → Option Value} {base : Heap} {f : Addr} {fd : FuncData} (F : Fun K "_law_steps" "_law_steps" s__law_steps f fd) (b : L2.Binds K fd ["jobs", "schedule"] []) (gm : mg "_law_steps" = some (.ref f)) (m_set : mg "set" = none) (m_sorted : mg "sorted" = none) (m_tuple : mg "tuple" = none) (G__law_running : DefOk P w K mg base 2 "_law_running" [.v, .br, .v] false F__law_running) (G__law_time : DefOk P w K mg base 1 "_law_time" [.br, .v] false F__law_time) : DefOk P w K mg base 3 "_law_steps" [.v, .br] false F__law_steps :=
  def_ok F sc__law_steps rfl gm b fun cdv A outer s H E hr => (show DSs _ _ B__law_steps from
    (dss_cons (ds_set 2 sc__law_steps.nd rfl (Or.inl rfl) (de_new (df_lst da_nil)) (Or.inl rfl) (by rfl))
    (dss_cons (ds_for PassesOwn.never rfl (di_slot 0 rfl (Or.inl rfl) (by decide) (by decide)) (dg_name 3 sc__law_steps.nd rfl (Or.inl rfl) (Or.inl rfl)) (dss_cons (ds_set 4 sc__law_steps.nd rfl (Or.inl rfl) (de_call G__law_time (hr.mono (by decide)) rfl (da_cons (dq_slot 1 rfl (Or.inl rfl) (by decide) (by decide)) (da_cons (dq_val (de_ix (hu1 hr) (dq_slot 3 rfl (Or.inl rfl) (by decide) (by decide)) (dq_val de_int) (fun _ _ => rfl))) da_nil (by rfl)) (by rfl)) (by decide) (by rfl) (by rfl)) (Or.inl rfl) (by rfl))
    (dss_one (ds_set 2 sc__law_steps.nd rfl (Or.inl rfl) (de_new (df_bin on_cat (dq_slot 2 rfl (Or.inl rfl) (by decide) (by decide)) (dq_val (de_new (df_lst (da_cons (dq_val (de_var 4 rfl (Or.inl rfl) (by decide) (by decide))) (da_cons (dq_val (de_bin od_add (dq_slot 4 rfl (Or.inl rfl) (by decide) (by decide)) (dq_val (de_ix (hu1 hr) (dq_slot 3 rfl (Or.inl rfl) (by decide) (by decide)) (dq_val de_int) (fun _ _ => rfl))))) da_nil (by rfl)) (by rfl))))))) (Or.inl rfl) (by rfl)))) (fun _ => rfl))
    (dss_cons (ds_setN 5 sc__law_steps.nd rfl (Or.inl rfl) (df_lst da_nil) (Or.inl rfl) (by rfl))
    (dss_cons (ds_set 6 sc__law_steps.nd rfl (Or.inl rfl) de_int (Or.inl rfl) (by rfl))
    (dss_cons (ds_for PassesOwn.never rfl (di_val (de_new (df_sortSet rfl (by rfl) m_sorted (by rfl) m_set (dq_slot 2 rfl (Or.inl rfl) (by decide) (by decide)) (by rfl) (by rfl)))) (dg_name 7 sc__law_steps.nd rfl (Or.inl rfl) (Or.inl rfl)) (dss_cons (ds_set 8 sc__law_steps.nd rfl (Or.inl rfl) (de_call G__law_running (hr.mono (by decide)) rfl (da_cons (dq_slot 0 rfl (Or.inl rfl) (by decide) (by decide)) (da_cons (dq_slot 1 rfl (Or.inl rfl) (by decide) (by decide)) (da_cons (dq_slot 7 rfl (Or.inl rfl) (by decide) (by decide)) da_nil (by rfl)) (by rfl)) (by rfl)) (by decide) (by rfl) (by rfl)) (Or.inl rfl) (by rfl))
    (dss_cons (ds_if (dt_cmp (od_ne (hu64 hr)) (dq_slot 8 rfl (Or.inl rfl) (by decide) (by decide)) (dq_slot 6 rfl (Or.inl rfl) (by decide) (by decide)) (nomark _)) (dss_one (ds_expr (de_mut 5 PySem.F.plainAttrs_list PySem.F.slot_list_append PySem.F.type_list_append md_append rfl (Or.inl rfl) (da_cons (dq_val (de_tup (da_cons (dq_val (de_var 7 rfl (Or.inl rfl) (by decide) (by decide))) (da_cons (dq_val (de_var 8 rfl (Or.inl rfl) (by decide) (by decide))) da_nil (by rfl)) (by rfl)))) da_nil (by rfl)) (by rfl) (by rfl) (by rfl) (by rfl) (by rfl) (by decide) (by decide)) (by rfl))) dss_nil)
    (dss_one (ds_set 6 sc__law_steps.nd rfl (Or.inl rfl) (de_var 8 rfl (Or.inl rfl) (by decide) (by decide)) (Or.inl rfl) (by rfl))))) (fun _ => rfl))
    (dss_one (ds_ret (de_callTy cd_tuple (by rfl) m_tuple (by decide +kernel) (da_cons (dq_slot 5 rfl (Or.inl rfl) (by decide) (by decide)) da_nil (by rfl)) (by decide) (by decide) (by rfl) (by rfl))))))))))
/-! law(script:v) -/
abbrev s_law : Stmt := topS 19
theorem sc_law : FnScope ["script", "draws", "most", "words", "jobs", "move", "schedule", "point", "told"] ["script"] (defScope s_law) := ⟨rfl, rfl, rfl, by decide +kernel, rfl, by decide +kernel, by decide +kernel⟩
def B_law : SS := (sSeq (sSetN 1 (eCall [.v, .v] F__law_draws (aC (qS 0) (aC (qV (eC (.int 500))) aN))))
    (sSeq (sFor (iV (eLst (aC (qV (eC (.int 6))) (aC (qV (eC (.int 3))) (aC (qV (eC (.int 20))) (aC (qV (eC (.int 2))) aN)))))) (gName 2) (sSeq (sSet 3 (eCall [.io, .v] F__law_words (aC (qS 1) (aC (qV (eC (.int 6))) aN))))
    (sSeq (sSet 4 (eCall [.io, .v, .v, .v] F__law_jobs (aC (qS 1) (aC (qV (eSl (qS 3) oN (oS (eCall [.io, .v] F__law_take (aC (qS 1) (aC (qV (eC (.int 7))) aN)))))) (aC (qS 2) (aC (qS 2) aN))))))
    (sSeq (sSet 5 (eCall [.io, .v] F__law_pick (aC (qS 1) (aC (qV (eLst (aC (qV (eC (.int 0))) (aC (qV (eOp2 gSub (qV (eC (.int 0))) (qV (eC (.int 20))))) (aC (qV (eOp2 gPow (qV (eC (.int 10))) (qV (eC (.int 30))))) aN))))) aN))))
    (sSeq (sSetN 6 (eLst aN))
    (sSeq (sFor (iV (eCall [.v] F__law_points (aC (qS 3) aN))) (gName 7) (sExpr (eMut "list" 6 (aC (qV (eTup (aC (qV (eVar 7)) (aC (qV (eOp2 gMul (qV (eOp2 gAdd (qV (eOp2 gSub (qV (eCall [.io, .v] F__law_take (aC (qS 1) (aC (qV (eC (.int 12))) aN)))) (qV (eC (.int 3))))) (qS 5))) (qV (eOps gInt (aC (qV (eOp2 gNe (qS 7) (qV (eC (.str "start"))))) aN))))) aN)))) aN) mAppend)))
    (sSeq (sSetN 8 (eLst (aC (qV (eCall [.v, .v] F_load (aC (qS 4) (aC (qV (eOps gTuple (aC (qS 6) aN))) aN)))) (aC (qV (eCall [.v, .v] F_peak (aC (qS 4) (aC (qV (eOps gTuple (aC (qS 6) aN))) aN)))) aN))))
    (sIf (bNot (bQ (qV (eCall [.br, .v] F__law_same (aC (qS 8) (aC (qV (eLst (aC (qV (eCall [.v, .br] F__law_steps (aC (qS 4) (aC (qS 6) aN)))) (aC (qV (eCall [.v, .br] F__law_peak (aC (qS 4) (aC (qS 6) aN)))) aN)))) aN)))))) (sRet (eC (.bl false))) sNil))))))))
    (sSeq (sSet 3 (eOps gSorted (aC (qV (eCall [.io, .v] F__law_words (aC (qS 1) (aC (qV (eC (.int 2))) aN)))) aN)))
    (sSeq (sSet 4 (eTup (aC (qV (eTup (aC (qV (eOp2 gIx (qS 3) (qV (eC (.int 0))))) (aC (qV (eC (.int 3))) (aC (qV (eC (.int 2))) aN))))) (aC (qV (eTup (aC (qV (eOp2 gIx (qS 3) (qV (eC (.int 1))))) (aC (qV (eC (.int 4))) (aC (qV (eC (.int 2))) aN))))) aN))))
    (sSeq (sSetN 8 (eLst aN))
    (sSeq (sFor (iV (eCall [.v] F__law_points (aC (qS 3) aN))) (gName 7) (sExpr (eMut "list" 8 (aC (qV (eTup (aC (qV (eVar 7)) (aC (qV (eOp2 gIx (qV (eLst (aC (qV (eC (.int 0))) (aC (qV (eC (.int 5))) (aC (qV (eC (.int 8))) aN))))) (qV (eIndex false (qV (eLst (aC (qV (eC (.str "start"))) (aC (qV (eOp2 gIx (qS 3) (qV (eC (.int 0))))) (aC (qV (eOp2 gIx (qS 3) (qV (eC (.int 1))))) aN))))) (qS 7))))) aN)))) aN) mAppend)))
    (sRet (eAnd (eCall [.br, .v] F__law_same (aC (qV (eCall [.v, .v] F_load (aC (qS 4) (aC (qV (eOps gTuple (aC (qS 8) aN))) aN)))) (aC (qV (eTup (aC (qV (eTup (aC (qV (eC (.int 5))) (aC (qV (eC (.int 2))) aN)))) (aC (qV (eTup (aC (qV (eC (.int 12))) (aC (qV (eC (.int 0))) aN)))) aN)))) aN))) (eCall [.br, .v] F__law_same (aC (qV (eCall [.v, .v] F_load (aC (qV (eTup aN)) (aC (qV (eOps gTuple (aC (qS 8) aN))) aN)))) (aC (qV (eTup aN)) aN)))))))))))
def F_law : List D → Option (D × List D) := runDef false [.v] 9 B_law
set_option maxHeartbeats 4000000 in
theorem ok_law {P : Program} {w : World} {K : PySem.W.Frag} {mg : Str → Option Value} {base : Heap} {f : Addr} {fd : FuncData} (F : Fun K "law" "law" s_law f fd) (m_int : mg "int" = none) (m_sorted : mg "sorted" = none) (m_tuple : mg "tuple" = none) (G__law_draws : DefOk P w K mg base 1 "_law_draws" [.v, .v] true F__law_draws) (G__law_jobs : DefOk P w K mg base 2 "_law_jobs" [.io, .v, .v, .v] false F__law_jobs) (G__law_peak : DefOk P w K mg base 3 "_law_peak" [.v, .br] false F__law_peak) (G__law_pick : DefOk P w K mg base 2 "_law_pick" [.io, .v] false F__law_pick) (G__law_points : DefOk P w K mg base 1 "_law_points" [.v] false F__law_points) (G__law_same : DefOk P w K mg base 8 "_law_same" [.br, .v] false F__law_same) (G__law_steps : DefOk P w K mg base 3 "_law_steps" [.v, .br] false F__law_steps) (G__law_take : DefOk P w K mg base 1 "_law_take" [.io, .v] false F__law_take) (G__law_words : DefOk P w K mg base 2 "_law_words" [.io, .v] false F__law_words) (G_load : DefOk P w K mg base 2 "load" [.v, .v] false F_load) (G_peak : DefOk P w K mg base 3 "peak" [.v, .v] false F_peak) : FnOk P w K mg base CX0 9 f fd ["script"] (spD K [.v] false F_law) :=
  def_fn F sc_law rfl fun cdv A outer s H E hr => (show DSs _ _ B_law from
    (dss_cons (ds_setN 1 sc_law.nd rfl (Or.inl rfl) (df_call G__law_draws (hr.mono (by decide)) rfl (da_cons (dq_slot 0 rfl (Or.inl rfl) (by decide) (by decide)) (da_cons (dq_val de_int) da_nil (by rfl)) (by rfl)) (by decide) (by rfl) (by rfl)) (Or.inl rfl) (by rfl))
    (dss_cons (ds_for PassesOwn.never rfl (di_val (de_new (df_lst (da_cons (dq_val de_int) (da_cons (dq_val de_int) (da_cons (dq_val de_int) (da_cons (dq_val de_int) da_nil (by rfl)) (by rfl)) (by rfl)) (by rfl))))) (dg_name 2 sc_law.nd rfl (Or.inl rfl) (Or.inl rfl)) (dss_cons (ds_set 3 sc_law.nd rfl (Or.inl rfl) (de_call G__law_words (hr.mono (by decide)) rfl (da_cons (dq_slot 1 rfl (Or.inl rfl) (by decide) (by decide)) (da_cons (dq_val de_int) da_nil (by rfl)) (by rfl)) (by decide) (by rfl) (by rfl)) (Or.inl rfl) (by rfl))
    (dss_cons (ds_set 4 sc_law.nd rfl (Or.inl rfl) (de_call G__law_jobs (hr.mono (by decide)) rfl (da_cons (dq_slot 1 rfl (Or.inl rfl) (by decide) (by decide)) (da_cons (dq_val (de_slice (dq_slot 3 rfl (Or.inl rfl) (by decide) (by decide)) do_none (do_some (de_call G__law_take (hr.mono (by decide)) rfl (da_cons (dq_slot 1 rfl (Or.inl rfl) (by decide) (by decide)) (da_cons (dq_val de_int) da_nil (by rfl)) (by rfl)) (by decide) (by rfl) (by rfl))))) (da_cons (dq_slot 2 rfl (Or.inl rfl) (by decide) (by decide)) (da_cons (dq_slot 2 rfl (Or.inl rfl) (by decide) (by decide)) da_nil (by rfl)) (by rfl)) (by rfl)) (by rfl)) (by decide) (by rfl) (by rfl)) (Or.inl rfl) (by rfl))
    (dss_cons (ds_set 5 sc_law.nd rfl (Or.inl rfl) (de_call G__law_pick (hr.mono (by decide)) rfl (da_cons (dq_slot 1 rfl (Or.inl rfl) (by decide) (by decide)) (da_cons (dq_val (de_new (df_lst (da_cons (dq_val de_int) (da_cons (dq_val (de_bin od_sub (dq_val de_int) (dq_val de_int))) (da_cons (dq_val (de_bin od_pow (dq_val de_int) (dq_val de_int))) da_nil (by rfl)) (by rfl)) (by rfl))))) da_nil (by rfl)) (by rfl)) (by decide) (by rfl) (by rfl)) (Or.inl rfl) (by rfl))
    (dss_cons (ds_setN 6 sc_law.nd rfl (Or.inl rfl) (df_lst da_nil) (Or.inl rfl) (by rfl))
    (dss_cons (ds_for PassesOwn.never rfl (di_val (de_call G__law_points (hr.mono (by decide)) rfl (da_cons (dq_slot 3 rfl (Or.inl rfl) (by decide) (by decide)) da_nil (by rfl)) (by decide) (by rfl) (by rfl))) (dg_name 7 sc_law.nd rfl (Or.inl rfl) (Or.inl rfl)) (dss_one (ds_expr (de_mut 6 PySem.F.plainAttrs_list PySem.F.slot_list_append PySem.F.type_list_append md_append rfl (Or.inl rfl) (da_cons (dq_val (de_tup (da_cons (dq_val (de_var 7 rfl (Or.inl rfl) (by decide) (by decide))) (da_cons (dq_val (de_bin od_mul (dq_val (de_bin od_add (dq_val (de_bin od_sub (dq_val (de_call G__law_take (hr.mono (by decide)) rfl (da_cons (dq_slot 1 rfl (Or.inl rfl) (by decide) (by decide)) (da_cons (dq_val de_int) da_nil (by rfl)) (by rfl)) (by decide) (by rfl) (by rfl))) (dq_val de_int))) (dq_slot 5 rfl (Or.inl rfl) (by decide) (by decide)))) (dq_val (de_callTy cd_int (by rfl) m_int (by decide +kernel) (da_cons (dq_val (de_cmp (od_ne (hu64 hr)) (dq_slot 7 rfl (Or.inl rfl) (by decide) (by decide)) (dq_val (de_str (by decide +kernel))) (nomark _))) da_nil (by rfl)) (by decide) (by decide) (by rfl) (by rfl))))) da_nil (by rfl)) (by rfl)))) da_nil (by rfl)) (by rfl) (by rfl) (by rfl) (by rfl) (by rfl) (by decide) (by decide)) (by rfl))) (fun _ => rfl))
    (dss_cons (ds_setN 8 sc_law.nd rfl (Or.inl rfl) (df_lst (da_cons (dq_val (de_call G_load (hr.mono (by decide)) rfl (da_cons (dq_slot 4 rfl (Or.inl rfl) (by decide) (by decide)) (da_cons (dq_val (de_callTy cd_tuple (by rfl) m_tuple (by decide +kernel) (da_cons (dq_slot 6 rfl (Or.inl rfl) (by decide) (by decide)) da_nil (by rfl)) (by decide) (by decide) (by rfl) (by rfl))) da_nil (by rfl)) (by rfl)) (by decide) (by rfl) (by rfl))) (da_cons (dq_val (de_call G_peak (hr.mono (by decide)) rfl (da_cons (dq_slot 4 rfl (Or.inl rfl) (by decide) (by decide)) (da_cons (dq_val (de_callTy cd_tuple (by rfl) m_tuple (by decide +kernel) (da_cons (dq_slot 6 rfl (Or.inl rfl) (by decide) (by decide)) da_nil (by rfl)) (by decide) (by decide) (by rfl) (by rfl))) da_nil (by rfl)) (by rfl)) (by decide) (by rfl) (by rfl))) da_nil (by rfl)) (by rfl))) (Or.inl rfl) (by rfl))
    (dss_one (ds_if (dt_not (dt_truth (dq_val (de_call G__law_same (hr.mono (by decide)) rfl (da_cons (dq_slot 8 rfl (Or.inl rfl) (by decide) (by decide)) (da_cons (dq_val (de_new (df_lst (da_cons (dq_val (de_call G__law_steps (hr.mono (by decide)) rfl (da_cons (dq_slot 4 rfl (Or.inl rfl) (by decide) (by decide)) (da_cons (dq_slot 6 rfl (Or.inl rfl) (by decide) (by decide)) da_nil (by rfl)) (by rfl)) (by decide) (by rfl) (by rfl))) (da_cons (dq_val (de_call G__law_peak (hr.mono (by decide)) rfl (da_cons (dq_slot 4 rfl (Or.inl rfl) (by decide) (by decide)) (da_cons (dq_slot 6 rfl (Or.inl rfl) (by decide) (by decide)) da_nil (by rfl)) (by rfl)) (by decide) (by rfl) (by rfl))) da_nil (by rfl)) (by rfl))))) da_nil (by rfl)) (by rfl)) (by decide) (by rfl) (by rfl))) (fun _ => rfl))) (dss_one (ds_ret de_bl)) dss_nil)))))))) (fun _ => rfl))
    (dss_cons (ds_set 3 sc_law.nd rfl (Or.inl rfl) (de_new (df_callB cn_sorted (by rfl) m_sorted (by decide +kernel) (da_cons (dq_val (de_call G__law_words (hr.mono (by decide)) rfl (da_cons (dq_slot 1 rfl (Or.inl rfl) (by decide) (by decide)) (da_cons (dq_val de_int) da_nil (by rfl)) (by rfl)) (by decide) (by rfl) (by rfl))) da_nil (by rfl)) (by decide) (by decide) (by rfl) (by rfl))) (Or.inl rfl) (by rfl))
    (dss_cons (ds_set 4 sc_law.nd rfl (Or.inl rfl) (de_tup (da_cons (dq_val (de_tup (da_cons (dq_val (de_ix (hu1 hr) (dq_slot 3 rfl (Or.inl rfl) (by decide) (by decide)) (dq_val de_int) (fun _ _ => rfl))) (da_cons (dq_val de_int) (da_cons (dq_val de_int) da_nil (by rfl)) (by rfl)) (by rfl)))) (da_cons (dq_val (de_tup (da_cons (dq_val (de_ix (hu1 hr) (dq_slot 3 rfl (Or.inl rfl) (by decide) (by decide)) (dq_val de_int) (fun _ _ => rfl))) (da_cons (dq_val de_int) (da_cons (dq_val de_int) da_nil (by rfl)) (by rfl)) (by rfl)))) da_nil (by rfl)) (by rfl))) (Or.inl rfl) (by rfl))
    (dss_cons (ds_setN 8 sc_law.nd rfl (Or.inl rfl) (df_lst da_nil) (Or.inl rfl) (by rfl))
    (dss_cons (ds_for PassesOwn.never rfl (di_val (de_call G__law_points (hr.mono (by decide)) rfl (da_cons (dq_slot 3 rfl (Or.inl rfl) (by decide) (by decide)) da_nil (by rfl)) (by decide) (by rfl) (by rfl))) (dg_name 7 sc_law.nd rfl (Or.inl rfl) (Or.inl rfl)) (dss_one (ds_expr (de_mut 8 PySem.F.plainAttrs_list PySem.F.slot_list_append PySem.F.type_list_append md_append rfl (Or.inl rfl) (da_cons (dq_val (de_tup (da_cons (dq_val (de_var 7 rfl (Or.inl rfl) (by decide) (by decide))) (da_cons (dq_val (de_ix (hu1 hr) (dq_val (de_new (df_lst (da_cons (dq_val de_int) (da_cons (dq_val de_int) (da_cons (dq_val de_int) da_nil (by rfl)) (by rfl)) (by rfl))))) (dq_val (de_indexL (hu65 hr) (dq_val (de_new (df_lst (da_cons (dq_val (de_str (by decide +kernel))) (da_cons (dq_val (de_ix (hu1 hr) (dq_slot 3 rfl (Or.inl rfl) (by decide) (by decide)) (dq_val de_int) (fun _ _ => rfl))) (da_cons (dq_val (de_ix (hu1 hr) (dq_slot 3 rfl (Or.inl rfl) (by decide) (by decide)) (dq_val de_int) (fun _ _ => rfl))) da_nil (by rfl)) (by rfl)) (by rfl))))) (dq_slot 7 rfl (Or.inl rfl) (by decide) (by decide)) (by rfl) (by rfl) (by rfl) (by rfl) (by rfl))) (fun _ _ => rfl))) da_nil (by rfl)) (by rfl)))) da_nil (by rfl)) (by rfl) (by rfl) (by rfl) (by rfl) (by rfl) (by decide) (by decide)) (by rfl))) (fun _ => rfl))
    (dss_one (ds_ret (de_and (de_call G__law_same (hr.mono (by decide)) rfl (da_cons (dq_val (de_call G_load (hr.mono (by decide)) rfl (da_cons (dq_slot 4 rfl (Or.inl rfl) (by decide) (by decide)) (da_cons (dq_val (de_callTy cd_tuple (by rfl) m_tuple (by decide +kernel) (da_cons (dq_slot 8 rfl (Or.inl rfl) (by decide) (by decide)) da_nil (by rfl)) (by decide) (by decide) (by rfl) (by rfl))) da_nil (by rfl)) (by rfl)) (by decide) (by rfl) (by rfl))) (da_cons (dq_val (de_tup (da_cons (dq_val (de_tup (da_cons (dq_val de_int) (da_cons (dq_val de_int) da_nil (by rfl)) (by rfl)))) (da_cons (dq_val (de_tup (da_cons (dq_val de_int) (da_cons (dq_val de_int) da_nil (by rfl)) (by rfl)))) da_nil (by rfl)) (by rfl)))) da_nil (by rfl)) (by rfl)) (by decide) (by rfl) (by rfl)) (de_one (de_call G__law_same (hr.mono (by decide)) rfl (da_cons (dq_val (de_call G_load (hr.mono (by decide)) rfl (da_cons (dq_val (de_tup da_nil)) (da_cons (dq_val (de_callTy cd_tuple (by rfl) m_tuple (by decide +kernel) (da_cons (dq_slot 8 rfl (Or.inl rfl) (by decide) (by decide)) da_nil (by rfl)) (by decide) (by decide) (by rfl) (by rfl))) da_nil (by rfl)) (by rfl)) (by decide) (by rfl) (by rfl))) (da_cons (dq_val (de_tup da_nil)) da_nil (by rfl)) (by rfl)) (by decide) (by rfl) (by rfl)))))))))))))
set_option maxHeartbeats 4000000 in
theorem all_mk {l : PySem.W.OpenLaw} {w : World} {K : PySem.W.Frag} {h : Heap} {mg : Str → Option Value} {fa : Addr} (X : K.In h) (G : h.Ns mainGlobals mg) (hfa : mg "law" = some (.ref fa))
    {f0 f1 f2 f3 f4 f5 f6 f7 f8 f9 f10 f11 f12 f13 f14 f15 : Addr} {od0 an0 od1 an1 od2 an2 od3 an3 od4 an4 od5 an5 od6 an6 od7 an7 od8 an8 od9 an9 od10 an10 od11 an11 od12 an12 od13 an13 od14 an14 od15 an15 : Option Addr} {sl0 sl1 sl2 sl3 sl4 sl5 sl6 sl7 sl8 sl9 sl10 sl11 sl12 sl13 sl14 sl15 : Array (Option Value)} {oc0 kV0 dc0 pm0 cd0 ct0 oc1 kV1 dc1 pm1 cd1 ct1 oc2 kV2 dc2 pm2 cd2 ct2 oc3 kV3 dc3 pm3 cd3 ct3 oc4 kV4 dc4 pm4 cd4 ct4 oc5 kV5 dc5 pm5 cd5 ct5 oc6 kV6 dc6 pm6 cd6 ct6 oc7 kV7 dc7 pm7 cd7 ct7 oc8 kV8 dc8 pm8 cd8 ct8 oc9 kV9 dc9 pm9 cd9 ct9 oc10 kV10 dc10 pm10 cd10 ct10 oc11 kV11 dc11 pm11 cd11 ct11 oc12 kV12 dc12 pm12 cd12 ct12 oc13 kV13 dc13 pm13 cd13 ct13 oc14 kV14 dc14 pm14 cd14 ct14 oc15 kV15 dc15 pm15 cd15 ct15 : Value}
    (a0 : PySem.W.nsIn K mainGlobals "times_in" = some (some (.ref f0))) (l0 : K.lookup f0 = some ⟨oc0, od0, .func (PySem.W.fnOf "times_in" "times_in" (defArgs s_times_in) (defBody s_times_in) (defScope s_times_in) .none kV0 dc0 pm0 an0 cd0 ct0), sl0⟩) (c0 : PySem.W.codeIn K cd0 "times_in" = true) (k0 : PySem.W.keepIn K (.ref f0) = true)
    (a1 : PySem.W.nsIn K mainGlobals "running_needs" = some (some (.ref f1))) (l1 : K.lookup f1 = some ⟨oc1, od1, .func (PySem.W.fnOf "running_needs" "running_needs" (defArgs s_running_needs) (defBody s_running_needs) (defScope s_running_needs) .none kV1 dc1 pm1 an1 cd1 ct1), sl1⟩) (c1 : PySem.W.codeIn K cd1 "running_needs" = true) (k1 : PySem.W.keepIn K (.ref f1) = true)
    (a2 : PySem.W.nsIn K mainGlobals "load" = some (some (.ref f2))) (l2 : K.lookup f2 = some ⟨oc2, od2, .func (PySem.W.fnOf "load" "load" (defArgs s_load) (defBody s_load) (defScope s_load) .none kV2 dc2 pm2 an2 cd2 ct2), sl2⟩) (c2 : PySem.W.codeIn K cd2 "load" = true) (k2 : PySem.W.keepIn K (.ref f2) = true)
    (a3 : PySem.W.nsIn K mainGlobals "peak" = some (some (.ref f3))) (l3 : K.lookup f3 = some ⟨oc3, od3, .func (PySem.W.fnOf "peak" "peak" (defArgs s_peak) (defBody s_peak) (defScope s_peak) .none kV3 dc3 pm3 an3 cd3 ct3), sl3⟩) (c3 : PySem.W.codeIn K cd3 "peak" = true) (k3 : PySem.W.keepIn K (.ref f3) = true)
    (a4 : PySem.W.nsIn K mainGlobals "_law_draws" = some (some (.ref f4))) (l4 : K.lookup f4 = some ⟨oc4, od4, .func (PySem.W.fnOf "_law_draws" "_law_draws" (defArgs s__law_draws) (defBody s__law_draws) (defScope s__law_draws) .none kV4 dc4 pm4 an4 cd4 ct4), sl4⟩) (c4 : PySem.W.codeIn K cd4 "_law_draws" = true) (k4 : PySem.W.keepIn K (.ref f4) = true)
    (a5 : PySem.W.nsIn K mainGlobals "_law_take" = some (some (.ref f5))) (l5 : K.lookup f5 = some ⟨oc5, od5, .func (PySem.W.fnOf "_law_take" "_law_take" (defArgs s__law_take) (defBody s__law_take) (defScope s__law_take) .none kV5 dc5 pm5 an5 cd5 ct5), sl5⟩) (c5 : PySem.W.codeIn K cd5 "_law_take" = true) (k5 : PySem.W.keepIn K (.ref f5) = true)
    (a6 : PySem.W.nsIn K mainGlobals "_law_pick" = some (some (.ref f6))) (l6 : K.lookup f6 = some ⟨oc6, od6, .func (PySem.W.fnOf "_law_pick" "_law_pick" (defArgs s__law_pick) (defBody s__law_pick) (defScope s__law_pick) .none kV6 dc6 pm6 an6 cd6 ct6), sl6⟩) (c6 : PySem.W.codeIn K cd6 "_law_pick" = true) (k6 : PySem.W.keepIn K (.ref f6) = true)
    (a7 : PySem.W.nsIn K mainGlobals "_law_same" = some (some (.ref f7))) (l7 : K.lookup f7 = some ⟨oc7, od7, .func (PySem.W.fnOf "_law_same" "_law_same" (defArgs s__law_same) (defBody s__law_same) (defScope s__law_same) .none kV7 dc7 pm7 an7 cd7 ct7), sl7⟩) (c7 : PySem.W.codeIn K cd7 "_law_same" = true) (k7 : PySem.W.keepIn K (.ref f7) = true)
    (a8 : PySem.W.nsIn K mainGlobals "_law_words" = some (some (.ref f8))) (l8 : K.lookup f8 = some ⟨oc8, od8, .func (PySem.W.fnOf "_law_words" "_law_words" (defArgs s__law_words) (defBody s__law_words) (defScope s__law_words) .none kV8 dc8 pm8 an8 cd8 ct8), sl8⟩) (c8 : PySem.W.codeIn K cd8 "_law_words" = true) (k8 : PySem.W.keepIn K (.ref f8) = true)
    (a9 : PySem.W.nsIn K mainGlobals "_law_points" = some (some (.ref f9))) (l9 : K.lookup f9 = some ⟨oc9, od9, .func (PySem.W.fnOf "_law_points" "_law_points" (defArgs s__law_points) (defBody s__law_points) (defScope s__law_points) .none kV9 dc9 pm9 an9 cd9 ct9), sl9⟩) (c9 : PySem.W.codeIn K cd9 "_law_points" = true) (k9 : PySem.W.keepIn K (.ref f9) = true)
    (a10 : PySem.W.nsIn K mainGlobals "_law_time" = some (some (.ref f10))) (l10 : K.lookup f10 = some ⟨oc10, od10, .func (PySem.W.fnOf "_law_time" "_law_time" (defArgs s__law_time) (defBody s__law_time) (defScope s__law_time) .none kV10 dc10 pm10 an10 cd10 ct10), sl10⟩) (c10 : PySem.W.codeIn K cd10 "_law_time" = true) (k10 : PySem.W.keepIn K (.ref f10) = true)
    (a11 : PySem.W.nsIn K mainGlobals "_law_jobs" = some (some (.ref f11))) (l11 : K.lookup f11 = some ⟨oc11, od11, .func (PySem.W.fnOf "_law_jobs" "_law_jobs" (defArgs s__law_jobs) (defBody s__law_jobs) (defScope s__law_jobs) .none kV11 dc11 pm11 an11 cd11 ct11), sl11⟩) (c11 : PySem.W.codeIn K cd11 "_law_jobs" = true) (k11 : PySem.W.keepIn K (.ref f11) = true)
    (a12 : PySem.W.nsIn K mainGlobals "_law_running" = some (some (.ref f12))) (l12 : K.lookup f12 = some ⟨oc12, od12, .func (PySem.W.fnOf "_law_running" "_law_running" (defArgs s__law_running) (defBody s__law_running) (defScope s__law_running) .none kV12 dc12 pm12 an12 cd12 ct12), sl12⟩) (c12 : PySem.W.codeIn K cd12 "_law_running" = true) (k12 : PySem.W.keepIn K (.ref f12) = true)
    (a13 : PySem.W.nsIn K mainGlobals "_law_peak" = some (some (.ref f13))) (l13 : K.lookup f13 = some ⟨oc13, od13, .func (PySem.W.fnOf "_law_peak" "_law_peak" (defArgs s__law_peak) (defBody s__law_peak) (defScope s__law_peak) .none kV13 dc13 pm13 an13 cd13 ct13), sl13⟩) (c13 : PySem.W.codeIn K cd13 "_law_peak" = true) (k13 : PySem.W.keepIn K (.ref f13) = true)
    (a14 : PySem.W.nsIn K mainGlobals "_law_steps" = some (some (.ref f14))) (l14 : K.lookup f14 = some ⟨oc14, od14, .func (PySem.W.fnOf "_law_steps" "_law_steps" (defArgs s__law_steps) (defBody s__law_steps) (defScope s__law_steps) .none kV14 dc14 pm14 an14 cd14 ct14), sl14⟩) (c14 : PySem.W.codeIn K cd14 "_law_steps" = true) (k14 : PySem.W.keepIn K (.ref f14) = true)
    (a15 : PySem.W.nsIn K mainGlobals "law" = some (some (.ref f15))) (l15 : K.lookup f15 = some ⟨oc15, od15, .func (PySem.W.fnOf "law" "law" (defArgs s_law) (defBody s_law) (defScope s_law) .none kV15 dc15 pm15 an15 cd15 ct15), sl15⟩) (c15 : PySem.W.codeIn K cd15 "law" = true) (k15 : PySem.W.keepIn K (.ref f15) = true)
    (z_bool : PySem.W.nsIn K mainGlobals "bool" = some none)
    (z_int : PySem.W.nsIn K mainGlobals "int" = some none)
    (z_isinstance : PySem.W.nsIn K mainGlobals "isinstance" = some none)
    (z_len : PySem.W.nsIn K mainGlobals "len" = some none)
    (z_list : PySem.W.nsIn K mainGlobals "list" = some none)
    (z_max : PySem.W.nsIn K mainGlobals "max" = some none)
    (z_range : PySem.W.nsIn K mainGlobals "range" = some none)
    (z_set : PySem.W.nsIn K mainGlobals "set" = some none)
    (z_sorted : PySem.W.nsIn K mainGlobals "sorted" = some none)
    (z_str : PySem.W.nsIn K mainGlobals "str" = some none)
    (z_sum : PySem.W.nsIn K mainGlobals "sum" = some none)
    (z_tuple : PySem.W.nsIn K mainGlobals "tuple" = some none)
    : ∃ fd : FuncData, (∀ (s : Shared) (v : Value), BindsTo s fd ⟨[v], []⟩ [("script", v)]) ∧ ∀ base : Heap, K.In base → base.Ns mainGlobals mg → FnOk l.prog w K mg base CX0 9 fa fd ["script"] (spD K [.v] false F_law) := by
  have e := hfa.symm.trans (PySem.W.mg_of X G a15)
  cases e
  have m_bool := PySem.W.mg_none_of X G z_bool
  have m_int := PySem.W.mg_none_of X G z_int
  have m_isinstance := PySem.W.mg_none_of X G z_isinstance
  have m_len := PySem.W.mg_none_of X G z_len
  have m_list := PySem.W.mg_none_of X G z_list
  have m_max := PySem.W.mg_none_of X G z_max
  have m_range := PySem.W.mg_none_of X G z_range
  have m_set := PySem.W.mg_none_of X G z_set
  have m_sorted := PySem.W.mg_none_of X G z_sorted
  have m_str := PySem.W.mg_none_of X G z_str
  have m_sum := PySem.W.mg_none_of X G z_sum
  have m_tuple := PySem.W.mg_none_of X G z_tuple
  have F0 := fun_mk (st := s_times_in) l0 c0 k0
  have b0 := F0.binds (ps := ["schedule"]) fun _ _ _ _ _ _ us hl => match us, hl with | [_], _ => rfl
  have F1 := fun_mk (st := s_running_needs) l1 c1 k1
  have b1 := F1.binds (ps := ["jobs", "times", "moment"]) fun _ _ _ _ _ _ us hl => match us, hl with | [_, _, _], _ => rfl
  have F2 := fun_mk (st := s_load) l2 c2 k2
  have b2 := F2.binds (ps := ["jobs", "schedule"]) fun _ _ _ _ _ _ us hl => match us, hl with | [_, _], _ => rfl
  have F3 := fun_mk (st := s_peak) l3 c3 k3
  have b3 := F3.binds (ps := ["jobs", "schedule"]) fun _ _ _ _ _ _ us hl => match us, hl with | [_, _], _ => rfl
  have F4 := fun_mk (st := s__law_draws) l4 c4 k4
  have b4 := F4.binds (ps := ["script", "many"]) fun _ _ _ _ _ _ us hl => match us, hl with | [_, _], _ => rfl
  have F5 := fun_mk (st := s__law_take) l5 c5 k5
  have b5 := F5.binds (ps := ["draws", "many"]) fun _ _ _ _ _ _ us hl => match us, hl with | [_, _], _ => rfl
  have F6 := fun_mk (st := s__law_pick) l6 c6 k6
  have b6 := F6.binds (ps := ["draws", "row"]) fun _ _ _ _ _ _ us hl => match us, hl with | [_, _], _ => rfl
  have F7 := fun_mk (st := s__law_same) l7 c7 k7
  have b7 := F7.binds (ps := ["actual", "due"]) fun _ _ _ _ _ _ us hl => match us, hl with | [_, _], _ => rfl
  have F8 := fun_mk (st := s__law_words) l8 c8 k8
  have b8 := F8.binds (ps := ["draws", "many"]) fun _ _ _ _ _ _ us hl => match us, hl with | [_, _], _ => rfl
  have F9 := fun_mk (st := s__law_points) l9 c9 k9
  have b9 := F9.binds (ps := ["words"]) fun _ _ _ _ _ _ us hl => match us, hl with | [_], _ => rfl
  have F10 := fun_mk (st := s__law_time) l10 c10 k10
  have b10 := F10.binds (ps := ["schedule", "point"]) fun _ _ _ _ _ _ us hl => match us, hl with | [_, _], _ => rfl
  have F11 := fun_mk (st := s__law_jobs) l11 c11 k11
  have b11 := F11.binds (ps := ["draws", "words", "longest", "most"]) fun _ _ _ _ _ _ us hl => match us, hl with | [_, _, _, _], _ => rfl
  have F12 := fun_mk (st := s__law_running) l12 c12 k12
  have b12 := F12.binds (ps := ["jobs", "schedule", "time"]) fun _ _ _ _ _ _ us hl => match us, hl with | [_, _, _], _ => rfl
  have F13 := fun_mk (st := s__law_peak) l13 c13 k13
  have b13 := F13.binds (ps := ["jobs", "schedule"]) fun _ _ _ _ _ _ us hl => match us, hl with | [_, _], _ => rfl
  have F14 := fun_mk (st := s__law_steps) l14 c14 k14
  have b14 := F14.binds (ps := ["jobs", "schedule"]) fun _ _ _ _ _ _ us hl => match us, hl with | [_, _], _ => rfl
  have F15 := fun_mk (st := s_law) l15 c15 k15
  have b15 := F15.binds (ps := ["script"]) fun _ _ _ _ _ _ us hl => match us, hl with | [_], _ => rfl
  refine ⟨PySem.W.fnOf "law" "law" (defArgs s_law) (defBody s_law) (defScope s_law) .none kV15 dc15 pm15 an15 cd15 ct15, fun s v => .of_eq rfl, fun base _ _ => ?_⟩
  have G_times_in := ok_times_in (P := l.prog) (w := w) (base := base) F0 b0 (PySem.W.mg_of X G a0) 
  have G_running_needs := ok_running_needs (P := l.prog) (w := w) (base := base) F1 b1 (PySem.W.mg_of X G a1) m_sum
  have G_load := ok_load (P := l.prog) (w := w) (base := base) F2 b2 (PySem.W.mg_of X G a2) m_sorted m_tuple G_running_needs G_times_in
  have G_peak := ok_peak (P := l.prog) (w := w) (base := base) F3 b3 (PySem.W.mg_of X G a3) m_max G_load
  have G__law_draws := ok__law_draws (P := l.prog) (w := w) (base := base) F4 b4 (PySem.W.mg_of X G a4) m_int m_len m_list m_range
  have G__law_take := ok__law_take (P := l.prog) (w := w) (base := base) F5 b5 (PySem.W.mg_of X G a5) m_int m_len
  have G__law_pick := ok__law_pick (P := l.prog) (w := w) (base := base) F6 b6 (PySem.W.mg_of X G a6) m_len G__law_take
  have G__law_same := ok__law_same (P := l.prog) (w := w) (base := base) F7 b7 (PySem.W.mg_of X G a7) m_bool m_int m_isinstance m_len m_list m_range m_str m_tuple
  have G__law_words := ok__law_words (P := l.prog) (w := w) (base := base) F8 b8 (PySem.W.mg_of X G a8) m_len m_max m_range G__law_take
  have G__law_points := ok__law_points (P := l.prog) (w := w) (base := base) F9 b9 (PySem.W.mg_of X G a9) m_list m_sorted m_tuple
  have G__law_time := ok__law_time (P := l.prog) (w := w) (base := base) F10 b10 (PySem.W.mg_of X G a10) 
  have G__law_jobs := ok__law_jobs (P := l.prog) (w := w) (base := base) F11 b11 (PySem.W.mg_of X G a11) m_sorted m_tuple G__law_take
  have G__law_running := ok__law_running (P := l.prog) (w := w) (base := base) F12 b12 (PySem.W.mg_of X G a12) m_int G__law_time
  have G__law_peak := ok__law_peak (P := l.prog) (w := w) (base := base) F13 b13 (PySem.W.mg_of X G a13) m_max G__law_running G__law_time
  have G__law_steps := ok__law_steps (P := l.prog) (w := w) (base := base) F14 b14 (PySem.W.mg_of X G a14) m_set m_sorted m_tuple G__law_running G__law_time
  exact ok_law (P := l.prog) (w := w) (base := base) F15 m_int m_sorted m_tuple G__law_draws G__law_jobs G__law_peak G__law_pick G__law_points G__law_same G__law_steps G__law_take G__law_words G_load G_peak
end Lw

namespace Lw
open PySem PySem.Spec PyProof.Rows L2 Z
local macro_rules | `(tactic| walk_at "om2") => `(tactic| first | omega | (simp only [S_len, List.length_range, List.length_append, List.length_map, List.length_cons, List.length_nil, List.length_singleton, List.length_set, List.length_reverse]; omega))
local macro_rules | `(tactic| walk_at "ev") => `(tactic| simp -implicitDefEqProofs (disch := first | assumption | omega) only [ev_eMxGet, ev_sMxPut, ev_sMxRet, ev_sMxNew, ev_rowsS, ev_intS, ev_nomx0, ev_nomx1, ev_nomx2, ev_nomx3, ev_nomx4, ev_oneM, ev_eDnewK, ev_iEn, ev_seqE0, ev_seqE1, ev_seqE2, ev_iZip, ev_zipE0, ev_zipE1, ev_eDcomp, ev_eIndexT, ev_eIndexL, ev_isKt, ev_isLst, ev_eGet2, ev_eD1, ev_oneD, ev_key_str, ev_key_int, ev_in_dks, ev_notin_dks, ev_in_dki, ev_notin_dki, ev_ix_dks, ev_ix_dki, ev_get_dks, ev_isDi, ev_eq_ints, ev_in_ints_tup, ev_notin_ints_tup, ev_in_ints_lst, ev_notin_ints_lst, ev_ltL, ev_int_bl, ev_pick2, ev_pick2p, ev_tupleK_lst, ev_tupleK_kt, ev_tuple_kt, ev_list_kt, ev_i0_tup, ev_i1_tup, ev_i2_tup, ev_i3_tup, ev_i4_tup, ev_i5_tup, ev_i0_lst, ev_i1_lst, ev_i2_lst, ev_i3_lst, ev_i4_lst, ev_i5_lst, ev_i0_kt, ev_i1_kt, ev_i2_kt, ev_i3_kt, ev_i4_kt, ev_i5_kt, S_beq, S_inj, S_len, signs_S, ev_items_S, ev_ix_S, ev_mul_S, ev_add_S2, ev_len_S2, ev_in_str, ev_in_sign, ev_append_str, ev_join0, ev_eq_bl, ev_ne_bl, ev_len_kt, ev_chain, ev_gIsi, ev_gIsi2, ty_non, ty_bl, ty_int, ty_str, ty_tup, ty_kt, ty_lst, ty_dk, ty_dt, ev_ix_tup, ev_ix_kt, ev_sl_to_S, ev_sl_from_S, ev_cat2, ev_add_tup2, ev_add_lst2, List.length_append, List.length_replicate, List.length_take, List.length_drop, List.length_reverse, kb_NoneType_int, kb_NoneType_str, kb_NoneType_bool, kb_NoneType_list, kb_NoneType_tuple, kb_NoneType_dict, kb_bool_int, kb_bool_str, kb_bool_bool, kb_bool_list, kb_bool_tuple, kb_bool_dict, kb_int_int, kb_int_str, kb_int_bool, kb_int_list, kb_int_tuple, kb_int_dict, kb_str_int, kb_str_str, kb_str_bool, kb_str_list, kb_str_tuple, kb_str_dict, kb_list_int, kb_list_str, kb_list_bool, kb_list_list, kb_list_tuple, kb_list_dict, kb_tuple_int, kb_tuple_str, kb_tuple_bool, kb_tuple_list, kb_tuple_tuple, kb_tuple_dict, kb_dict_int, kb_dict_str, kb_dict_bool, kb_dict_list, kb_dict_tuple, kb_dict_dict, runDef, env0, argSlot, outsOf, ev_eC, ev_qV, ev_qS, ev_aN, ev_aC, ev_eVar, ev_eOp1, ev_eOp2, ev_eOps, ev_bV, ev_bQ, ev_bNot, ev_bAnd, ev_bOr, ev_eIf, ev_eB, ev_eAnd, ev_eOr, ev_eNot, ev_eTup, ev_eLst, ev_oN, ev_oS, ev_eSl, ev_sNil, ev_sSeq, ev_sIf, ev_sBreak, ev_sCont, ev_sRet, ev_sRetF, ev_sRetN, ev_sRetO, ev_sExpr, ev_sSet, ev_sSetN, ev_putFz, ev_putOw, ev_free, ev_freH, ev_freO, ev_fre0, ev_fre1, ev_fre2, ev_gName, ev_gsNil, ev_gsCons, ev_gTup, ev_gTupK, ev_gTupL, ev_sAsg, ev_sPar, ev_getM, ev_setM, ev_eMut, ev_sPut, ev_iV, ev_iS, ev_iR1, ev_iR2, ev_iRB, ev_eComp2, ev_oneC2, ev_eLstB, ev_sForD, ev_eCompD, ev_sFor, ev_eComp, ev_eCall, ev_lock0, ev_lockS, ev_unlock0, ev_unlockS, ev_unO_nx, ev_unO_rt, ev_unO_rn, ev_and_nx, ev_and_bk, ev_and_ct, ev_and_rt, ev_and_rn, ev_eq_int, ev_ne_int, ev_eq_str, ev_ne_str, ev_fi1, ev_fi2, ev_fi3, ev_fi4,
  ev_mul_r, ev_mul_l, ev_mod, ev_div, ev_p18, ev_p15, ev_p20, ev_p40, ev_add_int, ev_sub_int, ev_neg_int, ev_add_str2, ev_len_str, ev_lt_int, ev_le_int, ev_gt_int, ev_ge_int, ev_lt_str, ev_len_lst, ev_len_tup, ev_len_dk, ev_int_int, ev_list_lst, ev_list_tup, ev_tuple_lst, ev_tuple_tup, ev_append_int, ev_reverse_int, ev_ix_ints, ev_set_ints, ev_all, ev_any, ev_sum, ev_items_lst, ev_items_tup, ev_items_kt, ev_items_sc, ev_items_str,
  getP, getS, getPs, vals, asB, asI, truD, tyD, argDs, ioSlots, brSlots, apart, setOuts, D.isNon,
  List.getElem?_cons_succ, List.getElem?_cons_zero, List.set_cons_succ, List.set_cons_zero, Option.bind_some, Option.bind_none, Option.bind_assoc, List.length_cons, List.length_nil, List.replicate_succ, List.replicate_zero, Nat.add_one_sub_one, Nat.reduceAdd, Nat.reduceSub, if_true, if_false, reduceIte, reduceCtorEq, Bool.false_eq_true, List.length_map, beq_self_eq_true, ev_gv, ev_oneC, ev_oneL, ev_fwd, ev_fwd2, ev_fwdO, ev_fwdO2, ev_fwdO3, ev_fwdO4, ev_fwdO5, ev_wipe0, ev_wipe1, ev_res0, ev_res1, ev_wok0, ev_wok1, ev_wb0, ev_wb1, Bool.and_true, Bool.true_and, List.getD_cons_succ, List.getD_cons_zero, tTrue, Option.toList_some, Option.toList_none, List.length_range, List.length_nil, Int.toNat_natCast, List.nodup_cons, List.nodup_nil, List.all_cons, List.all_nil, List.contains_nil, List.contains_cons, List.not_mem_nil, not_false_eq_true, and_self, decide_true, List.mem_cons, or_false, Nat.reduceEqDiff, and_true, true_and, Bool.or_false, beq_eq_false_iff_ne, decide_eq_false_iff_not, ne_eq, ite_not, if_pos, if_neg, ev_size, ev_sizel, ev_rng, ev_rng2, beq_iff_eq, decide_eq_true_eq, Bool.and_eq_true, Bool.or_eq_true, Bool.not_eq_true', Bool.not_true, Bool.not_false, Bool.not_eq_eq_eq_not])
local macro_rules | `(tactic| walk_at "go") => `(tactic| repeat' (first | walk_at "ev" | walk_at "fn" | walk_at "gv" | with_reducible refine gv_iteb (fun _ => ?_) (fun _ => ?_) | with_reducible refine gv_ite (fun _ => ?_) (fun _ => ?_)))
local macro_rules | `(tactic| walk_at "st") => `(tactic| repeat' (first | walk_at "ev" | walk_at "fn" | walk_at "gv"))
local macro_rules | `(tactic| walk_at "fn") => `(tactic| fail)
local macro_rules | `(tactic| walk_at "gv") => `(tactic| fail)

/-! the law's draws -/
def takeV (xs : List Int) (m : Int) : Int := match xs.getLast? with
  | none => 0
  | some x => x % m
theorem take_eq (xs : List Int) (m : Int) (hm : 0 < m) : F__law_take [.lst (xs.map .int), .int m] = some (.int (takeV xs m), [.lst (xs.dropLast.map .int), .non]) := by
  unfold F__law_take B__law_take
  rcases List.eq_nil_or_concat xs with rfl | ⟨ys, x, rfl⟩
  · walk_at "ev"
    rfl
  · rw [List.concat_eq_append]
    have h2 : takeV (ys ++ [x]) m = x % m := by unfold takeV; rw [List.getLast?_concat]
    have h : (ys ++ [x]).length = ys.length + 1 := by rw [List.length_append, List.length_singleton]
    walk_at "ev"
    simp only [h2, ev_pop_snoc]
    walk_at "ev"
    simp only [List.dropLast_concat]
theorem take_range {xs : List Int} {m : Int} (hm : 0 < m) : 0 ≤ takeV xs m ∧ takeV xs m < m := by
  unfold takeV
  split
  · omega
  · exact ⟨Int.emod_nonneg _ (by omega), Int.emod_lt_of_pos _ hm⟩
theorem pick_eq (xs : List Int) (ds : List D) (h : 0 < ds.length) (d : D) (hd : ds[(takeV xs ds.length).toNat]? = some d) : F__law_pick [.lst (xs.map .int), .lst ds] = some (d, [.lst (xs.dropLast.map .int), .non]) := by
  unfold F__law_pick B__law_pick
  have hr := take_range (xs := xs) (m := ds.length) (by omega)
  walk_at "ev"
  simp (disch := omega) only [take_eq]
  walk_at "ev"
  have e : gIx (.lst ds) (.int (takeV xs ds.length)) = some d := by
    show atI ds _ = _
    rw [atI_of hr.1 hr.2]; exact hd
  simp only [e]
  walk_at "ev"
set_option maxHeartbeats 0 in
theorem draws_gv (ns : List Int) (n : Int) (h0 : 0 ≤ n) (h1 : n ≤ 10000) (hl : ns.length ≤ 63) : Gv (F__law_draws [.sc ns, .int n]) fun r => ∃ xs : List Int, r = (.lst (xs.map .int), [.non, .non]) := by
  unfold F__law_draws B__law_draws
  walk_at "ev"
  refine gv_map D.int D.int (by omega) (fun x _ => ?_) ?_
  · walk_at "ev"
  walk_at "ev"
  refine gv_bind (P := fun o => ∃ cs : List Int, o = .nx [.fz (.sc ns), .fz (.int n), .ow (.lst (cs.map .int)), .no, .no, .no, .no, .no, .no] ∧ 0 < cs.length ∧ cs.length ≤ 64) (gv_ite (fun h => ?_) fun h => ?_) ?_
  · refine gv_some ⟨_, rfl, ?_⟩
    rw [List.length_append, List.length_singleton]
    omega
  · exact gv_some ⟨_, rfl, by omega⟩
  rintro _ ⟨cs, rfl, hc, hc2⟩
  walk_at "ev"
  refine gv_for (fun (i : Nat) => D.int i) (fun k env => ∃ (left ds : List Int) (s5 s6 s7 : Slot), env = [.fz (.sc ns), .fz (.int n), .ow (.lst (cs.map .int)), .ow (.lst (left.map .int)), .ow (.lst (ds.map .int)), s5, s6, s7, .no] ∧ left.length = cs.length ∧ ds.length = k ∧ fre s5 = true ∧ fre s6 = true ∧ fre s7 = true) ⟨cs, [], .no, .no, .no, rfl, rfl, rfl, rfl, rfl, rfl⟩ ?_ ?_
  · rintro i x env hx ⟨left, ds, s5, s6, s7, rfl, h1, h2, h5, h6, h7⟩
    have hi : i < n.toNat := by
      obtain ⟨h, _⟩ := List.getElem?_eq_some_iff.mp hx
      rwa [List.length_range] at h
    have e1 := Int.emod_nonneg (x : Int) (b := cs.length) (by omega)
    have e2 := Int.emod_lt_of_pos (x : Int) (b := cs.length) (by omega)
    walk_at "go"
    · exact ⟨_, _, _, _, _, rfl, by rw [List.length_set]; exact h1, by rw [List.length_append, h2]; rfl, rfl, rfl, h7⟩
    · exact ⟨_, _, _, _, _, rfl, h1, by rw [List.length_append, h2]; rfl, rfl, rfl, rfl⟩
    · exact ⟨_, _, _, _, _, rfl, h1, by rw [List.length_append, h2]; rfl, rfl, rfl, rfl⟩
  · rintro env ⟨left, ds, s5, s6, s7, rfl, h1, h2, h5, h6, h7⟩
    walk_at "ev"
    exact ⟨ds.reverse, by rw [List.map_reverse]⟩
theorem gv_take {β : Type} {xs : List Int} {m : Int} {k : D × List D → Option β} {Q : β → Prop} (hm : 0 < m) (h : ∀ (t : Int) (ys : List Int), 0 ≤ t → t < m → Gv (k (.int t, [.lst (ys.map .int), .non])) Q) : Gv ((F__law_take [.lst (xs.map .int), .int m]).bind k) Q := by
  rw [take_eq xs m hm]
  exact h _ _ (take_range hm).1 (take_range hm).2
theorem gv_pick {β : Type} {xs : List Int} {ds : List D} {k : D × List D → Option β} {Q : β → Prop} (hm : 0 < ds.length) (h : ∀ d ∈ ds, ∀ (ys : List Int), Gv (k (d, [.lst (ys.map .int), .non])) Q) : Gv ((F__law_pick [.lst (xs.map .int), .lst ds]).bind k) Q := by
  have r := take_range (xs := xs) (m := ds.length) (by omega)
  have e := List.getElem?_eq_getElem (l := ds) (i := (takeV xs ds.length).toNat) (by omega)
  rw [pick_eq xs ds hm _ e]
  exact h _ (List.getElem_mem _) _

theorem pickT_eq (xs : List Int) (ds : List D) (h : 0 < ds.length) (d : D) (hd : ds[(takeV xs ds.length).toNat]? = some d) : F__law_pick [.lst (xs.map .int), .tup ds] = some (d, [.lst (xs.dropLast.map .int), .non]) := by
  unfold F__law_pick B__law_pick
  have hr := take_range (xs := xs) (m := ds.length) (by omega)
  have e : ds.getD (takeV xs ds.length).toNat .non = d := by rw [List.getD_eq_getElem?_getD, hd]; rfl
  walk_at "ev"
  simp (disch := omega) only [take_eq]
  walk_at "ev"
  rw [e]
theorem gv_pickT {β : Type} {xs : List Int} {ds : List D} {k : D × List D → Option β} {Q : β → Prop} (hm : 0 < ds.length) (h : ∀ d ∈ ds, ∀ (ys : List Int), Gv (k (d, [.lst (ys.map .int), .non])) Q) : Gv ((F__law_pick [.lst (xs.map .int), .tup ds]).bind k) Q := by
  have r := take_range (xs := xs) (m := ds.length) (by omega)
  have e := List.getElem?_eq_getElem (l := ds) (i := (takeV xs ds.length).toNat) (by omega)
  rw [pickT_eq xs ds hm _ e]
  exact h _ (List.getElem_mem _) _
local macro_rules | `(tactic| walk_at "gv") => `(tactic| with_reducible refine gv_take (by omega) (fun _ _ _ _ => ?_))

def abc : List Nat := [97, 98, 99, 100, 101, 102, 103, 104, 105, 106, 107, 108, 109, 110, 111, 112, 113, 114, 115, 116, 117, 118, 119, 120, 121, 122]
theorem abc_len : abc.length = 26 := rfl
theorem L_abc : Str.ofString "abcdefghijklmnopqrstuvwxyz" = S abc := by decide +kernel
theorem L_start : Str.ofString "start" = S [115, 116, 97, 114, 116] := by decide +kernel
theorem L_z : Str.ofString "z" = S [122] := by decide +kernel
theorem L_0 : Str.ofString "" = S [] := by decide +kernel
structure Word (n : Nat) (x : Str) : Prop where
  ne : x.cps.toList ≠ []
  all : ∀ c ∈ x.cps.toList, c ∈ abc
  len : x.length ≤ n
  st : x ≠ S [115, 116, 97, 114, 116]
theorem Word.mono {n m : Nat} {x : Str} (w : Word n x) (h : n ≤ m) : Word m x := ⟨w.ne, w.all, Nat.le_trans w.len h, w.st⟩
local macro_rules | `(tactic| walk_at "fn") => `(tactic| simp -implicitDefEqProofs (disch := first | assumption | omega) only [L_abc, L_start, L_z, L_0, abc_len])
set_option maxHeartbeats 0 in
theorem words_gv (xs : List Int) (n : Int) (h0 : 0 ≤ n) (h1 : n ≤ 100) : Gv (F__law_words [.lst (xs.map .int), .int n]) fun r => ∃ (ws : List Str) (xs : List Int), r = (.lst (ws.map .str), [.lst (xs.map .int), .non]) ∧ ws.length = n.toNat ∧ ws.Nodup ∧ ∀ x ∈ ws, Word (26 + n.toNat) x := by
  unfold F__law_words B__law_words
  walk_at "ev"
  refine gv_for (fun (i : Nat) => D.int i) (fun k env => ∃ (xs : List Int) (ws : List Str) (s3 s4 s5 : Slot), env = [.io (.lst (xs.map .int)), .fz (.int n), .ow (.lst (ws.map .str)), s3, s4, s5, .no, .no] ∧ fre s3 = true ∧ fre s4 = true ∧ fre s5 = true ∧ ws.length = k ∧ ws.Nodup ∧ ∀ x ∈ ws, Word (26 + k) x) ⟨xs, [], .no, .no, .no, rfl, rfl, rfl, rfl, rfl, List.nodup_nil, fun _ h => nomatch h⟩ ?_ ?_
  · rintro i x env hx ⟨xs, ws, s3, s4, s5, rfl, f3, f4, f5, hl, hd, hw⟩
    have hab := abc_len
    have hi : i < n.toNat := by
      obtain ⟨h, _⟩ := List.getElem?_eq_some_iff.mp hx
      rwa [List.length_range] at h
    walk_at "ev"
    refine gv_take (by omega) fun t1 xs h1 h2 => ?_
    walk_at "ev"
    refine gv_take (by omega) fun t2 xs h3 h4 => ?_
    walk_at "ev"
    refine gv_bind (P := fun o => ∃ (m : Int) (xs : List Int), o = .nx [.io (.lst (xs.map .int)), .fz (.int n), .ow (.lst (ws.map .str)), .fz (.int x), .fz (.int m), s5, .no, .no] ∧ 1 ≤ m ∧ m ≤ 26) ?_ ?_
    · walk_at "go"
      · exact ⟨_, _, rfl, by omega⟩
      · exact ⟨_, _, rfl, by omega⟩
    rintro _ ⟨m, xs, rfl, hm1, hm2⟩
    walk_at "ev"
    refine gv_comp (fun (i : Nat) => D.int i) (fun k acc env => ∃ (cs : List Nat) (xs : List Int), acc = cs.map (fun c => D.str (S [c])) ∧ env = [.io (.lst (xs.map .int)), .fz (.int n), .ow (.lst (ws.map .str)), .fz (.int x), .fz (.int m), s5, .no, .no] ∧ cs.length = k ∧ (∀ c ∈ cs, c ∈ abc)) (by walk_at "om2") ⟨[], xs, rfl, rfl, rfl, fun _ h => nomatch h⟩ ?_ ?_
    · rintro j y acc env hy ⟨cs, xs, rfl, rfl, hk, hc⟩
      walk_at "go"
      refine ⟨cs ++ [_], _, by rw [List.map_append]; rfl, rfl, by rw [List.length_append, hk]; rfl, fun c hcc => ?_⟩
      rcases List.mem_append.mp hcc with hcc | hcc
      · exact hc c hcc
      · rw [List.mem_singleton.mp hcc, List.getD_eq_getElem?_getD, List.getElem?_eq_getElem (by omega)]
        exact List.getElem_mem _
    · rintro acc env ⟨cs, xs, rfl, rfl, hk, hc⟩
      rw [List.length_range] at hk
      walk_at "st"
      refine gv_bind (P := fun r => r = (decide (S cs ∈ ws ∨ cs = [115, 116, 97, 114, 116]), [.io (.lst (xs.map .int)), .fz (.int n), .ow (.lst (ws.map .str)), .fz (.int x), .fz (.int m), .fz (.str (S cs)), .no, .no])) (gv_ite (fun h => ?_) fun h => ?_) ?_
      · exact gv_some (by rw [decide_eq_true (Or.inl h)])
      · refine gv_some ?_
        rw [Prod.mk.injEq, Bool.eq_iff_iff, beq_iff_eq, decide_eq_true_eq]
        exact ⟨⟨.inr, fun z => z.resolve_left h⟩, rfl⟩
      rintro _ rfl
      refine gv_bind (P := fun o => ∃ w : Str, o = .nx [.io (.lst (xs.map .int)), .fz (.int n), .ow (.lst (ws.map .str)), .fz (.int x), .fz (.int m), .fz (.str w), .no, .no] ∧ Word (27 + i) w ∧ w ∉ ws) ?_ ?_
      · walk_at "go"
        · refine gv_map D.str (fun x => D.int x.length) (by omega) (fun x hx => ?_) ?_
          · have := (hw x hx).len
            walk_at "ev"
          walk_at "st"
          have e1 : [D.int 5] ++ ws.map (fun x => D.int x.length) = (5 :: ws.map (fun x : Str => (x.length : Int))).map D.int := by rw [List.map_cons, List.map_map]; rfl
          have g5 : (5 : Int) ≤ maxI (5 :: ws.map (fun x : Str => (x.length : Int))) := maxI_ge List.mem_cons_self
          have gm : maxI (5 :: ws.map (fun x : Str => (x.length : Int))) ≤ 26 + i := by
            rcases List.mem_cons.mp (maxI_mem (ns := 5 :: ws.map (fun x : Str => (x.length : Int))) (List.cons_ne_nil _ _)) with h | h
            · omega
            · obtain ⟨x, hx, h⟩ := List.mem_map.mp h
              have := (hw x hx).len
              omega
          have ge : ∀ x ∈ ws, (x.length : Int) ≤ maxI (5 :: ws.map (fun x : Str => (x.length : Int))) := fun x hx => maxI_ge (List.mem_cons_of_mem _ (List.mem_map_of_mem hx))
          rw [e1, ev_maxI (List.cons_ne_nil _ _)]
          generalize maxI (5 :: ws.map (fun x : Str => (x.length : Int))) = mx at g5 gm ge ⊢
          walk_at "st"
          have e2 : (List.replicate (1 + mx).toNat [122]).flatten = List.replicate (1 + mx).toNat 122 := List.flatten_replicate_singleton
          rw [e2]
          have e3 : (S (List.replicate (1 + mx).toNat 122)).length = (1 + mx).toNat := by rw [S_len, List.length_replicate]
          refine ⟨_, rfl, ⟨fun h => ?_, fun c hc => ?_, by rw [e3]; omega, fun h => ?_⟩, fun h => ?_⟩
          · have := congrArg List.length h
            rw [S_cps, List.length_replicate, List.length_nil] at this
            omega
          · rw [(List.mem_replicate.mp hc).2]; decide
          · have := congrArg (fun x : Str => x.length) h
            simp only [S_len, List.length_replicate, List.length_cons, List.length_nil] at this
            omega
          · have := ge _ h
            rw [e3] at this
            omega
        · rename_i hno
          refine ⟨_, rfl, ⟨fun h => ?_, hc, by rw [S_len]; omega, fun h => hno (.inr (S_inj.mp h))⟩, fun h => hno (.inl h)⟩
          rw [S_cps] at h
          rw [h] at hk
          rw [List.length_nil] at hk
          omega
      · rintro _ ⟨w, rfl, h5, h6⟩
        walk_at "st"
        refine ⟨_, _, _, _, _, rfl, rfl, rfl, rfl, by rw [List.length_append, hl]; rfl, ?_, fun y hy => ?_⟩
        · rw [List.nodup_append]
          exact ⟨hd, List.nodup_cons.mpr ⟨List.not_mem_nil, List.nodup_nil⟩, fun a ha b hb e => h6 (by rw [List.mem_singleton.mp hb] at e; rw [← e]; exact ha)⟩
        · rcases List.mem_append.mp hy with hy | hy
          · exact (hw y hy).mono (by omega)
          · rw [List.mem_singleton.mp hy]; exact h5.mono (by omega)
  · rintro env ⟨xs, ws, s3, s4, s5, rfl, f3, f4, f5, hl, hd, hw⟩
    walk_at "ev"
    rw [List.length_range] at hl hw
    exact ⟨_, _, rfl, hl, hd, hw⟩

theorem ev_sorted_str {xs : List Str} (h : xs.length < 64) (h2 : xs ≠ []) : gSorted [.lst (xs.map D.str)] = some (.lst ((sortS xs).map D.str)) := by
  have e : intsOf (xs.map D.str) = none := by
    cases xs with
    | nil => exact (h2 rfl).elim
    | cons x xs => rfl
  have e2 : ∀ xs : List Str, strsOf (xs.map D.str) = some xs := fun xs => by
    induction xs with
    | nil => rfl
    | cons x xs ih =>
      show (strsOf (xs.map D.str)).bind _ = _
      rw [ih]; rfl
  show (match intsOf (xs.map D.str) with
    | some ns => some (D.lst ((sortI ns).map D.int))
    | none => (strsOf (xs.map D.str)).bind fun xs => if xs.length < 64 then some (.lst ((sortS xs).map D.str)) else none) = _
  rw [e]
  show (strsOf (xs.map D.str)).bind _ = _
  rw [e2, Option.bind_some, if_pos h]
def ptsOf (ws : List Str) : List Str := sortS (ws ++ [S [115, 116, 97, 114, 116]])
theorem pts_perm (ws : List Str) : (ptsOf ws).Perm (ws ++ [S [115, 116, 97, 114, 116]]) := List.mergeSort_perm _ _
theorem pts_len (ws : List Str) : (ptsOf ws).length = ws.length + 1 := by rw [(pts_perm ws).length_eq, List.length_append, List.length_singleton]
theorem points_eq {ws : List Str} (h : ws.length ≤ 60) : F__law_points [.lst (ws.map .str)] = some (.tup ((ptsOf ws).map .str), [.non]) := by
  unfold F__law_points B__law_points
  walk_at "st"
  have e : ws.map D.str ++ [D.str (S [115, 116, 97, 114, 116])] = (ws ++ [S [115, 116, 97, 114, 116]]).map D.str := by rw [List.map_append]; rfl
  rw [e, ev_sorted_str (by rw [List.length_append, List.length_singleton]; omega) (by simp)]
  walk_at "st"
  rfl

set_option maxHeartbeats 0 in
theorem same_self : ∀ (n : Nat) (d : D), pln n d = true → n ≤ 60 → fuel B__law_same false [.br, .v] 3 n [d, d] = some (.bl true, [.non, .non])
  | 0, d, h, _ => by unfold pln at h; cases d <;> cases h
  | n + 1, d, h, hn => by
    have seq : ∀ ds : List D, plnL n ds = true → ds.length ≤ 16777216 → ∀ i : Nat, i ∈ List.range ds.length → fuel B__law_same false [.br, .v] 3 n [ds.getD i .non, ds.getD i .non] = some (.bl true, [.non, .non]) := fun ds h1 h2 i hi => by
      rw [List.mem_range] at hi
      refine same_self n _ (plnL_iff.mp h1 _ ?_) (by omega)
      rw [List.getD_eq_getElem?_getD, List.getElem?_eq_getElem hi]
      exact List.getElem_mem _
    have hl : ∀ m : Nat, (List.range m).map (fun _ => D.bl true) = List.replicate m (.bl true) := fun m => by rw [List.map_const', List.length_range]
    show runDef false [.br, .v] 3 (B__law_same (fuel B__law_same false [.br, .v] 3 n)) [d, d] = _
    generalize fuel B__law_same false [.br, .v] 3 n = R at seq ⊢
    unfold B__law_same
    apply gv_eq
    cases d with
    | non =>
      have e0 : gEq .non .non = some (.bl true) := rfl
      walk_at "ev"
      rw [e0]
      walk_at "ev"
    | bl b => walk_at "ev"
    | int i => walk_at "ev"
    | str x => walk_at "ev"
    | tup ds =>
      unfold pln at h
      rw [Bool.and_eq_true, decide_eq_true_eq] at h
      have hs := seq ds h.1 h.2
      have h2 := h.2
      walk_at "ev"
      refine gv_map (fun i : Nat => D.int i) (fun _ => D.bl true) (by walk_at "om2") (fun i hi => ?_) ?_
      · have hi2 := List.mem_range.mp hi
        walk_at "ev"
        rw [hs i hi]
        walk_at "ev"
      · walk_at "ev"
        rw [hl, gv_all_true]
        walk_at "ev"
    | lst ds =>
      unfold pln at h
      rw [Bool.and_eq_true, decide_eq_true_eq] at h
      have hs := seq ds h.1 h.2
      have h2 := h.2
      walk_at "ev"
      refine gv_map (fun i : Nat => D.int i) (fun _ => D.bl true) (by walk_at "om2") (fun i hi => ?_) ?_
      · have hi2 := List.mem_range.mp hi
        walk_at "ev"
        simp (disch := omega) only [ev_ix_lst, Int.toNat_natCast]
        walk_at "ev"
        rw [hs i hi]
        walk_at "ev"
      · walk_at "ev"
        rw [hl, gv_all_true]
        walk_at "ev"
    | kt ds =>
      unfold pln at h
      rw [Bool.and_eq_true, decide_eq_true_eq] at h
      have hs := seq ds h.1 h.2
      have h2 := h.2
      walk_at "ev"
      refine gv_map (fun i : Nat => D.int i) (fun _ => D.bl true) (by walk_at "om2") (fun i hi => ?_) ?_
      · have hi2 := List.mem_range.mp hi
        walk_at "ev"
        rw [hs i hi]
        walk_at "ev"
      · walk_at "ev"
        rw [hl, gv_all_true]
        walk_at "ev"
    | _ => unfold pln at h; cases h
theorem same_ok {d : D} (h : pln 8 d = true) : F__law_same [d, d] = some (.bl true, [.non, .non]) := same_self 8 d h (by decide)

abbrev Pr := Str × Int
abbrev St : Str := S [115, 116, 97, 114, 116]
def eP (p : Pr) : D := .tup [.str p.1, .int p.2]
theorem eP_i0 {p : Pr} : gIx (eP p) (.int 0) = some (.str p.1) := rfl
theorem eP_i1 {p : Pr} : gIx (eP p) (.int 1) = some (.int p.2) := rfl
theorem eP_tup {p : Pr} {n : Nat} {gs : SGs} {e : Ev} : Z.gTup n gs (eP p) e = if 2 = n then gs [.str p.1, .int p.2] e else none := rfl
theorem eP_eqv (a b : Pr) : PyData.eqv (py (eP a)) (py (eP b)) = decide (a = b) := by
  obtain ⟨a1, a2⟩ := a
  obtain ⟨b1, b2⟩ := b
  show ((a1 == b1) && ((a2 == b2) && true)) = _
  rw [Bool.eq_iff_iff]
  simp
theorem eP_ok (n : Nat) (a : Pr) : ok (n + 2) (eP a) = true := rfl
theorem eP_pln (n : Nat) (a : Pr) : pln (n + 2) (eP a) = true := rfl
structure Sch (ps : List Str) (s : List Pr) : Prop where
  pts : s.map (·.1) = ps
  st : ∀ p ∈ s, p.1 = St → p.2 = 0
theorem Sch.len {ps : List Str} {s : List Pr} (h : Sch ps s) : s.length = ps.length := by rw [← h.pts, List.length_map]
/-- the time of a point -/
def tm (s : List Pr) (x : Str) : Int := ((s.find? fun q => decide (q.1 = x)).map (·.2)).getD 0
theorem tm_mem {s : List Pr} {p : Pr} (hd : (s.map (·.1)).Nodup) (hp : p ∈ s) : s.find? (fun q => decide (q.1 = p.1)) = some p := by
  induction s with
  | nil => cases hp
  | cons q s ih =>
    rw [List.map_cons, List.nodup_cons] at hd
    rw [List.find?_cons]
    rcases List.mem_cons.mp hp with rfl | hp
    · rw [decide_eq_true rfl]
    · rw [decide_eq_false (fun e => hd.1 (by rw [e]; exact List.mem_map_of_mem hp))]
      exact ih hd.2 hp
theorem tm_eq {s : List Pr} {p : Pr} (hd : (s.map (·.1)).Nodup) (hp : p ∈ s) : tm s p.1 = p.2 := by unfold tm; rw [tm_mem hd hp]; rfl
theorem tm_some {s : List Pr} {x : Str} (h : x ∈ s.map (·.1)) : ∃ p, s.find? (fun q => decide (q.1 = x)) = some p ∧ p.1 = x ∧ p ∈ s ∧ tm s x = p.2 := by
  cases e : s.find? (fun q => decide (q.1 = x)) with
  | none =>
    obtain ⟨p, hp, h1⟩ := List.mem_map.mp h
    have := List.find?_eq_none.mp e p hp
    exact absurd (decide_eq_true h1) this
  | some p =>
    have h1 := List.find?_some e
    exact ⟨p, rfl, of_decide_eq_true h1, List.mem_of_find?_eq_some e, by unfold tm; rw [e]; rfl⟩
theorem dget_sch {s : List Pr} {x : Str} (h : x ∈ s.map (·.1)) : dget (s.map fun q => (Sum.inr q.1, D.int q.2)) (Sum.inr x : Key) = some (.int (tm s x)) := by
  rw [dget_map s (·.1) (fun q => D.int q.2)]
  obtain ⟨p, e, _, _, h2⟩ := tm_some h
  rw [e, h2]; rfl
theorem filter_head {s : List Pr} {x : Str} (h : x ∈ s.map (·.1)) : ∃ l, s.filter (fun q => decide (q.1 = x)) = (x, tm s x) :: l := by
  obtain ⟨p, e, h1, _, h2⟩ := tm_some h
  rw [← List.head?_filter] at e
  cases e3 : s.filter (fun q => decide (q.1 = x)) with
  | nil => rw [e3] at e; cases e
  | cons q l =>
    rw [e3] at e
    cases e
    exact ⟨l, by rw [h2, ← h1]⟩
local macro_rules | `(tactic| walk_at "fn") => `(tactic| simp -implicitDefEqProofs (disch := first | assumption | omega) only [eP_i0, eP_i1, eP_tup])

end Lw

namespace Lw
open PySem PySem.Spec PyProof.Rows L2 Z
local macro_rules | `(tactic| walk_at "om2") => `(tactic| first | omega | (simp only [S_len, List.length_range, List.length_append, List.length_map, List.length_cons, List.length_nil, List.length_singleton, List.length_set, List.length_reverse]; omega))
local macro_rules | `(tactic| walk_at "ev") => `(tactic| simp -implicitDefEqProofs (disch := first | assumption | omega) only [ev_eMxGet, ev_sMxPut, ev_sMxRet, ev_sMxNew, ev_rowsS, ev_intS, ev_nomx0, ev_nomx1, ev_nomx2, ev_nomx3, ev_nomx4, ev_oneM, ev_eDnewK, ev_iEn, ev_seqE0, ev_seqE1, ev_seqE2, ev_iZip, ev_zipE0, ev_zipE1, ev_eDcomp, ev_eIndexT, ev_eIndexL, ev_isKt, ev_isLst, ev_eGet2, ev_eD1, ev_oneD, ev_key_str, ev_key_int, ev_in_dks, ev_notin_dks, ev_in_dki, ev_notin_dki, ev_ix_dks, ev_ix_dki, ev_get_dks, ev_isDi, ev_eq_ints, ev_in_ints_tup, ev_notin_ints_tup, ev_in_ints_lst, ev_notin_ints_lst, ev_ltL, ev_int_bl, ev_pick2, ev_pick2p, ev_tupleK_lst, ev_tupleK_kt, ev_tuple_kt, ev_list_kt, ev_i0_tup, ev_i1_tup, ev_i2_tup, ev_i3_tup, ev_i4_tup, ev_i5_tup, ev_i0_lst, ev_i1_lst, ev_i2_lst, ev_i3_lst, ev_i4_lst, ev_i5_lst, ev_i0_kt, ev_i1_kt, ev_i2_kt, ev_i3_kt, ev_i4_kt, ev_i5_kt, S_beq, S_inj, S_len, signs_S, ev_items_S, ev_ix_S, ev_mul_S, ev_add_S2, ev_len_S2, ev_in_str, ev_in_sign, ev_append_str, ev_join0, ev_eq_bl, ev_ne_bl, ev_len_kt, ev_chain, ev_gIsi, ev_gIsi2, ty_non, ty_bl, ty_int, ty_str, ty_tup, ty_kt, ty_lst, ty_dk, ty_dt, ev_ix_tup, ev_ix_kt, ev_sl_to_S, ev_sl_from_S, ev_cat2, ev_add_tup2, ev_add_lst2, List.length_append, List.length_replicate, List.length_take, List.length_drop, List.length_reverse, kb_NoneType_int, kb_NoneType_str, kb_NoneType_bool, kb_NoneType_list, kb_NoneType_tuple, kb_NoneType_dict, kb_bool_int, kb_bool_str, kb_bool_bool, kb_bool_list, kb_bool_tuple, kb_bool_dict, kb_int_int, kb_int_str, kb_int_bool, kb_int_list, kb_int_tuple, kb_int_dict, kb_str_int, kb_str_str, kb_str_bool, kb_str_list, kb_str_tuple, kb_str_dict, kb_list_int, kb_list_str, kb_list_bool, kb_list_list, kb_list_tuple, kb_list_dict, kb_tuple_int, kb_tuple_str, kb_tuple_bool, kb_tuple_list, kb_tuple_tuple, kb_tuple_dict, kb_dict_int, kb_dict_str, kb_dict_bool, kb_dict_list, kb_dict_tuple, kb_dict_dict, runDef, env0, argSlot, outsOf, ev_eC, ev_qV, ev_qS, ev_aN, ev_aC, ev_eVar, ev_eOp1, ev_eOp2, ev_eOps, ev_bV, ev_bQ, ev_bNot, ev_bAnd, ev_bOr, ev_eIf, ev_eB, ev_eAnd, ev_eOr, ev_eNot, ev_eTup, ev_eLst, ev_oN, ev_oS, ev_eSl, ev_sNil, ev_sSeq, ev_sIf, ev_sBreak, ev_sCont, ev_sRet, ev_sRetF, ev_sRetN, ev_sRetO, ev_sExpr, ev_sSet, ev_sSetN, ev_putFz, ev_putOw, ev_free, ev_freH, ev_freO, ev_fre0, ev_fre1, ev_fre2, ev_gName, ev_gsNil, ev_gsCons, ev_gTup, ev_gTupK, ev_gTupL, ev_sAsg, ev_sPar, ev_getM, ev_setM, ev_eMut, ev_sPut, ev_iV, ev_iS, ev_iR1, ev_iR2, ev_iRB, ev_eComp2, ev_oneC2, ev_eLstB, ev_sForD, ev_eCompD, ev_sFor, ev_eComp, ev_eCall, ev_lock0, ev_lockS, ev_unlock0, ev_unlockS, ev_unO_nx, ev_unO_rt, ev_unO_rn, ev_and_nx, ev_and_bk, ev_and_ct, ev_and_rt, ev_and_rn, ev_eq_int, ev_ne_int, ev_eq_str, ev_ne_str, ev_fi1, ev_fi2, ev_fi3, ev_fi4,
  ev_mul_r, ev_mul_l, ev_mod, ev_div, ev_p18, ev_p15, ev_p20, ev_p40, ev_add_int, ev_sub_int, ev_neg_int, ev_add_str2, ev_len_str, ev_lt_int, ev_le_int, ev_gt_int, ev_ge_int, ev_lt_str, ev_len_lst, ev_len_tup, ev_len_dk, ev_int_int, ev_list_lst, ev_list_tup, ev_tuple_lst, ev_tuple_tup, ev_append_int, ev_reverse_int, ev_ix_ints, ev_set_ints, ev_all, ev_any, ev_sum, ev_items_lst, ev_items_tup, ev_items_kt, ev_items_sc, ev_items_str,
  getP, getS, getPs, vals, asB, asI, truD, tyD, argDs, ioSlots, brSlots, apart, setOuts, D.isNon,
  List.getElem?_cons_succ, List.getElem?_cons_zero, List.set_cons_succ, List.set_cons_zero, Option.bind_some, Option.bind_none, Option.bind_assoc, List.length_cons, List.length_nil, List.replicate_succ, List.replicate_zero, Nat.add_one_sub_one, Nat.reduceAdd, Nat.reduceSub, if_true, if_false, reduceIte, reduceCtorEq, Bool.false_eq_true, List.length_map, beq_self_eq_true, ev_gv, ev_oneC, ev_oneL, ev_fwd, ev_fwd2, ev_fwdO, ev_fwdO2, ev_fwdO3, ev_fwdO4, ev_fwdO5, ev_wipe0, ev_wipe1, ev_res0, ev_res1, ev_wok0, ev_wok1, ev_wb0, ev_wb1, Bool.and_true, Bool.true_and, List.getD_cons_succ, List.getD_cons_zero, tTrue, Option.toList_some, Option.toList_none, List.length_range, List.length_nil, Int.toNat_natCast, List.nodup_cons, List.nodup_nil, List.all_cons, List.all_nil, List.contains_nil, List.contains_cons, List.not_mem_nil, not_false_eq_true, and_self, decide_true, List.mem_cons, or_false, Nat.reduceEqDiff, and_true, true_and, Bool.or_false, beq_eq_false_iff_ne, decide_eq_false_iff_not, ne_eq, ite_not, if_pos, if_neg, ev_size, ev_sizel, ev_rng, ev_rng2, beq_iff_eq, decide_eq_true_eq, Bool.and_eq_true, Bool.or_eq_true, Bool.not_eq_true', Bool.not_true, Bool.not_false, Bool.not_eq_eq_eq_not])
local macro_rules | `(tactic| walk_at "go") => `(tactic| repeat' (first | walk_at "ev" | walk_at "fn" | walk_at "gv" | with_reducible refine gv_iteb (fun _ => ?_) (fun _ => ?_) | with_reducible refine gv_ite (fun _ => ?_) (fun _ => ?_)))
local macro_rules | `(tactic| walk_at "st") => `(tactic| repeat' (first | walk_at "ev" | walk_at "fn" | walk_at "gv"))
local macro_rules | `(tactic| walk_at "fn") => `(tactic| fail)
local macro_rules | `(tactic| walk_at "gv") => `(tactic| fail)

local macro_rules | `(tactic| walk_at "gv") => `(tactic| with_reducible refine gv_take (by omega) (fun _ _ _ _ => ?_))

local macro_rules | `(tactic| walk_at "fn") => `(tactic| simp -implicitDefEqProofs (disch := first | assumption | omega) only [eP_i0, eP_i1, eP_tup, L_abc, L_start, L_z, L_0])

/-! k67, plain: loads -/
abbrev Jb := Str × Int × Int
def onJ (s : List Pr) (t : Int) (j : Jb) : Bool := decide (tm s j.1 ≤ t) && decide (t < tm s j.1 + j.2.1)
def run (s : List Pr) (js : List Jb) (t : Int) : Int := ((js.filter (onJ s t)).map (·.2.2)).sum
theorem run_snoc {s : List Pr} {js : List Jb} {j : Jb} {t : Int} : run s (js ++ [j]) t = run s js t + j.2.2 * (if onJ s t j = true then 1 else 0) := by
  unfold run
  rw [List.filter_append, List.map_append, List.sum_append]
  congr 1
  by_cases h : onJ s t j = true
  · rw [if_pos h, List.filter_cons_of_pos h, List.filter_nil]
    show j.2.2 + 0 = j.2.2 * 1
    omega
  · rw [if_neg h, List.filter_cons_of_neg h, List.filter_nil]
    show (0 : Int) = j.2.2 * 0
    omega
theorem ex_max {α : Type} {f : α → Int} : ∀ {l : List α}, l ≠ [] → ∃ x ∈ l, ∀ y ∈ l, f y ≤ f x
  | [], h => absurd rfl h
  | [x], _ => ⟨x, List.mem_cons_self, fun y hy => by rw [List.mem_singleton.mp hy]; exact Int.le_refl _⟩
  | x :: z :: l, _ => by
    obtain ⟨m, h1, h2⟩ := ex_max (f := f) (List.cons_ne_nil z l)
    by_cases h : f m ≤ f x
    · refine ⟨x, List.mem_cons_self, fun y hy => ?_⟩
      rcases List.mem_cons.mp hy with rfl | hy
      · exact Int.le_refl _
      · have := h2 y hy
        omega
    · refine ⟨m, List.mem_cons_of_mem _ h1, fun y hy => ?_⟩
      rcases List.mem_cons.mp hy with rfl | hy
      · omega
      · exact h2 y hy
theorem sum_le_of {c d : Jb → Bool} : ∀ {js : List Jb}, (∀ j ∈ js, 0 ≤ j.2.2 ∧ (c j = true → d j = true)) → 0 ≤ ((js.filter c).map (·.2.2)).sum ∧ ((js.filter c).map (·.2.2)).sum ≤ ((js.filter d).map (·.2.2)).sum
  | [], _ => ⟨Int.le_refl _, Int.le_refl _⟩
  | j :: js, h => by
    obtain ⟨i1, i2⟩ := sum_le_of fun k hk => h k (List.mem_cons_of_mem _ hk)
    obtain ⟨n, m⟩ := h j List.mem_cons_self
    by_cases hc : c j = true
    · rw [List.filter_cons_of_pos hc, List.filter_cons_of_pos (m hc), List.map_cons, List.map_cons, List.sum_cons, List.sum_cons]
      exact ⟨by omega, by omega⟩
    · rw [List.filter_cons_of_neg hc]
      by_cases hd : d j = true
      · rw [List.filter_cons_of_pos hd, List.map_cons, List.sum_cons]
        exact ⟨i1, by omega⟩
      · rw [List.filter_cons_of_neg hd]
        exact ⟨i1, i2⟩
theorem run_nn {s : List Pr} {js : List Jb} {t : Int} (h : ∀ j ∈ js, 0 ≤ j.2.2) : 0 ≤ run s js t := (sum_le_of (c := onJ s t) (d := onJ s t) fun j hj => ⟨h j hj, id⟩).1
/-- the greatest sum is there when some job begins -/
theorem run_le {s : List Pr} {js : List Jb} {t : Int} (h : ∀ j ∈ js, 0 ≤ j.2.2) : run s js t = 0 ∨ ∃ j ∈ js, run s js t ≤ run s js (tm s j.1) := by
  by_cases e : js.filter (onJ s t) = []
  · left
    unfold run
    rw [e]; rfl
  · right
    obtain ⟨m, h1, h2⟩ := ex_max (f := fun j : Jb => tm s j.1) e
    obtain ⟨m1, m2⟩ := List.mem_filter.mp h1
    refine ⟨m, m1, (sum_le_of fun j hj => ⟨h j hj, fun hc => ?_⟩).2⟩
    have q := h2 j (List.mem_filter.mpr ⟨hj, hc⟩)
    unfold onJ at hc m2 ⊢
    simp only [Bool.and_eq_true, decide_eq_true_eq] at hc m2 ⊢
    omega
def momL (s : List Pr) (js : List Jb) : List Int := js.flatMap fun j => [tm s j.1, tm s j.1 + j.2.1]
def moms (s : List Pr) (js : List Jb) : List Int := sortI (ddI (momL s js))
theorem momL_len {s : List Pr} {js : List Jb} : (momL s js).length = 2 * js.length := by
  unfold momL
  induction js with
  | nil => rfl
  | cons j js ih =>
    rw [List.flatMap_cons, List.length_append, ih, List.length_cons]
    show 2 + 2 * js.length = 2 * (js.length + 1)
    omega
theorem momL_snoc {s : List Pr} {js : List Jb} {j : Jb} : momL s (js ++ [j]) = momL s js ++ [tm s j.1, tm s j.1 + j.2.1] := by
  unfold momL
  rw [List.flatMap_append]; rfl
theorem mem_moms {s : List Pr} {js : List Jb} {j : Jb} (h : j ∈ js) : tm s j.1 ∈ moms s js := (List.mergeSort_perm _ _).mem_iff.mpr (mem_ddI.mpr (List.mem_flatMap.mpr ⟨j, h, List.mem_cons_self⟩))
theorem moms_len {s : List Pr} {js : List Jb} : (moms s js).length ≤ 2 * js.length := by
  unfold moms
  rw [(show (sortI (ddI (momL s js))).Perm _ from List.mergeSort_perm _ _).length_eq, ← momL_len (s := s)]
  exact dd_le
/-- where the level changes -/
def stp (f : Int → Int) : List Int → Int → List (Int × Int)
  | [], _ => []
  | t :: ts, b => if f t = b then stp f ts b else (t, f t) :: stp f ts (f t)
theorem stp_cons {f : Int → Int} {t b : Int} {ts : List Int} : stp f (t :: ts) b = if f t = b then stp f ts b else (t, f t) :: stp f ts (f t) := rfl
theorem stp_len {f : Int → Int} : ∀ {ts : List Int} {b : Int}, (stp f ts b).length ≤ ts.length
  | [], _ => Nat.le_refl _
  | t :: ts, b => by
    rw [stp_cons]
    split
    · exact Nat.le_succ_of_le stp_len
    · exact Nat.succ_le_succ stp_len
theorem stp_mem {f : Int → Int} : ∀ {ts : List Int} {b : Int} {p : Int × Int}, p ∈ stp f ts b → p.1 ∈ ts ∧ p.2 = f p.1
  | [], _, _, h => by cases h
  | t :: ts, b, p, h => by
    rw [stp_cons] at h
    split at h
    · obtain ⟨h1, h2⟩ := stp_mem h
      exact ⟨List.mem_cons_of_mem _ h1, h2⟩
    · rcases List.mem_cons.mp h with rfl | h
      · exact ⟨List.mem_cons_self, rfl⟩
      · obtain ⟨h1, h2⟩ := stp_mem h
        exact ⟨List.mem_cons_of_mem _ h1, h2⟩
theorem stp_has {f : Int → Int} : ∀ {ts : List Int} {b t : Int}, t ∈ ts → f t = b ∨ ∃ p ∈ stp f ts b, p.2 = f t
  | [], _, _, h => by cases h
  | u :: ts, b, t, h => by
    rw [stp_cons]
    by_cases e : f u = b
    · rw [if_pos e]
      rcases List.mem_cons.mp h with rfl | h
      · exact .inl e
      · exact stp_has h
    · rw [if_neg e]
      rcases List.mem_cons.mp h with rfl | h
      · exact .inr ⟨_, List.mem_cons_self, rfl⟩
      · rcases stp_has (b := f u) h with q | ⟨p, h1, h2⟩
        · exact .inr ⟨_, List.mem_cons_self, q.symm⟩
        · exact .inr ⟨p, List.mem_cons_of_mem _ h1, h2⟩
def stepsOf (s : List Pr) (js : List Jb) : List (Int × Int) := stp (run s js) (moms s js) 0
/-- the peak by the steps is the peak by the begins -/
theorem peak_same {s : List Pr} {js : List Jb} (h : ∀ j ∈ js, 0 ≤ j.2.2) : maxDef 0 ((stepsOf s js).map (·.2)) = maxI (0 :: js.map fun j => run s js (tm s j.1)) := by
  have g := fun x => maxI_ge (ns := 0 :: js.map fun j => run s js (tm s j.1)) (x := x)
  have g0 := g 0 List.mem_cons_self
  have gm := maxI_mem (ns := 0 :: js.map fun j => run s js (tm s j.1)) (List.cons_ne_nil _ _)
  have le1 : ∀ v ∈ (stepsOf s js).map (·.2), 0 ≤ v ∧ v ≤ maxI (0 :: js.map fun j => run s js (tm s j.1)) := fun v hv => by
    obtain ⟨p, hp, rfl⟩ := List.mem_map.mp hv
    obtain ⟨_, h2⟩ := stp_mem hp
    rw [h2]
    refine ⟨run_nn h, ?_⟩
    rcases run_le (s := s) (t := p.1) h with e | ⟨j, hj, e⟩
    · rw [e]; exact g0
    · exact Int.le_trans e (g _ (List.mem_cons_of_mem _ (List.mem_map.mpr ⟨j, hj, rfl⟩)))
  have le2 : ∀ j ∈ js, run s js (tm s j.1) = 0 ∨ run s js (tm s j.1) ∈ (stepsOf s js).map (·.2) := fun j hj => by
    rcases stp_has (f := run s js) (b := 0) (mem_moms (s := s) hj) with e | ⟨p, h1, h2⟩
    · exact .inl e
    · exact .inr (List.mem_map.mpr ⟨p, h1, h2⟩)
  generalize maxI (0 :: js.map fun j => run s js (tm s j.1)) = M at *
  generalize (stepsOf s js).map (·.2) = vs at *
  unfold maxDef
  cases hq : vs.max? with
  | none =>
    have hv : vs = [] := List.max?_eq_none_iff.mp hq
    subst hv
    show 0 = M
    rcases List.mem_cons.mp gm with e | hm
    · exact e.symm
    · obtain ⟨j, hj, e⟩ := List.mem_map.mp hm
      rcases le2 j hj with q | q
      · rw [← e, q]
      · cases q
  | some m =>
    obtain ⟨w1, w2⟩ := List.max?_eq_some_iff.mp hq
    show m = M
    have := (le1 m w1)
    refine Int.le_antisymm this.2 ?_
    rcases List.mem_cons.mp gm with e | hm
    · rw [e]; exact this.1
    · obtain ⟨j, hj, e⟩ := List.mem_map.mp hm
      rcases le2 j hj with q | q
      · rw [← e, q]; exact this.1
      · rw [← e]; exact w2 _ q

end Lw

namespace Lw
open PySem PySem.Spec PyProof.Rows L2 Z
local macro_rules | `(tactic| walk_at "om2") => `(tactic| first | omega | (simp only [S_len, List.length_range, List.length_append, List.length_map, List.length_cons, List.length_nil, List.length_singleton, List.length_set, List.length_reverse]; omega))
local macro_rules | `(tactic| walk_at "ev") => `(tactic| simp -implicitDefEqProofs (disch := first | assumption | omega) only [ev_eMxGet, ev_sMxPut, ev_sMxRet, ev_sMxNew, ev_rowsS, ev_intS, ev_nomx0, ev_nomx1, ev_nomx2, ev_nomx3, ev_nomx4, ev_oneM, ev_eDnewK, ev_iEn, ev_seqE0, ev_seqE1, ev_seqE2, ev_iZip, ev_zipE0, ev_zipE1, ev_eDcomp, ev_eIndexT, ev_eIndexL, ev_isKt, ev_isLst, ev_eGet2, ev_eD1, ev_oneD, ev_key_str, ev_key_int, ev_in_dks, ev_notin_dks, ev_in_dki, ev_notin_dki, ev_ix_dks, ev_ix_dki, ev_get_dks, ev_isDi, ev_eq_ints, ev_in_ints_tup, ev_notin_ints_tup, ev_in_ints_lst, ev_notin_ints_lst, ev_ltL, ev_int_bl, ev_pick2, ev_pick2p, ev_tupleK_lst, ev_tupleK_kt, ev_tuple_kt, ev_list_kt, ev_i0_tup, ev_i1_tup, ev_i2_tup, ev_i3_tup, ev_i4_tup, ev_i5_tup, ev_i0_lst, ev_i1_lst, ev_i2_lst, ev_i3_lst, ev_i4_lst, ev_i5_lst, ev_i0_kt, ev_i1_kt, ev_i2_kt, ev_i3_kt, ev_i4_kt, ev_i5_kt, S_beq, S_inj, S_len, signs_S, ev_items_S, ev_ix_S, ev_mul_S, ev_add_S2, ev_len_S2, ev_in_str, ev_in_sign, ev_append_str, ev_join0, ev_eq_bl, ev_ne_bl, ev_len_kt, ev_chain, ev_gIsi, ev_gIsi2, ty_non, ty_bl, ty_int, ty_str, ty_tup, ty_kt, ty_lst, ty_dk, ty_dt, ev_ix_tup, ev_ix_kt, ev_sl_to_S, ev_sl_from_S, ev_cat2, ev_add_tup2, ev_add_lst2, List.length_append, List.length_replicate, List.length_take, List.length_drop, List.length_reverse, kb_NoneType_int, kb_NoneType_str, kb_NoneType_bool, kb_NoneType_list, kb_NoneType_tuple, kb_NoneType_dict, kb_bool_int, kb_bool_str, kb_bool_bool, kb_bool_list, kb_bool_tuple, kb_bool_dict, kb_int_int, kb_int_str, kb_int_bool, kb_int_list, kb_int_tuple, kb_int_dict, kb_str_int, kb_str_str, kb_str_bool, kb_str_list, kb_str_tuple, kb_str_dict, kb_list_int, kb_list_str, kb_list_bool, kb_list_list, kb_list_tuple, kb_list_dict, kb_tuple_int, kb_tuple_str, kb_tuple_bool, kb_tuple_list, kb_tuple_tuple, kb_tuple_dict, kb_dict_int, kb_dict_str, kb_dict_bool, kb_dict_list, kb_dict_tuple, kb_dict_dict, runDef, env0, argSlot, outsOf, ev_eC, ev_qV, ev_qS, ev_aN, ev_aC, ev_eVar, ev_eOp1, ev_eOp2, ev_eOps, ev_bV, ev_bQ, ev_bNot, ev_bAnd, ev_bOr, ev_eIf, ev_eB, ev_eAnd, ev_eOr, ev_eNot, ev_eTup, ev_eLst, ev_oN, ev_oS, ev_eSl, ev_sNil, ev_sSeq, ev_sIf, ev_sBreak, ev_sCont, ev_sRet, ev_sRetF, ev_sRetN, ev_sRetO, ev_sExpr, ev_sSet, ev_sSetN, ev_putFz, ev_putOw, ev_free, ev_freH, ev_freO, ev_fre0, ev_fre1, ev_fre2, ev_gName, ev_gsNil, ev_gsCons, ev_gTup, ev_gTupK, ev_gTupL, ev_sAsg, ev_sPar, ev_getM, ev_setM, ev_eMut, ev_sPut, ev_iV, ev_iS, ev_iR1, ev_iR2, ev_iRB, ev_eComp2, ev_oneC2, ev_eLstB, ev_sForD, ev_eCompD, ev_sFor, ev_eComp, ev_eCall, ev_lock0, ev_lockS, ev_unlock0, ev_unlockS, ev_unO_nx, ev_unO_rt, ev_unO_rn, ev_and_nx, ev_and_bk, ev_and_ct, ev_and_rt, ev_and_rn, ev_eq_int, ev_ne_int, ev_eq_str, ev_ne_str, ev_fi1, ev_fi2, ev_fi3, ev_fi4,
  ev_mul_r, ev_mul_l, ev_mod, ev_div, ev_p18, ev_p15, ev_p20, ev_p40, ev_add_int, ev_sub_int, ev_neg_int, ev_add_str2, ev_len_str, ev_lt_int, ev_le_int, ev_gt_int, ev_ge_int, ev_lt_str, ev_len_lst, ev_len_tup, ev_len_dk, ev_int_int, ev_list_lst, ev_list_tup, ev_tuple_lst, ev_tuple_tup, ev_append_int, ev_reverse_int, ev_ix_ints, ev_set_ints, ev_all, ev_any, ev_sum, ev_items_lst, ev_items_tup, ev_items_kt, ev_items_sc, ev_items_str,
  getP, getS, getPs, vals, asB, asI, truD, tyD, argDs, ioSlots, brSlots, apart, setOuts, D.isNon,
  List.getElem?_cons_succ, List.getElem?_cons_zero, List.set_cons_succ, List.set_cons_zero, Option.bind_some, Option.bind_none, Option.bind_assoc, List.length_cons, List.length_nil, List.replicate_succ, List.replicate_zero, Nat.add_one_sub_one, Nat.reduceAdd, Nat.reduceSub, if_true, if_false, reduceIte, reduceCtorEq, Bool.false_eq_true, List.length_map, beq_self_eq_true, ev_gv, ev_oneC, ev_oneL, ev_fwd, ev_fwd2, ev_fwdO, ev_fwdO2, ev_fwdO3, ev_fwdO4, ev_fwdO5, ev_wipe0, ev_wipe1, ev_res0, ev_res1, ev_wok0, ev_wok1, ev_wb0, ev_wb1, Bool.and_true, Bool.true_and, List.getD_cons_succ, List.getD_cons_zero, tTrue, Option.toList_some, Option.toList_none, List.length_range, List.length_nil, Int.toNat_natCast, List.nodup_cons, List.nodup_nil, List.all_cons, List.all_nil, List.contains_nil, List.contains_cons, List.not_mem_nil, not_false_eq_true, and_self, decide_true, List.mem_cons, or_false, Nat.reduceEqDiff, and_true, true_and, Bool.or_false, beq_eq_false_iff_ne, decide_eq_false_iff_not, ne_eq, ite_not, if_pos, if_neg, ev_size, ev_sizel, ev_rng, ev_rng2, beq_iff_eq, decide_eq_true_eq, Bool.and_eq_true, Bool.or_eq_true, Bool.not_eq_true', Bool.not_true, Bool.not_false, Bool.not_eq_eq_eq_not])
local macro_rules | `(tactic| walk_at "go") => `(tactic| repeat' (first | walk_at "ev" | walk_at "fn" | walk_at "gv" | with_reducible refine gv_iteb (fun _ => ?_) (fun _ => ?_) | with_reducible refine gv_ite (fun _ => ?_) (fun _ => ?_)))
local macro_rules | `(tactic| walk_at "st") => `(tactic| repeat' (first | walk_at "ev" | walk_at "fn" | walk_at "gv"))
local macro_rules | `(tactic| walk_at "fn") => `(tactic| fail)
local macro_rules | `(tactic| walk_at "gv") => `(tactic| fail)

local macro_rules | `(tactic| walk_at "gv") => `(tactic| with_reducible refine gv_take (by omega) (fun _ _ _ _ => ?_))

local macro_rules | `(tactic| walk_at "fn") => `(tactic| simp -implicitDefEqProofs (disch := first | assumption | omega) only [eP_i0, eP_i1, eP_tup, L_abc, L_start, L_z, L_0])

/-! k67: the program's load and peak -/
def eJ (j : Jb) : D := .tup [.str j.1, .int j.2.1, .int j.2.2]
theorem eJ_i0 {j : Jb} : gIx (eJ j) (.int 0) = some (.str j.1) := rfl
theorem eJ_i1 {j : Jb} : gIx (eJ j) (.int 1) = some (.int j.2.1) := rfl
theorem eJ_i2 {j : Jb} : gIx (eJ j) (.int 2) = some (.int j.2.2) := rfl
theorem eJ_tup {j : Jb} {n : Nat} {gs : SGs} {e : Ev} : Z.gTup n gs (eJ j) e = if 3 = n then gs [.str j.1, .int j.2.1, .int j.2.2] e else none := rfl
def eQ (p : Int × Int) : D := .tup [.int p.1, .int p.2]
theorem eQ_tup {p : Int × Int} {n : Nat} {gs : SGs} {e : Ev} : Z.gTup n gs (eQ p) e = if 2 = n then gs [.int p.1, .int p.2] e else none := rfl
local macro_rules | `(tactic| walk_at "fn") => `(tactic| simp -implicitDefEqProofs (disch := first | assumption | omega) only [eP_i0, eP_i1, eP_tup, L_start, eJ_i0, eJ_i1, eJ_i2, eJ_tup, eQ_tup, ev_eSortSC, ev_eComp2, ev_oneC2, ev_eMaxDef])
abbrev tD (s : List Pr) : D := .dk (s.map fun q => (Sum.inr q.1, .int q.2))
theorem times_in_eq {s : List Pr} (hl : s.length ≤ 1000) (hd : (s.map (·.1)).Nodup) : F_times_in [.tup (s.map eP)] = some (tD s, [.non]) := by
  have hd2 : (s.map fun q => (Sum.inr q.1 : Key)).Nodup := by
    have : (s.map fun q => (Sum.inr q.1 : Key)) = (s.map (·.1)).map Sum.inr := by rw [List.map_map]; rfl
    rw [this]
    exact List.pairwise_map.mpr (List.Pairwise.imp (fun h e => h (Sum.inr.inj e)) hd)
  unfold F_times_in B_times_in
  apply gv_eq
  walk_at "ev"
  refine gv_dmap eP (fun q => Sum.inr q.1) (fun q => .int q.2) (by omega) hd2 (fun q _ => ?_) ?_
  · walk_at "st"
  · walk_at "ev"
def JIn (s : List Pr) (js : List Jb) : Prop := ∀ j ∈ js, j.1 ∈ s.map (·.1)
theorem needs_eq {s : List Pr} {js : List Jb} {t : Int} (hl : js.length ≤ 1000) (h : JIn s js) : F_running_needs [.tup (js.map eJ), tD s, .int t] = some (.int (run s js t), [.non, .non, .non]) := by
  unfold F_running_needs B_running_needs
  apply gv_eq
  walk_at "st"
  refine gv_filter eJ (onJ s t) (fun j => .int j.2.2) (by omega) (fun j hj => ?_) ?_
  · have e1 := dget_sch (h j hj)
    unfold onJ
    walk_at "st"
    rw [e1]
    walk_at "st"
    by_cases h1 : tm s j.1 ≤ t
    · rw [if_pos h1]
      by_cases h2 : t < tm s j.1 + j.2.1
      · simp [h1, h2, eVar]
      · simp [h1, h2]
    · rw [if_neg h1]
      simp [h1]
  · have e : (js.filter (onJ s t)).map (fun j => D.int j.2.2) = ((js.filter (onJ s t)).map (·.2.2)).map .int := by rw [List.map_map]; rfl
    rw [e]
    walk_at "st"
    rfl
theorem momD {s : List Pr} : ∀ {js : List Jb}, (js.flatMap fun j => [D.int (tm s j.1), D.int (tm s j.1 + j.2.1)]) = (momL s js).map D.int
  | [] => rfl
  | j :: js => by
    unfold momL
    rw [List.flatMap_cons, List.flatMap_cons, List.map_append, momD]; rfl
set_option maxHeartbeats 0 in
theorem load_eq {s : List Pr} {js : List Jb} (hs : s.length ≤ 1000) (hd : (s.map (·.1)).Nodup) (hl : js.length ≤ 30) (h : JIn s js) : F_load [.tup (js.map eJ), .tup (s.map eP)] = some (.tup ((stepsOf s js).map eQ), [.non, .non]) := by
  unfold F_load B_load
  apply gv_eq
  walk_at "st"
  rw [times_in_eq hs hd]
  walk_at "st"
  refine gv_flat eJ (fun j => [.int (tm s j.1), .int (tm s j.1 + j.2.1)]) (fun j hj acc hacc => ?_) ?_
  · have e1 := dget_sch (h j hj)
    have hacc : acc.length + 2 ≤ 60 := by
      rw [momD, List.length_map, momL_len] at hacc
      have hacc : acc.length + 2 ≤ 2 * js.length := hacc
      omega
    walk_at "st"
    rw [e1]
    walk_at "st"
    rw [show [D.int (tm s j.1), D.int (tm s j.1 + j.2.1)] = ([tm s j.1, tm s j.1 + j.2.1] : List Int).map D.int from rfl]
    refine gv_mapA D.int D.int (by show acc.length + 2 ≤ _; omega) (fun x _ => ?_) ?_
    · walk_at "st"
    · walk_at "st"
  rw [momD]
  dsimp only
  rw [ev_sortSC (by rw [momL_len]; omega), show sortI (ddI (momL s js)) = moms s js from rfl]
  have hml := moms_len (s := s) (js := js)
  unfold stepsOf
  generalize moms s js = ms at hml
  have hf : ∀ t, F_running_needs [.tup (js.map eJ), tD s, .int t] = some (.int (run s js t), [.non, .non, .non]) := fun t => needs_eq (by omega) h
  generalize run s js = f at hf
  walk_at "st"
  refine gv_for D.int (fun i env => ∃ (acc : List (Int × Int)) (b : Int) (s6 s7 : Slot), env = [.fz (.tup (js.map eJ)), .fz (.tup (s.map eP)), .fz (tD s), .fz (.lst (ms.map .int)), .ow (.lst (acc.map eQ)), .fz (.int b), s6, s7, .no, .no, .no] ∧ fre s6 = true ∧ fre s7 = true ∧ acc.length ≤ i ∧ acc ++ stp f (ms.drop i) b = stp f ms 0) ⟨[], 0, .no, .no, rfl, rfl, rfl, Nat.le_refl _, rfl⟩ ?_ ?_
  · rintro i t env hx ⟨acc, b, s6, s7, rfl, f6, f7, ha, hst⟩
    have hi := (List.getElem?_eq_some_iff.mp hx).1
    have hdr : ms.drop i = t :: ms.drop (i + 1) := by
      rw [List.drop_eq_getElem_cons hi]
      congr 1
      exact (List.getElem?_eq_some_iff.mp hx).2
    have hal : (acc.map eQ).length ≤ 100 := by rw [List.length_map]; omega
    rw [hdr, stp_cons] at hst
    walk_at "st"
    rw [hf]
    walk_at "st"
    by_cases e : f t = b
    · rw [if_pos e] at hst
      simp only [e, decide_true, Bool.not_true, Bool.false_eq_true, if_false, not_true_eq_false]
      walk_at "st"
      exact ⟨acc, b, _, _, rfl, rfl, rfl, by omega, hst⟩
    · rw [if_neg e] at hst
      simp only [e, decide_false, Bool.not_false, if_true, not_false_eq_true]
      walk_at "st"
      rw [ev_append (by omega)]
      walk_at "st"
      refine ⟨acc ++ [(t, f t)], f t, .fz (.int t), .fz (.int (f t)), ?_, rfl, rfl, by rw [List.length_append]; exact Nat.succ_le_succ ha, by rw [List.append_assoc]; exact hst⟩
      rw [List.map_append]
      rfl
  · rintro env ⟨acc, b, s6, s7, rfl, f6, f7, ha, hst⟩
    rw [List.drop_length] at hst
    have hst : acc ++ [] = stp f ms 0 := hst
    rw [List.append_nil] at hst
    walk_at "st"
    rw [hst]
set_option maxHeartbeats 0 in
theorem peak_eq {s : List Pr} {js : List Jb} (hs : s.length ≤ 1000) (hd : (s.map (·.1)).Nodup) (hl : js.length ≤ 30) (h : JIn s js) : F_peak [.tup (js.map eJ), .tup (s.map eP)] = some (.int (maxDef 0 ((stepsOf s js).map (·.2))), [.non, .non]) := by
  unfold F_peak B_peak
  apply gv_eq
  have hsl : (stepsOf s js).length ≤ 100 := by
    have := moms_len (s := s) (js := js)
    have := stp_len (f := run s js) (ts := moms s js) (b := 0)
    unfold stepsOf
    omega
  walk_at "st"
  rw [load_eq hs hd hl h]
  walk_at "st"
  generalize stepsOf s js = st at hsl
  refine gv_map eQ (fun p => .int p.2) (by omega) (fun p _ => ?_) ?_
  · walk_at "st"
  · have e : st.map (fun p => D.int p.2) = (st.map (·.2)).map .int := by rw [List.map_map]; rfl
    rw [e]
    walk_at "st"
    show Gv ((intsOf ((st.map (·.2)).map D.int)).bind fun y => some (D.int (maxDef 0 y), [D.non, D.non])) _
    rw [intsOf_map]
    walk_at "st"

end Lw

namespace Lw
open PySem PySem.Spec PyProof.Rows L2 Z
local macro_rules | `(tactic| walk_at "om2") => `(tactic| first | omega | (simp only [S_len, List.length_range, List.length_append, List.length_map, List.length_cons, List.length_nil, List.length_singleton, List.length_set, List.length_reverse]; omega))
local macro_rules | `(tactic| walk_at "ev") => `(tactic| simp -implicitDefEqProofs (disch := first | assumption | omega) only [ev_eMxGet, ev_sMxPut, ev_sMxRet, ev_sMxNew, ev_rowsS, ev_intS, ev_nomx0, ev_nomx1, ev_nomx2, ev_nomx3, ev_nomx4, ev_oneM, ev_eDnewK, ev_iEn, ev_seqE0, ev_seqE1, ev_seqE2, ev_iZip, ev_zipE0, ev_zipE1, ev_eDcomp, ev_eIndexT, ev_eIndexL, ev_isKt, ev_isLst, ev_eGet2, ev_eD1, ev_oneD, ev_key_str, ev_key_int, ev_in_dks, ev_notin_dks, ev_in_dki, ev_notin_dki, ev_ix_dks, ev_ix_dki, ev_get_dks, ev_isDi, ev_eq_ints, ev_in_ints_tup, ev_notin_ints_tup, ev_in_ints_lst, ev_notin_ints_lst, ev_ltL, ev_int_bl, ev_pick2, ev_pick2p, ev_tupleK_lst, ev_tupleK_kt, ev_tuple_kt, ev_list_kt, ev_i0_tup, ev_i1_tup, ev_i2_tup, ev_i3_tup, ev_i4_tup, ev_i5_tup, ev_i0_lst, ev_i1_lst, ev_i2_lst, ev_i3_lst, ev_i4_lst, ev_i5_lst, ev_i0_kt, ev_i1_kt, ev_i2_kt, ev_i3_kt, ev_i4_kt, ev_i5_kt, S_beq, S_inj, S_len, signs_S, ev_items_S, ev_ix_S, ev_mul_S, ev_add_S2, ev_len_S2, ev_in_str, ev_in_sign, ev_append_str, ev_join0, ev_eq_bl, ev_ne_bl, ev_len_kt, ev_chain, ev_gIsi, ev_gIsi2, ty_non, ty_bl, ty_int, ty_str, ty_tup, ty_kt, ty_lst, ty_dk, ty_dt, ev_ix_tup, ev_ix_kt, ev_sl_to_S, ev_sl_from_S, ev_cat2, ev_add_tup2, ev_add_lst2, List.length_append, List.length_replicate, List.length_take, List.length_drop, List.length_reverse, kb_NoneType_int, kb_NoneType_str, kb_NoneType_bool, kb_NoneType_list, kb_NoneType_tuple, kb_NoneType_dict, kb_bool_int, kb_bool_str, kb_bool_bool, kb_bool_list, kb_bool_tuple, kb_bool_dict, kb_int_int, kb_int_str, kb_int_bool, kb_int_list, kb_int_tuple, kb_int_dict, kb_str_int, kb_str_str, kb_str_bool, kb_str_list, kb_str_tuple, kb_str_dict, kb_list_int, kb_list_str, kb_list_bool, kb_list_list, kb_list_tuple, kb_list_dict, kb_tuple_int, kb_tuple_str, kb_tuple_bool, kb_tuple_list, kb_tuple_tuple, kb_tuple_dict, kb_dict_int, kb_dict_str, kb_dict_bool, kb_dict_list, kb_dict_tuple, kb_dict_dict, runDef, env0, argSlot, outsOf, ev_eC, ev_qV, ev_qS, ev_aN, ev_aC, ev_eVar, ev_eOp1, ev_eOp2, ev_eOps, ev_bV, ev_bQ, ev_bNot, ev_bAnd, ev_bOr, ev_eIf, ev_eB, ev_eAnd, ev_eOr, ev_eNot, ev_eTup, ev_eLst, ev_oN, ev_oS, ev_eSl, ev_sNil, ev_sSeq, ev_sIf, ev_sBreak, ev_sCont, ev_sRet, ev_sRetF, ev_sRetN, ev_sRetO, ev_sExpr, ev_sSet, ev_sSetN, ev_putFz, ev_putOw, ev_free, ev_freH, ev_freO, ev_fre0, ev_fre1, ev_fre2, ev_gName, ev_gsNil, ev_gsCons, ev_gTup, ev_gTupK, ev_gTupL, ev_sAsg, ev_sPar, ev_getM, ev_setM, ev_eMut, ev_sPut, ev_iV, ev_iS, ev_iR1, ev_iR2, ev_iRB, ev_eComp2, ev_oneC2, ev_eLstB, ev_sForD, ev_eCompD, ev_sFor, ev_eComp, ev_eCall, ev_lock0, ev_lockS, ev_unlock0, ev_unlockS, ev_unO_nx, ev_unO_rt, ev_unO_rn, ev_and_nx, ev_and_bk, ev_and_ct, ev_and_rt, ev_and_rn, ev_eq_int, ev_ne_int, ev_eq_str, ev_ne_str, ev_fi1, ev_fi2, ev_fi3, ev_fi4,
  ev_mul_r, ev_mul_l, ev_mod, ev_div, ev_p18, ev_p15, ev_p20, ev_p40, ev_add_int, ev_sub_int, ev_neg_int, ev_add_str2, ev_len_str, ev_lt_int, ev_le_int, ev_gt_int, ev_ge_int, ev_lt_str, ev_len_lst, ev_len_tup, ev_len_dk, ev_int_int, ev_list_lst, ev_list_tup, ev_tuple_lst, ev_tuple_tup, ev_append_int, ev_reverse_int, ev_ix_ints, ev_set_ints, ev_all, ev_any, ev_sum, ev_items_lst, ev_items_tup, ev_items_kt, ev_items_sc, ev_items_str,
  getP, getS, getPs, vals, asB, asI, truD, tyD, argDs, ioSlots, brSlots, apart, setOuts, D.isNon,
  List.getElem?_cons_succ, List.getElem?_cons_zero, List.set_cons_succ, List.set_cons_zero, Option.bind_some, Option.bind_none, Option.bind_assoc, List.length_cons, List.length_nil, List.replicate_succ, List.replicate_zero, Nat.add_one_sub_one, Nat.reduceAdd, Nat.reduceSub, if_true, if_false, reduceIte, reduceCtorEq, Bool.false_eq_true, List.length_map, beq_self_eq_true, ev_gv, ev_oneC, ev_oneL, ev_fwd, ev_fwd2, ev_fwdO, ev_fwdO2, ev_fwdO3, ev_fwdO4, ev_fwdO5, ev_wipe0, ev_wipe1, ev_res0, ev_res1, ev_wok0, ev_wok1, ev_wb0, ev_wb1, Bool.and_true, Bool.true_and, List.getD_cons_succ, List.getD_cons_zero, tTrue, Option.toList_some, Option.toList_none, List.length_range, List.length_nil, Int.toNat_natCast, List.nodup_cons, List.nodup_nil, List.all_cons, List.all_nil, List.contains_nil, List.contains_cons, List.not_mem_nil, not_false_eq_true, and_self, decide_true, List.mem_cons, or_false, Nat.reduceEqDiff, and_true, true_and, Bool.or_false, beq_eq_false_iff_ne, decide_eq_false_iff_not, ne_eq, ite_not, if_pos, if_neg, ev_size, ev_sizel, ev_rng, ev_rng2, beq_iff_eq, decide_eq_true_eq, Bool.and_eq_true, Bool.or_eq_true, Bool.not_eq_true', Bool.not_true, Bool.not_false, Bool.not_eq_eq_eq_not])
local macro_rules | `(tactic| walk_at "go") => `(tactic| repeat' (first | walk_at "ev" | walk_at "fn" | walk_at "gv" | with_reducible refine gv_iteb (fun _ => ?_) (fun _ => ?_) | with_reducible refine gv_ite (fun _ => ?_) (fun _ => ?_)))
local macro_rules | `(tactic| walk_at "st") => `(tactic| repeat' (first | walk_at "ev" | walk_at "fn" | walk_at "gv"))
local macro_rules | `(tactic| walk_at "fn") => `(tactic| fail)
local macro_rules | `(tactic| walk_at "gv") => `(tactic| fail)

local macro_rules | `(tactic| walk_at "gv") => `(tactic| with_reducible refine gv_take (by omega) (fun _ _ _ _ => ?_))

local macro_rules | `(tactic| walk_at "fn") => `(tactic| simp -implicitDefEqProofs (disch := first | assumption | omega) only [eP_i0, eP_i1, eP_tup, L_abc, L_start, L_z, L_0])

/-! k67: the law's load and peak -/
local macro_rules | `(tactic| walk_at "fn") => `(tactic| simp -implicitDefEqProofs (disch := first | assumption | omega) only [eP_i0, eP_i1, eP_tup, L_start, eJ_i0, eJ_i1, eJ_i2, eJ_tup, eQ_tup])
theorem ltime_eq {s : List Pr} {x : Str} (hl : s.length ≤ 1000) (hx : x ∈ s.map (·.1)) : F__law_time [.lst (s.map eP), .str x] = some (.int (tm s x), [.non, .non]) := by
  obtain ⟨l, hf⟩ := filter_head hx
  unfold F__law_time B__law_time
  apply gv_eq
  walk_at "ev"
  refine gv_filter eP (fun q => decide (q.1 = x)) (fun q => .int q.2) (by omega) (fun q _ => ?_) ?_
  · walk_at "st"
    by_cases h : q.1 = x
    · simp [h]
    · simp [h]
  · rw [hf]
    simp only [List.map_cons]
    walk_at "ev"
theorem run_take {s : List Pr} {js : List Jb} {t : Int} {i : Nat} {j : Jb} (h : js[i]? = some j) : run s (js.take (i + 1)) t = run s (js.take i) t + j.2.2 * (if onJ s t j = true then 1 else 0) := by
  rw [List.take_add_one, h]
  exact run_snoc
set_option maxHeartbeats 0 in
theorem lrun_eq {s : List Pr} {js : List Jb} {t : Int} (hs : s.length ≤ 1000) (hl : js.length ≤ 1000) (h : JIn s js) : F__law_running [.tup (js.map eJ), .lst (s.map eP), .int t] = some (.int (run s js t), [.non, .non, .non]) := by
  unfold F__law_running B__law_running
  apply gv_eq
  walk_at "st"
  refine gv_for eJ (fun i env => ∃ s4 s5 : Slot, env = [.fz (.tup (js.map eJ)), .br (.lst (s.map eP)), .fz (.int t), .fz (.int (run s (js.take i) t)), s4, s5] ∧ fre s4 = true ∧ fre s5 = true) ⟨.no, .no, rfl, rfl, rfl⟩ ?_ ?_
  · rintro i j env hx ⟨s4, s5, rfl, f4, f5⟩
    rw [run_take hx]
    have e1 := ltime_eq hs (h j (List.mem_of_getElem? hx))
    generalize run s (js.take i) t = r
    walk_at "st"
    rw [e1]
    walk_at "st"
    have key : ∀ e : Ev, (if tm s j.1 ≤ t then some (D.bl (decide (t < tm s j.1 + j.2.1)), e) else some (D.bl false, e)) = some (D.bl (onJ s t j), e) := fun e => by
      unfold onJ
      by_cases h1 : tm s j.1 ≤ t
      · simp [h1]
      · simp [h1]
    rw [key]
    generalize onJ s t j = b
    have hm1 : gMul (.int j.2.2) (.int 1) = some (.int (j.2.2 * 1)) := ev_mul_r (by omega)
    have hm0 : gMul (.int j.2.2) (.int 0) = some (.int (j.2.2 * 0)) := ev_mul_r (by omega)
    cases b with
    | true =>
      walk_at "st"
      exact ⟨.fz (eJ j), .fz (.int (tm s j.1)), rfl, rfl, rfl⟩
    | false =>
      walk_at "st"
      exact ⟨.fz (eJ j), .fz (.int (tm s j.1)), rfl, rfl, rfl⟩
  · rintro env ⟨s4, s5, rfl, f4, f5⟩
    rw [List.take_length]
    walk_at "st"
theorem momL_take {s : List Pr} {js : List Jb} {i : Nat} {j : Jb} (h : js[i]? = some j) : momL s (js.take (i + 1)) = momL s (js.take i) ++ [tm s j.1, tm s j.1 + j.2.1] := by
  rw [List.take_add_one, h]
  exact momL_snoc
set_option maxHeartbeats 0 in
theorem steps_eq {s : List Pr} {js : List Jb} (hs : s.length ≤ 1000) (hl : js.length ≤ 30) (h : JIn s js) : F__law_steps [.tup (js.map eJ), .lst (s.map eP)] = some (.tup ((stepsOf s js).map eQ), [.non, .non]) := by
  unfold F__law_steps B__law_steps
  apply gv_eq
  walk_at "st"
  refine gv_for eJ (fun i env => ∃ s3 s4 : Slot, env = [.fz (.tup (js.map eJ)), .br (.lst (s.map eP)), .fz (.lst ((momL s (js.take i)).map .int)), s3, s4, .no, .no, .no, .no] ∧ fre s3 = true ∧ fre s4 = true) ⟨.no, .no, rfl, rfl, rfl⟩ ?_ ?_
  · rintro i j env hx ⟨s3, s4, rfl, f3, f4⟩
    have hi := (List.getElem?_eq_some_iff.mp hx).1
    rw [momL_take hx]
    have e1 := ltime_eq hs (h j (List.mem_of_getElem? hx))
    have hml : (momL s (js.take i)).length ≤ 60 := by rw [momL_len, List.length_take]; omega
    generalize momL s (js.take i) = L at hml
    have hml2 : (L.map D.int).length ≤ 60 := by rw [List.length_map]; exact hml
    walk_at "st"
    rw [e1]
    walk_at "st"
    refine ⟨.fz (eJ j), .fz (.int (tm s j.1)), ?_, rfl, rfl⟩
    rw [List.map_append]; rfl
  rintro env ⟨s3, s4, rfl, f3, f4⟩
  rw [List.take_length]
  have hms : gSortSet (.lst ((momL s js).map .int)) = some (.lst ((moms s js).map .int)) := ev_sortSet (by rw [momL_len]; omega)
  have hml := moms_len (s := s) (js := js)
  unfold stepsOf
  generalize moms s js = ms at hms hml
  have hf : ∀ t, F__law_running [.tup (js.map eJ), .lst (s.map eP), .int t] = some (.int (run s js t), [.non, .non, .non]) := fun t => lrun_eq hs (by omega) h
  generalize run s js = f at hf
  walk_at "st"
  rw [hms]
  walk_at "st"
  refine gv_for D.int (fun i env => ∃ (acc : List (Int × Int)) (b : Int) (s7 s8 : Slot), env = [.fz (.tup (js.map eJ)), .br (.lst (s.map eP)), .fz (.lst ((momL s js).map .int)), s3, s4, .ow (.lst (acc.map eQ)), .fz (.int b), s7, s8] ∧ fre s7 = true ∧ fre s8 = true ∧ acc.length ≤ i ∧ acc ++ stp f (ms.drop i) b = stp f ms 0) ⟨[], 0, .no, .no, rfl, rfl, rfl, Nat.le_refl _, rfl⟩ ?_ ?_
  · rintro i t env hx ⟨acc, b, s7, s8, rfl, f7, f8, ha, hst⟩
    have hi := (List.getElem?_eq_some_iff.mp hx).1
    have hdr : ms.drop i = t :: ms.drop (i + 1) := by
      rw [List.drop_eq_getElem_cons hi]
      congr 1
      exact (List.getElem?_eq_some_iff.mp hx).2
    have hal : (acc.map eQ).length ≤ 100 := by rw [List.length_map]; omega
    rw [hdr, stp_cons] at hst
    walk_at "st"
    rw [hf]
    walk_at "st"
    by_cases e : f t = b
    · rw [if_pos e] at hst
      simp only [e, decide_true, Bool.not_true, Bool.false_eq_true, if_false, not_true_eq_false]
      walk_at "st"
      exact ⟨acc, b, .fz (.int t), .fz (.int b), rfl, rfl, rfl, by omega, hst⟩
    · rw [if_neg e] at hst
      simp only [e, decide_false, Bool.not_false, if_true, not_false_eq_true]
      walk_at "st"
      rw [ev_append (by omega)]
      walk_at "st"
      refine ⟨acc ++ [(t, f t)], f t, .fz (.int t), .fz (.int (f t)), ?_, rfl, rfl, by rw [List.length_append]; exact Nat.succ_le_succ ha, by rw [List.append_assoc]; exact hst⟩
      rw [List.map_append]
      rfl
  · rintro env ⟨acc, b, s7, s8, rfl, f7, f8, ha, hst⟩
    rw [List.drop_length] at hst
    have hst : acc ++ [] = stp f ms 0 := hst
    rw [List.append_nil] at hst
    walk_at "st"
    rw [hst]
set_option maxHeartbeats 0 in
theorem lpeak_eq {s : List Pr} {js : List Jb} (hs : s.length ≤ 1000) (hl : js.length ≤ 30) (h : JIn s js) : F__law_peak [.tup (js.map eJ), .lst (s.map eP)] = some (.int (maxI (0 :: js.map fun j => run s js (tm s j.1))), [.non, .non]) := by
  unfold F__law_peak B__law_peak
  apply gv_eq
  walk_at "st"
  refine gv_map eJ (fun j => .int (run s js (tm s j.1))) (by omega) (fun j hj => ?_) ?_
  · walk_at "st"
    rw [ltime_eq hs (h j hj)]
    walk_at "st"
    rw [lrun_eq hs (by omega) h]
    walk_at "st"
  · have e : D.lst (D.int 0 :: js.map fun j => D.int (run s js (tm s j.1))) = .lst ((0 :: js.map fun j => run s js (tm s j.1)).map .int) := by rw [List.map_cons, List.map_map]; rfl
    have hm := ev_maxI (ns := 0 :: js.map fun j => run s js (tm s j.1)) (List.cons_ne_nil _ _)
    rw [← e] at hm
    have hm : gMax [.lst ([D.int 0] ++ js.map fun j => D.int (run s js (tm s j.1)))] = some (.int (maxI (0 :: js.map fun j => run s js (tm s j.1)))) := hm
    walk_at "st"
    rw [hm]
    walk_at "st"

end Lw

namespace Lw
open PySem PySem.Spec PyProof.Rows L2 Z
local macro_rules | `(tactic| walk_at "om2") => `(tactic| first | omega | (simp only [S_len, List.length_range, List.length_append, List.length_map, List.length_cons, List.length_nil, List.length_singleton, List.length_set, List.length_reverse]; omega))
local macro_rules | `(tactic| walk_at "ev") => `(tactic| simp -implicitDefEqProofs (disch := first | assumption | omega) only [ev_eMxGet, ev_sMxPut, ev_sMxRet, ev_sMxNew, ev_rowsS, ev_intS, ev_nomx0, ev_nomx1, ev_nomx2, ev_nomx3, ev_nomx4, ev_oneM, ev_eDnewK, ev_iEn, ev_seqE0, ev_seqE1, ev_seqE2, ev_iZip, ev_zipE0, ev_zipE1, ev_eDcomp, ev_eIndexT, ev_eIndexL, ev_isKt, ev_isLst, ev_eGet2, ev_eD1, ev_oneD, ev_key_str, ev_key_int, ev_in_dks, ev_notin_dks, ev_in_dki, ev_notin_dki, ev_ix_dks, ev_ix_dki, ev_get_dks, ev_isDi, ev_eq_ints, ev_in_ints_tup, ev_notin_ints_tup, ev_in_ints_lst, ev_notin_ints_lst, ev_ltL, ev_int_bl, ev_pick2, ev_pick2p, ev_tupleK_lst, ev_tupleK_kt, ev_tuple_kt, ev_list_kt, ev_i0_tup, ev_i1_tup, ev_i2_tup, ev_i3_tup, ev_i4_tup, ev_i5_tup, ev_i0_lst, ev_i1_lst, ev_i2_lst, ev_i3_lst, ev_i4_lst, ev_i5_lst, ev_i0_kt, ev_i1_kt, ev_i2_kt, ev_i3_kt, ev_i4_kt, ev_i5_kt, S_beq, S_inj, S_len, signs_S, ev_items_S, ev_ix_S, ev_mul_S, ev_add_S2, ev_len_S2, ev_in_str, ev_in_sign, ev_append_str, ev_join0, ev_eq_bl, ev_ne_bl, ev_len_kt, ev_chain, ev_gIsi, ev_gIsi2, ty_non, ty_bl, ty_int, ty_str, ty_tup, ty_kt, ty_lst, ty_dk, ty_dt, ev_ix_tup, ev_ix_kt, ev_sl_to_S, ev_sl_from_S, ev_cat2, ev_add_tup2, ev_add_lst2, List.length_append, List.length_replicate, List.length_take, List.length_drop, List.length_reverse, kb_NoneType_int, kb_NoneType_str, kb_NoneType_bool, kb_NoneType_list, kb_NoneType_tuple, kb_NoneType_dict, kb_bool_int, kb_bool_str, kb_bool_bool, kb_bool_list, kb_bool_tuple, kb_bool_dict, kb_int_int, kb_int_str, kb_int_bool, kb_int_list, kb_int_tuple, kb_int_dict, kb_str_int, kb_str_str, kb_str_bool, kb_str_list, kb_str_tuple, kb_str_dict, kb_list_int, kb_list_str, kb_list_bool, kb_list_list, kb_list_tuple, kb_list_dict, kb_tuple_int, kb_tuple_str, kb_tuple_bool, kb_tuple_list, kb_tuple_tuple, kb_tuple_dict, kb_dict_int, kb_dict_str, kb_dict_bool, kb_dict_list, kb_dict_tuple, kb_dict_dict, runDef, env0, argSlot, outsOf, ev_eC, ev_qV, ev_qS, ev_aN, ev_aC, ev_eVar, ev_eOp1, ev_eOp2, ev_eOps, ev_bV, ev_bQ, ev_bNot, ev_bAnd, ev_bOr, ev_eIf, ev_eB, ev_eAnd, ev_eOr, ev_eNot, ev_eTup, ev_eLst, ev_oN, ev_oS, ev_eSl, ev_sNil, ev_sSeq, ev_sIf, ev_sBreak, ev_sCont, ev_sRet, ev_sRetF, ev_sRetN, ev_sRetO, ev_sExpr, ev_sSet, ev_sSetN, ev_putFz, ev_putOw, ev_free, ev_freH, ev_freO, ev_fre0, ev_fre1, ev_fre2, ev_gName, ev_gsNil, ev_gsCons, ev_gTup, ev_gTupK, ev_gTupL, ev_sAsg, ev_sPar, ev_getM, ev_setM, ev_eMut, ev_sPut, ev_iV, ev_iS, ev_iR1, ev_iR2, ev_iRB, ev_eComp2, ev_oneC2, ev_eLstB, ev_sForD, ev_eCompD, ev_sFor, ev_eComp, ev_eCall, ev_lock0, ev_lockS, ev_unlock0, ev_unlockS, ev_unO_nx, ev_unO_rt, ev_unO_rn, ev_and_nx, ev_and_bk, ev_and_ct, ev_and_rt, ev_and_rn, ev_eq_int, ev_ne_int, ev_eq_str, ev_ne_str, ev_fi1, ev_fi2, ev_fi3, ev_fi4,
  ev_mul_r, ev_mul_l, ev_mod, ev_div, ev_p18, ev_p15, ev_p20, ev_p40, ev_add_int, ev_sub_int, ev_neg_int, ev_add_str2, ev_len_str, ev_lt_int, ev_le_int, ev_gt_int, ev_ge_int, ev_lt_str, ev_len_lst, ev_len_tup, ev_len_dk, ev_int_int, ev_list_lst, ev_list_tup, ev_tuple_lst, ev_tuple_tup, ev_append_int, ev_reverse_int, ev_ix_ints, ev_set_ints, ev_all, ev_any, ev_sum, ev_items_lst, ev_items_tup, ev_items_kt, ev_items_sc, ev_items_str,
  getP, getS, getPs, vals, asB, asI, truD, tyD, argDs, ioSlots, brSlots, apart, setOuts, D.isNon,
  List.getElem?_cons_succ, List.getElem?_cons_zero, List.set_cons_succ, List.set_cons_zero, Option.bind_some, Option.bind_none, Option.bind_assoc, List.length_cons, List.length_nil, List.replicate_succ, List.replicate_zero, Nat.add_one_sub_one, Nat.reduceAdd, Nat.reduceSub, if_true, if_false, reduceIte, reduceCtorEq, Bool.false_eq_true, List.length_map, beq_self_eq_true, ev_gv, ev_oneC, ev_oneL, ev_fwd, ev_fwd2, ev_fwdO, ev_fwdO2, ev_fwdO3, ev_fwdO4, ev_fwdO5, ev_wipe0, ev_wipe1, ev_res0, ev_res1, ev_wok0, ev_wok1, ev_wb0, ev_wb1, Bool.and_true, Bool.true_and, List.getD_cons_succ, List.getD_cons_zero, tTrue, Option.toList_some, Option.toList_none, List.length_range, List.length_nil, Int.toNat_natCast, List.nodup_cons, List.nodup_nil, List.all_cons, List.all_nil, List.contains_nil, List.contains_cons, List.not_mem_nil, not_false_eq_true, and_self, decide_true, List.mem_cons, or_false, Nat.reduceEqDiff, and_true, true_and, Bool.or_false, beq_eq_false_iff_ne, decide_eq_false_iff_not, ne_eq, ite_not, if_pos, if_neg, ev_size, ev_sizel, ev_rng, ev_rng2, beq_iff_eq, decide_eq_true_eq, Bool.and_eq_true, Bool.or_eq_true, Bool.not_eq_true', Bool.not_true, Bool.not_false, Bool.not_eq_eq_eq_not])
local macro_rules | `(tactic| walk_at "go") => `(tactic| repeat' (first | walk_at "ev" | walk_at "fn" | walk_at "gv" | with_reducible refine gv_iteb (fun _ => ?_) (fun _ => ?_) | with_reducible refine gv_ite (fun _ => ?_) (fun _ => ?_)))
local macro_rules | `(tactic| walk_at "st") => `(tactic| repeat' (first | walk_at "ev" | walk_at "fn" | walk_at "gv"))
local macro_rules | `(tactic| walk_at "fn") => `(tactic| fail)
local macro_rules | `(tactic| walk_at "gv") => `(tactic| fail)

local macro_rules | `(tactic| walk_at "gv") => `(tactic| with_reducible refine gv_take (by omega) (fun _ _ _ _ => ?_))

local macro_rules | `(tactic| walk_at "fn") => `(tactic| simp -implicitDefEqProofs (disch := first | assumption | omega) only [eP_i0, eP_i1, eP_tup, L_abc, L_start, L_z, L_0])

/-! k67: the end -/
theorem ev_p30 : gPow (.int 10) (.int 30) = some (.int 1000000000000000000000000000000) := rfl
theorem ev_sl_strs {ws : List Str} {t : Int} (h : 0 ≤ t) : gSl (.lst (ws.map D.str)) none (some t) = some (.lst ((ws.take t.toNat).map .str)) := by rw [ev_sl_to h, List.map_take]
theorem sorted_str0 {xs : List Str} (h : xs.length < 64) : gSorted [.lst (xs.map D.str)] = some (.lst ((sortS xs).map D.str)) := by
  by_cases e : xs = []
  · subst e
    show some (D.lst ((sortI []).map D.int)) = some (.lst ((sortS []).map D.str))
    simp [sortI, sortS]
  · exact ev_sorted_str h e
def isI : D → Bool
  | .int _ => true
  | _ => false
theorem gv_pickN {β : Type} {xs : List Int} {ds : List D} {k : D × List D → Option β} {Q : β → Prop} (hm : 0 < ds.length) (ha : ds.all isI = true) (h : ∀ (n : Int) (ys : List Int), Gv (k (.int n, [.lst (ys.map .int), .non])) Q) : Gv ((F__law_pick [.lst (xs.map .int), .lst ds]).bind k) Q := by
  refine gv_pick hm fun d hd ys => ?_
  have := List.all_eq_true.mp ha d hd
  cases d <;> try (cases this; done)
  exact h _ ys
local macro_rules | `(tactic| walk_at "fn") => `(tactic| simp -implicitDefEqProofs (disch := first | assumption | omega) only [eP_i0, eP_i1, eP_tup, L_start, eJ_i0, eJ_i1, eJ_i2, eJ_tup, eQ_tup, ev_p30])
local macro_rules | `(tactic| walk_at "gv") => `(tactic| with_reducible refine gv_pickN (Nat.succ_pos _) rfl (fun _ _ => ?_))
set_option maxHeartbeats 0 in
set_option maxHeartbeats 0 in
theorem jobs_gv {xs : List Int} {N : List Str} {m : Int} (hN : N.length ≤ 60) (hm : 1 ≤ m ∧ m ≤ 100) : Gv (F__law_jobs [.lst (xs.map .int), .lst (N.map .str), .int m, .int m]) fun r => ∃ (js : List Jb) (xs : List Int), r = (.tup (js.map eJ), [.lst (xs.map .int), .non, .non, .non]) ∧ js.length = N.length ∧ ∀ j ∈ js, j.1 ∈ N ∧ 0 ≤ j.2.2 := by
  unfold F__law_jobs B__law_jobs
  walk_at "st"
  rw [sorted_str0 (by omega)]
  have hsp : (sortS N).Perm N := List.mergeSort_perm _ _
  have hsl := hsp.length_eq
  have hsm : ∀ x ∈ sortS N, x ∈ N := fun x h => hsp.mem_iff.mp h
  generalize sortS N = O at hsl hsm
  walk_at "st"
  refine gv_comp D.str (fun k acc env => ∃ (js : List Jb) (xs : List Int), acc = js.map eJ ∧ env = [.io (.lst (xs.map .int)), .fz (.lst (N.map .str)), .fz (.int m), .fz (.int m), .no] ∧ js.length = k ∧ ∀ j ∈ js, j.1 ∈ N ∧ 0 ≤ j.2.2) (by omega) ⟨[], xs, rfl, rfl, rfl, fun j hj => by cases hj⟩ ?_ ?_
  · rintro i x acc env hx ⟨js, xs, rfl, rfl, hl, h1⟩
    walk_at "st"
    rename_i t2 xs2 a1 a2 t3 xs3 b1 b2
    refine ⟨js ++ [(x, 1 + t2, 1 + t3)], xs3, ?_, rfl, by rw [List.length_append, hl]; rfl, fun j hj => ?_⟩
    · rw [List.map_append]; rfl
    · rcases List.mem_append.mp hj with hj | hj
      · exact h1 j hj
      · rw [List.mem_singleton.mp hj]
        exact ⟨hsm x (List.mem_of_getElem? hx), by show 0 ≤ 1 + t3; omega⟩
  · rintro acc env ⟨js, xs, rfl, rfl, hl, h1⟩
    walk_at "st"
    exact ⟨js, xs, rfl, by omega, h1⟩
theorem pln_steps {l : List (Int × Int)} {n : Nat} (h : l.length ≤ 1000) : pln (n + 3) (.tup (l.map eQ)) = true := by
  unfold pln
  rw [plnL_iff.mpr fun d hd => by obtain ⟨x, _, rfl⟩ := List.mem_map.mp hd; rfl, Bool.true_and, List.length_map]
  exact decide_eq_true (by omega)
set_option maxHeartbeats 0 in
set_option maxHeartbeats 0 in
theorem main (ns : List Int) (hns : ns.length ≤ 63) : ∃ outs, F_law [.sc ns] = some (.bl true, outs) := by
  suffices h : Gv (F_law [.sc ns]) fun r => r.1 = .bl true by
    obtain ⟨r, h1, h2⟩ := h
    exact ⟨r.2, by rw [h1, ← h2]⟩
  unfold F_law B_law
  walk_at "ev"
  refine gv_bind (draws_gv ns 500 (by omega) (by omega) hns) ?_
  rintro _ ⟨xs, rfl⟩
  walk_at "st"
  have e4 : [D.int 6, .int 3, .int 20, .int 2] = ([6, 3, 20, 2] : List Int).map .int := rfl
  rw [e4]
  refine gv_for D.int (fun k env => ∃ (xs : List Int) (s2 s3 s4 s5 s6 s7 s8 : Slot), env = [.fz (.sc ns), .ow (.lst (xs.map .int)), s2, s3, s4, s5, s6, s7, s8] ∧ fre s2 = true ∧ fre s3 = true ∧ fre s4 = true ∧ fre s5 = true ∧ fre s6 = true ∧ fre s7 = true ∧ fre s8 = true) ⟨xs, .no, .no, .no, .no, .no, .no, .no, rfl, rfl, rfl, rfl, rfl, rfl, rfl, rfl⟩ ?_ ?_
  · rintro i x env hx ⟨xs, s2, s3, s4, s5, s6, s7, s8, rfl, f2, f3, f4, f5, f6, f7, f8⟩
    have hx4 : 1 ≤ x ∧ x ≤ 100 := by
      have := List.mem_of_getElem? hx
      simp only [List.mem_cons, List.not_mem_nil, or_false] at this
      omega
    walk_at "st"
    refine gv_bind (words_gv xs 6 (by omega) (by omega)) ?_
    rintro _ ⟨ws, xs, rfl, hl, hd, hw⟩
    have hl6 : ws.length = 6 := hl
    walk_at "st"
    rename_i t xs2 t0 t1
    rw [ev_sl_strs (by omega)]
    have hT : (ws.take t.toNat).length ≤ 6 := by rw [List.length_take]; omega
    have hTm : ∀ y ∈ ws.take t.toNat, y ∈ ws := fun y h => List.mem_of_mem_take h
    generalize ws.take t.toNat = N at hT hTm
    walk_at "st"
    refine gv_bind (jobs_gv (by omega) hx4) ?_
    rintro _ ⟨js, xs, rfl, hjl, hj⟩
    walk_at "st"
    rename_i mv xs3
    rw [points_eq (by omega)]
    have hpl := pts_len ws
    have hpm : ∀ y ∈ ws, y ∈ ptsOf ws := fun y h => (pts_perm _).mem_iff.mpr (List.mem_append_left _ h)
    have hnd : (ptsOf ws).Nodup := (pts_perm _).nodup_iff.mpr (by
      rw [List.nodup_append]
      refine ⟨hd, List.nodup_cons.mpr ⟨List.not_mem_nil, List.nodup_nil⟩, fun a ha b hb e => ?_⟩
      rw [List.mem_singleton.mp hb] at e
      exact (hw a ha).st e)
    generalize ptsOf ws = ps at hpl hpm hnd
    walk_at "st"
    refine gv_for D.str (fun k env => ∃ (sc : List Pr) (xs : List Int) (s7 : Slot), env = [.fz (.sc ns), .ow (.lst (xs.map .int)), .fz (.int x), .fz (.lst (ws.map .str)), .fz (.tup (js.map eJ)), .fz (.int mv), .ow (.lst (sc.map eP)), s7, s8] ∧ fre s7 = true ∧ sc.map (·.1) = ps.take k) ⟨[], xs3, s7, rfl, f7, rfl⟩ ?_ ?_
    · rintro j p env hp ⟨sc, xs, s7, rfl, f7, hsc⟩
      have hj2 := (List.getElem?_eq_some_iff.mp hp).1
      have hscl : (sc.map eP).length ≤ 10 := by
        have := congrArg List.length hsc
        rw [List.length_map, List.length_take] at this
        rw [List.length_map]
        omega
      walk_at "st"
      rename_i q xs4 q0 q1
      rw [ev_append (by omega)]
      walk_at "st"
      refine ⟨sc ++ [(p, (q - 3 + mv) * if p = S [115, 116, 97, 114, 116] then 0 else 1)], xs4, .fz (.str p), ?_, rfl, ?_⟩
      · rw [List.map_append]; rfl
      · rw [List.map_append, hsc, List.take_add_one, hp]; rfl
    rintro env ⟨sc, xs, s7, rfl, f7, hsc⟩
    rw [List.take_length] at hsc
    have hscl : sc.length ≤ 10 := by
      have := congrArg List.length hsc
      rw [List.length_map] at this
      omega
    have hJ : JIn sc js := fun j h => by rw [hsc]; exact hpm _ (hTm _ (hj j h).1)
    have hnd' : (sc.map (·.1)).Nodup := by rw [hsc]; exact hnd
    have e1 := load_eq (s := sc) (js := js) (by omega) hnd' (by omega) hJ
    have e2 := peak_eq (s := sc) (js := js) (by omega) hnd' (by omega) hJ
    have e3 := steps_eq (s := sc) (js := js) (by omega) (by omega) hJ
    have e5 := lpeak_eq (s := sc) (js := js) (by omega) (by omega) hJ
    rw [peak_same fun j h => (hj j h).2] at e2
    have hpl2 : pln 8 (.lst [.tup ((stepsOf sc js).map eQ), .int (maxI (0 :: js.map fun j => run sc js (tm sc j.1)))]) = true := by
      have hsl : (stepsOf sc js).length ≤ 1000 := by
        have := moms_len (s := sc) (js := js)
        have := stp_len (f := run sc js) (ts := moms sc js) (b := 0)
        unfold stepsOf
        omega
      have h1 := pln_steps (n := 4) hsl
      unfold pln
      rw [plnL_iff.mpr fun d hd => by
        simp only [List.mem_cons, List.not_mem_nil, or_false] at hd
        rcases hd with rfl | rfl
        · exact h1
        · rfl]
      rfl
    generalize stepsOf sc js = A at e1 e3 hpl2
    generalize maxI (0 :: js.map fun j => run sc js (tm sc j.1)) = M at e2 e5 hpl2
    walk_at "st"
    rw [e1]
    walk_at "st"
    rw [e2]
    walk_at "st"
    rw [e3]
    walk_at "st"
    rw [e5]
    walk_at "st"
    rw [same_ok hpl2]
    walk_at "st"
    exact ⟨xs, _, _, _, _, _, _, _, rfl, rfl, rfl, rfl, rfl, rfl, f7, rfl⟩
  rintro env ⟨xs, s2, s3, s4, s5, s6, s7, s8, rfl, f2, f3, f4, f5, f6, f7, f8⟩
  walk_at "st"
  refine gv_bind (words_gv xs 2 (by omega) (by omega)) ?_
  rintro _ ⟨ws, xs, rfl, hl, hd, hw⟩
  have hl2 : ws.length = 2 := hl
  walk_at "st"
  rw [sorted_str0 (by omega)]
  have hsp : (sortS ws).Perm ws := List.mergeSort_perm _ _
  have hsl : (sortS ws).length = 2 := by rw [hsp.length_eq, hl2]
  have hsd : (sortS ws).Nodup := hsp.nodup_iff.mpr hd
  have hsn : ∀ y ∈ sortS ws, y ≠ St := fun y h => (hw y (hsp.mem_iff.mp h)).st
  generalize sortS ws = vs at hsl hsd hsn
  obtain ⟨a, b, rfl⟩ : ∃ a b, vs = [a, b] := by
    match vs, hsl with
    | [a, b], _ => exact ⟨a, b, rfl⟩
  have hab : a ≠ b := fun e => by
    rw [e] at hsd
    exact (List.nodup_cons.mp hsd).1 List.mem_cons_self
  have ha := hsn a List.mem_cons_self
  have hb := hsn b (List.mem_cons_of_mem _ List.mem_cons_self)
  have g0 : gIx (.lst ([a, b].map D.str)) (.int 0) = some (.str a) := ev_i0_lst
  have g1 : gIx (.lst ([a, b].map D.str)) (.int 1) = some (.str b) := ev_i1_lst
  walk_at "st"
  rw [g0]
  walk_at "st"
  rw [g1]
  walk_at "st"
  rw [points_eq (by show 2 ≤ 60; decide)]
  have hpm : ∀ p, p ∈ ptsOf [a, b] ↔ p ∈ [a, b] ++ [St] := fun p => (pts_perm _).mem_iff
  have hnd : (ptsOf [a, b]).Nodup := (pts_perm _).nodup_iff.mpr (by
    rw [List.nodup_append]
    refine ⟨hsd, List.nodup_cons.mpr ⟨List.not_mem_nil, List.nodup_nil⟩, fun x hx y hy e => ?_⟩
    rw [List.mem_singleton.mp hy] at e
    exact hsn x hx e)
  have hpl : (ptsOf [a, b]).length = 3 := pts_len _
  generalize ptsOf [a, b] = ps at hpm hnd hpl
  obtain ⟨T, hT⟩ : ∃ T : Str → Int, T = fun p => ([0, 5, 8] : List Int).getD ([St, a, b].idxOf p) 0 := ⟨_, rfl⟩
  have hTix : ∀ p ∈ ps, ∃ k : Nat, gIndex (.lst [.str (S [115, 116, 97, 114, 116]), .str a, .str b]) (.str p) = some (.int (k : Nat)) ∧ gIx (.lst [.int 0, .int 5, .int 8]) (.int (k : Nat)) = some (.int (T p)) := fun p hp => by
    have hm : p ∈ [St, a, b] := by
      have := (hpm p).mp hp
      simp only [List.mem_append, List.mem_cons, List.not_mem_nil, or_false] at this ⊢
      rcases this with (h | h) | h
      · exact .inr (.inl h)
      · exact .inr (.inr h)
      · exact .inl h
    refine ⟨[St, a, b].idxOf p, ix_genL D.str (fun a b => by show (a == b) = _; rw [Bool.eq_iff_iff]; simp) (fun _ => rfl) hm, ?_⟩
    have hlt : [St, a, b].idxOf p < 3 := List.idxOf_lt_length_of_mem hm
    rw [hT]
    show _ = some (D.int (([0, 5, 8] : List Int).getD ([St, a, b].idxOf p) 0))
    generalize [St, a, b].idxOf p = k at hlt
    match k, hlt with
    | 0, _ => exact ev_i0_lst
    | 1, _ => exact ev_i1_lst
    | 2, _ => exact ev_i2_lst
  have hTa : T a = 5 := by
    rw [hT]
    show ([0, 5, 8] : List Int).getD ([St, a, b].idxOf a) 0 = 5
    have e : [St, a, b].idxOf a = 1 := by
      have h1 : (St == a) = false := beq_eq_false_iff_ne.mpr (Ne.symm ha)
      simp [List.idxOf_cons, h1]
    rw [e]; rfl
  have hTb : T b = 8 := by
    rw [hT]
    show ([0, 5, 8] : List Int).getD ([St, a, b].idxOf b) 0 = 8
    have e : [St, a, b].idxOf b = 2 := by
      have h1 : (St == b) = false := beq_eq_false_iff_ne.mpr (Ne.symm hb)
      have h2 : (a == b) = false := beq_eq_false_iff_ne.mpr hab
      simp [List.idxOf_cons, h1, h2]
    rw [e]; rfl
  walk_at "st"
  refine gv_for D.str (fun i env => ∃ s7 : Slot, env = [.fz (.sc ns), .ow (.lst (xs.map .int)), s2, .fz (.lst ([a, b].map .str)), .fz (.tup [.tup [.str a, .int 3, .int 2], .tup [.str b, .int 4, .int 2]]), s5, s6, s7, .ow (.lst (((ps.take i).map fun p => ((p, T p) : Pr)).map eP))] ∧ fre s7 = true) ⟨s7, rfl, f7⟩ ?_ ?_
  · rintro i p env hp ⟨s7, rfl, f7⟩
    obtain ⟨k, k1, k2⟩ := hTix p (List.mem_of_getElem? hp)
    have hscl : (((ps.take i).map fun p => ((p, T p) : Pr)).map eP).length ≤ 10 := by
      rw [List.length_map, List.length_map, List.length_take]; omega
    rw [List.take_add_one, hp, List.map_append]
    generalize (ps.take i).map (fun p => ((p, T p) : Pr)) = sc at hscl
    walk_at "st"
    rw [g0]
    walk_at "st"
    rw [g1]
    walk_at "st"
    rw [k1]
    walk_at "st"
    rw [k2]
    walk_at "st"
    rw [ev_append (by omega)]
    walk_at "st"
    refine ⟨.fz (.str p), ?_, rfl⟩
    rw [List.map_append]; rfl
  rintro env ⟨s7, rfl, f7⟩
  rw [List.take_length]
  have htm : ∀ x ∈ ps, tm (ps.map fun p => ((p, T p) : Pr)) x = T x := fun x hx => tm_eq (p := (x, T x)) (by rw [List.map_map]; show (ps.map fun x => x).Nodup; rw [List.map_id']; exact hnd) (List.mem_map.mpr ⟨x, hx, rfl⟩)
  have hnm : ((ps.map fun p => ((p, T p) : Pr)).map (·.1)) = ps := by rw [List.map_map]; show (ps.map fun x => x) = ps; rw [List.map_id']
  have hma : a ∈ ps := (hpm a).mpr (List.mem_append_left _ List.mem_cons_self)
  have hmb : b ∈ ps := (hpm b).mpr (List.mem_append_left _ (List.mem_cons_of_mem _ List.mem_cons_self))
  have hscl : (ps.map fun p => ((p, T p) : Pr)).length ≤ 10 := by rw [List.length_map]; omega
  have eta := (htm a hma).trans hTa
  have etb := (htm b hmb).trans hTb
  have hnd2 : ((ps.map fun p => ((p, T p) : Pr)).map (·.1)).Nodup := by rw [hnm]; exact hnd
  have hJ : JIn (ps.map fun p => ((p, T p) : Pr)) [(a, 3, 2), (b, 4, 2)] := fun j hj => by
    rw [hnm]
    simp only [List.mem_cons, List.not_mem_nil, or_false] at hj
    rcases hj with rfl | rfl
    · exact hma
    · exact hmb
  have hJ0 : JIn (ps.map fun p => ((p, T p) : Pr)) [] := fun j hj => by cases hj
  generalize ps.map (fun p => ((p, T p) : Pr)) = sc at hscl eta etb hnd2 hJ hJ0
  have e1 := load_eq (s := sc) (js := [(a, 3, 2), (b, 4, 2)]) (by omega) hnd2 (by show 2 ≤ 30; decide) hJ
  have e2 := load_eq (s := sc) (js := []) (by omega) hnd2 (by show 0 ≤ 30; decide) hJ0
  have hst0 : stepsOf sc [] = [] := by
    unfold stepsOf moms momL
    simp [ddI, sortI, stp]
  have hst : stepsOf sc [(a, 3, 2), (b, 4, 2)] = [(5, 2), (12, 0)] := by
    have hmo : moms sc [(a, 3, 2), (b, 4, 2)] = [5, 8, 12] := by
      unfold moms
      rw [show momL sc [(a, 3, 2), (b, 4, 2)] = [5, 8, 8, 12] by
        show [tm sc a, tm sc a + 3] ++ ([tm sc b, tm sc b + 4] ++ []) = _
        rw [eta, etb]; rfl]
      exact (sortI_eq (List.Perm.refl [5, 8, 12]) (by decide)).symm
    have hrun : ∀ t, run sc [(a, 3, 2), (b, 4, 2)] t = (if 5 ≤ t ∧ t < 8 then 2 else 0) + (if 8 ≤ t ∧ t < 12 then 2 else 0) := fun t => by
      have z1 : run sc [(a, 3, 2), (b, 4, 2)] t = run sc [(a, 3, 2)] t + 2 * (if onJ sc t (b, 4, 2) = true then 1 else 0) := run_snoc (js := [(a, 3, 2)]) (j := (b, 4, 2))
      have z2 : run sc [(a, 3, 2)] t = run sc [] t + 2 * (if onJ sc t (a, 3, 2) = true then 1 else 0) := run_snoc (js := []) (j := (a, 3, 2))
      have z3 : run sc [] t = 0 := rfl
      have o1 : (onJ sc t (a, 3, 2) = true) ↔ (5 ≤ t ∧ t < 8) := by
        unfold onJ
        simp only [Bool.and_eq_true, decide_eq_true_eq, eta]
        omega
      have o2 : (onJ sc t (b, 4, 2) = true) ↔ (8 ≤ t ∧ t < 12) := by
        unfold onJ
        simp only [Bool.and_eq_true, decide_eq_true_eq, etb]
        omega
      rw [z1, z2, z3]
      simp only [o1, o2]
      split <;> split <;> omega
    unfold stepsOf
    rw [hmo]
    simp [stp, hrun]
  rw [hst] at e1
  rw [hst0] at e2
  have e1 : F_load [.tup [.tup [.str a, .int 3, .int 2], .tup [.str b, .int 4, .int 2]], .tup (sc.map eP)] = some (.tup [.tup [.int 5, .int 2], .tup [.int 12, .int 0]], [.non, .non]) := e1
  have e2 : F_load [.tup [], .tup (sc.map eP)] = some (.tup [], [.non, .non]) := e2
  walk_at "st"
  rw [e1]
  walk_at "st"
  rw [same_ok rfl]
  walk_at "st"
  rw [e2]
  walk_at "st"
  rw [same_ok rfl]
  walk_at "st"
  try rfl

end Lw

open PySem PySem.W PyProof.Rows
set_option maxRecDepth 100000 in
set_option maxHeartbeats 0 in
theorem PySem.Challenge.cw_timesagree_k67_loads_and_peaks_holds : PySem.Challenge.rw_timesagree_k67_loads_and_peaks.Holds := by
  w_on; o_law; k_head; (case hw => w_witness2)
  k_fill
  refine L2.walk_of (l := PySem.Challenge.rw_timesagree_k67_loads_and_peaks) (n := 63) (k := 9) (x := "script") (CX := fun _ => L2.CX0) (sp := fun w => Z.spD _ [.v] false Lw.F_law) rfl (by decide) rfl ⟨rfl, by decide, by decide⟩ (fun w h Y => PySem.W.kIn_of Y) ?F (fun _ _ a ns hl _ hS => (Lw.main ns hl).elim fun _ h => Z.law_end h hS) (fun _ _ _ _ _ h => h)
  case F =>
    intro w mg fa h KX G hmg
    refine' Lw.all_mk KX G hmg ?a0 ?l0 ?c0 ?k0 ?a1 ?l1 ?c1 ?k1 ?a2 ?l2 ?c2 ?k2 ?a3 ?l3 ?c3 ?k3 ?a4 ?l4 ?c4 ?k4 ?a5 ?l5 ?c5 ?k5 ?a6 ?l6 ?c6 ?k6 ?a7 ?l7 ?c7 ?k7 ?a8 ?l8 ?c8 ?k8 ?a9 ?l9 ?c9 ?k9 ?a10 ?l10 ?c10 ?k10 ?a11 ?l11 ?c11 ?k11 ?a12 ?l12 ?c12 ?k12 ?a13 ?l13 ?c13 ?k13 ?a14 ?l14 ?c14 ?k14 ?a15 ?l15 ?c15 ?k15 ?z_bool ?z_int ?z_isinstance ?z_len ?z_list ?z_max ?z_range ?z_set ?z_sorted ?z_str ?z_sum ?z_tuple
    (case a0 => k_is)
    (case l0 => k_is)
    (case c0 => k_is)
    (case k0 => k_is)
    (case a1 => k_is)
    (case l1 => k_is)
    (case c1 => k_is)
    (case k1 => k_is)
    (case a2 => k_is)
    (case l2 => k_is)
    (case c2 => k_is)
    (case k2 => k_is)
    (case a3 => k_is)
    (case l3 => k_is)
    (case c3 => k_is)
    (case k3 => k_is)
    (case a4 => k_is)
    (case l4 => k_is)
    (case c4 => k_is)
    (case k4 => k_is)
    (case a5 => k_is)
    (case l5 => k_is)
    (case c5 => k_is)
    (case k5 => k_is)
    (case a6 => k_is)
    (case l6 => k_is)
    (case c6 => k_is)
    (case k6 => k_is)
    (case a7 => k_is)
    (case l7 => k_is)
    (case c7 => k_is)
    (case k7 => k_is)
    (case a8 => k_is)
    (case l8 => k_is)
    (case c8 => k_is)
    (case k8 => k_is)
    (case a9 => k_is)
    (case l9 => k_is)
    (case c9 => k_is)
    (case k9 => k_is)
    (case a10 => k_is)
    (case l10 => k_is)
    (case c10 => k_is)
    (case k10 => k_is)
    (case a11 => k_is)
    (case l11 => k_is)
    (case c11 => k_is)
    (case k11 => k_is)
    (case a12 => k_is)
    (case l12 => k_is)
    (case c12 => k_is)
    (case k12 => k_is)
    (case a13 => k_is)
    (case l13 => k_is)
    (case c13 => k_is)
    (case k13 => k_is)
    (case a14 => k_is)
    (case l14 => k_is)
    (case c14 => k_is)
    (case k14 => k_is)
    (case a15 => k_is)
    (case l15 => k_is)
    (case c15 => k_is)
    (case k15 => k_is)
    (case z_bool => k_is)
    (case z_int => k_is)
    (case z_isinstance => k_is)
    (case z_len => k_is)
    (case z_list => k_is)
    (case z_max => k_is)
    (case z_range => k_is)
    (case z_set => k_is)
    (case z_sorted => k_is)
    (case z_str => k_is)
    (case z_sum => k_is)
    (case z_tuple => k_is)

