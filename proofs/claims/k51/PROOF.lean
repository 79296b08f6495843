import PyProof.Rows.All
import Wide.All
import OpenK.AllK
import Wide.FinOn
import HandS.ForMost
import HandS.Exc
import HandS.ExcOwn
import HandS.WordsExc
import HandS.Walk
import HandS.TupAny
import HandS.Wide
import HandS.Lambda
import KE.SortData
import KE.SortKeyHeap
import HandS.Style
import HandS.SetKeys
import HandS.More
import HandS.Conv
import HandS.IsInst
import HandS.SortRule
import HandS.SortInts
import HandS.Set
import HandS.SetFor
import PyProof.Rows.SetFrom
import HandS.HeadEnd
import HandS.HeadHook2
import HandS.Head2
import HandS.ExcCtx
import HandS.DictTup
import HandS.HeadHook1
import KE.GoesEnum
import KE.GoesMore
import HandS.Zip
import KE.KDictPairs
import KE.KRevSl
import PySem.Challenge.RW_calltimes_k51_whole_looks_and_times
set_option Elab.async false
set_option linter.all false
set_option maxRecDepth 100000
set_option maxHeartbeats 2000000
/-! VS1: data values D, how the abstract heap bears them (Rep), heaps that grow (Grow), slots (Sl, Sim). -/
namespace VS
open PySem L2 LamX

inductive D where
  | non | bl (b : Bool) | int (i : Int) | str (s : Str) | tup (ds : List D) | lst (ds : List D)
  | dK (kvs : List (Key × D)) | dT (kvs : List (List Key × D))
  /-- the script: read by place, its length -/
  | scr (ns : List Int)

/-- what data stand on: lists, tuples, dicts -/
def Plain : HO → Prop
  | .lst _ => True | .tup _ => True | .dK _ => True | .dT _ => True | _ => False
structure RdLe (Z Z' : Hp) : Prop where
  l : ∀ a vs, Z a = some (.lst vs) → Z' a = some (.lst vs)
  u : ∀ a vs, Z a = some (.tup vs) → Z' a = some (.tup vs)
  r : ∀ a u, Plain u → Rd Z a u → Rd Z' a u
theorem RdLe.refl (Z : Hp) : RdLe Z Z := ⟨fun _ _ h => h, fun _ _ h => h, fun _ _ _ h => h⟩
theorem RdLe.trans {Z Z1 Z2 : Hp} (a : RdLe Z Z1) (b : RdLe Z1 Z2) : RdLe Z Z2 := ⟨fun x u h => b.l x u (a.l x u h), fun x u h => b.u x u (a.u x u h), fun x u p h => b.r x u p (a.r x u p h)⟩

mutual
inductive Rep (K : PySem.W.Frag) (Z : Hp) : V → D → Prop
  | non : Rep K Z .non .non
  | bl (b : Bool) : Rep K Z (.bl b) (.bl b)
  | int (i : Int) : Rep K Z (.int i) (.int i)
  | str (x : Str) : Rep K Z (.str x) (.str x)
  | tup {a : Addr} {vs : List V} {ds : List D} : Z a = some (.tup vs) → Reps K Z vs ds → Rep K Z (.ref a) (.tup ds)
  | lst {a : Addr} {vs : List V} {ds : List D} : Z a = some (.lst vs) → Reps K Z vs ds → Rep K Z (.ref a) (.lst ds)
  | dK {a : Addr} {vs : List (Key × V)} {ds : List (Key × D)} : Rd Z a (.dK vs) → RepsP K Z vs ds → Rep K Z (.ref a) (.dK ds)
  | dT {a : Addr} {vs : List (List Key × V)} {ds : List (List Key × D)} : Rd Z a (.dT vs) → RepsQ K Z vs ds → Rep K Z (.ref a) (.dT ds)
  | scr {a : Addr} {ns : List Int} : SqL K Z a (ns.map V.int) → Rep K Z (.ref a) (.scr ns)
inductive Reps (K : PySem.W.Frag) (Z : Hp) : List V → List D → Prop
  | nil : Reps K Z [] []
  | cons {v : V} {vs : List V} {d : D} {ds : List D} : Rep K Z v d → Reps K Z vs ds → Reps K Z (v :: vs) (d :: ds)
inductive RepsP (K : PySem.W.Frag) (Z : Hp) : List (Key × V) → List (Key × D) → Prop
  | nil : RepsP K Z [] []
  | cons {k : Key} {v : V} {vs : List (Key × V)} {d : D} {ds : List (Key × D)} : Rep K Z v d → RepsP K Z vs ds → RepsP K Z ((k, v) :: vs) ((k, d) :: ds)
inductive RepsQ (K : PySem.W.Frag) (Z : Hp) : List (List Key × V) → List (List Key × D) → Prop
  | nil : RepsQ K Z [] []
  | cons {k : List Key} {v : V} {vs : List (List Key × V)} {d : D} {ds : List (List Key × D)} : Rep K Z v d → RepsQ K Z vs ds → RepsQ K Z ((k, v) :: vs) ((k, d) :: ds)
end

section
variable {K : PySem.W.Frag} {Z Z' : Hp}
theorem sqL_le (e : RdLe Z Z') {a : Addr} {vs : List V} (h : SqL K Z a vs) : SqL K Z' a vs := by
  rcases h with h | h
  · exact .inl (e.r _ _ trivial h)
  · exact .inr h
theorem sqT_le (e : RdLe Z Z') {a : Addr} {vs : List V} (h : SqT K Z a vs) : SqT K Z' a vs := by
  rcases h with h | h
  · exact .inl (e.r _ _ trivial h)
  · exact .inr h
mutual
theorem Rep.le (e : RdLe Z Z') : ∀ (d : D) (v : V), Rep K Z v d → Rep K Z' v d
  | .non, _, h => by cases h; exact .non
  | .bl b, _, h => by cases h; exact .bl b
  | .int i, _, h => by cases h; exact .int i
  | .str s, _, h => by cases h; exact .str s
  | .tup ds, _, h => by cases h with | tup h1 h2 => exact .tup (e.u _ _ h1) (Reps.le e ds _ h2)
  | .lst ds, _, h => by cases h with | lst h1 h2 => exact .lst (e.l _ _ h1) (Reps.le e ds _ h2)
  | .dK ds, _, h => by cases h with | dK h1 h2 => exact .dK (e.r _ _ trivial h1) (RepsP.le e ds _ h2)
  | .dT ds, _, h => by cases h with | dT h1 h2 => exact .dT (e.r _ _ trivial h1) (RepsQ.le e ds _ h2)
  | .scr ns, _, h => by cases h with | scr h1 => exact .scr (sqL_le e h1)
theorem Reps.le (e : RdLe Z Z') : ∀ (ds : List D) (vs : List V), Reps K Z vs ds → Reps K Z' vs ds
  | [], _, h => by cases h; exact .nil
  | d :: ds, _, h => by cases h with | cons h1 h2 => exact .cons (Rep.le e d _ h1) (Reps.le e ds _ h2)
theorem RepsP.le (e : RdLe Z Z') : ∀ (ds : List (Key × D)) (vs : List (Key × V)), RepsP K Z vs ds → RepsP K Z' vs ds
  | [], _, h => by cases h; exact .nil
  | (_, d) :: ds, _, h => by cases h with | cons h1 h2 => exact .cons (Rep.le e d _ h1) (RepsP.le e ds _ h2)
theorem RepsQ.le (e : RdLe Z Z') : ∀ (ds : List (List Key × D)) (vs : List (List Key × V)), RepsQ K Z vs ds → RepsQ K Z' vs ds
  | [], _, h => by cases h; exact .nil
  | (_, d) :: ds, _, h => by cases h with | cons h1 h2 => exact .cons (Rep.le e d _ h1) (RepsQ.le e ds _ h2)
end
theorem Reps.length : ∀ {ds : List D} {vs : List V}, Reps K Z vs ds → vs.length = ds.length
  | [], _, h => by cases h; rfl
  | d :: ds, _, h => by cases h with | cons h1 h2 => simp [Reps.length h2]
theorem Reps.get : ∀ {ds : List D} {vs : List V} {i : Nat} {d : D}, Reps K Z vs ds → ds[i]? = some d → ∃ v, vs[i]? = some v ∧ Rep K Z v d
  | [], _, _, _, _, e => by simp at e
  | d :: ds, _, 0, _, h, e => by
    cases h with | cons h1 h2 => simp at e; subst e; exact ⟨_, rfl, h1⟩
  | d :: ds, _, i + 1, _, h, e => by
    cases h with | cons h1 h2 => simp at e; obtain ⟨v, a, b⟩ := Reps.get h2 e; exact ⟨v, by simpa using a, b⟩
theorem Reps.getV : ∀ {ds : List D} {vs : List V} {i : Nat} {v : V}, Reps K Z vs ds → vs[i]? = some v → ∃ d, ds[i]? = some d ∧ Rep K Z v d
  | [], _, _, _, h, e => by cases h; simp at e
  | d :: ds, _, 0, _, h, e => by
    cases h with | cons h1 h2 => simp at e; subst e; exact ⟨_, rfl, h1⟩
  | d :: ds, _, i + 1, _, h, e => by
    cases h with | cons h1 h2 => simp at e; obtain ⟨v, a, b⟩ := Reps.getV h2 e; exact ⟨v, by simpa using a, b⟩
theorem Reps.append : ∀ {ds es : List D} {vs us : List V}, Reps K Z vs ds → Reps K Z us es → Reps K Z (vs ++ us) (ds ++ es)
  | [], _, _, _, h, q => by cases h; exact q
  | d :: ds, _, _, _, h, q => by cases h with | cons h1 h2 => exact .cons h1 (Reps.append h2 q)
theorem Reps.take : ∀ {ds : List D} {vs : List V} (n : Nat), Reps K Z vs ds → Reps K Z (vs.take n) (ds.take n)
  | _, _, 0, _ => .nil
  | [], _, n + 1, h => by cases h; exact .nil
  | d :: ds, _, n + 1, h => by cases h with | cons h1 h2 => exact .cons h1 (Reps.take n h2)
theorem Reps.drop : ∀ {ds : List D} {vs : List V} (n : Nat), Reps K Z vs ds → Reps K Z (vs.drop n) (ds.drop n)
  | _, _, 0, h => h
  | [], _, n + 1, h => by cases h; exact .nil
  | d :: ds, _, n + 1, h => by cases h with | cons h1 h2 => exact Reps.drop n h2
theorem Reps.dropLast {ds : List D} {vs : List V} (h : Reps K Z vs ds) : Reps K Z vs.dropLast ds.dropLast := by
  rw [List.dropLast_eq_take, List.dropLast_eq_take, h.length]; exact h.take _
theorem Reps.reverse {ds : List D} {vs : List V} (h : Reps K Z vs ds) : Reps K Z vs.reverse ds.reverse := by
  induction ds generalizing vs with
  | nil => cases h; exact .nil
  | cons d ds ih => cases h with | cons h1 h2 => rw [List.reverse_cons, List.reverse_cons]; exact (ih h2).append (.cons h1 .nil)
theorem Reps.set : ∀ {ds : List D} {vs : List V} {v : V} {d : D} (i : Nat), Reps K Z vs ds → Rep K Z v d → Reps K Z (vs.set i v) (ds.set i d)
  | [], _, _, _, _, h, _ => by cases h; exact .nil
  | d :: ds, _, _, _, 0, h, q => by cases h with | cons h1 h2 => exact .cons q h2
  | d :: ds, _, _, _, i + 1, h, q => by cases h with | cons h1 h2 => exact .cons h1 (Reps.set i h2 q)
theorem Reps.rep {ds : List D} {vs : List V} (h : Reps K Z vs ds) : ∀ n : Nat, Reps K Z (List.replicate n vs).flatten (List.replicate n ds).flatten
  | 0 => .nil
  | n + 1 => by rw [List.replicate_succ, List.replicate_succ, List.flatten_cons, List.flatten_cons]; exact h.append (Reps.rep h n)
theorem Reps.eraseIdx : ∀ {ds : List D} {vs : List V} (i : Nat), Reps K Z vs ds → Reps K Z (vs.eraseIdx i) (ds.eraseIdx i)
  | [], _, _, h => by cases h; exact .nil
  | d :: ds, _, 0, h => by cases h with | cons h1 h2 => exact h2
  | d :: ds, _, i + 1, h => by cases h with | cons h1 h2 => exact .cons h1 (Reps.eraseIdx i h2)
end

/-! ### heaps that grow -/
def NoTb (o : HO) : Prop := ∀ ps, o ≠ .tbl ps
def Sub (Z H : Hp) : Prop := ∀ a o, Z a = some o → H a = some o
/-- what may change by one's own writes -/
def Prot (H : Hp) (a : Addr) : Prop := ∃ o, H a = some o ∧ NoTb o ∧ ∀ xs, o ≠ .tup xs
structure Grow (T : List (Addr × Str)) (Z H Z' H' : Hp) : Prop where
  z : Sub Z Z'
  h : ExtN H H'
  s : Sub Z' H'
  n : ∀ a o, Z' a = some o → NoTb o
  p : ∀ a, Z a = none → Prot H a → Z' a = none
  t : Tabs T H → Tabs T H'
section
variable {T : List (Addr × Str)} {Z H Z1 H1 Z2 H2 : Hp}
theorem Sub.refl (Z : Hp) : Sub Z Z := fun _ _ h => h
theorem Sub.trans (a : Sub Z Z1) (b : Sub Z1 Z2) : Sub Z Z2 := fun x o h => b x o (a x o h)
theorem Prot.ext {a : Addr} (e : ExtN H H1) (h : Prot H a) : Prot H1 a := by
  obtain ⟨o, h1, h2, h3⟩ := h
  exact ⟨o, e a o h1 h2, h2, h3⟩
theorem Grow.refl (s : Sub Z H) (n : ∀ a o, Z a = some o → NoTb o) : Grow T Z H Z H := ⟨Sub.refl _, ExtN.refl _, s, n, fun _ h _ => h, id⟩
theorem Grow.trans (a : Grow T Z H Z1 H1) (b : Grow T Z1 H1 Z2 H2) : Grow T Z H Z2 H2 :=
  ⟨a.z.trans b.z, a.h.trans b.h, b.s, b.n, fun x h q => b.p x (a.p x h q) (q.ext a.h), fun t => b.t (a.t t)⟩
theorem rd_sub (s : Sub Z H) {a : Addr} {u : HO} (h : Rd Z a u) : Rd H a u := by
  rcases h with h | ⟨o, h⟩
  · exact .inl (s _ _ h)
  · exact .inr ⟨o, s _ _ h⟩
theorem Sub.le (s : Sub Z H) : RdLe Z H := ⟨fun _ _ h => s _ _ h, fun _ _ h => s _ _ h, fun _ _ _ h => rd_sub s h⟩
theorem Tabs.new {p : Addr} {o : HO} (hp : H p = none) (t : Tabs T H) : Tabs T (upd H p o) :=
  t.ext fun b u e => by rw [upd_ne (ne_of_none e hp)]; exact e
theorem ext_new {p : Addr} {o : HO} (hp : H p = none) : ExtN H (upd H p o) := fun b u e _ => by rw [upd_ne (ne_of_none e hp)]; exact e
/-- a new object, not frozen -/
theorem grow_new {p : Addr} {o : HO} (s : Sub Z H) (n : ∀ a o, Z a = some o → NoTb o) (hp : H p = none) : Grow T Z H Z (upd H p o) :=
  ⟨Sub.refl _, ext_new hp, fun a u e => by rw [upd_ne (ne_of_none (s _ _ e) hp)]; exact s _ _ e, n, fun _ h _ => h, fun t => Tabs.new hp t⟩
/-- an object is frozen -/
theorem grow_frz {p : Addr} {o : HO} (s : Sub Z H) (n : ∀ a o, Z a = some o → NoTb o) (hp : Z p = none) (ho : H p = some o) (nt : NoTb o) {Z0 H0 : Hp} (g : Grow T Z0 H0 Z H) (np : ¬ Prot H0 p) : Grow T Z0 H0 (upd Z p o) H :=
  ⟨fun a u e => by rw [upd_ne (ne_of_none (g.z _ _ e) hp)]; exact g.z _ _ e, g.h, fun a u e => by
      by_cases h : a = p
      · subst h; rw [upd_same] at e; cases e; exact ho
      · rw [upd_ne h] at e; exact s _ _ e,
    fun a u e => by
      by_cases h : a = p
      · subst h; rw [upd_same] at e; cases e; exact nt
      · rw [upd_ne h] at e; exact n _ _ e,
    fun a h q => by
      have : a ≠ p := fun e => np (e ▸ q)
      rw [upd_ne this]; exact g.p a h q, g.t⟩
theorem nprot_none {p : Addr} (h : H p = none) : ¬ Prot H p := fun ⟨o, e, _⟩ => by rw [h] at e; cases e
theorem sub_none (s : Sub Z H) {p : Addr} (h : H p = none) : Z p = none := by
  cases e : Z p with
  | none => rfl
  | some o => rw [s _ _ e] at h; cases h
theorem nprot_ext (e : ExtN H H1) {p : Addr} (h : ¬ Prot H1 p) : ¬ Prot H p := fun q => h (q.ext e)
/-- a new frozen object -/
theorem grow_newz {p : Addr} {o : HO} (s : Sub Z H) (n : ∀ a o, Z a = some o → NoTb o) (hp : H p = none) (nt : NoTb o) : Grow T Z H (upd Z p o) (upd H p o) :=
  grow_frz (fun a u e => by rw [upd_ne (ne_of_none (s _ _ e) hp)]; exact s _ _ e) n (sub_none s hp) upd_same nt (grow_new s n hp) (nprot_none hp)
theorem sub_upd {p : Addr} {o : HO} (hp : Z p = none) : Sub Z (upd Z p o) := fun a u e => by rw [upd_ne (ne_of_none e hp)]; exact e
end
end VS

set_option Elab.async false
set_option linter.all false
set_option maxRecDepth 100000
set_option maxHeartbeats 2000000
/-! VS2: slots, what is simulated, what a reading tells (Den). -/
namespace VS
open PySem L2 LamX

/-- what a slot holds: nothing known, frozen data, a list or a dict of one's own -/
inductive Sl where
  | un | im (d : D) | ow (ds : List D) | oK (kvs : List (Key × D)) | oT (kvs : List (List Key × D))
  /-- a dict lent by the caller, at its place -/
  | bK (a : Addr) (kvs : List (Key × D))
abbrev Env := List Sl

/-- the answer of a piece of code: a value, an exception's class, not told -/
inductive R (α : Type) where
  | ok (a : α) | ex (c : Str) | no
namespace R
variable {α β : Type}
@[reducible] def bind : R α → (α → R β) → R β
  | .ok a, f => f a | .ex c, _ => .ex c | .no, _ => .no
instance : Monad R where
  pure := .ok
  bind := R.bind
@[simp] theorem ok_bind (a : α) (f : α → R β) : (R.ok a >>= f) = f a := rfl
@[simp] theorem ex_bind (c : Str) (f : α → R β) : (R.ex c >>= f) = .ex c := rfl
@[simp] theorem no_bind (f : α → R β) : ((R.no : R α) >>= f) = .no := rfl
@[simp] theorem pure_eq (a : α) : (pure a : R α) = .ok a := rfl
end R

section
variable (K : PySem.W.Frag) (Z H : Hp)
/-- the slot's own thing stands at a -/
inductive OwnAt : Addr → Sl → Prop
  | ow {a : Addr} {vs : List V} {ds : List D} : H a = some (.lst vs) → Z a = none → Reps K Z vs ds → OwnAt a (.ow ds)
  | oK {a : Addr} {vs : List (Key × V)} {ds : List (Key × D)} : H a = some (.dK vs) → Z a = none → RepsP K Z vs ds → OwnAt a (.oK ds)
  | oT {a : Addr} {vs : List (List Key × V)} {ds : List (List Key × D)} : H a = some (.dT vs) → Z a = none → RepsQ K Z vs ds → OwnAt a (.oT ds)
  | bK {a : Addr} {vs : List (Key × V)} {ds : List (Key × D)} : H a = some (.dK vs) → Z a = none → RepsP K Z vs ds → OwnAt a (.bK a ds)
inductive SimSl : Option V → Sl → Prop
  | un {o : Option V} : SimSl o .un
  | im {v : V} {d : D} : Rep K Z v d → SimSl (some v) (.im d)
  | own {a : Addr} {sl : Sl} : OwnAt K Z H a sl → SimSl (some (.ref a)) sl
end
def isOwn : Sl → Bool
  | .ow _ => true | .oK _ => true | .oT _ => true | .bK _ _ => true | _ => false
section
variable {K : PySem.W.Frag} {T : List (Addr × Str)} {Z H Z' H' Z0 H0 : Hp}
theorem nt_lst (vs : List V) : NoTb (.lst vs) := fun _ q => by cases q
theorem nt_tup (vs : List V) : NoTb (.tup vs) := fun _ q => by cases q
theorem nt_dK (vs : List (Key × V)) : NoTb (.dK vs) := fun _ q => by cases q
theorem nt_dT (vs : List (List Key × V)) : NoTb (.dT vs) := fun _ q => by cases q
theorem pr_lst {a : Addr} {vs : List V} (h : H a = some (.lst vs)) : Prot H a := ⟨_, h, nt_lst _, fun _ q => by cases q⟩
theorem pr_dK {a : Addr} {vs : List (Key × V)} (h : H a = some (.dK vs)) : Prot H a := ⟨_, h, nt_dK _, fun _ q => by cases q⟩
theorem pr_dT {a : Addr} {vs : List (List Key × V)} (h : H a = some (.dT vs)) : Prot H a := ⟨_, h, nt_dT _, fun _ q => by cases q⟩
theorem tabs_write {a : Addr} {u o : HO} (h : H a = some u) (h1 : NoTb u) (h2 : ∀ f, u ≠ .ext f) (t : Tabs T H) : Tabs T (upd H a o) := fun p hp => by
  obtain ⟨ps, e1, e2, e3⟩ := t p hp
  have n : p.1 ≠ a := fun q => by rw [q, h] at e1; exact h1 ps (Option.some.inj e1)
  refine ⟨ps, by rw [upd_ne n]; exact e1, e2, fun pos cv hc => ?_⟩
  obtain ⟨c, f1, f2⟩ := e3 pos cv hc
  have n2 : c ≠ a := fun q => by rw [q, h] at f2; exact h2 _ (Option.some.inj f2)
  exact ⟨c, f1, by rw [upd_ne n2]; exact f2⟩
theorem OwnAt.grow (g : Grow T Z H Z' H') {a : Addr} {sl : Sl} (h : OwnAt K Z H a sl) : OwnAt K Z' H' a sl := by
  cases h with
  | ow h1 h2 h3 => exact .ow (g.h _ _ h1 (nt_lst _)) (g.p _ h2 (pr_lst h1)) (Reps.le g.z.le _ _ h3)
  | oK h1 h2 h3 => exact .oK (g.h _ _ h1 (nt_dK _)) (g.p _ h2 (pr_dK h1)) (RepsP.le g.z.le _ _ h3)
  | oT h1 h2 h3 => exact .oT (g.h _ _ h1 (nt_dT _)) (g.p _ h2 (pr_dT h1)) (RepsQ.le g.z.le _ _ h3)
  | bK h1 h2 h3 => exact .bK (g.h _ _ h1 (nt_dK _)) (g.p _ h2 (pr_dK h1)) (RepsP.le g.z.le _ _ h3)
theorem OwnAt.prot {a : Addr} {sl : Sl} (h : OwnAt K Z H a sl) : Prot H a ∧ Z a = none := by
  cases h with
  | ow h1 h2 _ => exact ⟨pr_lst h1, h2⟩
  | oK h1 h2 _ => exact ⟨pr_dK h1, h2⟩
  | oT h1 h2 _ => exact ⟨pr_dT h1, h2⟩
  | bK h1 h2 _ => exact ⟨pr_dK h1, h2⟩
theorem OwnAt.own {a : Addr} {sl : Sl} (h : OwnAt K Z H a sl) : isOwn sl = true := by cases h <;> rfl
theorem SimSl.grow (g : Grow T Z H Z' H') {o : Option V} {sl : Sl} (h : SimSl K Z H o sl) : SimSl K Z' H' o sl := by
  cases h with
  | un => exact .un
  | im h => exact .im (Rep.le g.z.le _ _ h)
  | own h => exact .own (h.grow g)

/-- the slots σ over the heap H are what ρ tells; Z: what is frozen; Z0, H0: as it was at the def's entry -/
structure Sim (K : PySem.W.Frag) (T : List (Addr × Str)) (Z0 H0 Z H : Hp) (σ : St) (ρ : Env) : Prop where
  g : Grow T Z0 H0 Z H
  tabs : Tabs T H
  len : σ.length = ρ.length
  slot : ∀ (i : Nat) (o : Option V) (sl : Sl), σ[i]? = some o → ρ[i]? = some sl → SimSl K Z H o sl
  new : ∀ (i : Nat) (a : Addr) (sl : Sl), σ[i]? = some (some (.ref a)) → ρ[i]? = some sl → isOwn sl = true → ¬ Prot H0 a
  dis : ∀ (i j : Nat) (a : Addr) (sl sl' : Sl), i ≠ j → σ[i]? = some (some (.ref a)) → σ[j]? = some (some (.ref a)) → ρ[i]? = some sl → ρ[j]? = some sl' → isOwn sl = true → isOwn sl' = true → False
variable {σ : St} {ρ : Env}
theorem Sim.sub (S : Sim K T Z0 H0 Z H σ ρ) : Sub Z H := S.g.s
theorem Sim.nt (S : Sim K T Z0 H0 Z H σ ρ) : ∀ a o, Z a = some o → NoTb o := S.g.n
theorem Sim.grow (S : Sim K T Z0 H0 Z H σ ρ) (g : Grow T Z H Z' H') : Sim K T Z0 H0 Z' H' σ ρ :=
  ⟨S.g.trans g, g.t S.tabs, S.len, fun i o sl h1 h2 => (S.slot i o sl h1 h2).grow g, S.new, S.dis⟩
theorem Sim.at (S : Sim K T Z0 H0 Z H σ ρ) {i : Nat} {sl : Sl} (h : ρ[i]? = some sl) : ∃ o, σ[i]? = some o ∧ SimSl K Z H o sl := by
  have hi : i < σ.length := by rw [S.len]; exact (List.getElem?_eq_some_iff.mp h).1
  exact ⟨σ[i], List.getElem?_eq_getElem hi, S.slot i _ _ (List.getElem?_eq_getElem hi) h⟩
theorem Sim.im (S : Sim K T Z0 H0 Z H σ ρ) {i : Nat} {d : D} (h : ρ[i]? = some (.im d)) : ∃ v, σ[i]? = some (some v) ∧ Rep K Z v d := by
  obtain ⟨o, h1, h2⟩ := S.at h
  cases h2 with
  | im r => exact ⟨_, h1, r⟩
  | own q => cases q
theorem Sim.own (S : Sim K T Z0 H0 Z H σ ρ) {i : Nat} {sl : Sl} (h : ρ[i]? = some sl) (hs : isOwn sl = true) : ∃ a, σ[i]? = some (some (.ref a)) ∧ OwnAt K Z H a sl ∧ ¬ Prot H0 a := by
  obtain ⟨o, h1, h2⟩ := S.at h
  cases h2 with
  | un => cases hs
  | im _ => cases hs
  | own q => exact ⟨_, h1, q, S.new i _ sl h1 h hs⟩
/-- a slot is stored frozen data -/
theorem Sim.set (S : Sim K T Z0 H0 Z H σ ρ) {v : V} {d : D} (r : Rep K Z v d) (i : Nat) : Sim K T Z0 H0 Z H (σ.set i (some v)) (ρ.set i (.im d)) := by
  refine ⟨S.g, S.tabs, by simp [S.len], fun j o sl h1 h2 => ?_, fun j a sl h1 h2 h3 => ?_, fun j k a sl sl' hjk h1 h2 h3 h4 h5 h6 => ?_⟩
  · by_cases hj : i = j
    · subst hj
      have hi : i < σ.length := by have := (List.getElem?_eq_some_iff.mp h1).1; simpa using this
      rw [List.getElem?_set_self hi] at h1
      rw [List.getElem?_set_self (by rw [← S.len]; exact hi)] at h2
      cases h1; cases h2
      exact .im r
    · rw [List.getElem?_set_ne hj] at h1 h2
      exact S.slot j o sl h1 h2
  · by_cases hj : i = j
    · subst hj
      have hi : i < ρ.length := by have := (List.getElem?_eq_some_iff.mp h2).1; simpa using this
      rw [List.getElem?_set_self hi] at h2
      cases h2; cases h3
    · rw [List.getElem?_set_ne hj] at h1 h2
      exact S.new j a sl h1 h2 h3
  · have hj : i ≠ j := fun e => by
      subst e
      have hi : i < ρ.length := by have := (List.getElem?_eq_some_iff.mp h3).1; simpa using this
      rw [List.getElem?_set_self hi] at h3; cases h3; cases h5
    have hk : i ≠ k := fun e => by
      subst e
      have hi : i < ρ.length := by have := (List.getElem?_eq_some_iff.mp h4).1; simpa using this
      rw [List.getElem?_set_self hi] at h4; cases h4; cases h6
    rw [List.getElem?_set_ne hj] at h1 h3
    rw [List.getElem?_set_ne hk] at h2 h4
    exact S.dis j k a sl sl' hjk h1 h2 h3 h4 h5 h6
/-- a slot is stored a thing of its own, new or its own before -/
theorem Sim.setOwn (S : Sim K T Z0 H0 Z H σ ρ) {a : Addr} {sl : Sl} (r : OwnAt K Z H a sl) (np : ¬ Prot H0 a) (i : Nat) (ap : ∀ (j : Nat) (sl' : Sl), j ≠ i → ρ[j]? = some sl' → isOwn sl' = true → σ[j]? ≠ some (some (.ref a))) :
    Sim K T Z0 H0 Z H (σ.set i (some (.ref a))) (ρ.set i sl) := by
  refine ⟨S.g, S.tabs, by simp [S.len], fun j o sl1 h1 h2 => ?_, fun j b sl1 h1 h2 h3 => ?_, fun j k b sl1 sl2 hjk h1 h2 h3 h4 h5 h6 => ?_⟩
  · by_cases hj : i = j
    · subst hj
      have hi : i < σ.length := by have := (List.getElem?_eq_some_iff.mp h1).1; simpa using this
      rw [List.getElem?_set_self hi] at h1
      rw [List.getElem?_set_self (by rw [← S.len]; exact hi)] at h2
      cases h1; cases h2
      exact .own r
    · rw [List.getElem?_set_ne hj] at h1 h2
      exact S.slot j o sl1 h1 h2
  · by_cases hj : i = j
    · subst hj
      have hi : i < σ.length := by have := (List.getElem?_eq_some_iff.mp h1).1; simpa using this
      rw [List.getElem?_set_self hi] at h1
      cases h1; exact np
    · rw [List.getElem?_set_ne hj] at h1 h2
      exact S.new j b sl1 h1 h2 h3
  · by_cases hj : i = j
    · subst hj
      have hk : i ≠ k := hjk
      have hi : i < σ.length := by have := (List.getElem?_eq_some_iff.mp h1).1; simpa using this
      rw [List.getElem?_set_self hi] at h1
      rw [List.getElem?_set_ne hk] at h2 h4
      cases h1
      exact ap k sl2 (Ne.symm hk) h4 h6 h2
    · by_cases hk : i = k
      · subst hk
        have hi : i < σ.length := by have := (List.getElem?_eq_some_iff.mp h2).1; simpa using this
        rw [List.getElem?_set_self hi] at h2
        rw [List.getElem?_set_ne hj] at h1 h3
        cases h2
        exact ap j sl1 (Ne.symm hj) h3 h5 h1
      · rw [List.getElem?_set_ne hj] at h1 h3
        rw [List.getElem?_set_ne hk] at h2 h4
        exact S.dis j k b sl1 sl2 hjk h1 h2 h3 h4 h5 h6
/-- a new thing stands apart from all own ones -/
theorem Sim.apart (S : Sim K T Z0 H0 Z H σ ρ) {a : Addr} (h : ¬ Prot H a) : ∀ (j : Nat) (sl' : Sl), ρ[j]? = some sl' → isOwn sl' = true → σ[j]? ≠ some (some (.ref a)) := fun j sl' h1 h2 h3 => by
  obtain ⟨b, e1, e2, _⟩ := S.own h1 h2
  rw [h3] at e1; cases e1
  exact h e2.prot.1
/-- a slot is forgotten -/
theorem Sim.forget (S : Sim K T Z0 H0 Z H σ ρ) (o : Option V) (i : Nat) : Sim K T Z0 H0 Z H (σ.set i o) (ρ.set i .un) := by
  refine ⟨S.g, S.tabs, by simp [S.len], fun j u sl1 h1 h2 => ?_, fun j b sl1 h1 h2 h3 => ?_, fun j k b sl1 sl2 hjk h1 h2 h3 h4 h5 h6 => ?_⟩
  · by_cases hj : i = j
    · subst hj
      have hi : i < σ.length := by have := (List.getElem?_eq_some_iff.mp h1).1; simpa using this
      rw [List.getElem?_set_self (by rw [← S.len]; exact hi)] at h2
      cases h2; exact .un
    · rw [List.getElem?_set_ne hj] at h1 h2
      exact S.slot j u sl1 h1 h2
  · by_cases hj : i = j
    · subst hj
      have hi : i < ρ.length := by have := (List.getElem?_eq_some_iff.mp h2).1; simpa using this
      rw [List.getElem?_set_self hi] at h2
      cases h2; cases h3
    · rw [List.getElem?_set_ne hj] at h1 h2
      exact S.new j b sl1 h1 h2 h3
  · have hj : i ≠ j := fun e => by
      subst e
      have hi : i < ρ.length := by have := (List.getElem?_eq_some_iff.mp h3).1; simpa using this
      rw [List.getElem?_set_self hi] at h3; cases h3; cases h5
    have hk : i ≠ k := fun e => by
      subst e
      have hi : i < ρ.length := by have := (List.getElem?_eq_some_iff.mp h4).1; simpa using this
      rw [List.getElem?_set_self hi] at h4; cases h4; cases h6
    rw [List.getElem?_set_ne hj] at h1 h3
    rw [List.getElem?_set_ne hk] at h2 h4
    exact S.dis j k b sl1 sl2 hjk h1 h2 h3 h4 h5 h6
/-- an own thing is written: only its slot sees it -/
theorem Sim.write (S : Sim K T Z0 H0 Z H σ ρ) {i : Nat} {a : Addr} {sl sl' : Sl} {o : HO} (hi : ρ[i]? = some sl) (hs : isOwn sl = true) (ha : σ[i]? = some (some (.ref a)))
    (hn : OwnAt K Z (upd H a o) a sl') : Sim K T Z0 H0 Z (upd H a o) σ (ρ.set i sl') := by
  obtain ⟨b, e1, e2, np⟩ := S.own hi hs
  rw [ha] at e1; cases e1
  have hz := e2.prot.2
  have hlen : i < ρ.length := (List.getElem?_eq_some_iff.mp hi).1
  have na : ∀ b u, Z b = some u → b ≠ a := fun b u e q => by rw [q, hz] at e; cases e
  obtain ⟨oa, p1, p2, p3⟩ := e2.prot.1
  have hext : ∀ b u, H0 b = some u → NoTb u → b ≠ a := fun b u e nt q => by
    subst q
    refine np ⟨u, e, nt, fun xs q => ?_⟩
    have := S.g.h _ _ e nt
    rw [p1] at this; cases this; exact p3 xs q
  have no : ∀ f, oa ≠ HO.ext f := fun f q => by
    cases e2 with
    | ow h1 _ _ => rw [p1] at h1; cases h1; cases q
    | oK h1 _ _ => rw [p1] at h1; cases h1; cases q
    | oT h1 _ _ => rw [p1] at h1; cases h1; cases q
    | bK h1 _ _ => rw [p1] at h1; cases h1; cases q
  have g : Grow T Z0 H0 Z (upd H a o) := ⟨S.g.z, fun b u e nt => by rw [upd_ne (hext b u e nt)]; exact S.g.h b u e nt, fun b u e => by rw [upd_ne (na b u e)]; exact S.g.s b u e, S.g.n, S.g.p, fun _ => tabs_write p1 p2 no S.tabs⟩
  have other : ∀ (b : Addr) (sl1 : Sl), b ≠ a → OwnAt K Z H b sl1 → OwnAt K Z (upd H a o) b sl1 := fun b sl1 hb q => by
    cases q with
    | ow h1 h2 h3 => exact .ow (by rw [upd_ne hb]; exact h1) h2 h3
    | oK h1 h2 h3 => exact .oK (by rw [upd_ne hb]; exact h1) h2 h3
    | oT h1 h2 h3 => exact .oT (by rw [upd_ne hb]; exact h1) h2 h3
    | bK h1 h2 h3 => exact .bK (by rw [upd_ne hb]; exact h1) h2 h3
  have hs' := hn.own
  refine ⟨g, tabs_write p1 p2 no S.tabs, by simp [S.len], fun j u sl1 h1 h2 => ?_, fun j b sl1 h1 h2 h3 => ?_, fun j k b sl1 sl2 hjk h1 h2 h3 h4 h5 h6 => ?_⟩
  · by_cases hj : i = j
    · subst hj
      rw [List.getElem?_set_self hlen] at h2
      cases h2
      rw [ha] at h1; cases h1
      exact .own hn
    · rw [List.getElem?_set_ne hj] at h2
      have q := S.slot j u sl1 h1 h2
      cases q with
      | un => exact .un
      | im r => exact .im r
      | own q =>
        refine .own (other _ _ (fun e => ?_) q)
        subst e
        exact S.dis i j _ sl sl1 hj ha h1 hi h2 hs q.own
  · by_cases hj : i = j
    · subst hj
      rw [ha] at h1; cases h1
      exact np
    · rw [List.getElem?_set_ne hj] at h2
      exact S.new j b sl1 h1 h2 h3
  · have fix : ∀ m slm, (ρ.set i sl')[m]? = some slm → isOwn slm = true → ∃ slm', ρ[m]? = some slm' ∧ isOwn slm' = true := fun m slm e f => by
      by_cases hm : i = m
      · subst hm; exact ⟨sl, hi, hs⟩
      · rw [List.getElem?_set_ne hm] at e; exact ⟨slm, e, f⟩
    obtain ⟨s1, f1, f2⟩ := fix j sl1 h3 h5
    obtain ⟨s2, f3, f4⟩ := fix k sl2 h4 h6
    exact S.dis j k b s1 s2 hjk h1 h2 f1 f3 f2 f4
/-- an own thing is frozen: its slot holds data from now on -/
def frozen : Sl → Option D
  | .ow ds => some (.lst ds) | .oK kvs => some (.dK kvs) | .oT kvs => some (.dT kvs) | _ => none
theorem OwnAt.frz {a : Addr} {sl : Sl} {d : D} (h : OwnAt K Z H a sl) (hd : frozen sl = some d) : ∃ o, H a = some o ∧ NoTb o ∧ Rep K (upd Z a o) (.ref a) d := by
  cases h with
  | ow h1 h2 h3 => cases hd; exact ⟨_, h1, nt_lst _, .lst upd_same (Reps.le (sub_upd h2).le _ _ h3)⟩
  | oK h1 h2 h3 => cases hd; exact ⟨_, h1, nt_dK _, .dK (Rd.of upd_same) (RepsP.le (sub_upd h2).le _ _ h3)⟩
  | oT h1 h2 h3 => cases hd; exact ⟨_, h1, nt_dT _, .dT (Rd.of upd_same) (RepsQ.le (sub_upd h2).le _ _ h3)⟩
  | bK h1 h2 h3 => cases hd
theorem Sim.freeze (S : Sim K T Z0 H0 Z H σ ρ) {i : Nat} {sl : Sl} {d : D} (hi : ρ[i]? = some sl) (hd : frozen sl = some d) : ∃ Z', Sim K T Z0 H0 Z' H σ (ρ.set i (.im d)) := by
  have hs : isOwn sl = true := by cases sl <;> first | rfl | cases hd
  obtain ⟨a, e1, e2, np⟩ := S.own hi hs
  obtain ⟨o, h1, h2, h3⟩ := e2.frz hd
  have hz := e2.prot.2
  have hlen : i < ρ.length := (List.getElem?_eq_some_iff.mp hi).1
  have other : ∀ (b : Addr) (sl1 : Sl), b ≠ a → OwnAt K Z H b sl1 → OwnAt K (upd Z a o) H b sl1 := fun b sl1 hb q => by
    cases q with
    | ow h1 h2 h3 => exact .ow h1 (by rw [upd_ne hb]; exact h2) (Reps.le (sub_upd hz).le _ _ h3)
    | oK h1 h2 h3 => exact .oK h1 (by rw [upd_ne hb]; exact h2) (RepsP.le (sub_upd hz).le _ _ h3)
    | oT h1 h2 h3 => exact .oT h1 (by rw [upd_ne hb]; exact h2) (RepsQ.le (sub_upd hz).le _ _ h3)
    | bK h1 h2 h3 => exact .bK h1 (by rw [upd_ne hb]; exact h2) (RepsP.le (sub_upd hz).le _ _ h3)
  refine ⟨upd Z a o, grow_frz S.sub S.nt hz h1 h2 S.g np, S.tabs, by simp [S.len], fun j u sl1 f1 f2 => ?_, fun j b sl1 f1 f2 f3 => ?_, fun j k b sl1 sl2 hjk f1 f2 f3 f4 f5 f6 => ?_⟩
  · by_cases hj : i = j
    · subst hj
      rw [List.getElem?_set_self hlen] at f2
      cases f2
      rw [e1] at f1; cases f1
      exact .im h3
    · rw [List.getElem?_set_ne hj] at f2
      have q := S.slot j u sl1 f1 f2
      cases q with
      | un => exact .un
      | im r => exact .im (Rep.le (sub_upd hz).le _ _ r)
      | own q =>
        refine .own (other _ _ (fun e => ?_) q)
        subst e
        exact S.dis i j _ sl sl1 hj e1 f1 hi f2 hs q.own
  · have hj : i ≠ j := fun e => by
      subst e
      rw [List.getElem?_set_self hlen] at f2; cases f2; cases f3
    rw [List.getElem?_set_ne hj] at f2
    exact S.new j b sl1 f1 f2 f3
  · have hj : i ≠ j := fun e => by
      subst e
      rw [List.getElem?_set_self hlen] at f3; cases f3; cases f5
    have hk : i ≠ k := fun e => by
      subst e
      rw [List.getElem?_set_self hlen] at f4; cases f4; cases f6
    rw [List.getElem?_set_ne hj] at f3
    rw [List.getElem?_set_ne hk] at f4
    exact S.dis j k b sl1 sl2 hjk f1 f2 f3 f4 f5 f6
end

/-! ### what a value is: frozen data; data to be looked at now; a new thing -/
inductive Md where
  | c | t | f
  deriving DecidableEq
section
variable (K : PySem.W.Frag) (Z H Z' H' : Hp)
/-- a thing at a, with frozen parts -/
inductive TopAt : Addr → D → Prop
  | lst {a : Addr} {vs : List V} {ds : List D} : H' a = some (.lst vs) → Reps K Z' vs ds → TopAt a (.lst ds)
  | dK {a : Addr} {vs : List (Key × V)} {ds : List (Key × D)} : H' a = some (.dK vs) → RepsP K Z' vs ds → TopAt a (.dK ds)
  | dT {a : Addr} {vs : List (List Key × V)} {ds : List (List Key × D)} : H' a = some (.dT vs) → RepsQ K Z' vs ds → TopAt a (.dT ds)
def Fin : Md → V → D → Prop
  | .c, v, d => Rep K Z' v d
  | .t, v, d => Rep K Z' v d ∨ ∃ a, v = .ref a ∧ TopAt K Z' H' a d
  | .f, v, d => ∃ a, v = .ref a ∧ TopAt K Z' H' a d ∧ Z' a = none ∧ ¬ Prot H a
end
section
variable {K : PySem.W.Frag} {T : List (Addr × Str)} {Z H Z' H' Z1 H1 : Hp} {v : V} {d : D}
theorem TopAt.grow (g : Grow T Z' H' Z1 H1) {a : Addr} (h : TopAt K Z' H' a d) : TopAt K Z1 H1 a d := by
  cases h with
  | lst h1 h2 => exact .lst (g.h _ _ h1 (nt_lst _)) (Reps.le g.z.le _ _ h2)
  | dK h1 h2 => exact .dK (g.h _ _ h1 (nt_dK _)) (RepsP.le g.z.le _ _ h2)
  | dT h1 h2 => exact .dT (g.h _ _ h1 (nt_dT _)) (RepsQ.le g.z.le _ _ h2)
theorem TopAt.rep {a : Addr} (s : Sub Z' H') (h : TopAt K Z' H' a d) : Rep K H' (.ref a) d := by
  cases h with
  | lst h1 h2 => exact .lst h1 (Reps.le s.le _ _ h2)
  | dK h1 h2 => exact .dK (Rd.of h1) (RepsP.le s.le _ _ h2)
  | dT h1 h2 => exact .dT (Rd.of h1) (RepsQ.le s.le _ _ h2)
/-- what may be looked at -/
abbrev Now (K : PySem.W.Frag) (Z' H' : Hp) (v : V) (d : D) : Prop := Fin K Z' Z' H' .t v d
theorem Now.rep (s : Sub Z' H') (h : Fin K H Z' H' .t v d) : Rep K H' v d := by
  rcases h with h | ⟨a, rfl, h⟩
  · exact Rep.le s.le _ _ h
  · exact h.rep s
theorem Now.grow (g : Grow T Z' H' Z1 H1) (h : Fin K H Z' H' .t v d) {Hx : Hp} : Fin K Hx Z1 H1 .t v d := by
  rcases h with h | ⟨a, rfl, h⟩
  · exact .inl (Rep.le g.z.le _ _ h)
  · exact .inr ⟨a, rfl, h.grow g⟩
theorem Fin.now {m : Md} (h : Fin K H Z' H' m v d) {Hx : Hp} : Fin K Hx Z' H' .t v d := by
  cases m with
  | c => exact .inl h
  | t => exact h
  | f => obtain ⟨a, rfl, h, _⟩ := h; exact .inr ⟨a, rfl, h⟩
theorem TopAt.at {a : Addr} (h : TopAt K Z' H' a d) : ∃ o, H' a = some o ∧ NoTb o ∧ (Z' a = none → Rep K (upd Z' a o) (.ref a) d) := by
  cases h with
  | lst h1 h2 => exact ⟨_, h1, nt_lst _, fun q => .lst upd_same (Reps.le (sub_upd q).le _ _ h2)⟩
  | dK h1 h2 => exact ⟨_, h1, nt_dK _, fun q => .dK (Rd.of upd_same) (RepsP.le (sub_upd q).le _ _ h2)⟩
  | dT h1 h2 => exact ⟨_, h1, nt_dT _, fun q => .dT (Rd.of upd_same) (RepsQ.le (sub_upd q).le _ _ h2)⟩
/-- a new thing is frozen -/
theorem Fin.frz {m : Md} (hm : m ≠ .t) (g : Grow T Z H Z' H') (h : Fin K H Z' H' m v d) : ∃ Z1, Grow T Z H Z1 H' ∧ Sub Z' Z1 ∧ Rep K Z1 v d := by
  cases m with
  | c => exact ⟨Z', g, Sub.refl _, h⟩
  | t => exact absurd rfl hm
  | f =>
    obtain ⟨a, rfl, h, hz, hp⟩ := h
    obtain ⟨o, h1, h2, h3⟩ := h.at
    exact ⟨upd Z' a o, grow_frz g.s g.n hz h1 h2 g hp, sub_upd hz, h3 hz⟩
end
end VS

set_option Elab.async false
set_option linter.all false
set_option maxRecDepth 100000
set_option maxHeartbeats 2000000
/-! VS3: what a reading tells (Den), by the kinds of syntax. -/
namespace VS
open PySem L2 LamX

/-- what a law's text fixes: the tables of code objects, the classes' addresses, the wish of an exception -/
structure Wh where
  T : List (Addr × Str)
  cl : Str → Addr
  E : XK
section
variable (K : PySem.W.Frag) (G : Wh)
def Ans (m : Md) (r : R D) (Z H : Hp) (Q : VK) : Prop :=
  match r with
  | .ok d => ∀ v Z' H', Grow G.T Z H Z' H' → Fin K H Z' H' m v d → Q v H'
  | .ex c => ∀ Z' H', Grow G.T Z H Z' H' → G.E (.ref (G.cl c)) none H'
  | .no => False
def AnsB (r : R Bool) (Z H : Hp) (Q : Bool → Hp → Prop) : Prop :=
  match r with
  | .ok b => ∀ Z' H', Grow G.T Z H Z' H' → Q b H'
  | .ex c => ∀ Z' H', Grow G.T Z H Z' H' → G.E (.ref (G.cl c)) none H'
  | .no => False
/-- values and data side by side -/
inductive Fins (m : Md) (Z' H' : Hp) : List V → List D → Prop
  | nil : Fins m Z' H' [] []
  | cons {v : V} {d : D} {vs : List V} {ds : List D} : Fin K H' Z' H' m v d → Fins m Z' H' vs ds → Fins m Z' H' (v :: vs) (d :: ds)
def AnsA (m : Md) (r : R (List D)) (Z H : Hp) (Q : List V → Hp → Prop) : Prop :=
  match r with
  | .ok ds => ∀ vs Z' H', Grow G.T Z H Z' H' → Fins K m Z' H' vs ds → Q vs H'
  | .ex c => ∀ Z' H', Grow G.T Z H Z' H' → G.E (.ref (G.cl c)) none H'
  | .no => False
end
section
variable {K : PySem.W.Frag} {G : Wh} {Z H Z1 H1 : Hp}
theorem Ans.grow {m : Md} {r : R D} {Q : VK} (h : Ans K G m r Z H Q) (g : Grow G.T Z H Z1 H1) : Ans K G m r Z1 H1 Q := by
  cases r with
  | ok d =>
    intro v Z' H' g' f
    refine h v Z' H' (g.trans g') ?_
    cases m with
    | c => exact f
    | t => exact f
    | f => obtain ⟨a, e, t, z, p⟩ := f; exact ⟨a, e, t, z, nprot_ext g.h p⟩
  | ex c => exact fun Z' H' g' => h Z' H' (g.trans g')
  | no => exact h
theorem AnsB.grow {r : R Bool} {Q : Bool → Hp → Prop} (h : AnsB G r Z H Q) (g : Grow G.T Z H Z1 H1) : AnsB G r Z1 H1 Q := by
  cases r with
  | ok d => exact fun Z' H' g' => h Z' H' (g.trans g')
  | ex c => exact fun Z' H' g' => h Z' H' (g.trans g')
  | no => exact h
theorem Fins.reps {Z' H' : Hp} : ∀ {vs : List V} {ds : List D}, Fins K .c Z' H' vs ds → Reps K Z' vs ds
  | _, _, .nil => .nil
  | _, _, .cons h t => .cons h (Fins.reps t)
end

/-- an expression's reading tells: its answer is g of the slots -/
structure Den (X : Cx) (G : Wh) (m : Md) (e : Expr) (g : Env → R D) : Prop where
  ex : ∃ t, PE X e t ∧ ∀ Z0 H0 Z H σ ρ Q, Sim X.K G.T Z0 H0 Z H σ ρ → Ans X.K G m (g ρ) Z H Q → t σ H Q
structure DenT (X : Cx) (G : Wh) (e : Expr) (g : Env → R Bool) : Prop where
  ex : ∃ t, PT X e t ∧ ∀ Z0 H0 Z H σ ρ Q, Sim X.K G.T Z0 H0 Z H σ ρ → AnsB G (g ρ) Z H Q → t σ H Q
structure DenA (X : Cx) (G : Wh) (m : Md) (es : List Expr) (g : Env → R (List D)) : Prop where
  ex : ∃ t, PA X es t ∧ ∀ Z0 H0 Z H σ ρ Q, Sim X.K G.T Z0 H0 Z H σ ρ → AnsA X.K G m (g ρ) Z H Q → t σ H Q
structure DenO (X : Cx) (G : Wh) (e : Option Expr) (g : Env → R (Option Int)) : Prop where
  ex : ∃ t, PO X e t ∧ ∀ Z0 H0 Z H σ ρ Q, Sim X.K G.T Z0 H0 Z H σ ρ → (match g ρ with
    | .ok o => ∀ Z' H', Grow G.T Z H Z' H' → Q o H'
    | .ex c => ∀ Z' H', Grow G.T Z H Z' H' → G.E (.ref (G.cl c)) none H'
    | .no => False) → t σ H Q

section
variable {X : Cx} {G : Wh} {m : Md} {e : Expr} {g : Env → R D}
/-- from what is new or frozen to what may be looked at -/
theorem Ans.now {r : R D} {Z H : Hp} {Q : VK} (h : Ans X.K G .t r Z H Q) : Ans X.K G m r Z H Q := by
  cases r with
  | ok d => exact fun v Z' H' g f => h v Z' H' g f.now
  | ex c => exact h
  | no => exact h
theorem Ans.frz {r : R D} {Z H : Hp} {Q : VK} (hm : m ≠ .t) (h : Ans X.K G .c r Z H Q) : Ans X.K G m r Z H Q := by
  cases r with
  | ok d =>
    intro v Z' H' g f
    obtain ⟨Z1, g1, _, r⟩ := f.frz hm g
    exact h v Z1 H' g1 r
  | ex c => exact h
  | no => exact h
theorem Den.now (h : Den X G m e g) : Den X G .t e g := by
  obtain ⟨t, p, q⟩ := h.ex
  exact ⟨t, p, fun Z0 H0 Z H σ ρ Q S a => q Z0 H0 Z H σ ρ Q S (Ans.now a)⟩
theorem Den.frz (hm : m ≠ .t) (h : Den X G m e g) : Den X G .c e g := by
  obtain ⟨t, p, q⟩ := h.ex
  exact ⟨t, p, fun Z0 H0 Z H σ ρ Q S a => q Z0 H0 Z H σ ρ Q S (Ans.frz hm a)⟩

/-! ### names, constants -/
def geV (i : Nat) : Env → R D := fun ρ => match ρ[i]? with
  | some (.im d) => .ok d | _ => .no
def geT (i : Nat) : Env → R D := fun ρ => match ρ[i]? with
  | some (.im d) => .ok d | some (.ow ds) => .ok (.lst ds) | some (.oK kvs) => .ok (.dK kvs) | some (.oT kvs) => .ok (.dT kvs) | some (.bK _ kvs) => .ok (.dK kvs) | _ => .no
theorem den_var {i : Nat} {x : Str} {pos : Pos} (hN : X.N[i]? = some x) (hv : Vis X.env.scope x) (hd : (x == ("__debug__" : Str)) = false) (hcd : (x == ("__classdict__" : Str)) = false) : Den X G .c (.Name x pos) (geV i) := by
  refine ⟨_, pe_var hN hv hd hcd, fun Z0 H0 Z H σ ρ Q S h => ?_⟩
  unfold geV at h
  split at h
  · rename_i d e
    obtain ⟨v, h1, h2⟩ := S.im e
    exact ⟨v, h1, h v Z H (.refl S.sub S.nt) h2⟩
  · exact h.elim
theorem OwnAt.top {K : PySem.W.Frag} {Z H : Hp} {a : Addr} {sl : Sl} {d : D} (h : OwnAt K Z H a sl) (hd : frozen sl = some d) : TopAt K Z H a d := by
  cases h with
  | ow h1 h2 h3 => cases hd; exact .lst h1 h3
  | oK h1 h2 h3 => cases hd; exact .dK h1 h3
  | oT h1 h2 h3 => cases hd; exact .dT h1 h3
  | bK h1 h2 h3 => cases hd
theorem den_varT {i : Nat} {x : Str} {pos : Pos} (hN : X.N[i]? = some x) (hv : Vis X.env.scope x) (hd : (x == ("__debug__" : Str)) = false) (hcd : (x == ("__classdict__" : Str)) = false) : Den X G .t (.Name x pos) (geT i) := by
  refine ⟨_, pe_var hN hv hd hcd, fun Z0 H0 Z H σ ρ Q S h => ?_⟩
  have own : ∀ {sl d}, ρ[i]? = some sl → isOwn sl = true → frozen sl = some d → Ans X.K G .t (.ok d) Z H Q → tVar i σ H Q := fun {sl d} e o f h => by
    obtain ⟨a, h1, h2, _⟩ := S.own e o
    exact ⟨.ref a, h1, h _ Z H (.refl S.sub S.nt) (.inr ⟨a, rfl, h2.top f⟩)⟩
  unfold geT at h
  split at h
  · rename_i d e
    obtain ⟨v, h1, h2⟩ := S.im e
    exact ⟨v, h1, h v Z H (.refl S.sub S.nt) (.inl h2)⟩
  · exact own (by assumption) rfl rfl h
  · exact own (by assumption) rfl rfl h
  · exact own (by assumption) rfl rfl h
  · rename_i b kvs e
    obtain ⟨a, h1, h2, _⟩ := S.own e rfl
    cases h2 with
    | bK p1 p2 p3 => exact ⟨.ref b, h1, h _ Z H (.refl S.sub S.nt) (.inr ⟨b, rfl, .dK p1 p3⟩)⟩
  · exact h.elim
theorem den_tC {v : V} {d : D} (hp : PE X e (tC v)) (r : ∀ Z, Rep X.K Z v d) : Den X G .c e (fun _ => .ok d) :=
  ⟨_, hp, fun Z0 H0 Z H σ ρ Q S h => h v Z H (.refl S.sub S.nt) (r Z)⟩

/-! ### operators by values -/
def RDen (K : PySem.W.Frag) (G : Wh) (r : R2) (m : Md) (f : D → D → R D) : Prop :=
  ∀ x y dx dy Z H Q, Sub Z H → (∀ a o, Z a = some o → NoTb o) → Fin K H Z H .t x dx → Fin K H Z H .t y dy → Ans K G m (f dx dy) Z H Q → r x y H Q
theorem ans_op {r : R2} {f : D → D → R D} {m1 m2 m : Md} {ta tb : TE} {ga gb : Env → R D} (hr : RDen X.K G r m f)
    (ha : ∀ Z0 H0 Z H σ ρ Q, Sim X.K G.T Z0 H0 Z H σ ρ → Ans X.K G m1 (ga ρ) Z H Q → ta σ H Q) (hb : ∀ Z0 H0 Z H σ ρ Q, Sim X.K G.T Z0 H0 Z H σ ρ → Ans X.K G m2 (gb ρ) Z H Q → tb σ H Q)
    {Z0 H0 Z H : Hp} {σ : L2.St} {ρ : Env} {Q : VK} (S : Sim X.K G.T Z0 H0 Z H σ ρ) (h : Ans X.K G m (do let x ← ga ρ; let y ← gb ρ; f x y) Z H Q) : tOp r ta tb σ H Q := by
  refine ha Z0 H0 Z H σ ρ _ S ?_
  cases ea : ga ρ with
  | no => rw [ea] at h; exact h
  | ex c => rw [ea] at h; exact h
  | ok dx =>
    rw [ea] at h
    intro x Z1 H1 g1 f1
    have S1 := S.grow g1
    refine hb Z0 H0 Z1 H1 σ ρ _ S1 ?_
    cases eb : gb ρ with
    | no => rw [eb] at h; exact h
    | ex c => rw [eb] at h; exact fun Z' H' g' => h Z' H' (g1.trans g')
    | ok dy =>
      rw [eb] at h
      intro y Z2 H2 g2 f2
      exact hr x y dx dy Z2 H2 Q g2.s g2.n (Now.grow g2 (f1.now (Hx := H))) f2.now (h.grow (g1.trans g2))
def geOp (f : D → D → R D) (ga gb : Env → R D) : Env → R D := fun ρ => do let x ← ga ρ; let y ← gb ρ; f x y
theorem den_op {op : Operator} {a b : Expr} {pos : Pos} {r : R2} {f : D → D → R D} {m1 m2 m : Md} {ga gb : Env → R D} (ho : OpR X (binaryOp op) r) (hr : RDen X.K G r m f) (ha : Den X G m1 a ga) (hb : Den X G m2 b gb) :
    Den X G m (.BinOp a op b pos) (geOp f ga gb) := by
  obtain ⟨ta, pa, qa⟩ := ha.ex
  obtain ⟨tb, pb, qb⟩ := hb.ex
  exact ⟨_, pe_op ho pa pb, fun Z0 H0 Z H σ ρ Q S h => ans_op hr qa qb S h⟩
theorem den_cmp {op : CmpOp} {a b : Expr} {pos : Pos} {r : R2} {f : D → D → R D} {m1 m2 m : Md} {ga gb : Env → R D} (ho : OpR X (compareOp op) r) (hr : RDen X.K G r m f) (ha : Den X G m1 a ga) (hb : Den X G m2 b gb) (hm : behindInMarks op b = false) :
    Den X G m (.Compare a [op] [b] pos) (geOp f ga gb) := by
  obtain ⟨ta, pa, qa⟩ := ha.ex
  obtain ⟨tb, pb, qb⟩ := hb.ex
  exact ⟨_, pe_cmpR ho pa pb hm, fun Z0 H0 Z H σ ρ Q S h => ans_op hr qa qb S h⟩
theorem den_ix {a b : Expr} {pos : Pos} {r : R2} {f : D → D → R D} {m1 m2 m : Md} {ga gb : Env → R D} (ho : IxR X r) (hr : RDen X.K G r m f) (ha : Den X G m1 a ga) (hb : Den X G m2 b gb) (hs : PlainIx b) :
    Den X G m (.Subscript a b pos) (geOp f ga gb) := by
  obtain ⟨ta, pa, qa⟩ := ha.ex
  obtain ⟨tb, pb, qb⟩ := hb.ex
  exact ⟨_, pe_ix ho pa pb hs, fun Z0 H0 Z H σ ρ Q S h => ans_op hr qa qb S h⟩

/-! ### tests -/
def boolOf (d : D) : R Bool := match d with
  | .bl b => .ok b | _ => .no
def geB (g : Env → R D) : Env → R Bool := fun ρ => do boolOf (← g ρ)
def geOfB (g : Env → R Bool) : Env → R D := fun ρ => do let b ← g ρ; pure (.bl b)
theorem ans_B {te : TE} {g : Env → R D} {m : Md} (hq : ∀ Z0 H0 Z H σ ρ Q, Sim X.K G.T Z0 H0 Z H σ ρ → Ans X.K G m (g ρ) Z H Q → te σ H Q)
    {Z0 H0 Z H : Hp} {σ : L2.St} {ρ : Env} {Q : Bool → Hp → Prop} (S : Sim X.K G.T Z0 H0 Z H σ ρ) (h : AnsB G (geB g ρ) Z H Q) : te σ H fun x H1 => ∃ c, x = .bl c ∧ Q c H1 := by
  refine hq Z0 H0 Z H σ ρ _ S ?_
  unfold geB at h
  cases ea : g ρ with
  | no => rw [ea] at h; exact h
  | ex c => rw [ea] at h; exact h
  | ok d =>
    rw [ea] at h
    cases d with
    | bl b =>
      intro v Z' H' g' f
      have := f.now (Hx := H)
      rcases this with r | ⟨a, _, q⟩
      · cases r; exact ⟨b, rfl, h Z' H' g'⟩
      · cases q
    | non => exact False.elim h
    | int _ => exact False.elim h
    | str _ => exact False.elim h
    | tup _ => exact False.elim h
    | lst _ => exact False.elim h
    | dK _ => exact False.elim h
    | dT _ => exact False.elim h
    | scr _ => exact False.elim h
theorem dent_val {e : Expr} (he : ∀ whole, isTrue e X.env whole = (do let v ← whole; standAt e.pos; holding [v] (truthy v))) (h : Den X G m e g) : DenT X G e (geB g) := by
  obtain ⟨t, p, q⟩ := h.ex
  exact ⟨_, pt_val p he, fun Z0 H0 Z H σ ρ Q S h => ans_B q S h⟩
theorem dent_cmp {op : CmpOp} {a b : Expr} {pos : Pos} {r : R2} {f : D → D → R D} {m1 m2 m : Md} {ga gb : Env → R D} (ho : OpR X (compareOp op) r) (hr : RDen X.K G r m f) (ha : Den X G m1 a ga) (hb : Den X G m2 b gb) (hm : behindInMarks op b = false) :
    DenT X G (.Compare a [op] [b] pos) (geB (geOp f ga gb)) := by
  obtain ⟨ta, pa, qa⟩ := ha.ex
  obtain ⟨tb, pb, qb⟩ := hb.ex
  exact ⟨_, pt_cmpR ho pa pb hm, fun Z0 H0 Z H σ ρ Q S h => ans_B (te := tOp r ta tb) (fun Z0 H0 Z H σ ρ Q S h => ans_op hr qa qb S h) S h⟩

/-! ### and, or, not -/
def gNot (g : Env → R Bool) : Env → R Bool := fun ρ => do let b ← g ρ; pure (!b)
def gAnd (g h : Env → R Bool) : Env → R Bool := fun ρ => do let b ← g ρ; if b then h ρ else pure false
def gOr (g h : Env → R Bool) : Env → R Bool := fun ρ => do let b ← g ρ; if b then pure true else h ρ
structure DenW (X : Cx) (G : Wh) (e : Expr) (g : Env → R Bool) : Prop where
  ex : ∃ t, PW X e t ∧ ∀ Z0 H0 Z H σ ρ Q, Sim X.K G.T Z0 H0 Z H σ ρ → AnsB G (g ρ) Z H Q → t σ H Q
theorem DenW.t {e : Expr} {g : Env → R Bool} (h : DenW X G e g) : DenT X G e g := by
  obtain ⟨t, p, q⟩ := h.ex
  exact ⟨t, p.pt, q⟩
theorem dent_not {a : Expr} {pos : Pos} {g : Env → R Bool} (h : DenT X G a g) : DenT X G (.UnaryOp .Not a pos) (gNot g) := by
  obtain ⟨t, p, q⟩ := h.ex
  refine ⟨_, pt_not p, fun Z0 H0 Z H σ ρ Q S h => ?_⟩
  refine q Z0 H0 Z H σ ρ _ S ?_
  unfold gNot at h
  cases ea : g ρ with
  | no => rw [ea] at h; exact h
  | ex c => rw [ea] at h; exact h
  | ok b => rw [ea] at h; exact h
theorem denw_one {a : Expr} {pos : Pos} {g : Env → R Bool} {op : BoolOp} (h : DenT X G a g) : DenW X G (.BoolOp op [a] pos) g := by
  obtain ⟨t, p, q⟩ := h.ex
  cases op with
  | And => exact ⟨t, pw_and1 p, q⟩
  | Or => exact ⟨t, pw_or1 p, q⟩
theorem denw_and {a b : Expr} {rest : List Expr} {pos : Pos} {g h : Env → R Bool} (ha : DenT X G a g) (hb : DenW X G (.BoolOp .And (b :: rest) pos) h) : DenW X G (.BoolOp .And (a :: b :: rest) pos) (gAnd g h) := by
  obtain ⟨t, p, q⟩ := ha.ex
  obtain ⟨t', p', q'⟩ := hb.ex
  refine ⟨_, pw_and p p', fun Z0 H0 Z H σ ρ Q S k => ?_⟩
  refine q Z0 H0 Z H σ ρ _ S ?_
  unfold gAnd at k
  cases ea : g ρ with
  | no => rw [ea] at k; exact k
  | ex c => rw [ea] at k; exact k
  | ok b =>
    rw [ea] at k
    intro Z1 H1 g1
    cases b with
    | true => exact q' Z0 H0 Z1 H1 σ ρ Q (S.grow g1) (AnsB.grow k g1)
    | false => exact k Z1 H1 g1
theorem denw_or {a b : Expr} {rest : List Expr} {pos : Pos} {g h : Env → R Bool} (ha : DenT X G a g) (hb : DenW X G (.BoolOp .Or (b :: rest) pos) h) : DenW X G (.BoolOp .Or (a :: b :: rest) pos) (gOr g h) := by
  obtain ⟨t, p, q⟩ := ha.ex
  obtain ⟨t', p', q'⟩ := hb.ex
  refine ⟨_, pw_or p p', fun Z0 H0 Z H σ ρ Q S k => ?_⟩
  refine q Z0 H0 Z H σ ρ _ S ?_
  unfold gOr at k
  cases ea : g ρ with
  | no => rw [ea] at k; exact k
  | ex c => rw [ea] at k; exact k
  | ok b =>
    rw [ea] at k
    intro Z1 H1 g1
    cases b with
    | false => exact q' Z0 H0 Z1 H1 σ ρ Q (S.grow g1) (AnsB.grow k g1)
    | true => exact k Z1 H1 g1
/-- .. as values -/
theorem ofB_ok {r : R Bool} {Z H : Hp} {Q : VK} (h : Ans X.K G .c (do let b ← r; pure (.bl b)) Z H Q) : AnsB G r Z H fun b H1 => Q (.bl b) H1 := by
  cases r with
  | ok b => exact fun Z' H' g => h _ Z' H' g (.bl b)
  | ex c => exact h
  | no => exact h
theorem den_notV {a : Expr} {pos : Pos} {g : Env → R D} (h : Den X G m a g) : Den X G .c (.UnaryOp .Not a pos) (geOfB (gNot (geB g))) := by
  obtain ⟨t, p, q⟩ := h.ex
  refine ⟨_, pe_not p, fun Z0 H0 Z H σ ρ Q S k => ?_⟩
  refine ans_B (Q := fun c H1 => Q (.bl (!c)) H1) q S ?_
  unfold geOfB gNot at k
  cases ea : geB g ρ with
  | no => rw [ea] at k; exact k
  | ex c => rw [ea] at k; exact k
  | ok b => rw [ea] at k; exact fun Z' H' g' => k _ Z' H' g' (.bl _)
theorem den_one {a : Expr} {pos : Pos} {g : Env → R D} {op : BoolOp} (h : Den X G m a g) : Den X G m (.BoolOp op [a] pos) g := by
  obtain ⟨t, p, q⟩ := h.ex
  exact ⟨_, pe_one p, q⟩
/-- the last of an and, or: whatever it is; the others are truths -/
def gAndV (g : Env → R D) (h : Env → R D) : Env → R D := fun ρ => do let b ← geB g ρ; if b then h ρ else pure (.bl false)
def gOrV (g : Env → R D) (h : Env → R D) : Env → R D := fun ρ => do let b ← geB g ρ; if b then pure (.bl true) else h ρ
theorem den_andV {a b : Expr} {rest : List Expr} {pos : Pos} {g h : Env → R D} {m' : Md} (hm : m' ≠ .f) (ha : Den X G m a g) (hb : Den X G m' (.BoolOp .And (b :: rest) pos) h) : Den X G m' (.BoolOp .And (a :: b :: rest) pos) (gAndV g h) := by
  obtain ⟨t, p, q⟩ := ha.ex
  obtain ⟨t', p', q'⟩ := hb.ex
  refine ⟨_, pe_and p p', fun Z0 H0 Z H σ ρ Q S k => ?_⟩
  refine ans_B (Q := fun c H1 => if c = true then t' σ H1 Q else Q (.bl false) H1) q S ?_
  unfold gAndV at k
  cases ea : geB g ρ with
  | no => rw [ea] at k; exact k
  | ex c => rw [ea] at k; exact k
  | ok b =>
    rw [ea] at k
    intro Z1 H1 g1
    cases b with
    | true => exact q' Z0 H0 Z1 H1 σ ρ Q (S.grow g1) (Ans.grow k g1)
    | false =>
      refine k (.bl false) Z1 H1 g1 ?_
      cases m' with
      | c => exact .bl _
      | t => exact .inl (.bl _)
      | f => exact absurd rfl hm
theorem den_orV {a b : Expr} {rest : List Expr} {pos : Pos} {g h : Env → R D} {m' : Md} (hm : m' ≠ .f) (ha : Den X G m a g) (hb : Den X G m' (.BoolOp .Or (b :: rest) pos) h) : Den X G m' (.BoolOp .Or (a :: b :: rest) pos) (gOrV g h) := by
  obtain ⟨t, p, q⟩ := ha.ex
  obtain ⟨t', p', q'⟩ := hb.ex
  refine ⟨_, pe_or p p', fun Z0 H0 Z H σ ρ Q S k => ?_⟩
  refine ans_B (Q := fun c H1 => if c = true then Q (.bl true) H1 else t' σ H1 Q) q S ?_
  unfold gOrV at k
  cases ea : geB g ρ with
  | no => rw [ea] at k; exact k
  | ex c => rw [ea] at k; exact k
  | ok b =>
    rw [ea] at k
    intro Z1 H1 g1
    cases b with
    | false => exact q' Z0 H0 Z1 H1 σ ρ Q (S.grow g1) (Ans.grow k g1)
    | true =>
      refine k (.bl true) Z1 H1 g1 ?_
      cases m' with
      | c => exact .bl _
      | t => exact .inl (.bl _)
      | f => exact absurd rfl hm
def geIf (c : Env → R Bool) (ga gb : Env → R D) : Env → R D := fun ρ => do let b ← c ρ; if b then ga ρ else gb ρ
theorem den_if {c a b : Expr} {pos : Pos} {gc : Env → R Bool} {ga gb : Env → R D} (hc : DenT X G c gc) (ha : Den X G m a ga) (hb : Den X G m b gb) : Den X G m (.IfExp c a b pos) (geIf gc ga gb) := by
  obtain ⟨t, p, q⟩ := hc.ex
  obtain ⟨ta, pa, qa⟩ := ha.ex
  obtain ⟨tb, pb, qb⟩ := hb.ex
  refine ⟨_, pe_ifExp p pa pb, fun Z0 H0 Z H σ ρ Q S k => ?_⟩
  refine q Z0 H0 Z H σ ρ _ S ?_
  unfold geIf at k
  cases ea : gc ρ with
  | no => rw [ea] at k; exact k
  | ex c => rw [ea] at k; exact k
  | ok b =>
    rw [ea] at k
    intro Z1 H1 g1
    cases b with
    | true => exact qa Z0 H0 Z1 H1 σ ρ Q (S.grow g1) (Ans.grow k g1)
    | false => exact qb Z0 H0 Z1 H1 σ ρ Q (S.grow g1) (Ans.grow k g1)

/-! ### argument lists -/
def gaNil : Env → R (List D) := fun _ => .ok []
def gaCons (g : Env → R D) (h : Env → R (List D)) : Env → R (List D) := fun ρ => do let d ← g ρ; let ds ← h ρ; pure (d :: ds)
theorem dena_nil : DenA X G m [] gaNil := ⟨_, pa_nil, fun Z0 H0 Z H σ ρ Q S h => h [] Z H (.refl S.sub S.nt) .nil⟩
theorem fin_self {m : Md} {K : PySem.W.Frag} {Z H H' : Hp} {v : V} {d : D} (hm : m ≠ .f) (h : Fin K H Z H' m v d) : Fin K H' Z H' m v d := by
  cases m with
  | c => exact h
  | t => exact h
  | f => exact absurd rfl hm
theorem fin_grow {m : Md} {K : PySem.W.Frag} {T : List (Addr × Str)} {H0 H1 Z H Z' H' : Hp} {v : V} {d : D} (hm : m ≠ .f) (g : Grow T Z H Z' H') (h : Fin K H0 Z H m v d) : Fin K H1 Z' H' m v d := by
  cases m with
  | c => exact Rep.le g.z.le _ _ h
  | t => exact Now.grow g h
  | f => exact absurd rfl hm
theorem dena_cons {es : List Expr} {g : Env → R D} {h : Env → R (List D)} (hm : m ≠ .f) (ha : Den X G m e g) (hr : DenA X G m es h) (hs : starEach (e :: es) X.env = (false, eval e X.env) :: starEach es X.env) : DenA X G m (e :: es) (gaCons g h) := by
  obtain ⟨t, p, q⟩ := ha.ex
  obtain ⟨tr, pr, qr⟩ := hr.ex
  refine ⟨_, pa_cons p pr hs, fun Z0 H0 Z H σ ρ Q S k => ?_⟩
  refine q Z0 H0 Z H σ ρ _ S ?_
  unfold gaCons at k
  cases ea : g ρ with
  | no => rw [ea] at k; exact k
  | ex c => rw [ea] at k; exact k
  | ok d =>
    rw [ea] at k
    intro v Z1 H1 g1 f1
    refine qr Z0 H0 Z1 H1 σ ρ _ (S.grow g1) ?_
    cases eb : h ρ with
    | no => rw [eb] at k; exact k
    | ex c => rw [eb] at k; exact fun Z' H' g' => k Z' H' (g1.trans g')
    | ok ds =>
      rw [eb] at k
      intro vs Z2 H2 g2 f2
      exact k (v :: vs) Z2 H2 (g1.trans g2) (.cons (fin_grow hm g2 f1) f2)
/-- what is done with a list of values -/
def ADen (K : PySem.W.Frag) (G : Wh) (r : List V → Hp → VK → Prop) (m1 m : Md) (f : List D → R D) : Prop :=
  ∀ vs ds Z H Q, Sub Z H → (∀ a o, Z a = some o → NoTb o) → Fins K m1 Z H vs ds → Ans K G m (f ds) Z H Q → r vs H Q
def geA (f : List D → R D) (ga : Env → R (List D)) : Env → R D := fun ρ => do let ds ← ga ρ; f ds
theorem ans_A {t : TA} {r : List V → Hp → VK → Prop} {m1 m : Md} {f : List D → R D} {ga : Env → R (List D)} (hq : ∀ Z0 H0 Z H σ ρ Q, Sim X.K G.T Z0 H0 Z H σ ρ → AnsA X.K G m1 (ga ρ) Z H Q → t σ H Q) (hr : ADen X.K G r m1 m f)
    {Z0 H0 Z H : Hp} {σ : L2.St} {ρ : Env} {Q : VK} (S : Sim X.K G.T Z0 H0 Z H σ ρ) (h : Ans X.K G m (geA f ga ρ) Z H Q) : t σ H fun vs H1 => r vs H1 Q := by
  refine hq Z0 H0 Z H σ ρ _ S ?_
  unfold geA at h
  cases ea : ga ρ with
  | no => rw [ea] at h; exact h
  | ex c => rw [ea] at h; exact h
  | ok ds =>
    rw [ea] at h
    intro vs Z1 H1 g1 f1
    exact hr vs ds Z1 H1 Q g1.s g1.n f1 (Ans.grow h g1)
theorem den_callB {x : Str} {id : String} {r : List V → Hp → VK → Prop} {m1 m : Md} {f : List D → R D} {es : List Expr} {ga : Env → R (List D)} {p pos : Pos} (hc : CallR X (.builtin id) r) (hr : ADen X.K G r m1 m f) (ha : DenA X G m1 (e :: es) ga)
    (hg : Gl X x) (hm : X.mg x = none) (hv : bootBuiltins x = some (.builtin id)) (hn : x ≠ "__name__") (hdb : (x == ("__debug__" : Str)) = false) (he : starEach (e :: es) X.env = (false, eval e X.env) :: starEach es X.env)
    (hpl : (backTo pos (starEach es X.env)).any (·.1) = false) : Den X G m (.Call (.Name x p) (e :: es) [] pos) (geA f ga) := by
  obtain ⟨t, pt, q⟩ := ha.ex
  exact ⟨_, pe_callB hc hg hm hv pt hn hdb he hpl, fun Z0 H0 Z H σ ρ Q S h => ans_A q hr S h⟩
theorem den_callTy {x : Str} {id : String} {r : List V → Hp → VK → Prop} {m1 m : Md} {f : List D → R D} {es : List Expr} {ga : Env → R (List D)} {p pos : Pos} (hc : CallR X (.type id) r) (hr : ADen X.K G r m1 m f) (ha : DenA X G m1 (e :: es) ga)
    (hg : Gl X x) (hm : X.mg x = none) (hv : bootBuiltins x = some (.type id)) (hn : x ≠ "__name__") (hdb : (x == ("__debug__" : Str)) = false) (he : starEach (e :: es) X.env = (false, eval e X.env) :: starEach es X.env)
    (hpl : (backTo pos (starEach es X.env)).any (·.1) = false) : Den X G m (.Call (.Name x p) (e :: es) [] pos) (geA f ga) := by
  obtain ⟨t, pt, q⟩ := ha.ex
  exact ⟨_, pe_callTy hc hg hm hv pt hn hdb he hpl, fun Z0 H0 Z H σ ρ Q S h => ans_A q hr S h⟩
def tupD (ds : List D) : R D := if ds.length ≤ sizeLine then .ok (.tup ds) else .no
def lstD (ds : List D) : R D := if ds.length ≤ sizeLine then .ok (.lst ds) else .no
theorem den_tup {es : List Expr} {k : Nat} {pos : Pos} {ga : Env → R (List D)} (h : DenA X G .c es ga) : Den X G .c (.Tuple es k pos) (geA tupD ga) := by
  obtain ⟨t, pt, q⟩ := h.ex
  refine ⟨_, pe_tup pt, fun Z0 H0 Z H σ ρ Q S h => ?_⟩
  refine ans_A (r := fun xs H1 Q => xs.length ≤ sizeLine ∧ ∀ p, H1 p = none → Q (.ref p) (upd H1 p (.tup xs))) q (fun vs ds Z H Q s n f h => ?_) S h
  unfold tupD at h
  have hl := f.reps.length
  split at h
  · rename_i hz
    exact ⟨by rw [hl]; exact hz, fun p hp => h _ (upd Z p (.tup vs)) _ (grow_newz s n hp (nt_tup _)) (.tup upd_same (Reps.le (sub_upd (sub_none s hp)).le _ _ f.reps))⟩
  · exact h.elim
theorem den_lst {es : List Expr} {pos : Pos} {ga : Env → R (List D)} (h : DenA X G .c es ga) : Den X G .f (.List es pos) (geA lstD ga) := by
  obtain ⟨t, pt, q⟩ := h.ex
  refine ⟨_, pe_lst pt, fun Z0 H0 Z H σ ρ Q S h => ?_⟩
  refine ans_A (r := fun xs H1 Q => xs.length ≤ sizeLine ∧ ∀ p, H1 p = none → Q (.ref p) (upd H1 p (.lst xs))) q (fun vs ds Z H Q s n f h => ?_) S h
  unfold lstD at h
  have hl := f.reps.length
  split at h
  · rename_i hz
    exact ⟨by rw [hl]; exact hz, fun p hp => h _ Z _ (grow_new s n hp) ⟨p, rfl, .lst upd_same f.reps, sub_none s hp, nprot_none hp⟩⟩
  · exact h.elim
end
end VS

set_option Elab.async false
set_option linter.all false
set_option maxRecDepth 100000
set_option maxHeartbeats 2000000
/-! VS4: operators on data. -/
namespace VS
open PySem L2 LamX

mutual
def toPy : D → PyData
  | .non => .none | .bl b => .bool b | .int i => .int i | .str s => .str s
  | .tup ds => .tuple (toPys ds) | .lst ds => .list (toPys ds) | .dK _ => .dict [] | .dT _ => .dict [] | .scr ns => .list (ns.map .int)
def toPys : List D → List PyData
  | [] => []
  | d :: ds => toPy d :: toPys ds
end
theorem toPys_map : ∀ ds : List D, toPys ds = ds.map toPy
  | [] => rfl
  | d :: ds => by rw [toPys, toPys_map ds]; rfl
section
variable {K : PySem.W.Frag} {Z : Hp}
theorem dp_ints : ∀ ns : List Int, DpAll K Z (ns.map V.int) (ns.map PyData.int)
  | [] => .nil
  | n :: ns => .cons (.int n) (dp_ints ns)
mutual
theorem Rep.dp : ∀ (d : D) (v : V), (toPy d).canLay0 = true → Rep K Z v d → Dp K Z v (toPy d)
  | .non, _, _, h => by cases h; exact .non
  | .bl b, _, _, h => by cases h; exact .bl b
  | .int i, _, _, h => by cases h; exact .int i
  | .str s, _, _, h => by cases h; exact .str s
  | .tup ds, _, c, h => by
    cases h with | tup h1 h2 => exact .tup (SqT.of h1) (Reps.dp ds _ (by simpa [toPy, PyData.canLay0] using c) h2)
  | .lst ds, _, c, h => by
    cases h with | lst h1 h2 => exact .lst (SqL.of h1) (Reps.dp ds _ (by simpa [toPy, PyData.canLay0] using c) h2)
  | .dK ds, _, c, h => by simp [toPy, PyData.canLay0] at c
  | .dT ds, _, c, h => by simp [toPy, PyData.canLay0] at c
  | .scr ns, _, c, h => by cases h with | scr h1 => exact .lst h1 (dp_ints ns)
theorem Reps.dp : ∀ (ds : List D) (vs : List V), PyData.canLayAll0 (toPys ds) = true → Reps K Z vs ds → DpAll K Z vs (toPys ds)
  | [], _, _, h => by cases h; exact .nil
  | d :: ds, _, c, h => by
    rw [toPys, PyData.canLayAll0, Bool.and_eq_true] at c
    cases h with | cons h1 h2 => exact .cons (Rep.dp d _ c.1 h1) (Reps.dp ds _ c.2 h2)
end
end

/-! ### what a value looked at is -/
section
variable {K : PySem.W.Frag} {Z H Hx : Hp} {x : V}
theorem now_int {i : Int} (h : Fin K Hx Z H .t x (.int i)) : x = .int i := by
  rcases h with h | ⟨_, _, h⟩
  · cases h; rfl
  · cases h
theorem now_str {s : Str} (h : Fin K Hx Z H .t x (.str s)) : x = .str s := by
  rcases h with h | ⟨_, _, h⟩
  · cases h; rfl
  · cases h
theorem now_bl {b : Bool} (h : Fin K Hx Z H .t x (.bl b)) : x = .bl b := by
  rcases h with h | ⟨_, _, h⟩
  · cases h; rfl
  · cases h
theorem now_non (h : Fin K Hx Z H .t x .non) : x = .non := by
  rcases h with h | ⟨_, _, h⟩
  · cases h; rfl
  · cases h
theorem now_tup {ds : List D} (s : Sub Z H) (h : Fin K Hx Z H .t x (.tup ds)) : ∃ a vs, x = .ref a ∧ Z a = some (.tup vs) ∧ H a = some (.tup vs) ∧ Reps K Z vs ds := by
  rcases h with h | ⟨_, _, h⟩
  · cases h with | tup h1 h2 => exact ⟨_, _, rfl, h1, s _ _ h1, h2⟩
  · cases h
theorem now_lst {ds : List D} (s : Sub Z H) (h : Fin K Hx Z H .t x (.lst ds)) : ∃ a vs, x = .ref a ∧ H a = some (.lst vs) ∧ Reps K Z vs ds := by
  rcases h with h | ⟨_, rfl, h⟩
  · cases h with | lst h1 h2 => exact ⟨_, _, rfl, s _ _ h1, h2⟩
  · cases h with | lst h1 h2 => exact ⟨_, _, rfl, h1, h2⟩
theorem now_dK {ds : List (Key × D)} (s : Sub Z H) (h : Fin K Hx Z H .t x (.dK ds)) : ∃ a vs, x = .ref a ∧ Rd H a (.dK vs) ∧ RepsP K Z vs ds := by
  rcases h with h | ⟨_, rfl, h⟩
  · cases h with | dK h1 h2 => exact ⟨_, _, rfl, rd_sub s h1, h2⟩
  · cases h with | dK h1 h2 => exact ⟨_, _, rfl, .inl h1, h2⟩
theorem now_dT {ds : List (List Key × D)} (s : Sub Z H) (h : Fin K Hx Z H .t x (.dT ds)) : ∃ a vs, x = .ref a ∧ Rd H a (.dT vs) ∧ RepsQ K Z vs ds := by
  rcases h with h | ⟨_, rfl, h⟩
  · cases h with | dT h1 h2 => exact ⟨_, _, rfl, rd_sub s h1, h2⟩
  · cases h with | dT h1 h2 => exact ⟨_, _, rfl, .inl h1, h2⟩
theorem now_scr {ns : List Int} (s : Sub Z H) (h : Fin K Hx Z H .t x (.scr ns)) : ∃ a, x = .ref a ∧ SqL K H a (ns.map V.int) := by
  rcases h with h | ⟨_, rfl, h⟩
  · cases h with | scr h1 => exact ⟨_, rfl, sqL_le s.le h1⟩
  · cases h
theorem now_scrZ {ns : List Int} (h : Fin K Hx Z H .t x (.scr ns)) : ∃ a, x = .ref a ∧ SqL K Z a (ns.map V.int) := by
  rcases h with h | ⟨_, rfl, h⟩
  · cases h with | scr h1 => exact ⟨_, rfl, h1⟩
  · cases h
end

/-! ### arithmetic -/
def addI : D → D → R D | .int i, .int j => .ok (.int (i + j)) | _, _ => .no
def subI : D → D → R D | .int i, .int j => .ok (.int (i - j)) | _, _ => .no
def okMul (i j : Int) : Prop := CMul i j ∨ CMulW i j
open Classical in
noncomputable def mulI : D → D → R D | .int i, .int j => if okMul i j then .ok (.int (i * j)) else .no | _, _ => .no
open Classical in
noncomputable def fdivI : D → D → R D | .int i, .int j => if CDivW i j then .ok (.int (i / j)) else .no | _, _ => .no
def modI : D → D → R D | .int i, .int j => if 0 < j then .ok (.int (i % j)) else .no | _, _ => .no
def addS : D → D → R D | .str i, .str j => if i.length + j.length ≤ sizeLine then .ok (.str (i ++ j)) else .no | _, _ => .no
def addT : D → D → R D | .tup i, .tup j => if i.length + j.length ≤ sizeLine then .ok (.tup (i ++ j)) else .no | _, _ => .no
def catL : D → D → R D | .lst i, .lst j => if i.length + j.length ≤ sizeLine then .ok (.lst (i ++ j)) else .no | _, _ => .no
def repL : D → D → R D | .lst i, .int k => if 0 ≤ k ∧ k < 1000000 ∧ i.length * k.toNat ≤ sizeLine then .ok (.lst (List.replicate k.toNat i).flatten) else .no | _, _ => .no
section
variable {X : Cx} {K : PySem.W.Frag} {G : Wh}
theorem ansC {Z H : Hp} {Q : VK} {d : D} (s : Sub Z H) (n : ∀ a o, Z a = some o → NoTb o) (h : Ans K G .c (.ok d) Z H Q) {v : V} (r : Rep K Z v d) : Q v H := h v Z H (.refl s n) r
theorem rd_addI : RDen K G (rI0 fun i j => .int (i + j)) .c addI := by
  intro x y dx dy Z H Q s n hx hy h
  unfold addI at h
  split at h
  · exact ⟨_, _, now_int hx, now_int hy, ansC s n h (.int _)⟩
  · exact h.elim
theorem rd_subI : RDen K G (rI0 fun i j => .int (i - j)) .c subI := by
  intro x y dx dy Z H Q s n hx hy h
  unfold subI at h
  split at h
  · exact ⟨_, _, now_int hx, now_int hy, ansC s n h (.int _)⟩
  · exact h.elim
theorem op_mulA : OpR X (binaryOp .Mult) (rI okMul fun i j => .int (i * j)) := opI fun _ _ _ _ _ _ _ hc q => by
  rcases hc with hc | hc
  · exact PyProof.Rows.mul_int q hc.ok
  · exact PyProof.Rows.mul_int q hc.ok
theorem rd_mulI : RDen K G (rI okMul fun i j => .int (i * j)) .c mulI := by
  intro x y dx dy Z H Q s n hx hy h
  unfold mulI at h
  split at h
  · split at h
    · rename_i hc
      exact ⟨_, _, now_int hx, now_int hy, hc, ansC s n h (.int _)⟩
    · exact h.elim
  · exact h.elim
theorem rd_fdivI : RDen K G (rI CDivW fun i j => .int (i / j)) .c fdivI := by
  intro x y dx dy Z H Q s n hx hy h
  unfold fdivI at h
  split at h
  · split at h
    · rename_i hc
      exact ⟨_, _, now_int hx, now_int hy, hc, ansC s n h (.int _)⟩
    · exact h.elim
  · exact h.elim
theorem rd_modI : RDen K G (rI (fun _ j => 0 < j) fun i j => .int (i % j)) .c modI := by
  intro x y dx dy Z H Q s n hx hy h
  unfold modI at h
  split at h
  · split at h
    · rename_i hc
      exact ⟨_, _, now_int hx, now_int hy, hc, ansC s n h (.int _)⟩
    · exact h.elim
  · exact h.elim
theorem rd_addS : RDen K G (fun x y H Q => ∃ i j, x = .str i ∧ y = .str j ∧ i.length + j.length ≤ sizeLine ∧ Q (.str (i ++ j)) H) .c addS := by
  intro x y dx dy Z H Q s n hx hy h
  unfold addS at h
  split at h
  · split at h
    · rename_i hc
      exact ⟨_, _, now_str hx, now_str hy, hc, ansC s n h (.str _)⟩
    · exact h.elim
  · exact h.elim
theorem rep_newT {Z H : Hp} {vs : List V} {ds : List D} {p : Addr} (s : Sub Z H) (hp : H p = none) (r : Reps K Z vs ds) : Rep K (upd Z p (.tup vs)) (.ref p) (.tup ds) :=
  .tup upd_same (Reps.le (sub_upd (sub_none s hp)).le _ _ r)
theorem ansT {Z H : Hp} {Q : VK} {ds : List D} {vs : List V} (s : Sub Z H) (n : ∀ a o, Z a = some o → NoTb o) (h : Ans K G .c (.ok (.tup ds)) Z H Q) (r : Reps K Z vs ds) : ∀ p, H p = none → Q (.ref p) (upd H p (.tup vs)) :=
  fun p hp => h _ _ _ (grow_newz s n hp (nt_tup _)) (rep_newT s hp r)
theorem ansL {Z H : Hp} {Q : VK} {ds : List D} {vs : List V} (s : Sub Z H) (n : ∀ a o, Z a = some o → NoTb o) (h : Ans K G .f (.ok (.lst ds)) Z H Q) (r : Reps K Z vs ds) : ∀ p, H p = none → Q (.ref p) (upd H p (.lst vs)) :=
  fun p hp => h _ Z _ (grow_new s n hp) ⟨p, rfl, .lst upd_same r, sub_none s hp, nprot_none hp⟩
theorem rd_addT : RDen K G (rCatA K) .c addT := by
  intro x y dx dy Z H Q s n hx hy h
  unfold addT at h
  split at h
  · rename_i i j
    split at h
    · rename_i hc
      obtain ⟨a, vs, rfl, hz, hh, r⟩ := now_tup s hx
      obtain ⟨b, us, rfl, hz2, hh2, r2⟩ := now_tup s hy
      have l1 := r.length
      have l2 := r2.length
      refine ⟨a, b, vs, us, rfl, rfl, SqT.of hh, SqT.of hh2, by omega, fun e => ?_, fun _ e => ?_, fun _ _ => ansT s n h (r.append r2)⟩
      · subst e
        cases r
        exact ansC s n h (.tup hz2 r2)
      · subst e
        cases r2
        rw [List.append_nil] at h
        exact ansC s n h (.tup hz r)
    · exact h.elim
  · exact h.elim
theorem rd_catL : RDen K G rCat .f catL := by
  intro x y dx dy Z H Q s n hx hy h
  unfold catL at h
  split at h
  · split at h
    · rename_i hc
      obtain ⟨a, vs, rfl, hh, r⟩ := now_lst s hx
      obtain ⟨b, us, rfl, hh2, r2⟩ := now_lst s hy
      have l1 := r.length
      have l2 := r2.length
      exact ⟨a, b, vs, us, rfl, rfl, hh, hh2, by omega, ansL s n h (r.append r2)⟩
    · exact h.elim
  · exact h.elim
theorem rd_repL : RDen K G rRep .f repL := by
  intro x y dx dy Z H Q s n hx hy h
  unfold repL at h
  split at h
  · split at h
    · rename_i hc
      obtain ⟨a, vs, rfl, hh, r⟩ := now_lst s hx
      have l1 := r.length
      exact ⟨a, _, vs, rfl, now_int hy, hh, by omega, by omega, by rw [l1]; exact hc.2.2, ansL s n h (r.rep _)⟩
    · exact h.elim
  · exact h.elim
theorem un_negA {Z H : Hp} {Q : VK} {x : V} {d : D} (s : Sub Z H) (n : ∀ a o, Z a = some o → NoTb o) (hx : Fin K H Z H .t x d) (h : Ans K G .c (subI (.int 0) d) Z H Q) : rU (fun i => .int (-i)) x H Q := by
  unfold subI at h
  split at h
  · rename_i i j e
    cases e
    refine ⟨_, now_int hx, ?_⟩
    have := ansC s n h (.int _)
    rwa [Int.zero_sub] at this
  · exact h.elim

/-! ### comparisons -/
def shp (d : D) : Bool := (toPy d).canLay0 && decide ((toPy d).depth ≤ 200)
def eqD (d e : D) : Bool := PyData.eqv (toPy d) (toPy e)
def cmEq : D → D → R D := fun d e => if shp d && shp e then .ok (.bl (eqD d e)) else .no
def cmNe : D → D → R D := fun d e => if shp d && shp e then .ok (.bl (!eqD d e)) else .no
def rEqS (K : PySem.W.Frag) (neg : Bool) : R2 := fun x y H Q => ∃ d e, Dp K H x d ∧ Dp K H y e ∧ d.canLay0 = true ∧ e.canLay0 = true ∧ d.depth ≤ 200 ∧ Q (.bl (if neg then !PyData.eqv d e else PyData.eqv d e)) H
theorem op_eqS (hu : X.A.units + 200 < cLine) : OpR X (compareOp .Eq) (rEqS X.K false) := by
  intro pins s σ H x y v u Q I rx ry h
  obtain ⟨d, e, hd, he, sd, se, hz, q⟩ := h
  obtain ⟨as, r1⟩ := Dp.reads I d x v hd rx
  obtain ⟨bs, r2⟩ := Dp.reads I e y u he ry
  exact SeqAt.compareEq_reads r1 r2 sd se (by have := Nat.min_le_left d.depth e.depth; omega) ⟨.bl _, H, I, rfl, q⟩
theorem op_neS (hu : X.A.units + 200 < cLine) : OpR X (compareOp .NotEq) (rEqS X.K true) := by
  intro pins s σ H x y v u Q I rx ry h
  obtain ⟨d, e, hd, he, sd, se, hz, q⟩ := h
  obtain ⟨as, r1⟩ := Dp.reads I d x v hd rx
  obtain ⟨bs, r2⟩ := Dp.reads I e y u he ry
  exact SeqAt.compareNe_reads r1 r2 sd se (by have := Nat.min_le_left d.depth e.depth; omega) ⟨.bl _, H, I, rfl, q⟩
theorem shp_iff {d : D} (h : shp d = true) : (toPy d).canLay0 = true ∧ (toPy d).depth ≤ 200 := by
  unfold shp at h
  rw [Bool.and_eq_true] at h
  exact ⟨h.1, of_decide_eq_true h.2⟩
theorem rd_eq : RDen K G (rEqS K false) .c cmEq := by
  intro x y dx dy Z H Q s n hx hy h
  unfold cmEq at h
  split at h
  · rename_i hc
    rw [Bool.and_eq_true] at hc
    obtain ⟨c1, d1⟩ := shp_iff hc.1
    obtain ⟨c2, d2⟩ := shp_iff hc.2
    exact ⟨_, _, Rep.dp _ _ c1 (Now.rep s hx), Rep.dp _ _ c2 (Now.rep s hy), c1, c2, d1, ansC s n h (.bl _)⟩
  · exact h.elim
theorem rd_ne : RDen K G (rEqS K true) .c cmNe := by
  intro x y dx dy Z H Q s n hx hy h
  unfold cmNe at h
  split at h
  · rename_i hc
    rw [Bool.and_eq_true] at hc
    obtain ⟨c1, d1⟩ := shp_iff hc.1
    obtain ⟨c2, d2⟩ := shp_iff hc.2
    exact ⟨_, _, Rep.dp _ _ c1 (Now.rep s hx), Rep.dp _ _ c2 (Now.rep s hy), c1, c2, d1, ansC s n h (.bl _)⟩
  · exact h.elim
/-- orders of ints, of texts -/
def cmI (p : Int → Int → Bool) : D → D → R D | .int i, .int j => .ok (.bl (p i j)) | _, _ => .no
def cmS (p : List Nat → List Nat → Bool) : D → D → R D | .str i, .str j => .ok (.bl (p i.cps.toList j.cps.toList)) | _, _ => .no
theorem rd_cmI {p : Int → Int → Bool} : RDen K G (rI0 fun i j => .bl (p i j)) .c (cmI p) := by
  intro x y dx dy Z H Q s n hx hy h
  unfold cmI at h
  split at h
  · exact ⟨_, _, now_int hx, now_int hy, ansC s n h (.bl _)⟩
  · exact h.elim
theorem rd_cmS {p : List Nat → List Nat → Bool} : RDen K G (fun x y H Q => ∃ i j, x = .str i ∧ y = .str j ∧ Q (.bl (p i.cps.toList j.cps.toList)) H) .c (cmS p) := by
  intro x y dx dy Z H Q s n hx hy h
  unfold cmS at h
  split at h
  · exact ⟨_, _, now_str hx, now_str hy, ansC s n h (.bl _)⟩
  · exact h.elim
/-- is None -/
def isN (d : D) : R D := .ok (.bl (match d with | .non => true | _ => false))
def notN (d : D) : R D := .ok (.bl (match d with | .non => false | _ => true))
theorem now_isN {Z H : Hp} {x : V} {d : D} (hx : Fin K H Z H .t x d) : decide (x = .non) = (match d with | .non => true | _ => false) := by
  rcases hx with h | ⟨a, rfl, h⟩
  · cases h <;> first | rfl | (exact decide_eq_false (fun q => by cases q))
  · cases h <;> exact decide_eq_false (fun q => by cases q)

/-! ### in -/
def inS1 (neg : Bool) (z : List Nat) : List Nat → R D
  | [c] => .ok (.bl (if neg then !decide (c ∈ z) else decide (c ∈ z)))
  | _ => .no
def inS (neg : Bool) : D → D → R D | .str x, .str z => inS1 neg z.cps.toList x.cps.toList | _, _ => .no
theorem one_str {x : Str} {c : Nat} (h : x.cps.toList = [c]) : x = ⟨#[c]⟩ := by
  cases x with | mk a => cases a; simp at h; subst h; rfl
theorem rd_inS : RDen K G (fun x y H Q => ∃ (c : Nat) (z : Str), x = .str ⟨#[c]⟩ ∧ y = .str z ∧ Q (.bl (decide (c ∈ z.cps.toList))) H) .c (inS false) := by
  intro x y dx dy Z H Q s n hx hy h
  unfold inS at h
  split at h
  · unfold inS1 at h
    split at h
    · rename_i e
      refine ⟨_, _, ?_, now_str hy, ansC s n h (.bl _)⟩
      rw [now_str hx, one_str e]
    · exact h.elim
  · exact h.elim
theorem rd_niS : RDen K G (fun x y H Q => ∃ (c : Nat) (z : Str), x = .str ⟨#[c]⟩ ∧ y = .str z ∧ Q (.bl (!decide (c ∈ z.cps.toList))) H) .c (inS true) := by
  intro x y dx dy Z H Q s n hx hy h
  unfold inS at h
  split at h
  · unfold inS1 at h
    split at h
    · rename_i e
      refine ⟨_, _, ?_, now_str hy, ansC s n h (.bl _)⟩
      rw [now_str hx, one_str e]
    · exact h.elim
  · exact h.elim
def flatD : D → Bool | .non => true | .bl _ => true | .int _ => true | .str _ => true | _ => false
def itemsD : D → Option (List D) | .lst ds => some ds | .tup ds => some ds | _ => none
def inF (neg : Bool) : D → D → R D := fun x y => match itemsD y with
  | some ds => if flatD x && ds.all flatD then .ok (.bl (if neg then !(ds.any fun d => eqD d x) else ds.any fun d => eqD d x)) else .no
  | none => .no
theorem flat_of {Z : Hp} {v : V} {d : D} (r : Rep K Z v d) (f : flatD d = true) : flatV v = true := by
  cases r <;> first | rfl | cases f
theorem flat_all {Z : Hp} : ∀ {vs : List V} {ds : List D}, Reps K Z vs ds → ds.all flatD = true → vs.all flatV = true
  | _, _, .nil, _ => rfl
  | _, _, .cons h t, f => by
    rw [List.all_cons, Bool.and_eq_true] at f
    rw [List.all_cons, flat_of h f.1, flat_all t f.2]; rfl
theorem eqV_eqD {Z Z' : Hp} {v w : V} {d e : D} (r : Rep K Z v d) (q : Rep K Z' w e) (f : flatD d = true) (f' : flatD e = true) : eqV v w = eqD d e := by
  cases r <;> cases q <;> first | rfl | cases f | cases f'
theorem any_eq {Z Z' : Hp} {w : V} {e : D} (q : Rep K Z' w e) (f' : flatD e = true) : ∀ {vs : List V} {ds : List D}, Reps K Z vs ds → ds.all flatD = true → inV w vs = ds.any fun d => eqD d e
  | _, _, .nil, _ => rfl
  | _, _, .cons h t, f => by
    rw [List.all_cons, Bool.and_eq_true] at f
    have := any_eq q f' t f.2
    unfold inV at this ⊢
    rw [List.any_cons, List.any_cons, this, eqV_eqD h q f.1 f']
theorem now_items {Z H : Hp} {y : V} {d : D} {ds : List D} (s : Sub Z H) (h : Fin K H Z H .t y d) (e : itemsD d = some ds) : ∃ a vs, y = .ref a ∧ (SqL K H a vs ∨ SqT K H a vs) ∧ Reps K Z vs ds := by
  cases d with
  | lst es => cases e; obtain ⟨a, vs, rfl, h1, h2⟩ := now_lst s h; exact ⟨a, vs, rfl, .inl (SqL.of h1), h2⟩
  | tup es => cases e; obtain ⟨a, vs, rfl, _, h1, h2⟩ := now_tup s h; exact ⟨a, vs, rfl, .inr (SqT.of h1), h2⟩
  | non => cases e
  | bl _ => cases e
  | int _ => cases e
  | str _ => cases e
  | dK _ => cases e
  | dT _ => cases e
  | scr _ => cases e
theorem rd_inF {neg : Bool} : RDen K G (rIn K neg) .c (inF neg) := by
  intro x y dx dy Z H Q s n hx hy h
  unfold inF at h
  split at h
  · rename_i ds e
    split at h
    · rename_i hc
      rw [Bool.and_eq_true] at hc
      obtain ⟨a, vs, rfl, hh, r⟩ := now_items s hy e
      have rx := Now.rep s hx
      refine ⟨a, vs, rfl, hh, flat_of rx hc.1, flat_all r hc.2, ?_⟩
      rw [any_eq rx hc.1 r hc.2]
      exact ansC s n h (.bl _)
    · exact h.elim
  · exact h.elim
end
end VS

set_option Elab.async false
set_option linter.all false
set_option maxRecDepth 100000
set_option maxHeartbeats 2000000
/-! VS5: places, slices, built-ins on data. -/
namespace VS
open PySem L2 LamX
section
variable {X : Cx} {K : PySem.W.Frag} {G : Wh}

/-! ### places -/
def ixL : D → D → R D | .lst ds, .int i => (match atI ds i with | some d => .ok d | none => .no) | _, _ => .no
def ixT : D → D → R D | .tup ds, .int i => (match atI ds i with | some d => .ok d | none => .no) | _, _ => .no
def ixS : D → D → R D | .str z, .int i => (if z.length ≤ sizeLine then (match atI z.cps.toList i with | some c => .ok (.str ⟨#[c]⟩) | none => .no) else .no) | _, _ => .no
def ixC : D → D → R D | .scr ns, .int i => (match atI ns i with | some n => .ok (.int n) | none => .no) | _, _ => .no
theorem atI_reps {Z : Hp} {vs : List V} {ds : List D} {i : Int} {d : D} (r : Reps K Z vs ds) (h : atI ds i = some d) : ∃ v, atI vs i = some v ∧ Rep K Z v d := by
  unfold atI at h ⊢
  rw [r.length]
  cases e : ixN ds.length i with
  | none => rw [e] at h; cases h
  | some j =>
    rw [e] at h
    obtain ⟨v, h1, h2⟩ := r.get (show ds[j]? = some d from h)
    exact ⟨v, h1, h2⟩
theorem rd_ixL : RDen K G (rIxL K) .c ixL := by
  intro x y dx dy Z H Q s n hx hy h
  unfold ixL at h
  split at h
  · rename_i ds i
    cases e : atI ds i with
    | none => rw [e] at h; exact h.elim
    | some d =>
      rw [e] at h
      obtain ⟨a, vs, rfl, hh, r⟩ := now_lst s hx
      obtain ⟨v, h1, h2⟩ := atI_reps r e
      exact ⟨a, vs, i, v, rfl, now_int hy, SqL.of hh, h1, ansC s n h h2⟩
  · exact h.elim
theorem rd_ixT : RDen K G (rIxT K) .c ixT := by
  intro x y dx dy Z H Q s n hx hy h
  unfold ixT at h
  split at h
  · rename_i ds i
    cases e : atI ds i with
    | none => rw [e] at h; exact h.elim
    | some d =>
      rw [e] at h
      obtain ⟨a, vs, rfl, _, hh, r⟩ := now_tup s hx
      obtain ⟨v, h1, h2⟩ := atI_reps r e
      exact ⟨a, vs, i, v, rfl, now_int hy, SqT.of hh, h1, ansC s n h h2⟩
  · exact h.elim
theorem rd_ixS : RDen K G rIxS .c ixS := by
  intro x y dx dy Z H Q s n hx hy h
  unfold ixS at h
  split at h
  · rename_i z i
    split at h
    · rename_i hz
      cases e : atI z.cps.toList i with
      | none => rw [e] at h; exact h.elim
      | some c =>
        rw [e] at h
        exact ⟨z, i, c, now_str hx, now_int hy, hz, e, ansC s n h (.str _)⟩
    · exact h.elim
  · exact h.elim
theorem atI_map {α β : Type} (f : α → β) {xs : List α} {i : Int} {v : α} (h : atI xs i = some v) : atI (xs.map f) i = some (f v) := by
  unfold atI at h ⊢
  rw [List.length_map]
  cases e : ixN xs.length i with
  | none => rw [e] at h; cases h
  | some j =>
    rw [e] at h
    show (xs.map f)[j]? = _
    rw [List.getElem?_map, show xs[j]? = some v from h]; rfl
theorem rd_ixC : RDen K G (rIxL K) .c ixC := by
  intro x y dx dy Z H Q s n hx hy h
  unfold ixC at h
  split at h
  · rename_i ns i
    cases e : atI ns i with
    | none => rw [e] at h; exact h.elim
    | some d =>
      rw [e] at h
      obtain ⟨a, rfl, hh⟩ := now_scr s hx
      exact ⟨a, _, i, _, rfl, now_int hy, hh, atI_map V.int e, ansC s n h (.int _)⟩
  · exact h.elim

/-! ### slices -/
def cut {α : Type} (xs : List α) (lo hi : Option Int) : List α := (xs.drop (HT.sIx xs.length 0 lo)).take (HT.sIx xs.length xs.length hi - HT.sIx xs.length 0 lo)
theorem cut_reps {Z : Hp} {vs : List V} {ds : List D} (r : Reps K Z vs ds) (lo hi : Option Int) : Reps K Z (cutV vs lo hi) (cut ds lo hi) := by
  unfold cutV cut
  rw [r.length]
  exact (r.drop _).take _
def slL : D → Option Int → Option Int → R D | .lst ds, lo, hi => .ok (.lst (cut ds lo hi)) | _, _, _ => .no
def slT : D → Option Int → Option Int → R D | .tup ds, lo, hi => .ok (.tup (cut ds lo hi)) | _, _, _ => .no
def slS : D → Option Int → Option Int → R D | .str z, lo, hi => (if z.length ≤ sizeLine then .ok (.str (cutS z lo hi)) else .no) | _, _, _ => .no
def SDen (K : PySem.W.Frag) (G : Wh) (r : V → Option Int → Option Int → Hp → VK → Prop) (m : Md) (f : D → Option Int → Option Int → R D) : Prop :=
  ∀ x lo hi dx Z H Q, Sub Z H → (∀ a o, Z a = some o → NoTb o) → Fin K H Z H .t x dx → Ans K G m (f dx lo hi) Z H Q → r x lo hi H Q
theorem sd_L : SDen K G (rSlL K) .f slL := by
  intro x lo hi dx Z H Q s n hx h
  unfold slL at h
  split at h
  · obtain ⟨a, vs, rfl, hh, r⟩ := now_lst s hx
    exact ⟨a, vs, rfl, SqL.of hh, ansL s n h (cut_reps r lo hi)⟩
  · exact h.elim
theorem cut_whole {α : Type} {xs : List α} {lo hi : Option Int} (h1 : HT.sIx xs.length 0 lo = 0) (h2 : HT.sIx xs.length xs.length hi = xs.length) : cut xs lo hi = xs := by
  unfold cut
  rw [h1, h2, List.drop_zero, Nat.sub_zero, List.take_length]
theorem sd_T : SDen K G (rSlA K) .c slT := by
  intro x lo hi dx Z H Q s n hx h
  unfold slT at h
  split at h
  · rename_i ds
    obtain ⟨a, vs, rfl, hz, hh, r⟩ := now_tup s hx
    refine ⟨a, vs, rfl, SqT.of hh, fun ⟨w1, w2⟩ => ?_, fun _ => ansT s n h (cut_reps r lo hi)⟩
    rw [r.length] at w1 w2
    rw [cut_whole w1 w2] at h
    exact ansC s n h (.tup hz r)
  · exact h.elim
theorem sd_S : SDen K G rSlS .c slS := by
  intro x lo hi dx Z H Q s n hx h
  unfold slS at h
  split at h
  · split at h
    · rename_i hz
      exact ⟨_, now_str hx, hz, ansC s n h (.str _)⟩
    · exact h.elim
  · exact h.elim
def goNone : Env → R (Option Int) := fun _ => .ok none
def goSome (g : Env → R D) : Env → R (Option Int) := fun ρ => do match ← g ρ with | .int i => pure (some i) | _ => .no
theorem deno_none : DenO X G none goNone := ⟨_, po_none, fun Z0 H0 Z H σ ρ Q S h => h Z H (.refl S.sub S.nt)⟩
theorem deno_some {e : Expr} {g : Env → R D} {m : Md} (h : Den X G m e g) : DenO X G (some e) (goSome g) := by
  obtain ⟨t, p, q⟩ := h.ex
  refine ⟨_, po_some p, fun Z0 H0 Z H σ ρ Q S k => ?_⟩
  refine q Z0 H0 Z H σ ρ _ S ?_
  unfold goSome at k
  cases ea : g ρ with
  | no => rw [ea] at k; exact k
  | ex c => rw [ea] at k; exact k
  | ok d =>
    rw [ea] at k
    cases d with
    | int i => exact fun v Z' H' g' f => ⟨i, now_int (f.now (Hx := H')), k Z' H' g'⟩
    | non => exact k.elim
    | bl _ => exact k.elim
    | str _ => exact k.elim
    | tup _ => exact k.elim
    | lst _ => exact k.elim
    | dK _ => exact k.elim
    | dT _ => exact k.elim
    | scr _ => exact k.elim
def geSl (f : D → Option Int → Option Int → R D) (g : Env → R D) (gl gh : Env → R (Option Int)) : Env → R D := fun ρ => do let x ← g ρ; let lo ← gl ρ; let hi ← gh ρ; f x lo hi
theorem den_sl {e : Expr} {lo hi : Option Expr} {r : V → Option Int → Option Int → Hp → VK → Prop} {m1 m : Md} {f : D → Option Int → Option Int → R D} {g : Env → R D} {gl gh : Env → R (Option Int)} {p2 pos : Pos}
    (hr : SlR X r) (hd : SDen X.K G r m f) (he : Den X G m1 e g) (hl : DenO X G lo gl) (hh : DenO X G hi gh) : Den X G m (.Subscript e (.Slice lo hi none p2) pos) (geSl f g gl gh) := by
  obtain ⟨t, p, q⟩ := he.ex
  obtain ⟨tl, pl, ql⟩ := hl.ex
  obtain ⟨th, ph, qh⟩ := hh.ex
  refine ⟨_, pe_slice hr p pl ph, fun Z0 H0 Z H σ ρ Q S k => ?_⟩
  refine q Z0 H0 Z H σ ρ _ S ?_
  unfold geSl at k
  cases ea : g ρ with
  | no => rw [ea] at k; exact k
  | ex c => rw [ea] at k; exact k
  | ok d =>
    rw [ea] at k
    intro v Z1 H1 g1 f1
    refine ql Z0 H0 Z1 H1 σ ρ _ (S.grow g1) ?_
    cases eb : gl ρ with
    | no => rw [eb] at k; exact k
    | ex c => rw [eb] at k; exact fun Z' H' g' => k Z' H' (g1.trans g')
    | ok l =>
      rw [eb] at k
      intro Z2 H2 g2
      refine qh Z0 H0 Z2 H2 σ ρ _ (S.grow (g1.trans g2)) ?_
      cases ec : gh ρ with
      | no => rw [ec] at k; exact k
      | ex c => rw [ec] at k; exact fun Z' H' g' => k Z' H' ((g1.trans g2).trans g')
      | ok u =>
        rw [ec] at k
        intro Z3 H3 g3
        exact hd v l u d Z3 H3 Q g3.s g3.n (Now.grow (g2.trans g3) (f1.now (Hx := H))) (Ans.grow k ((g1.trans g2).trans g3))
def revL : D → R D | .lst ds => .ok (.lst ds.reverse) | _ => .no
def ge1 (f : D → R D) (g : Env → R D) : Env → R D := fun ρ => do let x ← g ρ; f x
theorem den_revL {e : Expr} {k : Nat} {p1 p2 p3 pos : Pos} {m1 : Md} {g : Env → R D} (he : Den X G m1 e g) : Den X G .f (.Subscript e (.Slice none none (some (.UnaryOp .USub (.Constant (.int 1) k p1) p2)) p3) pos) (ge1 revL g) := by
  obtain ⟨t, p, q⟩ := he.ex
  refine ⟨_, pe_revL p, fun Z0 H0 Z H σ ρ Q S k => ?_⟩
  refine q Z0 H0 Z H σ ρ _ S ?_
  unfold ge1 at k
  cases ea : g ρ with
  | no => rw [ea] at k; exact k
  | ex c => rw [ea] at k; exact k
  | ok d =>
    rw [ea] at k
    intro v Z1 H1 g1 f1
    have k' : Ans X.K G .f (revL d) Z1 H1 Q := Ans.grow k g1
    unfold revL at k'
    split at k'
    · obtain ⟨a, vs, rfl, hh, r⟩ := now_lst g1.s (f1.now (Hx := H))
      exact ⟨a, vs, rfl, SqL.of hh, ansL g1.s g1.n k' r.reverse⟩
    · exact k'.elim

/-! ### built-ins of one value -/
def lenD : List D → R D
  | [.lst ds] => .ok (.int ds.length) | [.tup ds] => .ok (.int ds.length) | [.scr ns] => .ok (.int ns.length)
  | [.str z] => if z.length ≤ sizeLine then .ok (.int z.length) else .no | _ => .no
theorem fins1 {m : Md} {Z H : Hp} {vs : List V} {d : D} (h : Fins K m Z H vs [d]) : ∃ v, vs = [v] ∧ Fin K H Z H m v d := by
  cases h with | cons h t => cases t; exact ⟨_, rfl, h⟩
theorem fins2 {m : Md} {Z H : Hp} {vs : List V} {d e : D} (h : Fins K m Z H vs [d, e]) : ∃ v w, vs = [v, w] ∧ Fin K H Z H m v d ∧ Fin K H Z H m w e := by
  cases h with | cons h t => obtain ⟨w, rfl, q⟩ := fins1 t; exact ⟨_, _, rfl, h, q⟩
theorem ad_len : ADen K G (fun xs H Q => ∃ x n, xs = [x] ∧ LenV K x H n ∧ Q (.int n) H) .t .c lenD := by
  intro vs ds Z H Q s n f h
  unfold lenD at h
  split at h
  · obtain ⟨v, rfl, fv⟩ := fins1 f
    obtain ⟨a, us, rfl, hh, r⟩ := now_lst s fv
    exact ⟨_, _, rfl, .inl ⟨_, SqL.of hh, r.length.symm⟩, ansC s n h (.int _)⟩
  · obtain ⟨v, rfl, fv⟩ := fins1 f
    obtain ⟨a, us, rfl, _, hh, r⟩ := now_tup s fv
    exact ⟨_, _, rfl, .inr ⟨_, SqT.of hh, r.length.symm⟩, ansC s n h (.int _)⟩
  · obtain ⟨v, rfl, fv⟩ := fins1 f
    obtain ⟨a, rfl, hh⟩ := now_scr s fv
    exact ⟨_, _, rfl, .inl ⟨_, hh, (List.length_map (as := _) _).symm⟩, ansC s n h (.int _)⟩
  · split at h
    · rename_i hz
      obtain ⟨v, rfl, fv⟩ := fins1 f
      exact ⟨_, _, rfl, by rw [now_str fv]; exact ⟨hz, rfl⟩, ansC s n h (.int _)⟩
    · exact h.elim
  · exact h.elim
def lenDct : List D → R D | [.dK kvs] => .ok (.int kvs.length) | _ => .no
theorem RepsP.length {Z : Hp} : ∀ {ds : List (Key × D)} {vs : List (Key × V)}, RepsP K Z vs ds → vs.length = ds.length
  | [], _, h => by cases h; rfl
  | _ :: ds, _, h => by cases h with | cons _ t => simp [RepsP.length t]
theorem RepsQ.length {Z : Hp} : ∀ {ds : List (List Key × D)} {vs : List (List Key × V)}, RepsQ K Z vs ds → vs.length = ds.length
  | [], _, h => by cases h; rfl
  | _ :: ds, _, h => by cases h with | cons _ t => simp [RepsQ.length t]
def rLenD : List V → Hp → VK → Prop := fun xs H Q => ∃ a kvs, xs = [.ref a] ∧ Rd H a (.dK kvs) ∧ Q (.int kvs.length) H
theorem call_lenDct : CallR X (.builtin "len") rLenD := by
  intro pins s σ H xs us Q I r h
  obtain ⟨a, kvs, rfl, e, q⟩ := h
  obtain ⟨u, rfl, rx⟩ := vals1 r
  cases rx
  exact d_len I e fun t s' I' => ⟨.int _, H, I', ⟨t, rfl⟩, q⟩
theorem ad_lenDct : ADen K G rLenD .t .c lenDct := by
  intro vs ds Z H Q s n f h
  unfold lenDct at h
  split at h
  · obtain ⟨v, rfl, fv⟩ := fins1 f
    obtain ⟨a, us, rfl, hh, r⟩ := now_dK s fv
    rw [← r.length] at h
    exact ⟨a, us, rfl, hh, ansC s n h (.int _)⟩
  · exact h.elim
def listD : List D → R D | [.lst ds] => .ok (.lst ds) | [.tup ds] => .ok (.lst ds) | _ => .no
theorem ad_list : ADen K G (fun xs H Q => ∃ p ys, xs = [.ref p] ∧ (SqL K H p ys ∨ SqT K H p ys) ∧ ∀ l, H l = none → Q (.ref l) (upd H l (.lst ys))) .t .f listD := by
  intro vs ds Z H Q s n f h
  unfold listD at h
  split at h
  · obtain ⟨v, rfl, fv⟩ := fins1 f
    obtain ⟨a, us, rfl, hh, r⟩ := now_lst s fv
    exact ⟨a, us, rfl, .inl (SqL.of hh), ansL s n h r⟩
  · obtain ⟨v, rfl, fv⟩ := fins1 f
    obtain ⟨a, us, rfl, _, hh, r⟩ := now_tup s fv
    exact ⟨a, us, rfl, .inr (SqT.of hh), ansL s n h r⟩
  · exact h.elim
def keyV : Key → D | .inl i => .int i | .inr s => .str s
theorem rep_key {Z : Hp} (k : Key) : Rep K Z (kV k) (keyV k) := by
  cases k with
  | inl i => exact .int i
  | inr s => exact .str s
theorem reps_keys {Z : Hp} : ∀ {ds : List (Key × D)} {vs : List (Key × V)}, RepsP K Z vs ds → Reps K Z (vs.map fun kv => kV kv.1) (ds.map fun kd => keyV kd.1)
  | [], _, h => by cases h; exact .nil
  | (k, d) :: ds, _, h => by cases h with | cons _ t => exact .cons (rep_key k) (reps_keys t)
def listDct : List D → R D | [.dK kvs] => .ok (.lst (kvs.map fun kd => keyV kd.1)) | _ => .no
theorem ad_listDct : ADen K G (fun xs H Q => ∃ (a : Addr) (kvs : List (Key × V)), xs = [.ref a] ∧ Rd H a (.dK kvs) ∧ ∀ p, H p = none → Q (.ref p) (upd H p (.lst (kvs.map fun kv => kV kv.1)))) .t .f listDct := by
  intro vs ds Z H Q s n f h
  unfold listDct at h
  split at h
  · obtain ⟨v, rfl, fv⟩ := fins1 f
    obtain ⟨a, us, rfl, hh, r⟩ := now_dK s fv
    exact ⟨a, us, rfl, hh, ansL s n h (reps_keys r)⟩
  · exact h.elim
def tupOf : List D → R D | [.lst ds] => .ok (.tup ds) | [.tup ds] => .ok (.tup ds) | _ => .no
theorem ad_tuple : ADen K G (fun xs H Q => ∃ p ys, xs = [.ref p] ∧ ((SqL K H p ys ∧ ∀ l, H l = none → Q (.ref l) (upd H l (.tup ys))) ∨ (SqT K H p ys ∧ Q (.ref p) H))) .t .c tupOf := by
  intro vs ds Z H Q s n f h
  unfold tupOf at h
  split at h
  · obtain ⟨v, rfl, fv⟩ := fins1 f
    obtain ⟨a, us, rfl, hh, r⟩ := now_lst s fv
    exact ⟨a, us, rfl, .inl ⟨SqL.of hh, ansT s n h r⟩⟩
  · obtain ⟨v, rfl, fv⟩ := fins1 f
    obtain ⟨a, us, rfl, hz, hh, r⟩ := now_tup s fv
    exact ⟨a, us, rfl, .inr ⟨SqT.of hh, ansC s n h (.tup hz r)⟩⟩
  · exact h.elim
/-- all are ints; truths; texts -/
def intsD : List D → Option (List Int)
  | [] => some [] | .int i :: ds => (intsD ds).map (i :: ·) | _ :: _ => none
def blsD : List D → Option (List Bool)
  | [] => some [] | .bl b :: ds => (blsD ds).map (b :: ·) | _ :: _ => none
def strsD : List D → Option (List Str)
  | [] => some [] | .str b :: ds => (strsD ds).map (b :: ·) | _ :: _ => none
theorem ints_of {Z : Hp} : ∀ {ds : List D} {vs : List V} {ns : List Int}, Reps K Z vs ds → intsD ds = some ns → vs = ns.map V.int
  | [], _, _, h, e => by cases h; cases e; rfl
  | d :: ds, _, ns, h, e => by
    cases h with
    | cons h t =>
      cases d with
      | int i =>
        unfold intsD at e
        cases q : intsD ds with
        | none => rw [q] at e; cases e
        | some ms => rw [q] at e; cases e; cases h; rw [ints_of t q]; rfl
      | _ => cases e
theorem bls_of {Z : Hp} : ∀ {ds : List D} {vs : List V} {ns : List Bool}, Reps K Z vs ds → blsD ds = some ns → vs = ns.map V.bl
  | [], _, _, h, e => by cases h; cases e; rfl
  | d :: ds, _, ns, h, e => by
    cases h with
    | cons h t =>
      cases d with
      | bl i =>
        unfold blsD at e
        cases q : blsD ds with
        | none => rw [q] at e; cases e
        | some ms => rw [q] at e; cases e; cases h; rw [bls_of t q]; rfl
      | _ => cases e
theorem strs_of {Z : Hp} : ∀ {ds : List D} {vs : List V} {ns : List Str}, Reps K Z vs ds → strsD ds = some ns → vs = ns.map V.str
  | [], _, _, h, e => by cases h; cases e; rfl
  | d :: ds, _, ns, h, e => by
    cases h with
    | cons h t =>
      cases d with
      | str i =>
        unfold strsD at e
        cases q : strsD ds with
        | none => rw [q] at e; cases e
        | some ms => rw [q] at e; cases e; cases h; rw [strs_of t q]; rfl
      | _ => cases e
def sumD : List D → R D | [.lst ds] => (match intsD ds with | some ns => .ok (.int ns.sum) | none => .no) | _ => .no
theorem ad_sum : ADen K G (rSum K) .t .c sumD := by
  intro vs ds Z H Q s n f h
  unfold sumD at h
  split at h
  · rename_i es
    obtain ⟨v, rfl, fv⟩ := fins1 f
    obtain ⟨a, us, rfl, hh, r⟩ := now_lst s fv
    cases e : intsD es with
    | none => rw [e] at h; exact h.elim
    | some ns =>
      rw [e] at h
      exact ⟨a, ns, rfl, SqL.of (by rw [hh, ints_of r e]), ansC s n h (.int _)⟩
  · exact h.elim
def allD : List D → R D | [.lst ds] => (match blsD ds with | some bs => .ok (.bl (bs.all id)) | none => .no) | _ => .no
theorem ad_all : ADen K G (rAll K) .t .c allD := by
  intro vs ds Z H Q s n f h
  unfold allD at h
  split at h
  · rename_i es
    obtain ⟨v, rfl, fv⟩ := fins1 f
    obtain ⟨a, us, rfl, hh, r⟩ := now_lst s fv
    cases e : blsD es with
    | none => rw [e] at h; exact h.elim
    | some ns =>
      rw [e] at h
      exact ⟨a, ns, rfl, SqL.of (by rw [hh, bls_of r e]), ansC s n h (.bl _)⟩
  · exact h.elim
def maxI : List Int → Int
  | [] => 0 | [a] => a | a :: b :: r => let m := maxI (b :: r); if a < m then m else a
def minI : List Int → Int
  | [] => 0 | [a] => a | a :: b :: r => let m := minI (b :: r); if m < a then m else a
theorem maxI_is : ∀ (ns : List Int), ns ≠ [] → maxI ns ∈ ns ∧ ∀ y ∈ ns, y ≤ maxI ns
  | [], h => absurd rfl h
  | [a], _ => by simp [maxI]
  | a :: b :: r, _ => by
    obtain ⟨h1, h2⟩ := maxI_is (b :: r) (by simp)
    unfold maxI
    dsimp only
    split
    · exact ⟨List.mem_cons_of_mem _ h1, fun y hy => by
        rcases List.mem_cons.mp hy with rfl | hy
        · omega
        · exact h2 y hy⟩
    · exact ⟨List.mem_cons_self, fun y hy => by
        rcases List.mem_cons.mp hy with rfl | hy
        · omega
        · have := h2 y hy; omega⟩
theorem minI_is : ∀ (ns : List Int), ns ≠ [] → minI ns ∈ ns ∧ ∀ y ∈ ns, minI ns ≤ y
  | [], h => absurd rfl h
  | [a], _ => by simp [minI]
  | a :: b :: r, _ => by
    obtain ⟨h1, h2⟩ := minI_is (b :: r) (by simp)
    unfold minI
    dsimp only
    split
    · exact ⟨List.mem_cons_of_mem _ h1, fun y hy => by
        rcases List.mem_cons.mp hy with rfl | hy
        · omega
        · exact h2 y hy⟩
    · exact ⟨List.mem_cons_self, fun y hy => by
        rcases List.mem_cons.mp hy with rfl | hy
        · omega
        · have := h2 y hy; omega⟩
def maxL : List D → R D | [.lst ds] => (match intsD ds with | some (a :: ns) => .ok (.int (maxI (a :: ns))) | _ => .no) | _ => .no
def minL : List D → R D | [.lst ds] => (match intsD ds with | some (a :: ns) => .ok (.int (minI (a :: ns))) | _ => .no) | _ => .no
theorem ad_maxL : ADen K G (rMax K) .t .c maxL := by
  intro vs ds Z H Q s n f h
  unfold maxL at h
  split at h
  · rename_i es
    obtain ⟨v, rfl, fv⟩ := fins1 f
    obtain ⟨a, us, rfl, hh, r⟩ := now_lst s fv
    split at h
    · rename_i b ns e
      refine ⟨a, b :: ns, rfl, SqL.of (by rw [hh, ints_of r e]), by simp, fun m h1 h2 => ?_⟩
      obtain ⟨q1, q2⟩ := maxI_is (b :: ns) (by simp)
      have := h2 _ q1
      have := q2 _ h1
      have em : m = maxI (b :: ns) := by omega
      rw [em]
      exact ansC s n h (.int _)
    · exact h.elim
  · exact h.elim
theorem ad_minL : ADen K G (rMin K) .t .c minL := by
  intro vs ds Z H Q s n f h
  unfold minL at h
  split at h
  · rename_i es
    obtain ⟨v, rfl, fv⟩ := fins1 f
    obtain ⟨a, us, rfl, hh, r⟩ := now_lst s fv
    split at h
    · rename_i b ns e
      refine ⟨a, b :: ns, rfl, SqL.of (by rw [hh, ints_of r e]), by simp, fun m h1 h2 => ?_⟩
      obtain ⟨q1, q2⟩ := minI_is (b :: ns) (by simp)
      have := h2 _ q1
      have := q2 _ h1
      have em : m = minI (b :: ns) := by omega
      rw [em]
      exact ansC s n h (.int _)
    · exact h.elim
  · exact h.elim
def max2 : List D → R D | [.int i, .int j] => .ok (.int (if j > i then j else i)) | _ => .no
def min2 : List D → R D | [.int i, .int j] => .ok (.int (if j < i then j else i)) | _ => .no
theorem ad_max2 : ADen K G (fun xs H Q => ∃ i j, xs = [.int i, .int j] ∧ Q (.int (if j > i then j else i)) H) .t .c max2 := by
  intro vs ds Z H Q s n f h
  unfold max2 at h
  split at h
  · obtain ⟨v, w, rfl, fv, fw⟩ := fins2 f
    exact ⟨_, _, by rw [now_int fv, now_int fw], ansC s n h (.int _)⟩
  · exact h.elim
theorem ad_min2 : ADen K G (fun xs H Q => ∃ i j, xs = [.int i, .int j] ∧ Q (.int (if j < i then j else i)) H) .t .c min2 := by
  intro vs ds Z H Q s n f h
  unfold min2 at h
  split at h
  · obtain ⟨v, w, rfl, fv, fw⟩ := fins2 f
    exact ⟨_, _, by rw [now_int fv, now_int fw], ansC s n h (.int _)⟩
  · exact h.elim
def int1 : List D → R D | [.int i] => .ok (.int i) | [.bl k] => .ok (.int (if k then 1 else 0)) | _ => .no
theorem ad_int1 : ADen K G (fun xs H Q => (∃ i, xs = [.int i] ∧ Q (.int i) H) ∨ ∃ k, xs = [.bl k] ∧ Q (.int (if k then 1 else 0)) H) .t .c int1 := by
  intro vs ds Z H Q s n f h
  unfold int1 at h
  split at h
  · obtain ⟨v, rfl, fv⟩ := fins1 f
    exact .inl ⟨_, by rw [now_int fv], ansC s n h (.int _)⟩
  · obtain ⟨v, rfl, fv⟩ := fins1 f
    exact .inr ⟨_, by rw [now_bl fv], ansC s n h (.int _)⟩
  · exact h.elim
def intS : List D → R D | [.str a] => (match PySem.intText? a with | some n => if a.length ≤ 640 then .ok (.int n) else .no | none => .no) | _ => .no
theorem ad_intS : ADen K G (fun xs H Q => ∃ a n, xs = [.str a] ∧ PySem.intText? a = some n ∧ a.length ≤ 640 ∧ Q (.int n) H) .t .c intS := by
  intro vs ds Z H Q s n f h
  unfold intS at h
  split at h
  · obtain ⟨v, rfl, fv⟩ := fins1 f
    split at h
    · rename_i e
      split at h
      · rename_i hz
        exact ⟨_, _, by rw [now_str fv], e, hz, ansC s n h (.int _)⟩
      · exact h.elim
    · exact h.elim
  · exact h.elim
def strI : List D → R D | [.int i] => if i.natAbs.log2 < 1920 then .ok (.str (toString i)) else .no | _ => .no
theorem ad_strI : ADen K G (fun xs H Q => ∃ i, xs = [.int i] ∧ i.natAbs.log2 < 1920 ∧ Q (.str (toString i)) H) .t .c strI := by
  intro vs ds Z H Q s n f h
  unfold strI at h
  split at h
  · obtain ⟨v, rfl, fv⟩ := fins1 f
    split at h
    · rename_i hz
      exact ⟨_, by rw [now_int fv], hz, ansC s n h (.str _)⟩
    · exact h.elim
  · exact h.elim
end
end VS

set_option Elab.async false
set_option linter.all false
set_option maxRecDepth 100000
set_option maxHeartbeats 2000000
/-! VS6: dicts, methods, isinstance, calls of defs. -/
namespace VS
open PySem L2 LamX

/-! ### dicts by keys -/
section
variable {κ : Type} [DecidableEq κ] {α : Type}
def lk (kvs : List (κ × α)) (k : κ) : Option α := (kvs.find? fun kv => decide (kv.1 = k)).map (·.2)
def pk (kvs : List (κ × α)) (k : κ) (v : α) : List (κ × α) :=
  if (kvs.any fun kv => decide (kv.1 = k)) = true then kvs.map (fun kv => if kv.1 = k then (kv.1, v) else kv) else kvs ++ [(k, v)]
def mg (kvs more : List (κ × α)) : List (κ × α) := more.foldl (fun acc kv => pk acc kv.1 kv.2) kvs
end
section
variable {K : PySem.W.Frag} {Z : Hp}
theorem lk_P {k : Key} : ∀ {ds : List (Key × D)} {vs : List (Key × V)}, RepsP K Z vs ds →
    (∀ d, lk ds k = some d → ∃ v, valV vs k = some v ∧ Rep K Z v d) ∧ (lk ds k = none → valV vs k = none)
  | [], _, h => by cases h; exact ⟨(fun d e => by cases e), fun _ => rfl⟩
  | (j, d) :: ds, _, h => by
    cases h with
    | cons h t =>
      obtain ⟨i1, i2⟩ := lk_P (k := k) t
      by_cases e : j = k
      · have q : lk ((j, d) :: ds) k = some d := by simp [lk, List.find?_cons, e]
        rw [q, valV_pos e]
        exact ⟨fun d' e' => by cases e'; exact ⟨_, rfl, h⟩, fun e' => by cases e'⟩
      · have q : lk ((j, d) :: ds) k = lk ds k := by simp [lk, List.find?_cons, e]
        rw [q, valV_neg e]
        exact ⟨i1, i2⟩
theorem lk_Q {k : List Key} : ∀ {ds : List (List Key × D)} {vs : List (List Key × V)}, RepsQ K Z vs ds →
    (∀ d, lk ds k = some d → ∃ v, valV vs k = some v ∧ Rep K Z v d) ∧ (lk ds k = none → valV vs k = none)
  | [], _, h => by cases h; exact ⟨(fun d e => by cases e), fun _ => rfl⟩
  | (j, d) :: ds, _, h => by
    cases h with
    | cons h t =>
      obtain ⟨i1, i2⟩ := lk_Q (k := k) t
      by_cases e : j = k
      · have q : lk ((j, d) :: ds) k = some d := by simp [lk, List.find?_cons, e]
        rw [q, valV_pos e]
        exact ⟨fun d' e' => by cases e'; exact ⟨_, rfl, h⟩, fun e' => by cases e'⟩
      · have q : lk ((j, d) :: ds) k = lk ds k := by simp [lk, List.find?_cons, e]
        rw [q, valV_neg e]
        exact ⟨i1, i2⟩
theorem any_P {k : Key} : ∀ {ds : List (Key × D)} {vs : List (Key × V)}, RepsP K Z vs ds → (vs.any fun kv => decide (kv.1 = k)) = (ds.any fun kv => decide (kv.1 = k))
  | [], _, h => by cases h; rfl
  | (j, d) :: ds, _, h => by cases h with | cons _ t => rw [List.any_cons, List.any_cons, any_P t]
theorem any_Q {k : List Key} : ∀ {ds : List (List Key × D)} {vs : List (List Key × V)}, RepsQ K Z vs ds → (vs.any fun kv => decide (kv.1 = k)) = (ds.any fun kv => decide (kv.1 = k))
  | [], _, h => by cases h; rfl
  | (j, d) :: ds, _, h => by cases h with | cons _ t => rw [List.any_cons, List.any_cons, any_Q t]
theorem map_P {k : Key} {v : V} {d : D} (r : Rep K Z v d) : ∀ {ds : List (Key × D)} {vs : List (Key × V)}, RepsP K Z vs ds → RepsP K Z (vs.map fun kv => if kv.1 = k then (kv.1, v) else kv) (ds.map fun kv => if kv.1 = k then (kv.1, d) else kv)
  | [], _, h => by cases h; exact .nil
  | (j, d') :: ds, _, h => by
    cases h with
    | cons h t =>
      rw [List.map_cons, List.map_cons]
      by_cases e : j = k
      · rw [if_pos e, if_pos e]; exact .cons r (map_P r t)
      · rw [if_neg e, if_neg e]; exact .cons h (map_P r t)
theorem map_Q {k : List Key} {v : V} {d : D} (r : Rep K Z v d) : ∀ {ds : List (List Key × D)} {vs : List (List Key × V)}, RepsQ K Z vs ds → RepsQ K Z (vs.map fun kv => if kv.1 = k then (kv.1, v) else kv) (ds.map fun kv => if kv.1 = k then (kv.1, d) else kv)
  | [], _, h => by cases h; exact .nil
  | (j, d') :: ds, _, h => by
    cases h with
    | cons h t =>
      rw [List.map_cons, List.map_cons]
      by_cases e : j = k
      · rw [if_pos e, if_pos e]; exact .cons r (map_Q r t)
      · rw [if_neg e, if_neg e]; exact .cons h (map_Q r t)
theorem app_P : ∀ {ds es : List (Key × D)} {vs us : List (Key × V)}, RepsP K Z vs ds → RepsP K Z us es → RepsP K Z (vs ++ us) (ds ++ es)
  | [], _, _, _, h, q => by cases h; exact q
  | _ :: ds, _, _, _, h, q => by cases h with | cons h t => exact .cons h (app_P t q)
theorem app_Q : ∀ {ds es : List (List Key × D)} {vs us : List (List Key × V)}, RepsQ K Z vs ds → RepsQ K Z us es → RepsQ K Z (vs ++ us) (ds ++ es)
  | [], _, _, _, h, q => by cases h; exact q
  | _ :: ds, _, _, _, h, q => by cases h with | cons h t => exact .cons h (app_Q t q)
theorem pk_P {ds : List (Key × D)} {vs : List (Key × V)} (h : RepsP K Z vs ds) (k : Key) {v : V} {d : D} (r : Rep K Z v d) : RepsP K Z (putK vs k v) (pk ds k d) := by
  unfold putK pk
  rw [any_P h]
  split
  · exact map_P r h
  · exact app_P h (.cons r .nil)
theorem pk_Q {ds : List (List Key × D)} {vs : List (List Key × V)} (h : RepsQ K Z vs ds) (k : List Key) {v : V} {d : D} (r : Rep K Z v d) : RepsQ K Z (putK vs k v) (pk ds k d) := by
  unfold putK pk
  rw [any_Q h]
  split
  · exact map_Q r h
  · exact app_Q h (.cons r .nil)
theorem mg_P : ∀ {es : List (Key × D)} {us : List (Key × V)} {ds : List (Key × D)} {vs : List (Key × V)}, RepsP K Z us es → RepsP K Z vs ds → RepsP K Z (mergeK vs us) (mg ds es)
  | [], _, _, _, h, q => by cases h; exact q
  | _ :: es, _, _, _, h, q => by
    cases h with
    | @cons k _ _ _ _ h t =>
      have := mg_P t (pk_P q k h)
      exact this
end
/-- a key -/
def keyD : D → Option Key | .int i => some (.inl i) | .str s => some (.inr s) | _ => none
def keysD : List D → Option (List Key)
  | [] => some []
  | d :: ds => match keyD d, keysD ds with | some k, some ks => some (k :: ks) | _, _ => none
section
variable {K : PySem.W.Frag} {Z H : Hp}
theorem key_of {v : V} {d : D} {k : Key} (r : Rep K Z v d) (h : keyD d = some k) : v = kV k := by
  cases r with
  | int i => cases h; rfl
  | str s => cases h; rfl
  | _ => cases h
theorem keys_of : ∀ {ds : List D} {vs : List V} {ks : List Key}, Reps K Z vs ds → keysD ds = some ks → vs = ks.map kV
  | [], _, _, h, e => by cases h; cases e; rfl
  | d :: ds, _, ks, h, e => by
    cases h with
    | cons h t =>
      unfold keysD at e
      split at e
      · rename_i k' ks' e1 e2
        cases e
        rw [key_of h e1, keys_of t e2]; rfl
      · cases e
/-- the look-up in a dict of data -/
def look : D → D → Option (Option D)
  | .dK kvs, k => (keyD k).map fun k => lk kvs k
  | .dT kvs, .tup ks => (keysD ks).map fun k => lk kvs k
  | _, _ => none
theorem look_get {x y : V} {dx dy : D} {o : Option D} (s : Sub Z H) (hx : Fin K H Z H .t x dx) (hy : Fin K H Z H .t y dy) (h : look dx dy = some o) :
    ∃ a r, x = .ref a ∧ DGet H a y r ∧ IsD H a ∧ (∀ d, o = some d → ∃ v, r = some v ∧ Rep K Z v d) ∧ (o = none → r = none) := by
  unfold look at h
  split at h
  · rename_i kvs
    obtain ⟨a, vs, rfl, hh, r⟩ := now_dK s hx
    cases e : keyD dy with
    | none => rw [e] at h; cases h
    | some k =>
      rw [e] at h; cases h
      obtain ⟨l1, l2⟩ := lk_P (k := k) r
      refine ⟨a, valV vs k, rfl, .inl ⟨vs, k, hh, key_of (Now.rep s hy) e, rfl⟩, .inl ⟨_, hh⟩, fun d e => ?_, fun e => l2 e⟩
      obtain ⟨v, h1, h2⟩ := l1 d e
      exact ⟨v, h1, h2⟩
  · rename_i kvs ks
    obtain ⟨a, vs, rfl, hh, r⟩ := now_dT s hx
    obtain ⟨b, us, rfl, _, hb, rb⟩ := now_tup s hy
    cases e : keysD ks with
    | none => rw [e] at h; cases h
    | some k =>
      rw [e] at h; cases h
      obtain ⟨l1, l2⟩ := lk_Q (k := k) r
      refine ⟨a, valV vs k, rfl, .inr ⟨vs, k, b, hh, rfl, by rw [hb, keys_of rb e], rfl⟩, .inr ⟨_, hh⟩, fun d e => ?_, fun e => l2 e⟩
      obtain ⟨v, h1, h2⟩ := l1 d e
      exact ⟨v, h1, h2⟩
  · cases h
end
def ixD (d k : D) : R D := match look d k with | some (some v) => .ok v | _ => .no
def inD (neg : Bool) (k d : D) : R D := match look d k with | some o => .ok (.bl (if neg then !o.isSome else o.isSome)) | _ => .no
def getD2 (d k x : D) : R D := match look d k with | some o => .ok (o.getD x) | _ => .no
section
variable {X : Cx} {G : Wh}
theorem den_ixD {o i : Expr} {pos : Pos} {m1 m2 : Md} {go gi : Env → R D} (hu : X.A.units + 1 < cLine) (ho : Den X G m1 o go) (hi : Den X G m2 i gi) (hs : NoSl i) : Den X G .c (.Subscript o i pos) (geOp ixD go gi) := by
  obtain ⟨to, po, qo⟩ := ho.ex
  obtain ⟨ti, pi, qi⟩ := hi.ex
  refine ⟨_, pe_dget hu po pi hs, fun Z0 H0 Z H σ ρ Q S h => ?_⟩
  refine ans_op (r := fun x y H2 Q => ∃ a v, x = .ref a ∧ DGet H2 a y (some v) ∧ Q v H2) (fun x y dx dy Z H Q s n hx hy h => ?_) qo qi S h
  unfold ixD at h
  split at h
  · rename_i d e
    obtain ⟨a, r, rfl, g, _, h1, _⟩ := look_get s hx hy e
    obtain ⟨v, rfl, rv⟩ := h1 d rfl
    exact ⟨a, v, rfl, g, ansC s n h rv⟩
  · exact h.elim
theorem rd_swap {ta tb : TE} : True := trivial
theorem den_inD {i o : Expr} {pos : Pos} {m1 m2 : Md} {go gi : Env → R D} (hu : X.A.units + 1 < cLine) (hi : Den X G m2 i gi) (ho : Den X G m1 o go) (hb : behindInMarks .In o = false) : Den X G .c (.Compare i [.In] [o] pos) (geOp (inD false) gi go) := by
  obtain ⟨to, po, qo⟩ := ho.ex
  obtain ⟨ti, pi, qi⟩ := hi.ex
  refine ⟨_, pe_cmp (pc_din hu pi po) hb, fun Z0 H0 Z H σ ρ Q S h => ?_⟩
  refine ans_op (r := fun y x H2 Q => ∃ a o, x = .ref a ∧ DGet H2 a y o ∧ Q (.bl o.isSome) H2) (fun y x dy dx Z H Q s n hy hx h => ?_) qi qo S h
  unfold inD at h
  split at h
  · rename_i oo e
    obtain ⟨a, r, rfl, g, _, h1, h2⟩ := look_get s hx hy e
    refine ⟨a, r, rfl, g, ?_⟩
    have : r.isSome = oo.isSome := by
      cases oo with
      | none => rw [h2 rfl]; rfl
      | some d => obtain ⟨v, rfl, _⟩ := h1 d rfl; rfl
    rw [this]
    exact ansC s n h (.bl _)
  · exact h.elim
theorem den_niD {i o : Expr} {pos : Pos} {m1 m2 : Md} {go gi : Env → R D} (hu : X.A.units + 1 < cLine) (hi : Den X G m2 i gi) (ho : Den X G m1 o go) (hb : behindInMarks .NotIn o = false) : Den X G .c (.Compare i [.NotIn] [o] pos) (geOp (inD true) gi go) := by
  obtain ⟨to, po, qo⟩ := ho.ex
  obtain ⟨ti, pi, qi⟩ := hi.ex
  refine ⟨_, pe_cmp (pc_dnotin hu pi po) hb, fun Z0 H0 Z H σ ρ Q S h => ?_⟩
  refine ans_op (r := fun y x H2 Q => ∃ a o, x = .ref a ∧ DGet H2 a y o ∧ Q (.bl (!o.isSome)) H2) (fun y x dy dx Z H Q s n hy hx h => ?_) qi qo S h
  unfold inD at h
  split at h
  · rename_i oo e
    obtain ⟨a, r, rfl, g, _, h1, h2⟩ := look_get s hx hy e
    refine ⟨a, r, rfl, g, ?_⟩
    have : r.isSome = oo.isSome := by
      cases oo with
      | none => rw [h2 rfl]; rfl
      | some d => obtain ⟨v, rfl, _⟩ := h1 d rfl; rfl
    rw [this]
    exact ansC s n h (.bl _)
  · exact h.elim
/-- a comparison's test from its value's denotation -/
theorem dent_of {a b : Expr} {op : CmpOp} {pos : Pos} {m : Md} {t : TE} {g : Env → R D} (hc : PC X op a b t) (hb : behindInMarks op b = false)
    (q : ∀ Z0 H0 Z H σ ρ Q, Sim X.K G.T Z0 H0 Z H σ ρ → Ans X.K G m (g ρ) Z H Q → t σ H Q) : DenT X G (.Compare a [op] [b] pos) (geB g) :=
  ⟨_, pt_cmp hc hb, fun Z0 H0 Z H σ ρ Q S h => ans_B q S h⟩
def isDct : D → Bool | .dK _ => true | .dT _ => true | _ => false
def isLst : D → Bool | .lst _ => true | _ => false
def isStr : D → Bool | .str _ => true | _ => false
theorem isD_of {Z H Hx : Hp} {x : V} {d : D} (s : Sub Z H) (h : Fin X.K Hx Z H .t x d) (e : isDct d = true) : ∃ a, x = .ref a ∧ IsD H a := by
  cases d with
  | dK kvs => obtain ⟨a, vs, rfl, hh, r⟩ := now_dK s h; exact ⟨a, rfl, .inl ⟨_, hh⟩⟩
  | dT kvs => obtain ⟨a, vs, rfl, hh, r⟩ := now_dT s h; exact ⟨a, rfl, .inr ⟨_, hh⟩⟩
  | _ => cases e
def geGet (go ge gf : Env → R D) : Env → R D := fun ρ => do
  let x ← go ρ
  if isDct x then do
    let y ← ge ρ
    let z ← gf ρ
    getD2 x y z
  else .no
theorem den_get {o e f : Expr} {apos cpos : Pos} {m1 m2 : Md} {go ge gf : Env → R D} (hu : X.A.units + 1 < cLine) (ho : Den X G m1 o go) (he : Den X G m2 e ge) (hf : Den X G .c f gf) (m : M2 X o "get" apos e f cpos) :
    Den X G .c (.Call (.Attribute o "get" apos) [e, f] [] cpos) (geGet go ge gf) := by
  obtain ⟨to, po, qo⟩ := ho.ex
  obtain ⟨te, pe, qe⟩ := he.ex
  obtain ⟨tf, pf, qf⟩ := hf.ex
  refine ⟨_, pe_dget2 hu po pe pf m, fun Z0 H0 Z H σ ρ Q S k => ?_⟩
  refine qo Z0 H0 Z H σ ρ _ S ?_
  unfold geGet at k
  cases ea : go ρ with
  | no => rw [ea] at k; exact k
  | ex c => rw [ea] at k; exact k
  | ok d =>
    rw [ea] at k
    intro x Z1 H1 g1 f1
    rw [R.ok_bind] at k
    split at k
    · rename_i hd
      obtain ⟨a, rfl, isd⟩ := isD_of (X := X) g1.s (f1.now (Hx := H)) hd
      refine ⟨a, rfl, isd, ?_⟩
      refine qe Z0 H0 Z1 H1 σ ρ _ (S.grow g1) ?_
      cases eb : ge ρ with
      | no => rw [eb] at k; exact k
      | ex c => rw [eb] at k; exact fun Z' H' g' => k Z' H' (g1.trans g')
      | ok dy =>
        rw [eb] at k
        intro y Z2 H2 g2 f2
        refine qf Z0 H0 Z2 H2 σ ρ _ (S.grow (g1.trans g2)) ?_
        cases ec : gf ρ with
        | no => rw [ec] at k; exact k
        | ex c => rw [ec] at k; exact fun Z' H' g' => k Z' H' ((g1.trans g2).trans g')
        | ok dz =>
          rw [ec] at k
          intro z Z3 H3 g3 f3
          have k' : Ans X.K G .c (getD2 d dy dz) Z3 H3 Q := Ans.grow (show Ans X.K G .c (getD2 d dy dz) Z H Q from k) ((g1.trans g2).trans g3)
          unfold getD2 at k'
          split at k'
          · rename_i oo e
            obtain ⟨a', r, e1, g, _, h1, h2⟩ := look_get g3.s (Now.grow (g2.trans g3) (f1.now (Hx := H))) (Now.grow g3 (f2.now (Hx := H))) e
            cases e1
            refine ⟨r, g, ?_⟩
            cases oo with
            | none => rw [h2 rfl]; exact ansC g3.s g3.n k' f3
            | some dd => obtain ⟨v, rfl, rv⟩ := h1 dd rfl; exact ansC g3.s g3.n k' rv
          · exact k'.elim
    · exact k.elim

/-! ### methods of built-in types -/
/-- the receiver, then the arguments, then what the method does -/
def geM (chk : D → Bool) (f : D → List D → R D) (go : Env → R D) (ga : Env → R (List D)) : Env → R D := fun ρ => do
  let x ← go ρ
  if chk x then do
    let ds ← ga ρ
    f x ds
  else .no
def MDen (K : PySem.W.Frag) (G : Wh) (T : String) (r : V → List V → Hp → VK → Prop) (m : Md) (chk : D → Bool) (f : D → List D → R D) : Prop :=
  (∀ x dx Z H Hx, Sub Z H → Fin K Hx Z H .t x dx → chk dx = true → tyV K T x H) ∧
  ∀ x dx vs ds Z H Q, Sub Z H → (∀ a o, Z a = some o → NoTb o) → Fin K H Z H .t x dx → Fins K .t Z H vs ds → Ans K G m (f dx ds) Z H Q → r x vs H Q
theorem Fins.now {m : Md} {Z H : Hp} : ∀ {vs : List V} {ds : List D}, Fins X.K m Z H vs ds → Fins X.K .t Z H vs ds
  | _, _, .nil => .nil
  | _, _, .cons h t => .cons h.now (Fins.now t)
theorem den_m {o e : Expr} {es : List Expr} {apos cpos : Pos} {T id : String} {name : Str} {r : V → List V → Hp → VK → Prop} {m1 m2 m : Md} {chk : D → Bool} {f : D → List D → R D} {go : Env → R D} {ga : Env → R (List D)}
    (pa : PlainAttrs T) (slot : Slot T name id) (hty : typeOf (.builtin id) = pure (.type "method_descriptor")) (hm : MtR X id r) (hd : MDen X.K G T r m chk f) (ho : Den X G m1 o go) (ha : DenA X G m2 (e :: es) ga)
    (hbase : attributeBase o name X.env (eval o X.env) = eval o X.env)
    (hfew : ((backTo cpos (starEach (e :: es) X.env)).all (fun x => !x.1) && (backToKw cpos (keywordEach [] X.env)).all (fun x => x.1.isSome)
      && decide ((e :: es).length + ([] : List Keyword).length + (if ([] : List Keyword).isEmpty then 0 else 1) < 30)) = true)
    (hline : (apos.endLine == cpos.line) = true) (hs : starEach (e :: es) X.env = (false, eval e X.env) :: starEach es X.env) (hplain : (backTo cpos (starEach es X.env)).any (·.1) = false) :
    Den X G m (.Call (.Attribute o name apos) (e :: es) [] cpos) (geM chk f go ga) := by
  obtain ⟨to, po, qo⟩ := ho.ex
  obtain ⟨t, pt, qt⟩ := ha.ex
  refine ⟨_, pe_bm pa slot hty hm po pt hbase hfew hline hs hplain, fun Z0 H0 Z H σ ρ Q S k => ?_⟩
  refine qo Z0 H0 Z H σ ρ _ S ?_
  unfold geM at k
  cases ea : go ρ with
  | no => rw [ea] at k; exact k
  | ex c => rw [ea] at k; exact k
  | ok d =>
    rw [ea] at k
    intro x Z1 H1 g1 f1
    rw [R.ok_bind] at k
    split at k
    · rename_i hc
      refine ⟨hd.1 x d Z1 H1 H g1.s (f1.now (Hx := H)) hc, ?_⟩
      refine qt Z0 H0 Z1 H1 σ ρ _ (S.grow g1) ?_
      cases eb : ga ρ with
      | no => rw [eb] at k; exact k
      | ex c => rw [eb] at k; exact fun Z' H' g' => k Z' H' (g1.trans g')
      | ok ds =>
        rw [eb] at k
        intro vs Z2 H2 g2 f2
        exact hd.2 x d vs ds Z2 H2 Q g2.s g2.n (Now.grow g2 (f1.now (Hx := H))) (Fins.now f2) (Ans.grow (show Ans X.K G m (f d ds) Z H Q from k) (g1.trans g2))
    · exact k.elim

/-! ### isinstance -/
inductive Ty where
  | int | bool | str | list | tuple | dict
  deriving DecidableEq
def Ty.name : Ty → String | .int => "int" | .bool => "bool" | .str => "str" | .list => "list" | .tuple => "tuple" | .dict => "dict"
def tyD : D → Option Ty | .non => none | .bl _ => some .bool | .int _ => some .int | .str _ => some .str | .tup _ => some .tuple | .lst _ => some .list | .dK _ => some .dict | .dT _ => some .dict | .scr _ => some .list
/-- whether a value of the type t is of the class c -/
def isTy (d : D) (c : Ty) : Bool := match tyD d with | none => false | some t => t == c || (t == .bool && c == .int)
def tyName (d : D) : String := match tyD d with | none => "NoneType" | some t => t.name
theorem kit_isTy (d : D) (c : Ty) : PySem.W.kitOne X.K (.type (tyName d)) (.type c.name) = some (isTy d c) := by
  have : ∀ (t : Option Ty) (c : Ty), kitB (match t with | none => "NoneType" | some t => t.name) c.name = some (match t with | none => false | some t => t == c || (t == .bool && c == .int)) := by
    intro t c
    cases t with
    | none => cases c <;> decide +kernel
    | some t => cases t <;> cases c <;> decide +kernel
  exact kit_ty (this (tyD d) c)
theorem ty_of {Z H Hx : Hp} {x : V} {d : D} (s : Sub Z H) (h : Fin X.K Hx Z H .t x d) (hf : ∀ kvs, d ≠ .dT kvs) : TyX X.K H x (.type (tyName d)) := by
  cases d with
  | non => rw [now_non h]; exact .base .non
  | bl b => rw [now_bl h]; exact .base (.bl b)
  | int i => rw [now_int h]; exact .base (.int i)
  | str z => rw [now_str h]; exact .base (.str z)
  | tup ds => obtain ⟨a, vs, rfl, _, hh, _⟩ := now_tup s h; exact .base (.tup hh)
  | lst ds => obtain ⟨a, vs, rfl, hh, _⟩ := now_lst s h; exact .base (.lst hh)
  | dK kvs =>
    obtain ⟨a, vs, rfl, hh, _⟩ := now_dK s h
    rcases hh with hh | ⟨o, hh⟩
    · exact .base (.dK hh)
    · exact .fDict hh
  | dT kvs => exact absurd rfl (hf kvs)
  | scr ns =>
    obtain ⟨a, rfl, hh⟩ := now_scr s h
    rcases hh with (hh | ⟨o, hh⟩) | ⟨o, its, n, h1, h2, _⟩
    · exact .base (.lst hh)
    · exact .base (.frz hh)
    · exact .kList h1 h2
/-- isinstance(x, T): the class is read, the rest is by values -/
def isiD (c : Ty) (d : D) : R D := match d with | .dT _ => .no | _ => .ok (.bl (isTy d c))
theorem isiD_ok {c : Ty} {d : D} {Z H : Hp} {Q : VK} (h : Ans X.K G .c (isiD c d) Z H Q) : (∀ kvs, d ≠ .dT kvs) ∧ Ans X.K G .c (.ok (.bl (isTy d c))) Z H Q := by
  unfold isiD at h
  split at h
  · exact h.elim
  · rename_i hn; exact ⟨fun kvs e => hn kvs e, h⟩
theorem den_isi {x e : Expr} {c : Ty} {pi p2 pos : Pos} {xi xc : Str} {m1 : Md} {g : Env → R D} (he : Den X G m1 e g) (hc : PE X (.Name xc p2) (tC (.ty c.name)))
    (hg : Gl X xi) (hm : X.mg xi = none) (hv : bootBuiltins xi = some (.builtin "isinstance")) (hn : xi ≠ "__name__") (hdb : (xi == ("__debug__" : Str)) = false)
    (hs1 : starEach [e, .Name xc p2] X.env = (false, eval e X.env) :: starEach [.Name xc p2] X.env) (hs2 : starEach [.Name xc p2] X.env = (false, eval (.Name xc p2) X.env) :: starEach [] X.env) (hpl : (backTo pos (starEach [.Name xc p2] X.env)).any (·.1) = false) :
    Den X G .c (.Call (.Name xi pi) [e, .Name xc p2] [] pos) (ge1 (isiD c) g) := by
  obtain ⟨t, p, q⟩ := he.ex
  refine ⟨_, pe_callB call_isi hg hm hv (pa_cons p (pa_cons hc pa_nil hs2) hs1) hn hdb hs1 hpl, fun Z0 H0 Z H σ ρ Q S k => ?_⟩
  refine q Z0 H0 Z H σ ρ _ S ?_
  unfold ge1 at k
  cases ea : g ρ with
  | no => rw [ea] at k; exact k
  | ex c => rw [ea] at k; exact k
  | ok d =>
    rw [ea] at k
    intro v Z1 H1 g1 f1
    obtain ⟨hn, k'⟩ := isiD_ok (Ans.grow (show Ans X.K G .c (isiD c d) Z H Q from k) g1)
    exact ⟨v, .ty c.name, _, _, _, rfl, .ty _, ty_of g1.s (f1.now (Hx := H)) hn, kit_isTy d c, ansC g1.s g1.n k' (.bl _)⟩
end
end VS

set_option Elab.async false
set_option linter.all false
set_option maxRecDepth 100000
set_option maxHeartbeats 2000000
/-! VS7: statements, targets, loops, comprehensions, calls. -/
namespace VS
open PySem L2 LamX

inductive Out where
  | nx (ρ : Env) | rt (d : D) | bk (ρ : Env) | ct (ρ : Env) | ex (c : Str) | no

section
variable (K : PySem.W.Frag) (G : Wh)
def PostS (o : Out) (Z0 H0 : Hp) (D : Ends) : Prop :=
  match o with
  | .nx ρ => ∀ Z' H' σ', Sim K G.T Z0 H0 Z' H' σ' ρ → D.nx σ' H'
  | .bk ρ => ∀ Z' H' σ', Sim K G.T Z0 H0 Z' H' σ' ρ → D.bk σ' H'
  | .ct ρ => ∀ Z' H' σ', Sim K G.T Z0 H0 Z' H' σ' ρ → D.ct σ' H'
  | .rt d => ∀ v Z' H', Grow G.T Z0 H0 Z' H' → Tabs G.T H' → Rep K Z' v d → D.rt v H'
  | .ex c => ∀ Z' H', Grow G.T Z0 H0 Z' H' → Tabs G.T H' → G.E (.ref (G.cl c)) none H'
  | .no => False
end
structure DenS (X : Cx) (G : Wh) (st : Stmt) (f : Env → Out) : Prop where
  ex : ∃ t, PS X st t ∧ ∀ Z0 H0 Z H σ ρ D, Sim X.K G.T Z0 H0 Z H σ ρ → PostS X.K G (f ρ) Z0 H0 D → t D σ H
structure DenB (X : Cx) (G : Wh) (sts : List Stmt) (f : Env → Out) : Prop where
  ex : ∃ t, PSs X sts t ∧ ∀ Z0 H0 Z H σ ρ D, Sim X.K G.T Z0 H0 Z H σ ρ → PostS X.K G (f ρ) Z0 H0 D → t D σ H

section
variable {K : PySem.W.Frag} {T : List (Addr × Str)} {Z0 H0 Z H Z1 H1 Z' H' : Hp} {σ : L2.St} {ρ : Env}
/-- the base may be what is frozen by now -/
theorem Grow.back (a : Grow T Z0 H0 Z1 H1) (b : Grow T Z1 H0 Z' H') : Grow T Z0 H0 Z' H' := ⟨a.z.trans b.z, b.h, b.s, b.n, fun x h q => b.p x (a.p x h q) q, b.t⟩
theorem Grow.base (a : Grow T Z0 H0 Z1 H1) : Grow T Z1 H0 Z1 H1 := ⟨Sub.refl _, a.h, a.s, a.n, fun _ h _ => h, a.t⟩
theorem Sim.base (S : Sim K T Z0 H0 Z H σ ρ) : Sim K T Z H0 Z H σ ρ := ⟨S.g.base, S.tabs, S.len, S.slot, S.new, S.dis⟩
theorem Sim.back {σ' : L2.St} {ρ' : Env} (a : Grow T Z0 H0 Z1 H1) (S : Sim K T Z1 H0 Z' H' σ' ρ') : Sim K T Z0 H0 Z' H' σ' ρ' := ⟨a.back S.g, S.tabs, S.len, S.slot, S.new, S.dis⟩
theorem PostS.back {G : Wh} {o : Out} {D : Ends} (a : Grow G.T Z0 H0 Z1 H1) (h : PostS K G o Z0 H0 D) : PostS K G o Z1 H0 D := by
  cases o with
  | nx ρ => exact fun Z' H' σ' S => h Z' H' σ' (Sim.back a S)
  | bk ρ => exact fun Z' H' σ' S => h Z' H' σ' (Sim.back a S)
  | ct ρ => exact fun Z' H' σ' S => h Z' H' σ' (Sim.back a S)
  | rt d => exact fun v Z' H' g t r => h v Z' H' (a.back g) t r
  | ex c => exact fun Z' H' g t => h Z' H' (a.back g) t
  | no => exact h
end

section
variable {X : Cx} {G : Wh}
/-- an expression within a statement: what becomes of an exception -/
theorem post_ex {c : Str} {Z0 H0 Z H : Hp} {σ : L2.St} {ρ : Env} {D : Ends} (S : Sim X.K G.T Z0 H0 Z H σ ρ) (h : PostS X.K G (.ex c) Z0 H0 D) : ∀ Z' H', Grow G.T Z H Z' H' → G.E (.ref (G.cl c)) none H' :=
  fun Z' H' g => h Z' H' (S.g.trans g) (g.t S.tabs)

/-! ### blocks -/
def seqO (f g : Env → Out) : Env → Out := fun ρ => match f ρ with
  | .nx ρ' => g ρ' | .rt d => .rt d | .bk ρ' => .bk ρ' | .ct ρ' => .ct ρ' | .ex c => .ex c | .no => .no
theorem denb_nil : DenB X G [] .nx := ⟨_, pss_nil, fun Z0 H0 Z H σ ρ D S h => h Z H σ S⟩
theorem denb_cons {s : Stmt} {ss : List Stmt} {f g : Env → Out} (hs : DenS X G s f) (hr : DenB X G ss g) : DenB X G (s :: ss) (seqO f g) := by
  obtain ⟨t, p, q⟩ := hs.ex
  obtain ⟨u, p', q'⟩ := hr.ex
  refine ⟨_, pss_cons p p', fun Z0 H0 Z H σ ρ D S h => ?_⟩
  refine q Z0 H0 Z H σ ρ _ S ?_
  unfold seqO at h
  cases e : f ρ with
  | nx ρ' => rw [e] at h; exact fun Z' H' σ' S' => q' Z0 H0 Z' H' σ' ρ' D S' h
  | bk ρ' => rw [e] at h; exact h
  | ct ρ' => rw [e] at h; exact h
  | rt d => rw [e] at h; exact h
  | ex c => rw [e] at h; exact h
  | no => rw [e] at h; exact h
/-- a slot's own thing is frozen ahead of a statement -/
def frzSl (i : Nat) (ρ : Env) : Option Env := match ρ[i]? with
  | some sl => (match frozen sl with | some d => some (ρ.set i (.im d)) | none => none)
  | none => none
def frzO (i : Nat) (f : Env → Out) : Env → Out := fun ρ => match frzSl i ρ with | some ρ' => f ρ' | none => .no
theorem dens_frz {s : Stmt} {f : Env → Out} {i : Nat} (hs : DenS X G s f) : DenS X G s (frzO i f) := by
  obtain ⟨t, p, q⟩ := hs.ex
  refine ⟨t, p, fun Z0 H0 Z H σ ρ D S h => ?_⟩
  unfold frzO frzSl at h
  cases e : ρ[i]? with
  | none => rw [e] at h; exact h.elim
  | some sl =>
    rw [e] at h
    dsimp only at h
    cases e2 : frozen sl with
    | none => rw [e2] at h; exact h.elim
    | some d =>
      rw [e2] at h
      obtain ⟨Z', S'⟩ := S.freeze e e2
      exact q Z0 H0 Z' H σ _ D S' h

/-! ### simple statements -/
def ofR (r : R D) (k : D → Out) : Out := match r with | .ok d => k d | .ex c => .ex c | .no => .no
theorem dens_expr {e : Expr} {pos : Pos} {m : Md} {g : Env → R D} (he : Den X G m e g) (hs : swapsWith e none pos.line X.env = pure false) : DenS X G (.Expr e pos) (fun ρ => ofR (g ρ) fun _ => .nx ρ) := by
  obtain ⟨t, p, q⟩ := he.ex
  refine ⟨_, ps_expr p hs, fun Z0 H0 Z H σ ρ D S h => ?_⟩
  refine q Z0 H0 Z H σ ρ _ S ?_
  cases e : g ρ with
  | ok d => rw [e] at h; exact fun v Z' H' g' f => h Z' H' σ (S.grow g')
  | ex c => rw [e] at h; exact post_ex S h
  | no => rw [e] at h; exact h
theorem dens_ret {e : Expr} {pos : Pos} {g : Env → R D} (he : Den X G .c e g) : DenS X G (.Return (some e) pos) (fun ρ => ofR (g ρ) .rt) := by
  obtain ⟨t, p, q⟩ := he.ex
  refine ⟨_, ps_ret p, fun Z0 H0 Z H σ ρ D S h => ?_⟩
  refine q Z0 H0 Z H σ ρ _ S ?_
  cases e : g ρ with
  | ok d => rw [e] at h; exact fun v Z' H' g' f => h v Z' H' (S.g.trans g') (g'.t S.tabs) f
  | ex c => rw [e] at h; exact post_ex S h
  | no => rw [e] at h; exact h
theorem dens_pass {pos : Pos} : DenS X G (.Pass pos) .nx := ⟨_, ps_pass, fun Z0 H0 Z H σ ρ D S h => h Z H σ S⟩
theorem dens_cont {pos : Pos} : DenS X G (.Continue pos) .ct := ⟨_, ps_continue, fun Z0 H0 Z H σ ρ D S h => h Z H σ S⟩
theorem dens_brk {pos : Pos} : DenS X G (.Break pos) .bk := ⟨_, ps_break, fun Z0 H0 Z H σ ρ D S h => h Z H σ S⟩
def ifO (c : Env → R Bool) (f g : Env → Out) : Env → Out := fun ρ => match c ρ with
  | .ok b => if b then f ρ else g ρ | .ex c => .ex c | .no => .no
theorem dens_if {c : Expr} {a b : List Stmt} {pos : Pos} {gc : Env → R Bool} {f g : Env → Out} (hc : DenT X G c gc) (ha : DenB X G a f) (hb : DenB X G b g) : DenS X G (.If c a b pos) (ifO gc f g) := by
  obtain ⟨t, p, q⟩ := hc.ex
  obtain ⟨ta, pa, qa⟩ := ha.ex
  obtain ⟨tb, pb, qb⟩ := hb.ex
  refine ⟨_, ps_if p pa pb, fun Z0 H0 Z H σ ρ D S h => ?_⟩
  refine q Z0 H0 Z H σ ρ _ S ?_
  unfold ifO at h
  cases e : gc ρ with
  | ok b =>
    rw [e] at h
    intro Z' H' g'
    cases b with
    | true => exact qa Z0 H0 Z' H' σ ρ D (S.grow g') h
    | false => exact qb Z0 H0 Z' H' σ ρ D (S.grow g') h
  | ex c => rw [e] at h; exact post_ex S h
  | no => rw [e] at h; exact h

/-! ### targets -/
mutual
inductive Tg where
  | nm (i : Nat) | tp (ts : Tgs)
inductive Tgs where
  | nil | cons (t : Tg) (ts : Tgs)
end
mutual
def bindT : Tg → D → Env → R Env
  | .nm i, d, ρ => .ok (ρ.set i (.im d))
  | .tp ts, .tup ds, ρ => bindTs ts ds ρ
  | .tp _, _, _ => .no
def bindTs : Tgs → List D → Env → R Env
  | .nil, [], ρ => .ok ρ
  | .cons t ts, d :: ds, ρ => do bindTs ts ds (← bindT t d ρ)
  | _, _, _ => .no
end
mutual
def Tg.slots : Tg → List Nat
  | .nm i => [i] | .tp ts => ts.slots
def Tgs.slots : Tgs → List Nat
  | .nil => [] | .cons t ts => t.slots ++ ts.slots
end
def Tgs.len : Tgs → Nat
  | .nil => 0 | .cons _ ts => ts.len + 1
theorem bindTs_len : ∀ {ts : Tgs} {ds : List D} {ρ ρ' : Env}, bindTs ts ds ρ = .ok ρ' → ds.length = ts.len
  | .nil, [], _, _, _ => rfl
  | .nil, _ :: _, _, _, h => by simp [bindTs] at h
  | .cons t ts, [], _, _, h => by simp [bindTs] at h
  | .cons t ts, d :: ds, ρ, ρ', h => by
    unfold bindTs at h
    cases e : bindT t d ρ with
    | ok r => rw [e] at h; simp only [Tgs.len, List.length_cons]; rw [bindTs_len h]
    | ex c => rw [e] at h; cases h
    | no => rw [e] at h; cases h
/-- σ and σ' differ at most at the slots -/
def OnlyAt (l : List Nat) (σ σ' : L2.St) : Prop := σ'.length = σ.length ∧ ∀ j, j ∉ l → σ'[j]? = σ[j]?
theorem OnlyAt.refl (l : List Nat) (σ : L2.St) : OnlyAt l σ σ := ⟨rfl, fun _ _ => rfl⟩
theorem OnlyAt.trans {l l' : List Nat} {a b c : L2.St} (h : OnlyAt l a b) (k : OnlyAt l' b c) : OnlyAt (l ++ l') a c :=
  ⟨k.1.trans h.1, fun j hj => by
    rw [List.mem_append, not_or] at hj
    rw [k.2 j hj.2, h.2 j hj.1]⟩
structure DenG (X : Cx) (G : Wh) (tg : Expr) (t : Tg) : Prop where
  ex : ∃ g, PG X tg g ∧ ∀ Z0 H0 Z H σ ρ ρ' v d Q, Sim X.K G.T Z0 H0 Z H σ ρ → Rep X.K Z v d → bindT t d ρ = .ok ρ' → (∀ σ', OnlyAt t.slots σ σ' → Sim X.K G.T Z0 H0 Z H σ' ρ' → Q σ' H) → g v σ H Q
structure DenGs (X : Cx) (G : Wh) (tgs : List Expr) (ts : Tgs) : Prop where
  ex : ∃ g, PGs X tgs g ∧ ∀ Z0 H0 Z H σ ρ ρ' vs ds Q, Sim X.K G.T Z0 H0 Z H σ ρ → Reps X.K Z vs ds → bindTs ts ds ρ = .ok ρ' → (∀ σ', OnlyAt ts.slots σ σ' → Sim X.K G.T Z0 H0 Z H σ' ρ' → Q σ' H) → g vs σ H Q
theorem deng_nm {i : Nat} {x : Str} {pos : Pos} (hN : X.N.Nodup) (hi : X.N[i]? = some x) (hx : Loc X.env.scope x) (hf : X.fn x = true ∨ X.env.scope.names.lookup x = some .local) : DenG X G (.Name x pos) (.nm i) := by
  refine ⟨_, pg_name hN hi hx hf, fun Z0 H0 Z H σ ρ ρ' v d Q S r e k => ?_⟩
  unfold bindT at e
  cases e
  exact k _ ⟨by simp, fun j hj => by rw [List.getElem?_set_ne (by simpa [Tg.slots] using (fun q => hj (by simp [Tg.slots, q] : j ∈ (Tg.nm i).slots) : ¬ i = j))]⟩ (S.set r i)
theorem dengs_nil : DenGs X G [] .nil := by
  refine ⟨_, pgs_nil, fun Z0 H0 Z H σ ρ ρ' vs ds Q S r e k => ?_⟩
  cases ds with
  | nil => cases r; unfold bindTs at e; cases e; exact ⟨rfl, k σ (.refl _ _) S⟩
  | cons _ _ => unfold bindTs at e; cases e
theorem dengs_cons {e : Expr} {es : List Expr} {t : Tg} {ts : Tgs} (h : DenG X G e t) (hr : DenGs X G es ts) (hs : (assignEach (e :: es) X.env).map (·.2) = assign e X.env :: (assignEach es X.env).map (·.2)) : DenGs X G (e :: es) (.cons t ts) := by
  obtain ⟨g, p, q⟩ := h.ex
  obtain ⟨gs, ps, qs⟩ := hr.ex
  refine ⟨_, pgs_cons p ps hs, fun Z0 H0 Z H σ ρ ρ' vs ds Q S r e k => ?_⟩
  cases ds with
  | nil => unfold bindTs at e; cases e
  | cons d ds =>
    cases r with
    | @cons v vs _ _ r1 r2 =>
      unfold bindTs at e
      cases e1 : bindT t d ρ with
      | ok ρ1 =>
        rw [e1] at e
        refine ⟨v, vs, rfl, q Z0 H0 Z H σ ρ ρ1 v d _ S r1 e1 fun σ1 o1 S1 => ?_⟩
        exact qs Z0 H0 Z H σ1 ρ1 ρ' vs ds Q S1 r2 e fun σ2 o2 S2 => k σ2 (o1.trans o2) S2
      | ex c => rw [e1] at e; cases e
      | no => rw [e1] at e; cases e
theorem deng_tp {es : List Expr} {k : Nat} {pos : Pos} {ts : Tgs} {n : Nat} (hc : X.calm = true) (h : DenGs X G es ts) (hl : ts.len = n) (hn : (assignEach es X.env).length = n) (hst : (assignEach es X.env).findIdx? (·.1) = none) : DenG X G (.Tuple es k pos) (.tp ts) := by
  obtain ⟨g, p, q⟩ := h.ex
  refine ⟨_, pg_tup (n := n) hc p hn hst, fun Z0 H0 Z H σ ρ ρ' v d Q S r e k => ?_⟩
  cases d with
  | tup ds =>
    cases r with
    | @tup a vs _ h1 h2 =>
      unfold bindT at e
      exact ⟨a, vs, rfl, SqT.of (S.sub _ _ h1), by rw [h2.length, bindTs_len e, hl], q Z0 H0 Z H σ ρ ρ' vs ds Q S h2 e k⟩
  | _ => unfold bindT at e; cases e
def tgO (t : Tg) (g : Env → R D) : Env → Out := fun ρ => ofR (g ρ) fun d => match bindT t d ρ with | .ok ρ' => .nx ρ' | _ => .no
theorem dens_tg {tg e : Expr} {pos : Pos} {g : Env → R D} {t : Tg} (he : Den X G .c e g) (hg : DenG X G tg t) (hs : swapsWithSole [tg] e pos.line X.env = pure false) (hw : swappedStores [tg] e X.env = pure none)
    (h1 : (assignEach [tg] X.env).map (·.2) = [assign tg X.env]) : DenS X G (.Assign [tg] e pos) (tgO t g) := by
  obtain ⟨te, p, q⟩ := he.ex
  obtain ⟨gt, pt, qt⟩ := hg.ex
  refine ⟨_, ps_asg p pt hs hw h1, fun Z0 H0 Z H σ ρ D S h => ?_⟩
  refine q Z0 H0 Z H σ ρ _ S ?_
  unfold tgO at h
  cases e : g ρ with
  | ex c => rw [e] at h; exact post_ex S h
  | no => rw [e] at h; exact h
  | ok d =>
    rw [e] at h
    intro v Z' H' g' f
    have h' : PostS X.K G (match bindT t d ρ with | .ok ρ' => .nx ρ' | _ => .no) Z0 H0 D := h
    cases e2 : bindT t d ρ with
    | ok ρ' => rw [e2] at h'; exact qt Z0 H0 Z' H' σ ρ ρ' v d _ (S.grow g') f e2 fun σ' _ S' => h' Z' H' σ' S'
    | ex c => rw [e2] at h'; exact h'.elim
    | no => rw [e2] at h'; exact h'.elim
/-- a new thing becomes a slot's own -/
def slOf : D → Option Sl | .lst ds => some (.ow ds) | .dK kvs => some (.oK kvs) | .dT kvs => some (.oT kvs) | _ => none
def ownO (i : Nat) (g : Env → R D) : Env → Out := fun ρ => ofR (g ρ) fun d => match slOf d with | some sl => .nx (ρ.set i sl) | none => .no
theorem top_own {K : PySem.W.Frag} {Z H : Hp} {a : Addr} {d : D} {sl : Sl} (h : TopAt K Z H a d) (hz : Z a = none) (e : slOf d = some sl) : OwnAt K Z H a sl := by
  cases h with
  | lst h1 h2 => cases e; exact .ow h1 hz h2
  | dK h1 h2 => cases e; exact .oK h1 hz h2
  | dT h1 h2 => cases e; exact .oT h1 hz h2
theorem dens_own {i : Nat} {x : Str} {e : Expr} {g : Env → R D} {pos pos' : Pos} (hN : X.N.Nodup) (hi : X.N[i]? = some x) (hx : Loc X.env.scope x) (he : Den X G .f e g) (hs : swapsWith e (some (.Name x pos')) pos.line X.env = pure false)
    (hf : X.fn x = true ∨ X.env.scope.names.lookup x = some .local) : DenS X G (.Assign [.Name x pos'] e pos) (ownO i g) := by
  obtain ⟨te, p, q⟩ := he.ex
  refine ⟨_, ps_set hN hi hx p hs hf, fun Z0 H0 Z H σ ρ D S h => ?_⟩
  refine q Z0 H0 Z H σ ρ _ S ?_
  unfold ownO at h
  cases e : g ρ with
  | ex c => rw [e] at h; exact post_ex S h
  | no => rw [e] at h; exact h
  | ok d =>
    rw [e] at h
    intro v Z' H' g' f
    obtain ⟨a, rfl, ta, hz, np⟩ := f
    have h' : PostS X.K G (match slOf d with | some sl => .nx (ρ.set i sl) | none => .no) Z0 H0 D := h
    cases e2 : slOf d with
    | none => rw [e2] at h'; exact h'.elim
    | some sl =>
      rw [e2] at h'
      exact h' Z' H' _ ((S.grow g').setOwn (top_own ta hz e2) (nprot_ext S.g.h np) i fun j sl' _ h1 h2 => S.apart np j sl' h1 h2)
theorem dens_set {i : Nat} {x : Str} {e : Expr} {g : Env → R D} {pos pos' : Pos} (hN : X.N.Nodup) (hi : X.N[i]? = some x) (hx : Loc X.env.scope x) (he : Den X G .c e g) (hs : swapsWith e (some (.Name x pos')) pos.line X.env = pure false)
    (hf : X.fn x = true ∨ X.env.scope.names.lookup x = some .local) : DenS X G (.Assign [.Name x pos'] e pos) (fun ρ => ofR (g ρ) fun d => .nx (ρ.set i (.im d))) := by
  obtain ⟨te, p, q⟩ := he.ex
  refine ⟨_, ps_set hN hi hx p hs hf, fun Z0 H0 Z H σ ρ D S h => ?_⟩
  refine q Z0 H0 Z H σ ρ _ S ?_
  cases e : g ρ with
  | ex c => rw [e] at h; exact post_ex S h
  | no => rw [e] at h; exact h
  | ok d => rw [e] at h; exact fun v Z' H' g' f => h Z' H' _ ((S.grow g').set f i)
/-! ### a, b = x, y; a, b, c = x, y, z -/
def Apart (σ : L2.St) (ρ : Env) (a : Addr) : Prop := ∀ (j : Nat) (sl : Sl), ρ[j]? = some sl → isOwn sl = true → σ[j]? ≠ some (some (.ref a))
theorem Apart.set {σ : L2.St} {ρ : Env} {a : Addr} (h : Apart σ ρ a) (i : Nat) (v : V) (d : D) : Apart (σ.set i (some v)) (ρ.set i (.im d)) a := fun j sl h1 h2 h3 => by
  by_cases hj : i = j
  · subst hj
    have hi : i < ρ.length := by have := (List.getElem?_eq_some_iff.mp h1).1; simpa using this
    rw [List.getElem?_set_self hi] at h1
    cases h1; cases h2
  · rw [List.getElem?_set_ne hj] at h1 h3
    exact h j sl h1 h2 h3
theorem Apart.own {σ : L2.St} {ρ : Env} {a b : Addr} (h : Apart σ ρ a) (hb : b ≠ a) (i : Nat) (sl : Sl) : Apart (σ.set i (some (.ref b))) (ρ.set i sl) a := fun j sl1 h1 h2 h3 => by
  by_cases hj : i = j
  · subst hj
    have hi : i < σ.length := by have := (List.getElem?_eq_some_iff.mp h3).1; simpa using this
    rw [List.getElem?_set_self hi] at h3
    cases h3; exact hb rfl
  · rw [List.getElem?_set_ne hj] at h1 h3
    exact h j sl1 h1 h2 h3
/-- what is stored: frozen data, or a thing of its own -/
def slM (m : Md) (d : D) : Option Sl := match m with | .c => some (.im d) | .f => slOf d | .t => none
/-- an item's state behind all items: new ahead of H -/
inductive Item (K : PySem.W.Frag) (H Z' H' : Hp) : Md → V → D → Sl → Prop
  | c {v : V} {d : D} : Rep K Z' v d → Item K H Z' H' .c v d (.im d)
  | f {a : Addr} {d : D} {sl : Sl} : OwnAt K Z' H' a sl → ¬ Prot H a → Item K H Z' H' .f (.ref a) d sl
theorem item_of {m : Md} {H Hb Z' H' : Hp} {v : V} {d : D} {sl : Sl} (h : Fin X.K Hb Z' H' m v d) (e : slM m d = some sl) (x : ExtN H Hb) : Item X.K H Z' H' m v d sl := by
  cases m with
  | c => cases e; exact .c h
  | t => cases e
  | f => obtain ⟨a, rfl, ta, hz, np⟩ := h; exact .f (top_own ta hz e) (nprot_ext x np)
theorem Item.grow {m : Md} {H Z1 H1 Z2 H2 : Hp} {v : V} {d : D} {sl : Sl} (h : Item X.K H Z1 H1 m v d sl) (g : Grow G.T Z1 H1 Z2 H2) : Item X.K H Z2 H2 m v d sl := by
  cases h with
  | c r => exact .c (Rep.le g.z.le _ _ r)
  | f o np => exact .f (o.grow g) np
theorem Sim.item {m : Md} {Z0 H0 H Z' H' : Hp} {σ : L2.St} {ρ : Env} {v : V} {d : D} {sl : Sl} (S : Sim X.K G.T Z0 H0 Z' H' σ ρ) (x : ExtN H0 H) (h : Item X.K H Z' H' m v d sl) (ap : ∀ a, v = .ref a → m = .f → Apart σ ρ a) (i : Nat) :
    Sim X.K G.T Z0 H0 Z' H' (σ.set i (some v)) (ρ.set i sl) := by
  cases h with
  | c r => exact S.set r i
  | f o np => exact S.setOwn o (nprot_ext x np) i fun j sl' _ h1 h2 => ap _ rfl rfl j sl' h1 h2
theorem Apart.item {m : Md} {H Z' H' : Hp} {σ : L2.St} {ρ : Env} {v : V} {d : D} {sl : Sl} {a : Addr} (hp : Apart σ ρ a) (h : Item X.K H Z' H' m v d sl) (hne : m = .f → v ≠ .ref a) (i : Nat) : Apart (σ.set i (some v)) (ρ.set i sl) a := by
  cases h with
  | c r => exact hp.set i v d
  | f o np => exact hp.own (fun e => hne rfl (by rw [e])) i sl
def parO2 (i j : Nat) (m1 m2 : Md) (ga gb : Env → R D) : Env → Out := fun ρ => ofR (ga ρ) fun a => ofR (gb ρ) fun b =>
  match slM m1 a, slM m2 b with | some s1, some s2 => .nx ((ρ.set i s1).set j s2) | _, _ => .no
theorem ans_bind {m : Md} {e : Expr} {g : Env → R D} {k : D → Out} {te : TE} {Z0 H0 Z H : Hp} {σ : L2.St} {ρ : Env} {D : Ends} {Q : VK} (q : ∀ Z0 H0 Z H σ ρ Q, Sim X.K G.T Z0 H0 Z H σ ρ → Ans X.K G m (g ρ) Z H Q → te σ H Q)
    (S : Sim X.K G.T Z0 H0 Z H σ ρ) (h : PostS X.K G (ofR (g ρ) k) Z0 H0 D) (f : ∀ d, g ρ = .ok d → PostS X.K G (k d) Z0 H0 D → ∀ v Z' H', Grow G.T Z H Z' H' → Fin X.K H Z' H' m v d → Q v H') : te σ H Q := by
  refine q Z0 H0 Z H σ ρ Q S ?_
  cases e : g ρ with
  | ex c => rw [e] at h; exact post_ex S h
  | no => rw [e] at h; exact h
  | ok d => rw [e] at h; exact f d e h
theorem prot_f {m : Md} {Hb Z1 H1 : Hp} {v : V} {d : D} (h : Fin X.K Hb Z1 H1 m v d) (hm : m = .f) : ∃ a, v = .ref a ∧ Prot H1 a := by
  subst hm
  obtain ⟨a, rfl, ta, _, _⟩ := h
  refine ⟨a, rfl, ?_⟩
  cases ta with
  | lst h1 h2 => exact pr_lst h1
  | dK h1 h2 => exact pr_dK h1
  | dT h1 h2 => exact pr_dT h1
theorem nprot_f {m : Md} {Hb Z1 H1 : Hp} {v : V} {d : D} (h : Fin X.K Hb Z1 H1 m v d) (hm : m = .f) : ∀ a, v = .ref a → ¬ Prot Hb a := by
  subst hm
  obtain ⟨a, rfl, ta, _, np⟩ := h
  intro b e; cases e; exact np
theorem dens_par2 {i j : Nat} {x y : Str} {a b : Expr} {m1 m2 : Md} {ga gb : Env → R D} {px py pt pos : Pos} {kt k2 pt2} (hc : X.calm = true) (hN : X.N.Nodup) (hi : X.N[i]? = some x) (hj : X.N[j]? = some y) (hij : i ≠ j)
    (hx : X.env.scope.names.lookup x = some .local) (hy : X.env.scope.names.lookup y = some .local) (ha : Den X G m1 a ga) (hb : Den X G m2 b gb)
    (hs1 : starEach [a, b] X.env = (false, eval a X.env) :: starEach [b] X.env) (hs2 : starEach [b] X.env = (false, eval b X.env) :: starEach [] X.env)
    (hw : swappedStores [.Tuple [.Name x px, .Name y py] kt pt] (.Tuple [a, b] k2 pt2) X.env = pure (some [x, y]))
    (hs : swapsWithSole [.Tuple [.Name x px, .Name y py] kt pt] (.Tuple [a, b] k2 pt2) pos.line X.env = pure false) :
    DenS X G (.Assign [.Tuple [.Name x px, .Name y py] kt pt] (.Tuple [a, b] k2 pt2) pos) (parO2 i j m1 m2 ga gb) := by
  obtain ⟨ta, pa, qa⟩ := ha.ex
  obtain ⟨tb, pb, qb⟩ := hb.ex
  refine ⟨_, ps_par hc hN hi hj hij hx hy (pa_cons pa (pa_cons pb pa_nil hs2) hs1) hw hs, fun Z0 H0 Z H σ ρ D S h => ?_⟩
  refine ans_bind (e := a) qa S h fun d1 _ h1 v1 Z1 H1 g1 f1 => ?_
  have S1 := S.grow g1
  refine ans_bind (e := b) qb S1 h1 fun d2 _ h2 v2 Z2 H2 g2 f2 => ?_
  have h2' : PostS X.K G (match slM m1 d1, slM m2 d2 with | some s1, some s2 => .nx ((ρ.set i s1).set j s2) | _, _ => .no) Z0 H0 D := h2
  refine ⟨v1, v2, rfl, ?_⟩
  split at h2'
  · rename_i s1 s2 e1 e2
    have i1 := (item_of f1 e1 (ExtN.refl H)).grow g2
    have i2 := item_of f2 e2 g1.h
    have S2 := S1.grow g2
    have ap1 : ∀ a, v1 = .ref a → m1 = .f → Apart σ ρ a := fun a e hm => S.apart (nprot_f f1 hm a e)
    have ap2 : ∀ a, v2 = .ref a → m2 = .f → Apart (σ.set i (some v1)) (ρ.set i s1) a := fun a e hm =>
      Apart.item (S1.apart (nprot_f f2 hm a e)) i1 (fun hm1 e1 => by
        obtain ⟨a', e3, pr⟩ := prot_f f1 hm1
        rw [e1] at e3; cases e3
        exact nprot_f f2 hm a e pr) i
    exact h2' Z2 H2 _ ((S2.item S.g.h i1 ap1 i).item S.g.h i2 ap2 j)
  · exact h2'.elim
def parO3 (i j l : Nat) (m1 m2 m3 : Md) (ga gb gc : Env → R D) : Env → Out := fun ρ => ofR (ga ρ) fun a => ofR (gb ρ) fun b => ofR (gc ρ) fun c =>
  match slM m1 a, slM m2 b, slM m3 c with | some s1, some s2, some s3 => .nx (((ρ.set i s1).set j s2).set l s3) | _, _, _ => .no
theorem dens_par3 {i j l : Nat} {x y z : Str} {a b c : Expr} {m1 m2 m3 : Md} {ga gb gc : Env → R D} {px py pz pt pos : Pos} {kt k2 pt2} (hc : X.calm = true) (hN : X.N.Nodup) (hi : X.N[i]? = some x) (hj : X.N[j]? = some y) (hl : X.N[l]? = some z) (hij : i ≠ j) (hil : i ≠ l) (hjl : j ≠ l)
    (hx : X.env.scope.names.lookup x = some .local) (hy : X.env.scope.names.lookup y = some .local) (hz : X.env.scope.names.lookup z = some .local) (ha : Den X G m1 a ga) (hb : Den X G m2 b gb) (hcc : Den X G m3 c gc)
    (hs1 : starEach [a, b, c] X.env = (false, eval a X.env) :: starEach [b, c] X.env) (hs2 : starEach [b, c] X.env = (false, eval b X.env) :: starEach [c] X.env) (hs3 : starEach [c] X.env = (false, eval c X.env) :: starEach [] X.env)
    (hw : swappedStores [.Tuple [.Name x px, .Name y py, .Name z pz] kt pt] (.Tuple [a, b, c] k2 pt2) X.env = pure (some [x, y, z]))
    (hs : swapsWithSole [.Tuple [.Name x px, .Name y py, .Name z pz] kt pt] (.Tuple [a, b, c] k2 pt2) pos.line X.env = pure false) :
    DenS X G (.Assign [.Tuple [.Name x px, .Name y py, .Name z pz] kt pt] (.Tuple [a, b, c] k2 pt2) pos) (parO3 i j l m1 m2 m3 ga gb gc) := by
  obtain ⟨ta, pa, qa⟩ := ha.ex
  obtain ⟨tb, pb, qb⟩ := hb.ex
  obtain ⟨tc, pc, qc⟩ := hcc.ex
  refine ⟨_, ps_par3 hc hN hi hj hl hij hil hjl hx hy hz (pa_cons pa (pa_cons pb (pa_cons pc pa_nil hs3) hs2) hs1) hw hs, fun Z0 H0 Z H σ ρ D S h => ?_⟩
  refine ans_bind (e := a) qa S h fun d1 _ h1 v1 Z1 H1 g1 f1 => ?_
  have S1 := S.grow g1
  refine ans_bind (e := b) qb S1 h1 fun d2 _ h2 v2 Z2 H2 g2 f2 => ?_
  have S2 := S1.grow g2
  refine ans_bind (e := c) qc S2 h2 fun d3 _ h3 v3 Z3 H3 g3 f3 => ?_
  have h3' : PostS X.K G (match slM m1 d1, slM m2 d2, slM m3 d3 with | some s1, some s2, some s3 => .nx (((ρ.set i s1).set j s2).set l s3) | _, _, _ => .no) Z0 H0 D := h3
  refine ⟨v1, v2, v3, rfl, ?_⟩
  split at h3'
  · rename_i s1 s2 s3 e1 e2 e3
    have i1 := (item_of f1 e1 (ExtN.refl H)).grow (g2.trans g3)
    have i2 := (item_of f2 e2 g1.h).grow g3
    have i3 := item_of f3 e3 (g1.h.trans g2.h)
    have S3 := S2.grow g3
    have ap1 : ∀ a, v1 = .ref a → m1 = .f → Apart σ ρ a := fun a e hm => S.apart (nprot_f f1 hm a e)
    have ap2 : ∀ a, v2 = .ref a → m2 = .f → Apart (σ.set i (some v1)) (ρ.set i s1) a := fun a e hm =>
      Apart.item (S1.apart (nprot_f f2 hm a e)) i1 (fun hm1 e1 => by
        obtain ⟨a', e3, pr⟩ := prot_f f1 hm1
        rw [e1] at e3; cases e3
        exact nprot_f f2 hm a e pr) i
    have ap3 : ∀ a, v3 = .ref a → m3 = .f → Apart ((σ.set i (some v1)).set j (some v2)) ((ρ.set i s1).set j s2) a := fun a e hm =>
      Apart.item (Apart.item (S2.apart (nprot_f f3 hm a e)) i1 (fun hm1 e1 => by
        obtain ⟨a', e3, pr⟩ := prot_f f1 hm1
        rw [e1] at e3; cases e3
        exact nprot_f f3 hm a e (pr.ext g2.h)) i) i2 (fun hm2 e2 => by
        obtain ⟨a', e3, pr⟩ := prot_f f2 hm2
        rw [e2] at e3; cases e3
        exact nprot_f f3 hm a e pr) j
    exact h3' Z3 H3 _ (((S3.item S.g.h i1 ap1 i).item S.g.h i2 ap2 j).item S.g.h i3 ap3 l)
  · exact h3'.elim
end
end VS

set_option Elab.async false
set_option linter.all false
set_option maxRecDepth 100000
set_option maxHeartbeats 2000000
/-! VS8: what is walked, for, while, comprehensions, calls of defs. -/
namespace VS
open PySem L2 LamX

/-- the items ds are given, one a turn, while Z1 is frozen -/
def WalkD (K : PySem.W.Frag) (T : List (Addr × Str)) (J : It) (Z1 : Hp) (ds : List D) : Prop :=
  ∃ (Gp : Hp → Prop) (Y : Nat → Hp → V → Hp → Prop), Walk J ds.length Gp Y ∧ (∀ H', Sub Z1 H' → Gp H') ∧
    ∀ i Z' H' x H'', i < ds.length → Sub Z1 Z' → Sub Z' H' → (∀ a o, Z' a = some o → NoTb o) → Y i H' x H'' → ∃ Z'' d, Grow T Z' H' Z'' H'' ∧ ds[i]? = some d ∧ Rep K Z'' x d
structure DenI (X : Cx) (G : Wh) (tg iter : Expr) (g : Env → R (List D)) : Prop where
  ex : ∃ wi, PI X tg iter wi ∧ ∀ Z0 H0 Z H σ ρ Rk, Sim X.K G.T Z0 H0 Z H σ ρ → (match g ρ with
    | .ok ds => ∀ J Z1 H1, Grow G.T Z H Z1 H1 → WalkD X.K G.T J Z1 ds → Rk J H1
    | .ex c => ∀ Z' H', Grow G.T Z H Z' H' → G.E (.ref (G.cl c)) none H'
    | .no => False) → wi σ H Rk

section
variable {X : Cx} {G : Wh}
def gSeq (f : D → R (List D)) (g : Env → R D) : Env → R (List D) := fun ρ => do let d ← g ρ; f d
def itL : D → R (List D) | .lst ds => .ok ds | _ => .no
def itT : D → R (List D) | .tup ds => .ok ds | _ => .no
def itS : D → R (List D) | .str z => .ok (z.cps.toList.map fun c => .str ⟨#[c]⟩) | _ => .no
theorem seq_i {e : Expr} {g : Env → R D} {f : D → R (List D)} {te : TE} {Z0 H0 Z H : Hp} {σ : L2.St} {ρ : Env} {Rk : It → Hp → Prop} {Q : VK} {m : Md} (q : ∀ Z0 H0 Z H σ ρ Q, Sim X.K G.T Z0 H0 Z H σ ρ → Ans X.K G m (g ρ) Z H Q → te σ H Q)
    (S : Sim X.K G.T Z0 H0 Z H σ ρ) (h : match gSeq f g ρ with
    | .ok ds => ∀ J Z1 H1, Grow G.T Z H Z1 H1 → WalkD X.K G.T J Z1 ds → Rk J H1
    | .ex c => ∀ Z' H', Grow G.T Z H Z' H' → G.E (.ref (G.cl c)) none H'
    | .no => False) (k : ∀ d ds, f d = .ok ds → ∀ v Z' H', Grow G.T Z H Z' H' → Fin X.K H Z' H' m v d → (∀ J Z1 H1, Grow G.T Z' H' Z1 H1 → WalkD X.K G.T J Z1 ds → Rk J H1) → Q v H') (hf : ∀ d c, f d ≠ .ex c) : te σ H Q := by
  refine q Z0 H0 Z H σ ρ Q S ?_
  unfold gSeq at h
  cases e : g ρ with
  | ex c => rw [e] at h; exact h
  | no => rw [e] at h; exact h
  | ok d =>
    rw [e] at h
    rw [R.ok_bind] at h
    intro v Z' H' g' f'
    cases e2 : f d with
    | ok ds => rw [e2] at h; exact k d ds e2 v Z' H' g' f' fun J Z1 H1 g1 w => h J Z1 H1 (g'.trans g1) w
    | ex c => exact absurd e2 (hf d c)
    | no => rw [e2] at h; exact h.elim
theorem deni_list {tg e : Expr} {g : Env → R D} (he : Den X G .c e g) : DenI X G tg e (gSeq itL g) := by
  obtain ⟨t, p, q⟩ := he.ex
  refine ⟨_, pi_list p, fun Z0 H0 Z H σ ρ Rk S h => ?_⟩
  refine seq_i (e := e) q S h (fun d ds e v Z' H' g' f k => ?_) (fun d c => by unfold itL; split <;> (intro z; cases z))
  unfold itL at e
  split at e
  · cases e
    cases f with
    | @lst a vs _ h1 h2 =>
      refine ⟨a, rfl, ⟨vs, SqL.of (g'.s _ _ h1)⟩, k _ Z' H' (.refl g'.s g'.n) ⟨fun H => SqL X.K H a vs, _, by rw [← h2.length]; exact walk_list, fun H' s => SqL.of (s _ _ h1), fun i Z2 H2 x H3 hi s1 s2 n y => ?_⟩⟩
      obtain ⟨rfl, y⟩ := y
      obtain ⟨d, e1, e2⟩ := h2.getV y
      exact ⟨Z2, d, .refl s2 n, e1, Rep.le s1.le _ _ e2⟩
  · cases e
theorem deni_tup {tg e : Expr} {g : Env → R D} (he : Den X G .c e g) : DenI X G tg e (gSeq itT g) := by
  obtain ⟨t, p, q⟩ := he.ex
  refine ⟨_, pi_tup p, fun Z0 H0 Z H σ ρ Rk S h => ?_⟩
  refine seq_i (e := e) q S h (fun d ds e v Z' H' g' f k => ?_) (fun d c => by unfold itT; split <;> (intro z; cases z))
  unfold itT at e
  split at e
  · cases e
    cases f with
    | @tup a vs _ h1 h2 =>
      refine ⟨a, rfl, ⟨vs, SqT.of (g'.s _ _ h1)⟩, k _ Z' H' (.refl g'.s g'.n) ⟨fun H => SqT X.K H a vs, _, by rw [← h2.length]; exact walk_tup, fun H' s => SqT.of (s _ _ h1), fun i Z2 H2 x H3 hi s1 s2 n y => ?_⟩⟩
      obtain ⟨rfl, y⟩ := y
      obtain ⟨d, e1, e2⟩ := h2.getV y
      exact ⟨Z2, d, .refl s2 n, e1, Rep.le s1.le _ _ e2⟩
  · cases e
theorem deni_str {tg e : Expr} {g : Env → R D} (he : Den X G .c e g) : DenI X G tg e (gSeq itS g) := by
  obtain ⟨t, p, q⟩ := he.ex
  refine ⟨_, pi_str p, fun Z0 H0 Z H σ ρ Rk S h => ?_⟩
  refine seq_i (e := e) q S h (fun d ds e v Z' H' g' f k => ?_) (fun d c => by unfold itS; split <;> (intro z; cases z))
  unfold itS at e
  split at e
  · rename_i z
    cases e
    cases f with
    | str z =>
      refine ⟨z, rfl, k _ Z' H' (.refl g'.s g'.n) ⟨fun _ => True, _, by rw [List.length_map, Array.length_toList]; exact walk_str, fun _ _ => trivial, fun i Z2 H2 x H3 hi s1 s2 n y => ?_⟩⟩
      obtain ⟨rfl, c, y1, rfl⟩ := y
      refine ⟨Z2, .str ⟨#[c]⟩, .refl s2 n, ?_, .str _⟩
      rw [List.getElem?_map, Array.getElem?_toList, y1]; rfl
  · cases e
/-- the first n whole numbers from lo -/
def upto (lo : Int) (n : Nat) : List D := (List.range n).map fun (i : Nat) => .int (lo + i)
theorem upto_walk {K : PySem.W.Frag} {T : List (Addr × Str)} {Z : Hp} (lo : Int) (n : Nat) : WalkD K T (Itr lo n) Z (upto lo n) := by
  have hl : (upto lo n).length = n := by simp [upto]
  refine ⟨fun _ => True, _, by rw [hl]; exact walk_range, fun _ _ => trivial, fun i Z2 H2 x H3 hi s1 s2 nt y => ?_⟩
  obtain ⟨rfl, rfl⟩ := y
  rw [hl] at hi
  exact ⟨Z2, .int (lo + i), .refl s2 nt, by simp [upto, hi], .int _⟩
def rng1 : List D → R (List D) | [.int j] => if -(2 ^ 62) ≤ j ∧ j < 2 ^ 62 then .ok (upto 0 j.toNat) else .no | _ => .no
def rng2 : List D → R (List D) | [.int i, .int j] => if -(2 ^ 62) ≤ i ∧ i < 2 ^ 62 ∧ -(2 ^ 62) ≤ j ∧ j < 2 ^ 62 then .ok (upto i (j - i).toNat) else .no | _ => .no
def gSeqA (f : List D → R (List D)) (g : Env → R (List D)) : Env → R (List D) := fun ρ => do let d ← g ρ; f d
theorem seq_a {es : List Expr} {g : Env → R (List D)} {f : List D → R (List D)} {te : TA} {Z0 H0 Z H : Hp} {σ : L2.St} {ρ : Env} {Rk : It → Hp → Prop} {Q : List V → Hp → Prop} {m : Md} (q : ∀ Z0 H0 Z H σ ρ Q, Sim X.K G.T Z0 H0 Z H σ ρ → AnsA X.K G m (g ρ) Z H Q → te σ H Q)
    (S : Sim X.K G.T Z0 H0 Z H σ ρ) (h : match gSeqA f g ρ with
    | .ok ds => ∀ J Z1 H1, Grow G.T Z H Z1 H1 → WalkD X.K G.T J Z1 ds → Rk J H1
    | .ex c => ∀ Z' H', Grow G.T Z H Z' H' → G.E (.ref (G.cl c)) none H'
    | .no => False) (k : ∀ d ds, f d = .ok ds → ∀ v Z' H', Grow G.T Z H Z' H' → Fins X.K m Z' H' v d → (∀ J Z1 H1, Grow G.T Z' H' Z1 H1 → WalkD X.K G.T J Z1 ds → Rk J H1) → Q v H') (hf : ∀ d c, f d ≠ .ex c) : te σ H Q := by
  refine q Z0 H0 Z H σ ρ Q S ?_
  unfold gSeqA at h
  cases e : g ρ with
  | ex c => rw [e] at h; exact h
  | no => rw [e] at h; exact h
  | ok d =>
    rw [e] at h
    rw [R.ok_bind] at h
    intro v Z' H' g' f'
    cases e2 : f d with
    | ok ds => rw [e2] at h; exact k d ds e2 v Z' H' g' f' fun J Z1 H1 g1 w => h J Z1 H1 (g'.trans g1) w
    | ex c => exact absurd e2 (hf d c)
    | no => rw [e2] at h; exact h.elim
theorem deni_range1 {tg a : Expr} {p pos : Pos} {g : Env → R (List D)} {m : Md} (hg : Gl X "range") (hm : X.mg "range" = none) (ha : DenA X G m [a] g) (hs : starEach [a] X.env = [(false, eval a X.env)]) :
    DenI X G tg (.Call (.Name "range" p) [a] [] pos) (gSeqA rng1 g) := by
  obtain ⟨t, pt, q⟩ := ha.ex
  refine ⟨_, pi_range1 hg hm pt hs, fun Z0 H0 Z H σ ρ Rk S h => ?_⟩
  refine seq_a (es := [a]) q S h (fun d ds e v Z' H' g' f k => ?_) (fun d c => by unfold rng1; split <;> (try split) <;> (intro z; cases z))
  unfold rng1 at e
  split at e
  · split at e
    · rename_i hc
      cases e
      obtain ⟨x, rfl, fx⟩ := fins1 f
      exact ⟨_, by rw [now_int (fx.now (Hx := H'))], hc.1, hc.2, k _ Z' H' (.refl g'.s g'.n) (upto_walk _ _)⟩
    · cases e
  · cases e
theorem deni_range2 {tg a b : Expr} {p pos : Pos} {g : Env → R (List D)} {m : Md} (hg : Gl X "range") (hm : X.mg "range" = none) (ha : DenA X G m [a, b] g) (hs : starEach [a, b] X.env = [(false, eval a X.env), (false, eval b X.env)]) (hs2 : starEach [b] X.env = [(false, eval b X.env)]) :
    DenI X G tg (.Call (.Name "range" p) [a, b] [] pos) (gSeqA rng2 g) := by
  obtain ⟨t, pt, q⟩ := ha.ex
  refine ⟨_, pi_range2 hg hm pt hs hs2, fun Z0 H0 Z H σ ρ Rk S h => ?_⟩
  refine seq_a (es := [a, b]) q S h (fun d ds e v Z' H' g' f k => ?_) (fun d c => by unfold rng2; split <;> (try split) <;> (intro z; cases z))
  unfold rng2 at e
  split at e
  · split at e
    · rename_i hc
      cases e
      obtain ⟨x, y, rfl, fx, fy⟩ := fins2 f
      exact ⟨_, _, by rw [now_int (fx.now (Hx := H')), now_int (fy.now (Hx := H'))], ⟨hc.1, hc.2.1, hc.2.2.1, hc.2.2.2⟩, k _ Z' H' (.refl g'.s g'.n) (upto_walk _ _)⟩
    · cases e
  · cases e
/-- pairs of place and item; of two lists' items -/
def enumI : Int → List D → List D
  | _, [] => []
  | n, d :: ds => .tup [.int n, d] :: enumI (n + 1) ds
theorem enumI_len : ∀ (n : Int) (ds : List D), (enumI n ds).length = ds.length
  | _, [] => rfl
  | n, d :: ds => by simp [enumI, enumI_len (n + 1) ds]
theorem enumI_get : ∀ {ds : List D} {n : Int} {i : Nat} {d : D}, ds[i]? = some d → (enumI n ds)[i]? = some (.tup [.int (n + i), d])
  | [], _, _, _, h => by simp at h
  | d :: ds, n, 0, _, h => by simp at h; subst h; simp [enumI]
  | d :: ds, n, i + 1, e, h => by
    have := enumI_get (ds := ds) (n := n + 1) (i := i) (d := e) (by simpa using h)
    rw [enumI, List.getElem?_cons_succ, this]
    have e1 : n + 1 + (i : Int) = n + ((i + 1 : Nat) : Int) := by omega
    rw [e1]
def enumL (ds : List D) : List D := enumI 0 ds
theorem enumL_len (ds : List D) : (enumL ds).length = ds.length := enumI_len 0 ds
theorem enumL_get {ds : List D} {i : Nat} {d : D} (h : ds[i]? = some d) : (enumL ds)[i]? = some (.tup [.int i, d]) := by
  have := enumI_get (n := 0) h
  rwa [Int.zero_add] at this
def enm : List D → R (List D) | [.lst ds] => .ok (enumL ds) | _ => .no
theorem pair_new {K : PySem.W.Frag} {T : List (Addr × Str)} {Z2 H2 : Hp} {t : Addr} {x y : V} {d e : D} (s : Sub Z2 H2) (n : ∀ a o, Z2 a = some o → NoTb o) (ht : H2 t = none) (r1 : Rep K Z2 x d) (r2 : Rep K Z2 y e) :
    ∃ Z'', Grow T Z2 H2 Z'' (upd H2 t (.tup [x, y])) ∧ Rep K Z'' (.ref t) (.tup [d, e]) :=
  ⟨upd Z2 t (.tup [x, y]), grow_newz s n ht (nt_tup _), rep_newT s ht (.cons r1 (.cons r2 .nil))⟩
theorem deni_enum {e : Expr} {p pos tpos : Pos} {elts : List Expr} {kk : Nat} {g : Env → R (List D)} (hg : Gl X "enumerate") (hm : X.mg "enumerate" = none) (ha : DenA X G .c [e] g) (hs : starEach [e] X.env = [(false, eval e X.env)]) :
    DenI X G (.Tuple elts kk tpos) (.Call (.Name "enumerate" p) [e] [] pos) (gSeqA enm g) := by
  obtain ⟨t, pt, q⟩ := ha.ex
  refine ⟨_, pi_enum hg hm pt hs, fun Z0 H0 Z H σ ρ Rk S h => ?_⟩
  refine seq_a (es := [e]) q S h (fun d ds e v Z' H' g' f k => ?_) (fun d c => by unfold enm; split <;> (intro z; cases z))
  unfold enm at e
  split at e
  · rename_i es
    cases e
    obtain ⟨x, rfl, fx⟩ := fins1 f
    cases fx with
    | @lst a vs _ h1 h2 =>
      have hl := enumL_len es
      refine ⟨a, vs, rfl, SqL.of (g'.s _ _ h1), k _ Z' H' (.refl g'.s g'.n) ⟨fun H => SqL X.K H a vs, _, by rw [hl, ← h2.length]; exact walk_enum, fun H' s => SqL.of (s _ _ h1), fun i Z2 H2 x H3 hi s1 s2 n y => ?_⟩⟩
      obtain ⟨t, x1, y1, rfl, ht, rfl, e1, e2⟩ := y
      cases e1
      obtain ⟨d, e3, e4⟩ := h2.getV e2
      obtain ⟨Z'', g2, r2⟩ := pair_new (T := G.T) s2 n ht (.int (i : Int)) (Rep.le s1.le _ _ e4)
      exact ⟨Z'', _, g2, enumL_get e3, r2⟩
  · cases e
def zipD (ds es : List D) : List D := (ds.zip es).map fun p => .tup [p.1, p.2]
def zp : List D → R (List D) | [.lst ds, .lst es] => .ok (zipD ds es) | _ => .no
theorem deni_zip {e e2 : Expr} {p pos tpos : Pos} {elts : List Expr} {kk : Nat} {g : Env → R (List D)} (hg : Gl X "zip") (hm : X.mg "zip" = none) (ha : DenA X G .c [e, e2] g)
    (pz : ∀ t, PA X [e, e2] t → PI X (.Tuple elts kk tpos) (.Call (.Name "zip" p) [e, e2] [] pos) (iZip X.K t)) :
    DenI X G (.Tuple elts kk tpos) (.Call (.Name "zip" p) [e, e2] [] pos) (gSeqA zp g) := by
  obtain ⟨t, pt, q⟩ := ha.ex
  refine ⟨_, pz t pt, fun Z0 H0 Z H σ ρ Rk S h => ?_⟩
  refine seq_a (es := [e, e2]) q S h (fun d ds e v Z' H' g' f k => ?_) (fun d c => by unfold zp; split <;> (intro z; cases z))
  unfold zp at e
  split at e
  · rename_i es fs
    cases e
    obtain ⟨x, y, rfl, fx, fy⟩ := fins2 f
    cases fx with
    | @lst a vs _ h1 h2 =>
      cases fy with
      | @lst b us _ h3 h4 =>
        have hl : (zipD es fs).length = min vs.length us.length := by unfold zipD; rw [List.length_map, List.length_zip, h2.length, h4.length]
        refine ⟨a, b, vs, us, rfl, SqL.of (g'.s _ _ h1), SqL.of (g'.s _ _ h3), k _ Z' H' (.refl g'.s g'.n) ⟨fun H => SqL X.K H a vs ∧ SqL X.K H b us, _, walk_zip hl, fun H' s => ⟨SqL.of (s _ _ h1), SqL.of (s _ _ h3)⟩, fun i Z2 H2 x H3 hi s1 s2 n y => ?_⟩⟩
        obtain ⟨t, x1, y1, rfl, ht, rfl, e1, e2⟩ := y
        obtain ⟨d1, e3, e4⟩ := h2.getV e1
        obtain ⟨d2, e5, e6⟩ := h4.getV e2
        obtain ⟨Z'', g2, r2⟩ := pair_new (T := G.T) s2 n ht (Rep.le s1.le _ _ e4) (Rep.le s1.le _ _ e6)
        refine ⟨Z'', _, g2, ?_, r2⟩
        unfold zipD
        rw [List.getElem?_map, List.getElem?_zip_eq_some (z := (d1, d2)) |>.mpr ⟨e3, e5⟩]; rfl
  · cases e

/-! ### for -/
def runFor (b : D → Env → R Env) (f : Env → Out) : List D → Env → Out
  | [], ρ => .nx ρ
  | d :: ds, ρ => match b d ρ with
    | .ok ρ1 => (match f ρ1 with
      | .nx ρ2 => runFor b f ds ρ2 | .ct ρ2 => runFor b f ds ρ2 | .bk ρ2 => .nx ρ2 | .rt d => .rt d | .ex c => .ex c | .no => .no)
    | _ => .no
def forO (t : Tg) (gi : Env → R (List D)) (f : Env → Out) : Env → Out := fun ρ => match gi ρ with
  | .ok ds => runFor (bindT t) f ds ρ | .ex c => .ex c | .no => .no
theorem for_run {J : It} {ds : List D} {t : Tg} {f : Env → Out} {gt : TG} {tb : TS} {Z0 H0 Z1 H1 : Hp} {σ : L2.St} {ρ : Env} {D : Ends} (w : WalkD X.K G.T J Z1 ds)
    (qt : ∀ Z0 H0 Z H σ ρ ρ' v d Q, Sim X.K G.T Z0 H0 Z H σ ρ → Rep X.K Z v d → bindT t d ρ = .ok ρ' → (∀ σ', OnlyAt t.slots σ σ' → Sim X.K G.T Z0 H0 Z H σ' ρ' → Q σ' H) → gt v σ H Q)
    (qb : ∀ Z0 H0 Z H σ ρ D, Sim X.K G.T Z0 H0 Z H σ ρ → PostS X.K G (f ρ) Z0 H0 D → tb D σ H)
    (S : Sim X.K G.T Z0 H0 Z1 H1 σ ρ) (h : PostS X.K G (runFor (bindT t) f ds ρ) Z0 H0 D) :
    ∃ W : Nat → Nat → L2.St → Hp → Prop, (∃ m, W 0 m σ H1) ∧ ∀ i m σ H, W i m σ H →
      (J.stop i H ∧ D.nx σ H) ∨ (J.go i H ∧ ∃ N : L2.St → Hp → Prop, (∀ σ' H', N σ' H' → ∃ m', m' < m ∧ W (i + 1) m' σ' H') ∧ ∀ x H', J.yld i H x H' → gt x σ H' fun σ2 H2 => tb { D with nx := N, ct := N, bk := D.nx } σ2 H2) := by
  obtain ⟨Gp, Y, w, wG, wY⟩ := w
  refine for_it w (fun i σ H => ∃ Z ρ, Sim X.K G.T Z1 H0 Z H σ ρ ∧ PostS X.K G (runFor (bindT t) f (ds.drop i) ρ) Z0 H0 D) ⟨Z1, ρ, S.base, by rw [List.drop_zero]; exact h⟩
    (fun i σ H hi ⟨Z, ρ, S', _⟩ => wG H (S'.g.z.trans S'.sub)) (fun i x σ H H' hi ⟨Z, ρ, S', p⟩ y => ?_) (fun σ H ⟨Z, ρ, S', p⟩ => ?_)
  · obtain ⟨Z2, d, g2, hd, r⟩ := wY i Z H x H' hi S'.g.z S'.sub S'.nt y
    have hdrop : ds.drop i = d :: ds.drop (i + 1) := by
      obtain ⟨h1, h2⟩ := List.getElem?_eq_some_iff.mp hd
      rw [List.drop_eq_getElem_cons h1, h2]
    rw [hdrop] at p
    have S2 := S'.grow g2
    have p' : PostS X.K G (match bindT t d ρ with
      | .ok ρ1 => (match f ρ1 with
        | .nx ρ2 => runFor (bindT t) f (ds.drop (i + 1)) ρ2 | .ct ρ2 => runFor (bindT t) f (ds.drop (i + 1)) ρ2 | .bk ρ2 => .nx ρ2 | .rt d => .rt d | .ex c => .ex c | .no => .no)
      | _ => .no) Z0 H0 D := p
    cases e : bindT t d ρ with
    | ex c => rw [e] at p'; exact p'.elim
    | no => rw [e] at p'; exact p'.elim
    | ok ρ1 =>
      rw [e] at p'
      dsimp only at p'
      refine qt Z1 H0 Z2 H' σ ρ ρ1 x d _ S2 r e fun σ1 _ S3 => ?_
      refine qb Z1 H0 Z2 H' σ1 ρ1 _ S3 ?_
      cases e2 : f ρ1 with
      | nx ρ2 => rw [e2] at p'; exact fun Z' H' σ' S4 => ⟨Z', ρ2, S4, p'⟩
      | ct ρ2 => rw [e2] at p'; exact fun Z' H' σ' S4 => ⟨Z', ρ2, S4, p'⟩
      | bk ρ2 => rw [e2] at p'; exact fun Z' H' σ' S4 => p' Z' H' σ' (Sim.back S.g S4)
      | rt d => rw [e2] at p'; exact fun v Z' H' g t r => p' v Z' H' (S.g.back g) t r
      | ex c => rw [e2] at p'; exact fun Z' H' g t => p' Z' H' (S.g.back g) t
      | no => rw [e2] at p'; exact p'.elim
  · rw [List.drop_length] at p
    exact p Z H σ (Sim.back S.g S')
theorem dens_for {tg iter : Expr} {body : List Stmt} {pos : Pos} {t : Tg} {gi : Env → R (List D)} {f : Env → Out} (hp : PassesOwn (model X.prog X.w) X.A X.env X.xe) (hc : X.calm = true) (hi : DenI X G tg iter gi) (hg : DenG X G tg t) (hb : DenB X G body f)
    (hs : ∀ x, foldedSetIterable iter X.env x = pure x) : DenS X G (.For tg iter body [] pos) (forO t gi f) := by
  obtain ⟨wi, pi, qi⟩ := hi.ex
  obtain ⟨gt, pt, qt⟩ := hg.ex
  obtain ⟨tb, pb, qb⟩ := hb.ex
  refine ⟨_, ps_for hp hc pi pt pb hs, fun Z0 H0 Z H σ ρ D S h => ?_⟩
  refine qi Z0 H0 Z H σ ρ _ S ?_
  unfold forO at h
  cases e : gi ρ with
  | ex c => rw [e] at h; exact post_ex S h
  | no => rw [e] at h; exact h
  | ok ds =>
    rw [e] at h
    exact fun J Z1 H1 g1 w => for_run w qt qb (S.grow g1) h

/-! ### while -/
def runWhile (c : Env → R Bool) (f : Env → Out) : Nat → Env → Out
  | 0, _ => .no
  | n + 1, ρ => match c ρ with
    | .ok true => (match f ρ with
      | .nx ρ2 => runWhile c f n ρ2 | .ct ρ2 => runWhile c f n ρ2 | .bk ρ2 => .nx ρ2 | .rt d => .rt d | .ex c => .ex c | .no => .no)
    | .ok false => .nx ρ
    | .ex c => .ex c | .no => .no
theorem dens_while {c : Expr} {body : List Stmt} {pos : Pos} {gc : Env → R Bool} {f : Env → Out} {n : Nat} (hp : PassesOwn (model X.prog X.w) X.A X.env X.xe) (hc : DenT X G c gc) (hb : DenB X G body f) : DenS X G (.While c body [] pos) (runWhile gc f n) := by
  obtain ⟨tc, pc, qc⟩ := hc.ex
  obtain ⟨tb, pb, qb⟩ := hb.ex
  refine ⟨_, ps_while hp pc pb, fun Z0 H0 Z H σ ρ D S h => ?_⟩
  refine ⟨fun m σ H => ∃ Z ρ, Sim X.K G.T Z0 H0 Z H σ ρ ∧ PostS X.K G (runWhile gc f m ρ) Z0 H0 D, ⟨n, Z, ρ, S, h⟩, ?_⟩
  rintro m σ H ⟨Z, ρ, S, h⟩
  cases m with
  | zero => exact h.elim
  | succ m =>
    refine qc Z0 H0 Z H σ ρ _ S ?_
    unfold runWhile at h
    cases e : gc ρ with
    | ex c => rw [e] at h; exact post_ex S h
    | no => rw [e] at h; exact h
    | ok b =>
      rw [e] at h
      intro Z1 H1 g1
      cases b with
      | false => exact h Z1 H1 σ (S.grow g1)
      | true =>
        rw [if_pos rfl]
        refine ⟨fun σ' H' => ∃ Z ρ, Sim X.K G.T Z0 H0 Z H' σ' ρ ∧ PostS X.K G (runWhile gc f m ρ) Z0 H0 D, fun σ' H' w => ⟨m, Nat.lt_succ_self m, w⟩, ?_⟩
        refine qb Z0 H0 Z1 H1 σ ρ _ (S.grow g1) ?_
        dsimp only at h
        cases e2 : f ρ with
        | nx ρ2 => rw [e2] at h; exact fun Z' H' σ' S4 => ⟨Z', ρ2, S4, h⟩
        | ct ρ2 => rw [e2] at h; exact fun Z' H' σ' S4 => ⟨Z', ρ2, S4, h⟩
        | bk ρ2 => rw [e2] at h; exact h
        | rt d => rw [e2] at h; exact h
        | ex c => rw [e2] at h; exact h
        | no => rw [e2] at h; exact h
end
end VS

set_option Elab.async false
set_option linter.all false
set_option maxRecDepth 100000
set_option maxHeartbeats 2000000
/-! VS9: comprehensions; calls of defs; a def's promise. -/
namespace VS
open PySem L2 LamX PySem.Spec PyProof.Rows

/-! ### one reading for all contexts -/
def tDen (K : PySem.W.Frag) (G : Wh) (m : Md) (g : Env → R D) : TE := fun σ H Q => ∃ Z0 H0 Z ρ, Sim K G.T Z0 H0 Z H σ ρ ∧ Ans K G m (g ρ) Z H Q
def tDenT (K : PySem.W.Frag) (G : Wh) (g : Env → R Bool) : TT := fun σ H Q => ∃ Z0 H0 Z ρ, Sim K G.T Z0 H0 Z H σ ρ ∧ AnsB G (g ρ) Z H Q
def gDen (K : PySem.W.Frag) (G : Wh) (t : Tg) : TG := fun v σ H Q => ∃ Z0 H0 Z ρ ρ' d, Sim K G.T Z0 H0 Z H σ ρ ∧ Rep K Z v d ∧ bindT t d ρ = .ok ρ' ∧ (∀ σ', OnlyAt t.slots σ σ' → Sim K G.T Z0 H0 Z H σ' ρ' → Q σ' H)
section
variable {X : Cx} {G : Wh}
theorem Den.can {m : Md} {e : Expr} {g : Env → R D} (h : Den X G m e g) : PE X e (tDen X.K G m g) := by
  obtain ⟨t, p, q⟩ := h.ex
  exact ⟨fun pins s σ H Q I ⟨Z0, H0, Z, ρ, S, a⟩ => p.run pins s σ H Q I (q Z0 H0 Z H σ ρ Q S a)⟩
theorem DenT.can {e : Expr} {g : Env → R Bool} (h : DenT X G e g) : PT X e (tDenT X.K G g) := by
  obtain ⟨t, p, q⟩ := h.ex
  exact ⟨fun pins s σ H Q I ⟨Z0, H0, Z, ρ, S, a⟩ => p.run pins s σ H Q I (q Z0 H0 Z H σ ρ Q S a)⟩
theorem DenG.can {tg : Expr} {t : Tg} (h : DenG X G tg t) : PG X tg (gDen X.K G t) := by
  obtain ⟨g, p, q⟩ := h.ex
  refine ⟨fun pins s σ H v u Q I r ⟨Z0, H0, Z, ρ, ρ', d, S, rr, e, k⟩ => p.run pins s σ H v u Q I r (q Z0 H0 Z H σ ρ ρ' v d Q S rr e k)⟩
structure DenTs (X : Cx) (G : Wh) (ifs : List Expr) (g : Env → R Bool) : Prop where
  can : PTs X ifs (tDenT X.K G g)
theorem dents_nil : DenTs X G [] (fun _ => .ok true) := by
  refine ⟨⟨fun pins s σ H Q I ⟨Z0, H0, Z, ρ, S, a⟩ => pts_nil.run pins s σ H Q I (a Z H (.refl S.sub S.nt))⟩⟩
theorem dents_one {c : Expr} {g : Env → R Bool} (h : DenT X G c g) : DenTs X G [c] g := ⟨pts_one h.can⟩
end

/-! ### the slots of a block -/
def wipeE (ρ : Env) : List Nat → Env
  | [] => ρ
  | v :: vs => (wipeE ρ vs).set v .un
theorem wipe_at (σ : L2.St) (j : Nat) : ∀ vs : List Nat, (wipe σ vs)[j]? = if j ∈ vs then (σ[j]?).map fun _ => none else σ[j]?
  | [] => by simp [wipe]
  | v :: vs => by
    unfold wipe
    by_cases hv : v = j
    · subst hv
      rw [if_pos List.mem_cons_self]
      by_cases hl : v < σ.length
      · rw [List.getElem?_set_self (by rw [wipe_length]; exact hl), List.getElem?_eq_getElem hl]; rfl
      · rw [List.getElem?_eq_none (by simp [wipe_length]; omega), List.getElem?_eq_none (by omega)]; rfl
    · rw [List.getElem?_set_ne hv, wipe_at σ j vs]
      have : (j ∈ v :: vs) ↔ j ∈ vs := by simp [Ne.symm hv]
      by_cases h : j ∈ vs
      · rw [if_pos h, if_pos (this.mpr h)]
      · rw [if_neg h, if_neg (fun q => h (this.mp q))]
theorem wipe_only {σ σ' : L2.St} {vs l : List Nat} (h : OnlyAt l (wipe σ vs) σ') (hl : ∀ j ∈ l, j ∈ vs) : wipe σ' vs = wipe σ vs := by
  refine List.ext_getElem? fun j => ?_
  rw [wipe_at, wipe_at]
  have hlen : σ'.length = σ.length := by rw [h.1, wipe_length]
  by_cases hj : j ∈ vs
  · rw [if_pos hj, if_pos hj]
    by_cases hb : j < σ.length
    · rw [List.getElem?_eq_getElem hb, List.getElem?_eq_getElem (by omega)]; rfl
    · rw [List.getElem?_eq_none (by omega), List.getElem?_eq_none (by omega)]
  · rw [if_neg hj, if_neg hj, h.2 j (fun q => hj (hl j q)), wipe_at, if_neg hj]
theorem Sim.wipe {K : PySem.W.Frag} {T : List (Addr × Str)} {Z0 H0 Z H : Hp} {σ : L2.St} {ρ : Env} (S : Sim K T Z0 H0 Z H σ ρ) : ∀ vs : List Nat, Sim K T Z0 H0 Z H (L2.wipe σ vs) (wipeE ρ vs)
  | [] => S
  | v :: vs => by unfold L2.wipe wipeE; exact (S.wipe vs).forget none v

/-! ### comprehensions -/
def runComp (b : D → Env → R Env) (tt : Env → R Bool) (g : Env → R D) (ρ : Env) : List D → R (List D)
  | [] => .ok []
  | d :: ds => match b d ρ with
    | .ok ρ1 => (match tt ρ1 with
      | .ok true => (match g ρ1 with
        | .ok v => (match runComp b tt g ρ ds with | .ok r => .ok (v :: r) | _ => .no)
        | _ => .no)
      | .ok false => runComp b tt g ρ ds
      | _ => .no)
    | _ => .no
def compE (t : Tg) (vs : List Nat) (gi : Env → R (List D)) (tt : Env → R Bool) (g : Env → R D) : Env → R D := fun ρ => match gi ρ with
  | .ok ds => if ds.length ≤ sizeLine then (match runComp (bindT t) tt g (wipeE ρ vs) ds with | .ok r => .ok (.lst r) | _ => .no) else .no
  | .ex c => .ex c | .no => .no
theorem runComp_len {b : D → Env → R Env} {tt : Env → R Bool} {g : Env → R D} {ρ : Env} : ∀ {ds r : List D}, runComp b tt g ρ ds = .ok r → r.length ≤ ds.length
  | [], _, h => by cases h; exact Nat.le_refl _
  | d :: ds, r, h => by
    unfold runComp at h
    split at h
    · split at h
      · split at h
        · split at h
          · cases h
            rename_i e
            have := runComp_len e
            simp; omega
          · cases h
        · cases h
      · have := runComp_len h
        simp; omega
      · cases h
    · cases h
section
variable {X : Cx} {G : Wh}
/-- within a comprehension nothing raises -/
def Wh.calm (G : Wh) : Wh := { G with E := E0 }
theorem comp_run {J : It} {ds : List D} {t : Tg} {vs : List Nat} {tt : Env → R Bool} {g : Env → R D} {r : List D} {Z0 H0 Z1 H1 : Hp} {σ : L2.St} {ρ : Env} {Q : VK} {Dl : Addr} (w : WalkD X.K G.T J Z1 ds) (S : Sim X.K G.T Z0 H0 Z1 H1 σ ρ)
    (hD : H1 Dl = none) (hl : ds.length ≤ sizeLine) (hv : ∀ j ∈ t.slots, j ∈ vs) (hr : runComp (bindT t) tt g (wipeE ρ vs) ds = .ok r)
    (hQ : ∀ Z' H', Grow G.T Z1 H1 Z' H' → (∃ acc, H' Dl = some (.lst acc) ∧ Reps X.K Z' acc r) → Z' Dl = none → Q (.ref Dl) H') :
    ∃ W : Nat → Nat → Hp → Prop, (∃ m, W 0 m (upd H1 Dl (.lst []))) ∧ ∀ i m H, W i m H →
      (J.stop i H ∧ Q (.ref Dl) H) ∨ (J.go i H ∧ ∃ Nx : Hp → Prop, (∀ H', Nx H' → ∃ m', m' < m ∧ W (i + 1) m' H') ∧ ∀ x H', J.yld i H x H' → gDen X.K G.calm t x (wipe σ vs) H' fun σ2 H2 => wipe σ2 vs = wipe σ vs ∧ tDenT X.K G.calm tt σ2 H2 fun b H3 =>
        if b = true then tDen X.K G.calm .c g σ2 H3 fun y H4 => ∃ acc, H4 Dl = some (.lst acc) ∧ acc.length < sizeLine ∧ Nx (upd H4 Dl (.lst (acc ++ [y]))) else Nx H3) := by
  obtain ⟨Gp, Y, w, wG, wY⟩ := w
  have grow0 : Grow G.T Z1 H1 Z1 (upd H1 Dl (.lst [])) := grow_new S.sub S.nt hD
  refine lc_it w (fun i H => ∃ Z acc done rest, Grow G.T Z1 H1 Z H ∧ Tabs G.T H ∧ H Dl = some (.lst acc) ∧ Z Dl = none ∧ Reps X.K Z acc done ∧ done.length ≤ i ∧ runComp (bindT t) tt g (wipeE ρ vs) (ds.drop i) = .ok rest ∧ done ++ rest = r)
    ⟨Z1, [], [], r, grow0, grow0.t S.tabs, upd_same, sub_none S.sub hD, .nil, Nat.le_refl _, by rw [List.drop_zero]; exact hr, rfl⟩
    (fun i H hi ⟨Z, acc, dn, rest, g1, _⟩ => wG H (g1.z.trans g1.s)) (fun i x H H' hi ⟨Z, acc, dn, rest, g1, tb, ha, hz, hr, hdn, hc, hrr⟩ y => ?_) (fun H ⟨Z, acc, dn, rest, g1, tb, ha, hz, hrp, hdn, hc, hrr⟩ => ?_)
  · obtain ⟨Z2, d, g2, hd, rx⟩ := wY i Z H x H' hi g1.z g1.s g1.n y
    have hdrop : ds.drop i = d :: ds.drop (i + 1) := by
      obtain ⟨h1, h2⟩ := List.getElem?_eq_some_iff.mp hd
      rw [List.drop_eq_getElem_cons h1, h2]
    rw [hdrop] at hc
    have S2 : Sim X.K G.T Z0 H0 Z2 H' (wipe σ vs) (wipeE ρ vs) := (S.grow (g1.trans g2)).wipe vs
    have hc' : (match bindT t d (wipeE ρ vs) with
      | .ok ρ1 => (match tt ρ1 with
        | .ok true => (match g ρ1 with
          | .ok v => (match runComp (bindT t) tt g (wipeE ρ vs) (ds.drop (i + 1)) with | .ok r => R.ok (v :: r) | _ => .no)
          | _ => .no)
        | .ok false => runComp (bindT t) tt g (wipeE ρ vs) (ds.drop (i + 1))
        | _ => .no)
      | _ => .no) = .ok rest := hc
    cases e : bindT t d (wipeE ρ vs) with
    | ex c => rw [e] at hc'; cases hc'
    | no => rw [e] at hc'; cases hc'
    | ok ρ1 =>
      rw [e] at hc'
      dsimp only at hc'
      have hD2 : H' Dl = some (.lst acc) := g2.h _ _ ha (nt_lst _)
      have hz2 : Z2 Dl = none := g2.p _ hz (pr_lst ha)
      refine ⟨Z0, H0, Z2, wipeE ρ vs, ρ1, d, S2, rx, e, fun σ2 o2 S3 => ⟨wipe_only o2 hv, Z0, H0, Z2, ρ1, S3, ?_⟩⟩
      cases e2 : tt ρ1 with
      | ex c => rw [e2] at hc'; cases hc'
      | no => rw [e2] at hc'; cases hc'
      | ok b =>
        rw [e2] at hc'
        intro Z3 H3 g3
        have hD3 : H3 Dl = some (.lst acc) := g3.h _ _ hD2 (nt_lst _)
        have hz3 : Z3 Dl = none := g3.p _ hz2 (pr_lst hD2)
        cases b with
        | false =>
          rw [if_neg Bool.false_ne_true]
          exact ⟨Z3, acc, dn, rest, (g1.trans g2).trans g3, g3.t (g2.t tb), hD3, hz3, Reps.le (g2.z.trans g3.z).le _ _ hr, Nat.le_succ_of_le hdn, hc', hrr⟩
        | true =>
          rw [if_pos rfl]
          dsimp only at hc'
          refine ⟨Z0, H0, Z3, ρ1, S3.grow g3, ?_⟩
          cases e3 : g ρ1 with
          | ex c => rw [e3] at hc'; cases hc'
          | no => rw [e3] at hc'; cases hc'
          | ok v =>
            rw [e3] at hc'
            dsimp only at hc'
            intro y Z4 H4 g4 fy
            have hD4 : H4 Dl = some (.lst acc) := g4.h _ _ hD3 (nt_lst _)
            have hz4 : Z4 Dl = none := g4.p _ hz3 (pr_lst hD3)
            have gA := ((g1.trans g2).trans g3).trans g4
            have tb4 := g4.t (g3.t (g2.t tb))
            cases e4 : runComp (bindT t) tt g (wipeE ρ vs) (ds.drop (i + 1)) with
            | ex c => rw [e4] at hc'; cases hc'
            | no => rw [e4] at hc'; cases hc'
            | ok r' =>
              rw [e4] at hc'
              cases hc'
              have hra : Reps X.K Z4 acc dn := Reps.le ((g2.z.trans g3.z).trans g4.z).le _ _ hr
              have hla := hra.length
              refine ⟨acc, hD4, by omega, Z4, acc ++ [y], dn ++ [v], r', ⟨gA.z, fun b u e nt => ?_, fun b u e => ?_, gA.n, gA.p, fun _ => tabs_write hD4 (nt_lst _) (fun f q => by cases q) tb4⟩,
                tabs_write hD4 (nt_lst _) (fun f q => by cases q) tb4, upd_same, hz4, hra.append (.cons fy .nil), by simp; omega, rfl, by rw [← hrr]; simp⟩
              · have hb : b ≠ Dl := fun q => by rw [q, hD] at e; cases e
                rw [upd_ne hb]; exact gA.h b u e nt
              · have hb : b ≠ Dl := fun q => by rw [q, hz4] at e; cases e
                rw [upd_ne hb]; exact gA.s b u e
  · rw [List.drop_length] at hc
    cases hc
    rw [List.append_nil] at hrr
    subst hrr
    exact hQ Z H g1 ⟨acc, ha, hrp⟩ hz
theorem comp_ans {wi : TI} {t : Tg} {vs : List Nat} {gi : Env → R (List D)} {tt : Env → R Bool} {g : Env → R D} (hv : ∀ j ∈ t.slots, j ∈ vs)
    (qi : ∀ Z0 H0 Z H σ ρ Rk, Sim X.K G.T Z0 H0 Z H σ ρ → (match gi ρ with
    | .ok ds => ∀ J Z1 H1, Grow G.T Z H Z1 H1 → WalkD X.K G.T J Z1 ds → Rk J H1
    | .ex c => ∀ Z' H', Grow G.T Z H Z' H' → G.E (.ref (G.cl c)) none H'
    | .no => False) → wi σ H Rk)
    {Z0 H0 Z H : Hp} {σ : L2.St} {ρ : Env} {Q : VK} (S : Sim X.K G.T Z0 H0 Z H σ ρ) (h : Ans X.K G .f (compE t vs gi tt g ρ) Z H Q) : tLc wi (gDen X.K G.calm t) (tDenT X.K G.calm tt) (tDen X.K G.calm .c g) vs σ H Q := by
  refine qi Z0 H0 Z H σ ρ _ S ?_
  unfold compE at h
  cases e : gi ρ with
  | ex c => rw [e] at h; exact h
  | no => rw [e] at h; exact h
  | ok ds =>
    rw [e] at h
    intro J Z1 H1 g1 w Dl hD
    dsimp only at h
    split at h
    · rename_i hl
      cases e2 : runComp (bindT t) tt g (wipeE ρ vs) ds with
      | ex c => rw [e2] at h; exact h.elim
      | no => rw [e2] at h; exact h.elim
      | ok r =>
        rw [e2] at h
        refine comp_run w (S.grow g1) hD hl hv e2 fun Z' H' g' ⟨acc, ha, hr⟩ hz => ?_
        exact h _ Z' H' (g1.trans g') ⟨Dl, rfl, .lst ha hr, hz, nprot_ext g1.h (nprot_none hD)⟩
    · exact h.elim
section
variable {elt tg iter : Expr} {ifs : List Expr} {scope : Scope} {own : List (Str × Nat)} {pos : Pos} {t : Tg} {gi : Env → R (List D)} {tt : Env → R Bool} {g : Env → R D}
theorem den_comp (hc : X.calm = true) (hN : X.N.Nodup) (hi : DenI X G tg iter gi) (ok : BlkOk X.N X.env.scope scope own)
    (hg : ∀ (s : Shared) (H : Hp) (C : Addr) (cl : List (Str × Addr)) (fp : List Addr), DenG (X.blk s H scope (compEnvC scope cl C X.env) fp) G.calm tg t) (ht : ∀ (s : Shared) (H : Hp) (C : Addr) (cl : List (Str × Addr)) (fp : List Addr), DenTs (X.blk s H scope (compEnvC scope cl C X.env) fp) G.calm ifs tt)
    (he : ∀ (s : Shared) (H : Hp) (C : Addr) (cl : List (Str × Addr)) (fp : List Addr), Den (X.blk s H scope (compEnvC scope cl C X.env) fp) G.calm .c elt g) (hs : ∀ x, foldedSetIterable iter X.env x = pure x)
    (hv : ∀ j ∈ t.slots, j ∈ own.map (·.2)) : Den X G .f (.ListComp elt [⟨tg, iter, ifs, 0⟩] scope pos) (compE t (own.map (·.2)) gi tt g) := by
  obtain ⟨wi, pi, qi⟩ := hi.ex
  exact ⟨_, pe_lc (g := gDen X.K G.calm t) (tt := tDenT X.K G.calm tt) (te := tDen X.K G.calm .c g) hc hN pi ok (fun s H C cl fp => (hg s H C cl fp).can) (fun s H C cl fp => (ht s H C cl fp).can) (fun s H C cl fp => (he s H C cl fp).can) hs, fun Z0 H0 Z H σ ρ Q S h => comp_ans hv qi S h⟩
theorem dens_setComp {i : Nat} {y : Str} {py spos : Pos} (hc : X.calm = true) (hN : X.N.Nodup) (hy : X.N[i]? = some y) (hyl : X.env.scope.names.lookup y = some .local)
    (hsw : swapsWith (.ListComp elt [⟨tg, iter, ifs, 0⟩] scope pos) (some (.Name y py)) spos.line X.env = pure true) (hi : DenI X G tg iter gi) (ok : BlkOk X.N X.env.scope scope own)
    (hg : ∀ (s : Shared) (H : Hp) (C : Addr) (cl : List (Str × Addr)) (fp : List Addr), DenG (X.blk s H scope (compEnvC scope cl C X.env) fp) G.calm tg t) (ht : ∀ (s : Shared) (H : Hp) (C : Addr) (cl : List (Str × Addr)) (fp : List Addr), DenTs (X.blk s H scope (compEnvC scope cl C X.env) fp) G.calm ifs tt)
    (he : ∀ (s : Shared) (H : Hp) (C : Addr) (cl : List (Str × Addr)) (fp : List Addr), Den (X.blk s H scope (compEnvC scope cl C X.env) fp) G.calm .c elt g) (hs : ∀ x, foldedSetIterable iter X.env x = pure x)
    (hv : ∀ j ∈ t.slots, j ∈ own.map (·.2)) : DenS X G (.Assign [.Name y py] (.ListComp elt [⟨tg, iter, ifs, 0⟩] scope pos) spos) (ownO i (compE t (own.map (·.2)) gi tt g)) := by
  obtain ⟨wi, pi, qi⟩ := hi.ex
  refine ⟨_, ps_setLc (g := gDen X.K G.calm t) (tt := tDenT X.K G.calm tt) (te := tDen X.K G.calm .c g) hc hN hy hyl hsw pi ok (fun s H C cl fp => (hg s H C cl fp).can) (fun s H C cl fp => (ht s H C cl fp).can) (fun s H C cl fp => (he s H C cl fp).can) hs, fun Z0 H0 Z H σ ρ D S h => ?_⟩
  show tLc wi _ _ _ _ σ H _
  refine comp_ans (G := G) hv qi S ?_
  unfold ownO at h
  cases e : compE t (own.map (·.2)) gi tt g ρ with
  | ex c => rw [e] at h; exact post_ex S h
  | no => rw [e] at h; exact h
  | ok d =>
    rw [e] at h
    intro v Z' H' g' f
    obtain ⟨a, rfl, ta, hz, np⟩ := f
    have h' : PostS X.K G (match slOf d with | some sl => .nx (ρ.set i sl) | none => .no) Z0 H0 D := h
    cases e2 : slOf d with
    | none => rw [e2] at h'; exact h'.elim
    | some sl =>
      rw [e2] at h'
      exact h' Z' H' _ ((S.grow g').setOwn (top_own ta hz e2) (nprot_ext S.g.h np) i fun j sl' _ h1 h2 => S.apart np j sl' h1 h2)
end

/-! ### calls of defs -/
/-- a def's promise: its answer on data -/
def spD (K : PySem.W.Frag) (T : List (Addr × Str)) (cl : Str → Addr) (n : Nat) (F : List D → R D) : Sp := fun vs H Q E => ∃ Z ds, Sub Z H ∧ (∀ a o, Z a = some o → NoTb o) ∧ Tabs T H ∧ Reps K Z vs ds ∧ ds.length = n ∧
  match F ds with
  | .ok d => ∀ v Z' H', Grow T Z H Z' H' → Tabs T H' → Rep K Z' v d → Q v H'
  | .ex c => ∀ Z' H', Grow T Z H Z' H' → Tabs T H' → E (.ref (cl c)) none H'
  | .no => False
theorem den_call {x : Str} {f : Addr} {fd : FuncData} {ps : List Str} {k : Nat} {F : List D → R D} {p pos : Pos} {e : Expr} {es : List Expr} {ga : Env → R (List D)} {CX : CXT}
    (Fn : FnOk X.prog X.w X.K X.mg X.base CX k f fd ps (spD X.K G.T G.cl ps.length F)) (hr : Room k X.A) (hg : Gl X x) (hm : X.mg x = some (.ref f)) (hk : PySem.W.keepIn X.K (.ref f) = true) (hb : Binds X.K fd ps []) (hx : Passes CX X G.E)
    (ha : DenA X G .c (e :: es) ga) (hl : es.length + 1 = ps.length) (hdb : (x == ("__debug__" : Str)) = false) (he : starEach (e :: es) X.env = (false, eval e X.env) :: starEach es X.env) (hpl : (backTo pos (starEach es X.env)).any (·.1) = false)
    (hn : ∀ ρ ds, ga ρ = .ok ds → ds.length = ps.length) :
    Den X G .c (.Call (.Name x p) (e :: es) [] pos) (geA F ga) := by
  obtain ⟨t, pt, q⟩ := ha.ex
  refine ⟨_, pe_call Fn hr hg hm hk hb .nil hx pt hdb he hpl, fun Z0 H0 Z H σ ρ Q S h => ?_⟩
  refine q Z0 H0 Z H σ ρ _ S ?_
  unfold geA at h
  cases ea : ga ρ with
  | no => rw [ea] at h; exact h
  | ex c => rw [ea] at h; exact h
  | ok ds =>
    rw [ea] at h
    intro vs Z1 H1 g1 f1
    show spD X.K G.T G.cl ps.length F (vs ++ []) H1 Q G.E
    rw [List.append_nil]
    refine ⟨Z1, ds, g1.s, g1.n, g1.t S.tabs, f1.reps, hn ρ ds ea, ?_⟩
    have h' : Ans X.K G .c (F ds) Z H Q := h
    cases e2 : F ds with
    | ok d => rw [e2] at h'; exact fun v Z' H' g' _ r => h' v Z' H' (g1.trans g') r
    | ex c => rw [e2] at h'; exact fun Z' H' g' _ => h' Z' H' (g1.trans g')
    | no => rw [e2] at h'; exact h'
/-- the slots at a def's entry -/
def startE (n : Nat) (ds : List D) : Env := ds.map .im ++ List.replicate (n - ds.length) .un
def runDef (n : Nat) (f : Env → Out) (ds : List D) : R D := match f (startE n ds) with
  | .nx _ => .ok .non | .rt d => .ok d | .ex c => .ex c | _ => .no
theorem sim_start {K : PySem.W.Frag} {T : List (Addr × Str)} {Z H : Hp} {N : List Str} {vs : List V} {ds : List D} (s : Sub Z H) (nt : ∀ a o, Z a = some o → NoTb o) (tb : Tabs T H) (r : Reps K Z vs ds) (hn : vs.length ≤ N.length) :
    Sim K T Z H Z H (L2.start N vs) (startE N.length ds) := by
  have hl := r.length
  have own0 : ∀ (i : Nat) (sl : Sl), (startE N.length ds)[i]? = some sl → isOwn sl = false := fun i sl h => by
    unfold startE at h
    rcases List.mem_append.mp (List.mem_of_getElem? h) with h | h
    · obtain ⟨d, _, rfl⟩ := List.mem_map.mp h; rfl
    · rw [(List.mem_replicate.mp h).2]; rfl
  refine ⟨.refl s nt, tb, by unfold L2.start startE; simp [hl], fun i o sl h1 h2 => ?_, fun i a sl h1 h2 h3 => ?_, fun i j a sl sl' _ _ _ h4 _ h6 _ => ?_⟩
  · unfold L2.start at h1
    unfold startE at h2
    by_cases hi : i < ds.length
    · rw [List.getElem?_append_left (by simpa using hi), List.getElem?_map] at h2
      rw [List.getElem?_append_left (by simp [hl]; exact hi), List.getElem?_map] at h1
      cases e : ds[i]? with
      | none => rw [e] at h2; cases h2
      | some d =>
        rw [e] at h2; cases h2
        obtain ⟨v, e1, e2⟩ := r.get e
        rw [e1] at h1; cases h1
        exact .im e2
    · rw [List.getElem?_append_right (by simp; omega)] at h2
      rw [(List.mem_replicate.mp (List.mem_of_getElem? h2)).2]
      exact .un
  · rw [own0 i sl h2] at h3; cases h3
  · rw [own0 i sl h4] at h6; cases h6
end
section
variable {P : Program} {w : World} {K : PySem.W.Frag} {mg : Str → Option Value} {base : Heap}
/-- THE RULE for a def: its body tells f -/
theorem def_ok {x qual : Str} {st : Stmt} {f : Addr} {fd : FuncData} {N ps : List Str} {k : Nat} {T : List (Addr × Str)} {cl : Str → Addr} {fb : Env → Out} (F : Fun K x qual st f fd) (S : FnScope N ps (defScope st)) (hps : ps.length ≤ N.length)
    (hb : ∀ (cdv : Value) (A : Around) (outer : List PySem.Env) (s : Shared) (H : Hp) (E : XK), Room k (A.deeper (envOfC qual (defScope st) s.heap.objs.size f cdv)) →
      DenB (cxOf (L2.CX P w) P w K mg base N qual (defScope st) f cdv A outer s H E) ⟨T, cl, E⟩ (defBody st) fb) :
    FnOk P w K mg base (L2.CX P w) (k + 1) f fd ps (spD K T cl ps.length (runDef N.length fb)) := by
  refine F.okX S (fun vs H Q E h => ?_) (fun cdv A outer s H vs Q E hr h => ?_)
  · obtain ⟨Z, ds, _, _, _, r, hl, _⟩ := h
    rw [r.length, hl]
  · obtain ⟨Z, ds, hs, hn, ht, r, hl, h⟩ := h
    obtain ⟨t, p, q⟩ := (hb cdv A outer s H E hr).ex
    refine ⟨t, p, q Z H Z H _ (startE N.length ds) _ (sim_start hs hn ht r (by rw [r.length, hl]; exact hps)) ?_⟩
    unfold runDef at h
    cases e : fb (startE N.length ds) with
    | nx ρ => rw [e] at h; exact fun Z' H' σ' S' => h _ Z' H' S'.g S'.tabs .non
    | rt d => rw [e] at h; exact fun v Z' H' g t r => h v Z' H' g t r
    | ex c => rw [e] at h; exact fun Z' H' g t => h Z' H' g t
    | bk ρ => rw [e] at h; exact h.elim
    | ct ρ => rw [e] at h; exact h.elim
    | no => rw [e] at h; exact h.elim
end
end VS

set_option Elab.async false
set_option linter.all false
set_option maxRecDepth 100000
set_option maxHeartbeats 2000000
/-! VS10: own lists and dicts written; dicts walked under a lock. -/
namespace VS
open PySem L2 LamX
open PySem.AutoSeq1 in
theorem list_extend_tup (l : Addr) (items : Array Value) (n : Nat) (b : Addr) (items2 : Array Value) (n2 : Nat) (dd : Option Addr) (sl : Array (Option Value)) (hs0 : ¬(!items.isEmpty && Builtin.List.listTooLong (items.size + items2.size)) = true) (hs1 : items.size ≤ sizeLine) (hs2 : items.size + items2.size ≤ sizeLine + 1) :
    Meets (Builtin.«list.extend» ⟨[.ref l, .ref b], []⟩) (fun _ R s => s.heap.get? l = some { cls := .type "list", dict := none, data := .seq items n, slots := #[] } ∧ s.heap.get? b = some { cls := .type "tuple", dict := dd, data := .seq items2 n2, slots := sl } ∧ R (.ok (.ret Value.none)) { s with heap := s.heap.update l (Obj.mapSeq fun x => x ++ items2), toks := s.toks }) :=
  .of_wp fun prog w A R s h => by
    obtain ⟨hp, g, d, tk, os⟩ := s; obtain ⟨hl, hb, h⟩ := h; have f1 := idx_int; have f2 := sub_tuple_tuple; have f3 := sub_list_list; have f4 := sub_tuple_list; have f5 := sub_list_tuple;
    have hz' : (items ++ items2).size ≤ sizeLine + 1 := by rw [Array.size_append]; exact hs2
    wp_walk using (wpAny_updateSeq hl rfl (hz := hs1) (_hz' := hz')), wpAny_loadPart' hl, wpAny_loadPart' hb; exact ⟨_, rfl, h⟩
section
variable {X : Cx} {G : Wh}

/-! ### own lists -/
def appO (i : Nat) (g : Env → R D) : Env → Out := fun ρ => match ρ[i]? with
  | some (.ow ds) => ofR (g ρ) fun d => if ds.length < sizeLine then .nx (ρ.set i (.ow (ds ++ [d]))) else .no
  | _ => .no
theorem tyL {H : Hp} {a : Addr} {vs : List V} (h : H a = some (.lst vs)) : tyV X.K "list" (.ref a) H := Or.inl ⟨rfl, _, SqL.of h⟩
theorem own_list {Z0 H0 Z H : Hp} {σ : L2.St} {ρ : Env} (S : Sim X.K G.T Z0 H0 Z H σ ρ) {i : Nat} {ds : List D} (h : ρ[i]? = some (.ow ds)) : ∃ a vs, σ[i]? = some (some (.ref a)) ∧ H a = some (.lst vs) ∧ Z a = none ∧ Reps X.K Z vs ds := by
  obtain ⟨a, h1, h2, _⟩ := S.own h rfl
  cases h2 with | ow h3 h4 h5 => exact ⟨a, _, h1, h3, h4, h5⟩
theorem own_dK {Z0 H0 Z H : Hp} {σ : L2.St} {ρ : Env} (S : Sim X.K G.T Z0 H0 Z H σ ρ) {i : Nat} {ds : List (Key × D)} (h : ρ[i]? = some (.oK ds)) : ∃ a vs, σ[i]? = some (some (.ref a)) ∧ H a = some (.dK vs) ∧ Z a = none ∧ RepsP X.K Z vs ds := by
  obtain ⟨a, h1, h2, _⟩ := S.own h rfl
  cases h2 with | oK h3 h4 h5 => exact ⟨a, _, h1, h3, h4, h5⟩
theorem own_dT {Z0 H0 Z H : Hp} {σ : L2.St} {ρ : Env} (S : Sim X.K G.T Z0 H0 Z H σ ρ) {i : Nat} {ds : List (List Key × D)} (h : ρ[i]? = some (.oT ds)) : ∃ a vs, σ[i]? = some (some (.ref a)) ∧ H a = some (.dT vs) ∧ Z a = none ∧ RepsQ X.K Z vs ds := by
  obtain ⟨a, h1, h2, _⟩ := S.own h rfl
  cases h2 with | oT h3 h4 h5 => exact ⟨a, _, h1, h3, h4, h5⟩
theorem prot_nn {K : PySem.W.Frag} {T : List (Addr × Str)} {Z H Z' H' : Hp} (g : Grow T Z H Z' H') {a : Addr} (p : Prot H a) (h : Z a = none) : Z' a = none := g.p a h p
section
variable {x : Str} {e : Expr} {g : Env → R D} {i : Nat} {p1 apos cpos pos : Pos}
theorem dens_app (hN : X.N[i]? = some x) (hv : Vis X.env.scope x) (hd : (x == ("__debug__" : Str)) = false) (hcd : (x == ("__classdict__" : Str)) = false) (he : Den X G .c e g)
    (hbase : attributeBase (.Name x p1) "append" X.env (eval (.Name x p1) X.env) = eval (.Name x p1) X.env)
    (hfew : ((backTo cpos (starEach [e] X.env)).all (fun x => !x.1) && (backToKw cpos (keywordEach [] X.env)).all (fun x => x.1.isSome)
      && decide (([e] : List Expr).length + ([] : List Keyword).length + (if ([] : List Keyword).isEmpty then 0 else 1) < 30)) = true)
    (hline : (apos.endLine == cpos.line) = true) (hs : starEach [e] X.env = (false, eval e X.env) :: starEach [] X.env) (hplain : (backTo cpos (starEach [] X.env)).any (·.1) = false) :
    DenS X G (.Expr (.Call (.Attribute (.Name x p1) "append" apos) [e] [] cpos) pos) (appO i g) := by
  obtain ⟨t, p, q⟩ := he.ex
  refine ⟨_, ps_expr (pe_bm PySem.F.plainAttrs_list PySem.F.slot_list_append PySem.F.type_list_append mt_append (pe_var hN hv hd hcd) (pa_cons p pa_nil hs) hbase hfew hline hs hplain) rfl, fun Z0 H0 Z H σ ρ D S h => ?_⟩
  unfold appO at h
  split at h
  · rename_i ds ei
    obtain ⟨a, vs, e1, e2, e3, e4⟩ := own_list S ei
    refine ⟨.ref a, e1, tyL e2, ?_⟩
    refine ans_bind (e := e) q S h fun d _ h1 v Z1 H1 g1 f1 => ?_
    have S1 := S.grow g1
    have h3 : H1 a = some (.lst vs) := g1.h _ _ e2 (nt_lst _)
    have z3 : Z1 a = none := g1.p _ e3 (pr_lst e2)
    split at h1
    · rename_i hl
      have hlen := e4.length
      refine ⟨a, vs, v, rfl, rfl, h3, by omega, ?_⟩
      exact h1 Z1 _ σ (S1.write ei rfl e1 (.ow upd_same z3 ((Reps.le g1.z.le _ _ e4).append (.cons f1 .nil))))
    · exact h1.elim
  · exact h.elim
def extO (i : Nat) (g : Env → R D) : Env → Out := fun ρ => match ρ[i]? with
  | some (.ow ds) => ofR (g ρ) fun d => match itemsD d with
    | some es => if ds.length + es.length ≤ sizeLine then .nx (ρ.set i (.ow (ds ++ es))) else .no
    | none => .no
  | _ => .no
def rExtA (K : PySem.W.Frag) : V → List V → Hp → VK → Prop := fun x vs H Q => ∃ l b xs zs, x = .ref l ∧ vs = [.ref b] ∧ H l = some (.lst xs) ∧ (H b = some (.lst zs) ∨ SqT K H b zs) ∧ xs.length + zs.length ≤ sizeLine ∧ Q .non (upd H l (.lst (xs ++ zs)))
theorem mt_extA : MtR X "list.extend" (rExtA X.K) := by
  intro pins s σ H x vs v us Q I rx rv h
  obtain ⟨l, b, xs, zs, rfl, rfl, hH, hB, hz, q⟩ := h
  rcases hB with hB | hB
  · exact mt_extend pins s σ H _ _ v us Q I rx rv ⟨l, b, xs, zs, rfl, rfl, hH, hB, hz, q⟩
  cases rx
  obtain ⟨u, rfl, ru⟩ := rv.one
  cases ru
  obtain ⟨z, its, n, r, hl, e⟩ := I.lstM hH
  obtain ⟨its2, r2, ⟨o2, ho2, hc2, n2, hd2⟩, hz2⟩ := I.tuple hB
  have hl2 := r2.length
  have hsz : its.toArray.size + its2.toArray.size ≤ sizeLine := by rw [List.size_toArray, List.size_toArray]; omega
  have hlong : ¬ (!its.toArray.isEmpty && Builtin.List.listTooLong (its.toArray.size + its2.toArray.size)) = true := by
    rw [notLongL hsz, Bool.and_false]
    exact Bool.false_ne_true
  obtain ⟨oc, od, dt, sl⟩ := o2
  simp only at hc2 hd2
  subst hc2 hd2
  refine call_meets PySem.F.slot_list_extend ⟨_, e, rfl⟩ PySem.F.entry_list_extend (PySem.F.args_list_extend_2 _ _)
    (list_extend_tup l its.toArray n b its2.toArray n2 od sl hlong (by rw [List.size_toArray]; omega) (by omega)) ⟨e, ho2, ?_⟩
  refine ⟨.non, _, I.lset (its' := its ++ its2) hH e (by simp) (r.append r2) ?_, rfl, q⟩
  rw [List.length_append]
  omega
theorem dens_ext {m1 : Md} (hN : X.N[i]? = some x) (hv : Vis X.env.scope x) (hd : (x == ("__debug__" : Str)) = false) (hcd : (x == ("__classdict__" : Str)) = false) (he : Den X G m1 e g)
    (hbase : attributeBase (.Name x p1) "extend" X.env (eval (.Name x p1) X.env) = eval (.Name x p1) X.env)
    (hfew : ((backTo cpos (starEach [e] X.env)).all (fun x => !x.1) && (backToKw cpos (keywordEach [] X.env)).all (fun x => x.1.isSome)
      && decide (([e] : List Expr).length + ([] : List Keyword).length + (if ([] : List Keyword).isEmpty then 0 else 1) < 30)) = true)
    (hline : (apos.endLine == cpos.line) = true) (hs : starEach [e] X.env = (false, eval e X.env) :: starEach [] X.env) (hplain : (backTo cpos (starEach [] X.env)).any (·.1) = false) :
    DenS X G (.Expr (.Call (.Attribute (.Name x p1) "extend" apos) [e] [] cpos) pos) (extO i g) := by
  obtain ⟨t, p, q⟩ := he.ex
  refine ⟨_, ps_expr (pe_bm PySem.F.plainAttrs_list PySem.F.slot_list_extend PySem.F.type_list_extend mt_extA (pe_var hN hv hd hcd) (pa_cons p pa_nil hs) hbase hfew hline hs hplain) rfl, fun Z0 H0 Z H σ ρ D S h => ?_⟩
  unfold extO at h
  split at h
  · rename_i ds ei
    obtain ⟨a, vs, e1, e2, e3, e4⟩ := own_list S ei
    refine ⟨.ref a, e1, tyL e2, ?_⟩
    refine ans_bind (e := e) q S h fun d _ h1 v Z1 H1 g1 f1 => ?_
    have S1 := S.grow g1
    have h3 : H1 a = some (.lst vs) := g1.h _ _ e2 (nt_lst _)
    have z3 : Z1 a = none := g1.p _ e3 (pr_lst e2)
    have h1' : PostS X.K G (match itemsD d with
      | some es => if ds.length + es.length ≤ sizeLine then .nx (ρ.set i (.ow (ds ++ es))) else .no
      | none => .no) Z0 H0 D := h1
    split at h1'
    · rename_i es ee
      split at h1'
      · rename_i hl
        have hlen := e4.length
        have fin : ∀ b us, v = .ref b → (H1 b = some (.lst us) ∨ SqT X.K H1 b us) → Reps X.K Z1 us es → rExtA X.K (.ref a) [v] H1 (fun _ H2 => D.nx σ H2) := fun b us ev hb r => by
          have hl2 := r.length
          subst ev
          exact ⟨a, b, vs, us, rfl, rfl, h3, hb, by omega, h1' Z1 _ σ (S1.write ei rfl e1 (.ow upd_same z3 ((Reps.le g1.z.le _ _ e4).append r)))⟩
        have fn := f1.now (Hx := H1)
        cases d with
        | lst es' => cases ee; obtain ⟨b, us, rfl, q1, q2⟩ := now_lst g1.s fn; exact fin b us rfl (.inl q1) q2
        | tup es' => cases ee; obtain ⟨b, us, rfl, _, q1, q2⟩ := now_tup g1.s fn; exact fin b us rfl (.inr (SqT.of q1)) q2
        | non => cases ee
        | bl _ => cases ee
        | int _ => cases ee
        | str _ => cases ee
        | dK _ => cases ee
        | dT _ => cases ee
        | scr _ => cases ee
      · exact h1'.elim
    · exact h1'.elim
  · exact h.elim
/-- y = xs.pop(); xs.pop() -/
def popO (i : Nat) (j : Option Nat) : Env → Out := fun ρ => match ρ[i]? with
  | some (.ow ds) => (match ds[ds.length - 1]? with
    | some d => (match j with | some j => if i = j then .no else .nx ((ρ.set i (.ow ds.dropLast)).set j (.im d)) | none => .nx (ρ.set i (.ow ds.dropLast)))
    | none => .no)
  | _ => .no
theorem pop_run {Z0 H0 Z H : Hp} {σ : L2.St} {ρ : Env} (S : Sim X.K G.T Z0 H0 Z H σ ρ) {ds : List D} {d : D} (ei : ρ[i]? = some (.ow ds)) (ed : ds[ds.length - 1]? = some d) :
    ∃ a vs v, σ[i]? = some (some (.ref a)) ∧ H a = some (.lst vs) ∧ vs[vs.length - 1]? = some v ∧ Rep X.K Z v d ∧ Sim X.K G.T Z0 H0 Z (upd H a (.lst vs.dropLast)) σ (ρ.set i (.ow ds.dropLast)) := by
  obtain ⟨a, vs, e1, e2, e3, e4⟩ := own_list S ei
  obtain ⟨v, e5, e6⟩ := e4.get ed
  exact ⟨a, vs, v, e1, e2, by rw [e4.length]; exact e5, e6, S.write ei rfl e1 (.ow upd_same e3 e4.dropLast)⟩
theorem dens_popE (hN : X.N[i]? = some x) (hv : Vis X.env.scope x) (hd : (x == ("__debug__" : Str)) = false) (hcd : (x == ("__classdict__" : Str)) = false)
    (hbase : attributeBase (.Name x p1) "pop" X.env (eval (.Name x p1) X.env) = eval (.Name x p1) X.env) (hline : (apos.endLine == cpos.line) = true) :
    DenS X G (.Expr (.Call (.Attribute (.Name x p1) "pop" apos) [] [] cpos) pos) (popO i none) := by
  refine ⟨_, ps_expr (pe_bm0 PySem.F.plainAttrs_list PySem.F.slot_list_pop PySem.F.type_list_pop mt_pop (pe_var hN hv hd hcd) hbase hline) rfl, fun Z0 H0 Z H σ ρ D S h => ?_⟩
  unfold popO at h
  split at h
  · rename_i ds ei
    split at h
    · rename_i d ed
      obtain ⟨a, vs, v, e1, e2, e3, e4, S'⟩ := pop_run S ei ed
      exact ⟨.ref a, e1, tyL e2, a, vs, v, rfl, rfl, e2, e3, h Z _ σ S'⟩
    · exact h.elim
  · exact h.elim
theorem dens_popA {j : Nat} {y : Str} {py : Pos} (hN : X.N[i]? = some x) (hv : Vis X.env.scope x) (hd : (x == ("__debug__" : Str)) = false) (hcd : (x == ("__classdict__" : Str)) = false)
    (hbase : attributeBase (.Name x p1) "pop" X.env (eval (.Name x p1) X.env) = eval (.Name x p1) X.env) (hline : (apos.endLine == cpos.line) = true)
    (hnd : X.N.Nodup) (hj : X.N[j]? = some y) (hy : Loc X.env.scope y) (hf : X.fn y = true ∨ X.env.scope.names.lookup y = some .local) :
    DenS X G (.Assign [.Name y py] (.Call (.Attribute (.Name x p1) "pop" apos) [] [] cpos) pos) (popO i (some j)) := by
  refine ⟨_, ps_set hnd hj hy (pe_bm0 PySem.F.plainAttrs_list PySem.F.slot_list_pop PySem.F.type_list_pop mt_pop (pe_var hN hv hd hcd) hbase hline) rfl hf, fun Z0 H0 Z H σ ρ D S h => ?_⟩
  unfold popO at h
  split at h
  · rename_i ds ei
    split at h
    · rename_i d ed
      obtain ⟨a, vs, v, e1, e2, e3, e4, S'⟩ := pop_run S ei ed
      dsimp only at h
      split at h
      · exact h.elim
      · exact ⟨.ref a, e1, tyL e2, a, vs, v, rfl, rfl, e2, e3, h Z _ _ (S'.set e4 j)⟩
    · exact h.elim
  · exact h.elim
/-- xs[k] = e -/
def setO (i : Nat) (g gk : Env → R D) : Env → Out := fun ρ => ofR (g ρ) fun d => match ρ[i]? with
  | some (.ow ds) => ofR (gk ρ) fun k => match k with
    | .int k => (match ixN ds.length k with | some j => .nx (ρ.set i (.ow (ds.set j d))) | none => .no)
    | _ => .no
  | _ => .no
theorem dens_setL {ix : Expr} {gk : Env → R D} {m2 : Md} {pt : Pos} (hN : X.N[i]? = some x) (hv : Vis X.env.scope x) (hd : (x == ("__debug__" : Str)) = false) (hcd : (x == ("__classdict__" : Str)) = false) (he : Den X G .c e g) (hk : Den X G m2 ix gk)
    (ps : ∀ te to ti, PE X e te → PE X (.Name x p1) to → PE X ix ti → PS X (.Assign [.Subscript (.Name x p1) ix pt] e pos) (tAsg te (gSub to ti rSetL))) :
    DenS X G (.Assign [.Subscript (.Name x p1) ix pt] e pos) (setO i g gk) := by
  obtain ⟨t, p, q⟩ := he.ex
  obtain ⟨tk, pk, qk⟩ := hk.ex
  refine ⟨_, ps _ _ _ p (pe_var hN hv hd hcd) pk, fun Z0 H0 Z H σ ρ D S h => ?_⟩
  refine ans_bind (e := e) q S h fun d _ h1 v Z1 H1 g1 f1 => ?_
  have S1 := S.grow g1
  have h1' : PostS X.K G (match ρ[i]? with
    | some (.ow ds) => ofR (gk ρ) fun k => match k with
      | .int k => (match ixN ds.length k with | some j => .nx (ρ.set i (.ow (ds.set j d))) | none => .no)
      | _ => .no
    | _ => .no) Z0 H0 D := h1
  split at h1'
  · rename_i ds ei
    obtain ⟨a, vs, e1, e2, e3, e4⟩ := own_list S1 ei
    refine ⟨.ref a, e1, ?_⟩
    refine ans_bind (e := ix) qk S1 h1' fun k _ h2 w Z2 H2 g2 f2 => ?_
    have S2 := S1.grow g2
    have h3 : H2 a = some (.lst vs) := g2.h _ _ e2 (nt_lst _)
    have z3 : Z2 a = none := g2.p _ e3 (pr_lst e2)
    cases k with
    | int k =>
      have h2' : PostS X.K G (match ixN ds.length k with | some j => .nx (ρ.set i (.ow (ds.set j d))) | none => .no) Z0 H0 D := h2
      split at h2'
      · rename_i j ej
        refine ⟨a, vs, k, j, rfl, now_int (f2.now (Hx := H1)), h3, by rw [e4.length]; exact ej, ?_⟩
        exact h2' Z2 _ σ (S2.write ei rfl e1 (.ow upd_same z3 ((Reps.le g2.z.le _ _ e4).set j (Rep.le g2.z.le _ _ f1))))
      · exact h2'.elim
    | non => exact (show False from h2).elim
    | bl _ => exact (show False from h2).elim
    | str _ => exact (show False from h2).elim
    | tup _ => exact (show False from h2).elim
    | lst _ => exact (show False from h2).elim
    | dK _ => exact (show False from h2).elim
    | dT _ => exact (show False from h2).elim
    | scr _ => exact (show False from h2).elim
  · exact h1'.elim
/-- d[k] = e -/
def putS (sl : Sl) (k d : D) : Option Sl := match sl with
  | .oK kvs => (keyD k).bind fun k => if kvs.length < sizeLine then some (.oK (pk kvs k d)) else none
  | .bK a kvs => (keyD k).bind fun k => if kvs.length < sizeLine then some (.bK a (pk kvs k d)) else none
  | .oT kvs => (match k with | .tup ks => (keysD ks).bind fun k => if kvs.length < sizeLine then some (.oT (pk kvs k d)) else none | _ => none)
  | _ => none
def putO (i : Nat) (g gk : Env → R D) : Env → Out := fun ρ => ofR (g ρ) fun d => match ρ[i]? with
  | some sl => if isOwn sl then ofR (gk ρ) fun k => match putS sl k d with | some sl' => .nx (ρ.set i sl') | none => .no else .no
  | _ => .no
theorem dens_put {ix : Expr} {gk : Env → R D} {m2 : Md} {pt : Pos} (hu : X.A.units + 1 < cLine) (hN : X.N[i]? = some x) (hv : Vis X.env.scope x) (hd : (x == ("__debug__" : Str)) = false) (hcd : (x == ("__classdict__" : Str)) = false) (he : Den X G .c e g) (hk : Den X G m2 ix gk)
    (hs : swapsWith e (some (.Subscript (.Name x p1) ix pt)) pos.line X.env = pure false) :
    DenS X G (.Assign [.Subscript (.Name x p1) ix pt] e pos) (putO i g gk) := by
  obtain ⟨t, p, q⟩ := he.ex
  obtain ⟨tk, pk', qk⟩ := hk.ex
  refine ⟨_, ps_dput hu (pe_var hN hv hd hcd) pk' p hs, fun Z0 H0 Z H σ ρ D S h => ?_⟩
  refine ans_bind (e := e) q S h fun d _ h1 v Z1 H1 g1 f1 => ?_
  have S1 := S.grow g1
  have h1' : PostS X.K G (match ρ[i]? with
    | some sl => if isOwn sl then ofR (gk ρ) fun k => match putS sl k d with | some sl' => .nx (ρ.set i sl') | none => .no else .no
    | _ => .no) Z0 H0 D := h1
  cases ei : ρ[i]? with
  | none => rw [ei] at h1'; exact h1'.elim
  | some sl =>
    rw [ei] at h1'
    dsimp only at h1'
    split at h1'
    · rename_i ho
      obtain ⟨a, e1, e2, _⟩ := S1.own ei ho
      refine ⟨.ref a, e1, ?_⟩
      refine ans_bind (e := ix) qk S1 h1' fun k _ h2 w Z2 H2 g2 f2 => ?_
      have S2 := S1.grow g2
      have e3 := e2.grow g2
      have h2' : PostS X.K G (match putS sl k d with | some sl' => .nx (ρ.set i sl') | none => .no) Z0 H0 D := h2
      cases ep : putS sl k d with
      | none => rw [ep] at h2'; exact h2'.elim
      | some sl' =>
        rw [ep] at h2'
        unfold putS at ep
        have rk := Now.rep g2.s (f2.now (Hx := H2))
        have rd := Rep.le g2.z.le _ _ f1
        split at ep
        · rename_i kvs
          cases ek : keyD k with
          | none => rw [ek] at ep; cases ep
          | some kk =>
            rw [ek] at ep
            dsimp only [Option.bind] at ep
            split at ep
            · rename_i hl
              cases ep
              cases e3 with
              | @oK vs _ q1 q2 q3 =>
                refine ⟨a, _, rfl, .inl ⟨vs, kk, q1, key_of rk ek, by rw [q3.length]; exact hl, rfl⟩, h2' Z2 _ σ (S2.write ei rfl e1 (.oK upd_same q2 (pk_P q3 kk rd)))⟩
            · cases ep
        · rename_i b kvs
          cases ek : keyD k with
          | none => rw [ek] at ep; cases ep
          | some kk =>
            rw [ek] at ep
            dsimp only [Option.bind] at ep
            split at ep
            · rename_i hl
              cases ep
              cases e3 with
              | bK q1 q2 q3 =>
                refine ⟨a, _, rfl, .inl ⟨_, kk, q1, key_of rk ek, by rw [q3.length]; exact hl, rfl⟩, h2' Z2 _ σ (S2.write ei rfl e1 (.bK upd_same q2 (pk_P q3 kk rd)))⟩
            · cases ep
        · rename_i kvs
          cases k with
          | tup ks =>
            dsimp only at ep
            cases ek : keysD ks with
            | none => rw [ek] at ep; cases ep
            | some kk =>
              rw [ek] at ep
              dsimp only [Option.bind] at ep
              split at ep
              · rename_i hl
                cases ep
                obtain ⟨b, us, rfl, _, hb, rb⟩ := now_tup g2.s (f2.now (Hx := H2))
                cases e3 with
                | @oT vs _ q1 q2 q3 =>
                  refine ⟨a, _, rfl, .inr ⟨vs, kk, b, q1, rfl, by rw [hb, keys_of rb ek], by rw [q3.length]; exact hl, rfl⟩, h2' Z2 _ σ (S2.write ei rfl e1 (.oT upd_same q2 (pk_Q q3 kk rd)))⟩
              · cases ep
          | non => cases ep
          | bl _ => cases ep
          | int _ => cases ep
          | str _ => cases ep
          | lst _ => cases ep
          | dK _ => cases ep
          | dT _ => cases ep
          | scr _ => cases ep
        · cases ep
    · exact h1'.elim
end

/-! ### dicts made -/
theorem den_newK {pos : Pos} : Den X G .f (.Dict [] [] pos) (fun _ => .ok (.dK [])) :=
  ⟨_, pe_dnewK, fun Z0 H0 Z H σ ρ Q S h p hp => h _ Z _ (grow_new S.sub S.nt hp) ⟨p, rfl, .dK upd_same .nil, sub_none S.sub hp, nprot_none hp⟩⟩
theorem den_newT {pos : Pos} : Den X G .f (.Dict [] [] pos) (fun _ => .ok (.dT [])) :=
  ⟨_, pe_dnewT, fun Z0 H0 Z H σ ρ Q S h p hp => h _ Z _ (grow_new S.sub S.nt hp) ⟨p, rfl, .dT upd_same .nil, sub_none S.sub hp, nprot_none hp⟩⟩
end
end VS

set_option Elab.async false
set_option linter.all false
set_option maxRecDepth 100000
set_option maxHeartbeats 2000000
/-! VS11: dicts walked under a lock. -/
namespace VS
open PySem L2 LamX

/-- what a dict's slot holds: the dict at d, of the kind u -/
inductive DctU : HO → Prop
  | K (vs : List (Key × V)) : DctU (.dK vs)
  | T (vs : List (List Key × V)) : DctU (.dT vs)
theorem DctU.plain {u : HO} (h : DctU u) : Plain u := by cases h <;> trivial
theorem DctU.mut {u : HO} (h : DctU u) : Mut (some u) := by cases h <;> trivial
theorem DctU.nt {u : HO} (h : DctU u) : NoTb u := by cases h <;> (intro ps q; cases q)
theorem DctU.ntup {u : HO} (h : DctU u) : ∀ xs, u ≠ .tup xs := by cases h <;> (intro ps q; cases q)
theorem DctU.nlst {u : HO} (h : DctU u) : ∀ xs, u ≠ .lst xs := by cases h <;> (intro ps q; cases q)
theorem DctU.next {u : HO} (h : DctU u) : ∀ f, u ≠ .ext f := by cases h <;> (intro ps q; cases q)
theorem DctU.nfrz {u : HO} (h : DctU u) : ∀ o w, u ≠ .frz o w := by cases h <;> (intro o w q; cases q)
theorem nt_frz (o : Obj) (u : HO) : NoTb (.frz o u) := fun _ q => by cases q
section
variable {K : PySem.W.Frag} {Z Z' : Hp} {d : Addr} {u : HO} {od : Obj}
theorem lock_le (hu : DctU u) (h : Z d = some u) : RdLe Z (upd Z d (.frz od u)) where
  l := fun a vs e => by
    have : a ≠ d := fun q => by subst q; rw [h] at e; exact hu.nlst vs (Option.some.inj e)
    rw [upd_ne this]; exact e
  u := fun a vs e => by
    have : a ≠ d := fun q => by subst q; rw [h] at e; exact hu.ntup vs (Option.some.inj e)
    rw [upd_ne this]; exact e
  r := fun a w pw e => by
    by_cases ha : a = d
    · subst ha
      rcases e with e | ⟨o, e⟩
      · rw [h] at e; cases e; exact .inr ⟨od, upd_same⟩
      · rw [h] at e; exact absurd (Option.some.inj e) (hu.nfrz o w)
    · rcases e with e | ⟨o, e⟩
      · exact .inl (by rw [upd_ne ha]; exact e)
      · exact .inr ⟨o, by rw [upd_ne ha]; exact e⟩
theorem unlock_le (hu : DctU u) (h : Z d = some (.frz od u)) : RdLe Z (upd Z d u) where
  l := fun a vs e => by
    have : a ≠ d := fun q => by subst q; rw [h] at e; cases e
    rw [upd_ne this]; exact e
  u := fun a vs e => by
    have : a ≠ d := fun q => by subst q; rw [h] at e; cases e
    rw [upd_ne this]; exact e
  r := fun a w pw e => by
    by_cases ha : a = d
    · subst ha
      rcases e with e | ⟨o, e⟩
      · rw [h] at e; cases e; exact pw.elim
      · rw [h] at e; cases e; exact .inl upd_same
    · rcases e with e | ⟨o, e⟩
      · exact .inl (by rw [upd_ne ha]; exact e)
      · exact .inr ⟨o, by rw [upd_ne ha]; exact e⟩
end
section
variable {K : PySem.W.Frag} {T : List (Addr × Str)} {Z0 H0 Z H : Hp} {σ : L2.St} {ρ : Env} {d : Addr} {u : HO}
theorem OwnAt.re {Z Z' H H' : Hp} {a : Addr} {sl : Sl} (h : OwnAt K Z H a sl) (le : RdLe Z Z') (hH : H' a = H a) (hZ : Z a = none → Z' a = none) : OwnAt K Z' H' a sl := by
  cases h with
  | ow h1 h2 h3 => exact .ow (hH.trans h1) (hZ h2) (Reps.le le _ _ h3)
  | oK h1 h2 h3 => exact .oK (hH.trans h1) (hZ h2) (RepsP.le le _ _ h3)
  | oT h1 h2 h3 => exact .oT (hH.trans h1) (hZ h2) (RepsQ.le le _ _ h3)
  | bK h1 h2 h3 => exact .bK (hH.trans h1) (hZ h2) (RepsP.le le _ _ h3)
theorem SimSl.re {Z Z' H H' : Hp} {o : Option V} {sl : Sl} (h : SimSl K Z H o sl) (le : RdLe Z Z') (hH : ∀ a, Z a = none → H' a = H a) (hZ : ∀ a, Z a = none → Z' a = none) : SimSl K Z' H' o sl := by
  cases h with
  | un => exact .un
  | im r => exact .im (Rep.le le _ _ r)
  | own q => exact .own (q.re le (hH _ q.prot.2) (hZ _))
open Classical in
/-- the state while d is locked, and the way back -/
theorem Sim.lock (S : Sim K T Z0 H0 Z H σ ρ) (hu : DctU u) (hd : Z d = some u) (od : Obj) :
    ∃ Hb : Hp, Sim K T (upd Z d (.frz od u)) Hb (upd Z d (.frz od u)) (upd H d (.frz od u)) σ ρ ∧
      (∀ Z' H', Grow T (upd Z d (.frz od u)) Hb Z' H' → Z' d = some (.frz od u) ∧ H' d = some (.frz od u) ∧ Grow T Z0 H0 (upd Z' d u) (upd H' d u) ∧ (Tabs T H' → Tabs T (upd H' d u))) ∧
      (∀ Z' H' σ' ρ', Sim K T (upd Z d (.frz od u)) Hb Z' H' σ' ρ' → Sim K T Z0 H0 (upd Z' d u) (upd H' d u) σ' ρ') := by
  have hH : H d = some u := S.sub _ _ hd
  let Hb : Hp := fun a => if a = d ∧ H0 d = some u then some (.frz od u) else H0 a
  have hb_ne : ∀ a, a ≠ d → Hb a = H0 a := fun a h => by show (if a = d ∧ H0 d = some u then _ else _) = _; rw [if_neg (fun q => h q.1)]
  have hb_d : H0 d = some u → Hb d = some (.frz od u) := fun h => by show (if d = d ∧ H0 d = some u then _ else _) = _; rw [if_pos ⟨rfl, h⟩]
  have hb_n : H0 d ≠ some u → Hb d = H0 d := fun h => by show (if d = d ∧ H0 d = some u then _ else _) = _; rw [if_neg (fun q => h q.2)]
  have h0d : ∀ o, H0 d = some o → NoTb o → o = u := fun o e nt => by have := S.g.h _ _ e nt; rw [hH] at this; exact (Option.some.inj this).symm
  have tabL : Tabs T (upd H d (.frz od u)) := tabs_write hH hu.nt hu.next S.tabs
  have gl : Grow T (upd Z d (.frz od u)) Hb (upd Z d (.frz od u)) (upd H d (.frz od u)) := by
    refine ⟨Sub.refl _, fun a o e nt => ?_, fun a o e => ?_, fun a o e => ?_, fun a h _ => h, fun _ => tabL⟩
    · by_cases ha : a = d
      · subst ha
        by_cases h : H0 a = some u
        · rw [hb_d h] at e; cases e; exact upd_same
        · rw [hb_n h] at e; exact absurd (by rw [e, h0d o e nt]) h
      · rw [hb_ne a ha] at e; rw [upd_ne ha]; exact S.g.h a o e nt
    · by_cases ha : a = d
      · subst ha; rw [upd_same] at e; cases e; exact upd_same
      · rw [upd_ne ha] at e; rw [upd_ne ha]; exact S.sub a o e
    · by_cases ha : a = d
      · subst ha; rw [upd_same] at e; cases e; exact nt_frz _ _
      · rw [upd_ne ha] at e; exact S.nt a o e
  have own_ne : ∀ a, Z a = none → a ≠ d := fun a h q => by rw [q, hd] at h; cases h
  refine ⟨Hb, ⟨gl, tabL, S.len, fun i o sl h1 h2 => (S.slot i o sl h1 h2).re (lock_le hu hd) (fun a h => upd_ne (own_ne a h)) (fun a h => by rw [upd_ne (own_ne a h)]; exact h), fun i a sl h1 h2 h3 => ?_, S.dis⟩, fun Z' H' g => ?_, fun Z' H' σ' ρ' S' => ?_⟩
  · intro ⟨o, e, nt, nu⟩
    obtain ⟨b, q1, q2, _⟩ := S.own h2 h3
    rw [h1] at q1; cases q1
    rw [hb_ne _ (own_ne _ q2.prot.2)] at e
    exact S.new i _ sl h1 h2 h3 ⟨o, e, nt, nu⟩
  all_goals
    have back : ∀ Z' H', Grow T (upd Z d (.frz od u)) Hb Z' H' → Z' d = some (.frz od u) ∧ H' d = some (.frz od u) ∧ Grow T Z0 H0 (upd Z' d u) (upd H' d u) ∧ (Tabs T H' → Tabs T (upd H' d u)) := fun Z' H' g => by
      have hz : Z' d = some (.frz od u) := g.z _ _ upd_same
      have hh : H' d = some (.frz od u) := g.s _ _ hz
      have tb : Tabs T H' → Tabs T (upd H' d u) := fun t => tabs_write hh (nt_frz _ _) (fun f q => by cases q) t
      refine ⟨hz, hh, ⟨fun a o e => ?_, fun a o e nt => ?_, fun a o e => ?_, fun a o e => ?_, fun a h p => ?_, fun t0 => tb (g.t ?_)⟩, tb⟩
      · by_cases ha : a = d
        · subst ha; have := S.g.z _ _ e; rw [hd] at this; cases this; exact upd_same
        · rw [upd_ne ha]; exact g.z _ _ (by rw [upd_ne ha]; exact S.g.z _ _ e)
      · by_cases ha : a = d
        · subst ha; rw [h0d o e nt]; exact upd_same
        · rw [upd_ne ha]; exact g.h a o (by rw [hb_ne a ha]; exact e) nt
      · by_cases ha : a = d
        · subst ha; rw [upd_same] at e; cases e; exact upd_same
        · rw [upd_ne ha] at e; rw [upd_ne ha]; exact g.s a o e
      · by_cases ha : a = d
        · subst ha; rw [upd_same] at e; cases e; exact hu.nt
        · rw [upd_ne ha] at e; exact g.n a o e
      · have hz0 : Z a = none := S.g.p a h p
        have ha := own_ne a hz0
        rw [upd_ne ha]
        refine g.p a (by rw [upd_ne ha]; exact hz0) ?_
        obtain ⟨o, e, nt, nu⟩ := p
        exact ⟨o, by rw [hb_ne a ha]; exact e, nt, nu⟩
      · by_cases h : H0 d = some u
        · have := tabs_write (o := .frz od u) h hu.nt hu.next t0
          have e : upd H0 d (.frz od u) = Hb := by
            funext a
            by_cases ha : a = d
            · subst ha; rw [upd_same, hb_d h]
            · rw [upd_ne ha, hb_ne a ha]
          rw [e] at this; exact this
        · have e : H0 = Hb := by
            funext a
            by_cases ha : a = d
            · subst ha; rw [hb_n h]
            · rw [hb_ne a ha]
          rw [← e]; exact t0
  · exact back Z' H' g
  · obtain ⟨hz, hh, g0, tb⟩ := back Z' H' S'.g
    have ne : ∀ a, Z' a = none → a ≠ d := fun a h q => by rw [q, hz] at h; cases h
    refine ⟨g0, tb S'.tabs, S'.len, fun i o sl h1 h2 => (S'.slot i o sl h1 h2).re (unlock_le hu hz) (fun a h => upd_ne (ne a h)) (fun a h => by rw [upd_ne (ne a h)]; exact h), fun i a sl h1 h2 h3 => ?_, S'.dis⟩
    intro ⟨o, e, nt, nu⟩
    obtain ⟨b, q1, q2, _⟩ := S'.own h2 h3
    rw [h1] at q1; cases q1
    exact S'.new i _ sl h1 h2 h3 ⟨o, by rw [hb_ne _ (ne _ q2.prot.2)]; exact e, nt, nu⟩
end

/-! ### the keys -/
def keysOf : D → Option (List D)
  | .dK kvs => some (kvs.map fun kd => keyV kd.1)
  | .dT kvs => some (kvs.map fun kd => .tup (kd.1.map keyV))
  | _ => none
section
variable {X : Cx} {G : Wh}
theorem RepsP.getK {K : PySem.W.Frag} {Z : Hp} : ∀ {ds : List (Key × D)} {vs : List (Key × V)} {i : Nat} {k : Key} {v : V}, RepsP K Z vs ds → vs[i]? = some (k, v) → ∃ d, ds[i]? = some (k, d)
  | [], _, _, _, _, h, e => by cases h; simp at e
  | (j, d) :: ds, _, 0, _, _, h, e => by cases h with | cons h t => simp at e; obtain ⟨rfl, _⟩ := e; exact ⟨d, rfl⟩
  | (j, d) :: ds, _, i + 1, _, _, h, e => by cases h with | cons h t => simp at e; obtain ⟨d', q⟩ := RepsP.getK t e; exact ⟨d', by simpa using q⟩
theorem RepsQ.getK {K : PySem.W.Frag} {Z : Hp} : ∀ {ds : List (List Key × D)} {vs : List (List Key × V)} {i : Nat} {k : List Key} {v : V}, RepsQ K Z vs ds → vs[i]? = some (k, v) → ∃ d, ds[i]? = some (k, d)
  | [], _, _, _, _, h, e => by cases h; simp at e
  | (j, d) :: ds, _, 0, _, _, h, e => by cases h with | cons h t => simp at e; obtain ⟨rfl, _⟩ := e; exact ⟨d, rfl⟩
  | (j, d) :: ds, _, i + 1, _, _, h, e => by cases h with | cons h t => simp at e; obtain ⟨d', q⟩ := RepsQ.getK t e; exact ⟨d', by simpa using q⟩
theorem reps_keyV {K : PySem.W.Frag} {Z : Hp} : ∀ ks : List Key, Reps K Z (ks.map kV) (ks.map keyV)
  | [] => .nil
  | k :: ks => .cons (rep_key k) (reps_keyV ks)
/-- the walk over a locked dict -/
theorem keys_walk {Z : Hp} {a : Addr} {o : Obj} {d : D} {ks : List D} (hk : keysOf d = some ks) {u : HO} (hz : Z a = some (.frz o u)) (hr : (∃ vs kvs, u = .dK vs ∧ d = .dK kvs ∧ RepsP X.K Z vs kvs) ∨ (∃ vs kvs, u = .dT vs ∧ d = .dT kvs ∧ RepsQ X.K Z vs kvs)) :
    (∃ kvs, u = .dK kvs ∧ WalkD X.K G.T (Itk a o kvs) Z ks) ∨ (∃ kvs, u = .dT kvs ∧ WalkD X.K G.T (Itkt a o kvs) Z ks) := by
  rcases hr with ⟨vs, kvs, rfl, rfl, r⟩ | ⟨vs, kvs, rfl, rfl, r⟩
  · cases hk
    refine .inl ⟨vs, rfl, fun H => H a = some (.frz o (.dK vs)), _, by rw [List.length_map, ← r.length]; exact walk_keys, fun H' s => s _ _ hz, fun i Z2 H2 x H3 hi s1 s2 n y => ?_⟩
    obtain ⟨rfl, k, v, e1, rfl⟩ := y
    obtain ⟨d, e2⟩ := r.getK e1
    exact ⟨Z2, keyV k, .refl s2 n, by rw [List.getElem?_map, e2]; rfl, rep_key k⟩
  · cases hk
    refine .inr ⟨vs, rfl, fun H => H a = some (.frz o (.dT vs)), _, by rw [List.length_map, ← r.length]; exact walk_keysT, fun H' s => s _ _ hz, fun i Z2 H2 x H3 hi s1 s2 n y => ?_⟩
    obtain ⟨rfl, k, v, q, e1, rfl, hq⟩ := y
    obtain ⟨d, e2⟩ := r.getK e1
    have eg : (kvs.map fun kd => D.tup (kd.1.map keyV))[i]? = some (.tup (k.map keyV)) := by rw [List.getElem?_map, e2]; rfl
    cases e3 : Z2 q with
    | some w =>
      have := s2 _ _ e3
      rw [hq] at this; cases this
      exact ⟨Z2, _, .refl s2 n, eg, .tup e3 (reps_keyV k)⟩
    | none =>
      refine ⟨upd Z2 q (.tup (k.map kV)), _, grow_frz s2 n e3 hq (nt_tup _) (.refl s2 n) (fun ⟨w, e, _, nu⟩ => ?_), eg, .tup upd_same (reps_keyV k)⟩
      rw [hq] at e; cases e; exact nu _ rfl
/-- the dict of a frozen slot -/
theorem dct_slot {Z0 H0 Z H : Hp} {σ : L2.St} {ρ : Env} (S : Sim X.K G.T Z0 H0 Z H σ ρ) {i : Nat} {d : D} {ks : List D} (ei : ρ[i]? = some (.im d)) (hk : keysOf d = some ks) :
    ∃ a u, σ[i]? = some (some (.ref a)) ∧ DctU u ∧ (Z a = some u ∨ ∃ o, Z a = some (.frz o u)) ∧ ((∃ vs kvs, u = .dK vs ∧ d = .dK kvs ∧ RepsP X.K Z vs kvs) ∨ (∃ vs kvs, u = .dT vs ∧ d = .dT kvs ∧ RepsQ X.K Z vs kvs)) := by
  obtain ⟨v, h1, h2⟩ := S.im ei
  cases d with
  | dK kvs => cases h2 with | @dK a vs _ q1 q2 => exact ⟨a, _, h1, .K vs, q1, .inl ⟨vs, kvs, rfl, rfl, q2⟩⟩
  | dT kvs => cases h2 with | @dT a vs _ q1 q2 => exact ⟨a, _, h1, .T vs, q1, .inr ⟨vs, kvs, rfl, rfl, q2⟩⟩
  | non => cases hk
  | bl _ => cases hk
  | int _ => cases hk
  | str _ => cases hk
  | tup _ => cases hk
  | lst _ => cases hk
  | scr _ => cases hk
def noEx : Out → Out | .ex _ => .no | .bk _ => .no | .ct _ => .no | o => o
def forDO (t : Tg) (i : Nat) (f : Env → Out) : Env → Out := fun ρ => match ρ[i]? with
  | some (.im d) => (match keysOf d with | some ks => noEx (runFor (bindT t) f ks ρ) | none => .no)
  | _ => .no
theorem ps_or {st : Stmt} {t u : TS} (h : PS X st t) (k : PS X st u) : PS X st (fun D σ H => t D σ H ∨ u D σ H) :=
  ⟨fun pins s σ H D I q => q.elim (h.run pins s σ H D I) (k.run pins s σ H D I)⟩
theorem pe_or {e : Expr} {t u : TE} (h : PE X e t) (k : PE X e u) : PE X e (fun σ H Q => t σ H Q ∨ u σ H Q) :=
  ⟨fun pins s σ H Q I q => q.elim (h.run pins s σ H Q I) (k.run pins s σ H Q I)⟩
theorem post_noEx {K : PySem.W.Frag} {o : Out} {Z0 H0 : Hp} {D : Ends} (h : PostS K G (noEx o) Z0 H0 D) : PostS K G o Z0 H0 D ∧ (∀ c, o ≠ .ex c) ∧ (∀ c, o ≠ .bk c) ∧ (∀ c, o ≠ .ct c) := by
  cases o with
  | ex c => exact h.elim
  | bk c => exact h.elim
  | ct c => exact h.elim
  | nx ρ => exact ⟨h, (fun c q => by cases q), (fun c q => by cases q), (fun c q => by cases q)⟩
  | rt d => exact ⟨h, (fun c q => by cases q), (fun c q => by cases q), (fun c q => by cases q)⟩
  | no => exact h.elim
theorem iKeys_run {Z0 H0 Z H : Hp} {σ : L2.St} {ρ : Env} (S : Sim X.K G.T Z0 H0 Z H σ ρ) {i : Nat} {a : Addr} {o : Obj} {d : D} {ks : List D} {u : HO} {Rk : It → Hp → Prop} (e1 : σ[i]? = some (some (.ref a))) (hk : keysOf d = some ks) (hz : Z a = some (.frz o u))
    (hr : (∃ vs kvs, u = .dK vs ∧ d = .dK kvs ∧ RepsP X.K Z vs kvs) ∨ (∃ vs kvs, u = .dT vs ∧ d = .dT kvs ∧ RepsQ X.K Z vs kvs)) (hR : ∀ J, WalkD X.K G.T J Z ks → Rk J H) : iKeys (tVar i) σ H Rk := by
  refine ⟨.ref a, e1, a, o, rfl, ?_⟩
  rcases keys_walk (G := G) hk hz hr with ⟨kvs, rfl, w⟩ | ⟨kvs, rfl, w⟩
  · exact .inl ⟨kvs, S.sub _ _ hz, hR _ w⟩
  · exact .inr ⟨kvs, S.sub _ _ hz, hR _ w⟩
theorem rep_re {K : PySem.W.Frag} {Z Z' : Hp} {u : HO} {d : D} (le : RdLe Z Z') (hr : (∃ vs kvs, u = .dK vs ∧ d = .dK kvs ∧ RepsP K Z vs kvs) ∨ (∃ vs kvs, u = .dT vs ∧ d = .dT kvs ∧ RepsQ K Z vs kvs)) :
    (∃ vs kvs, u = .dK vs ∧ d = .dK kvs ∧ RepsP K Z' vs kvs) ∨ (∃ vs kvs, u = .dT vs ∧ d = .dT kvs ∧ RepsQ K Z' vs kvs) := by
  rcases hr with ⟨vs, kvs, rfl, rfl, r⟩ | ⟨vs, kvs, rfl, rfl, r⟩
  · exact .inl ⟨vs, kvs, rfl, rfl, RepsP.le le _ _ r⟩
  · exact .inr ⟨vs, kvs, rfl, rfl, RepsQ.le le _ _ r⟩
theorem dens_forD {tg : Expr} {x : Str} {p1 pos : Pos} {body : List Stmt} {t : Tg} {i : Nat} {f : Env → Out} (hp : PassesOwn (model X.prog X.w) X.A X.env X.xe) (hc : X.calm = true)
    (hN : X.N[i]? = some x) (hv : Vis X.env.scope x) (hd : (x == ("__debug__" : Str)) = false) (hcd : (x == ("__classdict__" : Str)) = false) (hg : DenG X G tg t) (hb : DenB X G body f) : DenS X G (.For tg (.Name x p1) body [] pos) (forDO t i f) := by
  obtain ⟨gt, pt, qt⟩ := hg.ex
  obtain ⟨tb, pb, qb⟩ := hb.ex
  have pf : PS X (.For tg (.Name x p1) body [] pos) (tFor (iKeys (tVar i)) gt tb) := ps_for hp hc (pi_keys (pe_var hN hv hd hcd)) pt pb (fun _ => rfl)
  refine ⟨_, ps_or (ps_lock pf) pf, fun Z0 H0 Z H σ ρ D S h => ?_⟩
  unfold forDO at h
  split at h
  · rename_i d ei
    cases hk : keysOf d with
    | none => rw [hk] at h; exact h.elim
    | some ks =>
      rw [hk] at h
      obtain ⟨h, nex, nbk, nct⟩ := post_noEx (G := G) h
      obtain ⟨a, u, e1, hu, hz, hr⟩ := dct_slot S ei hk
      rcases hz with hz | ⟨o, hz⟩
      · refine .inl ⟨a, u, S.sub _ _ hz, hu.mut, fun od => ?_⟩
        obtain ⟨Hb, Sl', bk1, bk2⟩ := S.lock hu hz od
        refine iKeys_run (G := G) Sl' e1 hk upd_same (rep_re (lock_le hu hz) hr) fun J w => ?_
        refine for_run (G := G) w qt qb Sl' ?_
        cases e2 : runFor (bindT t) f ks ρ with
        | nx ρ' =>
          rw [e2] at h
          exact fun Z' H' σ' S' => ⟨(bk1 Z' H' S'.g).2.1, h _ _ σ' (bk2 Z' H' σ' ρ' S')⟩
        | rt d' =>
          rw [e2] at h
          intro v Z' H' g tb' r
          obtain ⟨q1, q2, q3, q4⟩ := bk1 Z' H' g
          exact ⟨q2, h v _ _ q3 (q4 tb') (Rep.le (unlock_le hu q1) _ _ r)⟩
        | ex c => exact absurd e2 (nex c)
        | bk c => exact absurd e2 (nbk c)
        | ct c => exact absurd e2 (nct c)
        | no => rw [e2] at h; exact h.elim
      · exact .inr (iKeys_run (G := G) S e1 hk hz hr fun J w => for_run (G := G) w qt qb S h)
  · exact h.elim
/-! [.. for k in d], d a frozen slot's dict -/
def compDE (t : Tg) (vs : List Nat) (i : Nat) (tt : Env → R Bool) (g : Env → R D) : Env → R D := fun ρ => match ρ[i]? with
  | some (.im d) => (match keysOf d with
    | some ks => compE t vs (fun _ => .ok ks) tt g ρ
    | none => .no)
  | _ => .no
section
variable {elt tg : Expr} {ifs : List Expr} {scope : Scope} {own : List (Str × Nat)} {pos p1 : Pos} {t : Tg} {tt : Env → R Bool} {g : Env → R D} {x : Str} {i : Nat}
theorem den_compD (hc : X.calm = true) (hnd : X.N.Nodup) (hN : X.N[i]? = some x) (hv : Vis X.env.scope x) (hd : (x == ("__debug__" : Str)) = false) (hcd : (x == ("__classdict__" : Str)) = false) (ok : BlkOk X.N X.env.scope scope own)
    (hg : ∀ (s : Shared) (H : Hp) (C : Addr) (cl : List (Str × Addr)) (fp : List Addr), DenG (X.blk s H scope (compEnvC scope cl C X.env) fp) G.calm tg t) (ht : ∀ (s : Shared) (H : Hp) (C : Addr) (cl : List (Str × Addr)) (fp : List Addr), DenTs (X.blk s H scope (compEnvC scope cl C X.env) fp) G.calm ifs tt)
    (he : ∀ (s : Shared) (H : Hp) (C : Addr) (cl : List (Str × Addr)) (fp : List Addr), Den (X.blk s H scope (compEnvC scope cl C X.env) fp) G.calm .c elt g)
    (hvs : ∀ j ∈ t.slots, j ∈ own.map (·.2)) : Den X G .f (.ListComp elt [⟨tg, .Name x p1, ifs, 0⟩] scope pos) (compDE t (own.map (·.2)) i tt g) := by
  have pc : PE X (.ListComp elt [⟨tg, .Name x p1, ifs, 0⟩] scope pos) (tLc (iKeys (tVar i)) (gDen X.K G.calm t) (tDenT X.K G.calm tt) (tDen X.K G.calm .c g) (own.map (·.2))) :=
    pe_lc hc hnd (pi_keys (pe_var hN hv hd hcd)) ok (fun s H C cl fp => (hg s H C cl fp).can) (fun s H C cl fp => (ht s H C cl fp).can) (fun s H C cl fp => (he s H C cl fp).can) (fun _ => rfl)
  refine ⟨_, pe_or (pe_lock pc) pc, fun Z0 H0 Z H σ ρ Q S h => ?_⟩
  unfold compDE at h
  split at h
  · rename_i d ei
    cases hk : keysOf d with
    | none => rw [hk] at h; exact h.elim
    | some ks =>
      rw [hk] at h
      dsimp only at h
      unfold compE at h
      dsimp only at h
      split at h
      · rename_i hl
        cases e2 : runComp (bindT t) tt g (wipeE ρ (own.map (·.2))) ks with
        | ex c => rw [e2] at h; exact h.elim
        | no => rw [e2] at h; exact h.elim
        | ok r =>
          rw [e2] at h
          obtain ⟨a, u, e1, hu, hz, hr⟩ := dct_slot S ei hk
          rcases hz with hz | ⟨o, hz⟩
          · refine .inl ⟨a, u, S.sub _ _ hz, hu.mut, fun od => ?_⟩
            obtain ⟨Hb, Sl', bk1, bk2⟩ := S.base.lock hu hz od
            refine iKeys_run (G := G) Sl' e1 hk upd_same (rep_re (lock_le hu hz) hr) fun J w Dl hD => ?_
            refine comp_run (G := G) (Q := fun v H' => H' a = some (.frz od u) ∧ Q v (upd H' a u)) w Sl' hD hl hvs e2 fun Z' H' g' ⟨acc, ha, hra⟩ hzD => ?_
            obtain ⟨q1, q2, q3, q4⟩ := bk1 Z' H' (Sl'.g.trans g')
            have hDa : Dl ≠ a := fun q => by rw [q, upd_same] at hD; cases hD
            refine ⟨q2, ?_⟩
            have hD0 : H Dl = none := by rw [upd_ne hDa] at hD; exact hD
            have gz : Grow G.T Z H (upd Z' a u) (upd H' a u) := by
              refine ⟨q3.z, fun b o e nt => ?_, q3.s, q3.n, fun b hb pb => ?_, fun _ => q4 (g'.t Sl'.tabs)⟩
              · by_cases hb : b = a
                · subst hb; rw [S.sub _ _ hz] at e; cases e; exact upd_same
                · rw [upd_ne hb]; exact g'.h b o (by rw [upd_ne hb]; exact e) nt
              · have hba : b ≠ a := fun q => by rw [q, hz] at hb; cases hb
                rw [upd_ne hba]
                obtain ⟨o, eo, nt, nu⟩ := pb
                exact g'.p b (by rw [upd_ne hba]; exact hb) ⟨o, by rw [upd_ne hba]; exact eo, nt, nu⟩
            exact h _ _ _ gz ⟨Dl, rfl, .lst (by rw [upd_ne hDa]; exact ha) (Reps.le (unlock_le hu q1) _ _ hra), by rw [upd_ne hDa]; exact hzD, nprot_none hD0⟩
          · refine .inr (iKeys_run (G := G) S e1 hk hz hr fun J w Dl hD => ?_)
            refine comp_run (G := G) w S hD hl hvs e2 fun Z' H' g' ⟨acc, ha, hra⟩ hzD => ?_
            exact h _ Z' H' g' ⟨Dl, rfl, .lst ha hra, hzD, nprot_none hD⟩
      · exact h.elim
  · exact h.elim
end
end
end VS

set_option Elab.async false
set_option linter.all false
set_option maxRecDepth 100000
set_option maxHeartbeats 2000000
/-! VS12: sorted of lists, of sets made of lists. -/
namespace VS
open PySem L2 LamX
/-! ### sorted(list) of any data that can be set in order -/
def encB (b : V × D) : PyData := toPy b.2
def leD (d e : D) : Bool := PySem.W.dataLe false toPy d e
def srtL (ds : List D) : List D := ds.mergeSort leD
def tupCons : PyData → Bool | .tuple (_ :: _) => true | _ => false
def noTupNon : PyData → Bool | .tuple _ => false | .none => false | _ => true
def okSort (ds : List D) : Bool := ds.all shp && (ds.all fun d => decide ((toPy d).depth ≤ 100)) && (ds.all fun d => ds.all fun e => PySem.W.alike (toPy d) (toPy e)) && ((ds.all fun d => tupCons (toPy d)) || ds.all fun d => noTupNon (toPy d))
def RV (v : Value) (b : V × D) : Prop := RelV b.1 v
theorem each_of : ∀ {bs : List (V × D)} {us : List Value}, Vals (bs.map (·.1)) us → PySem.W.EachIs RV us bs
  | [], _, h => by cases h; exact .nil
  | b :: bs, _, h => by cases h with | cons r t => exact .cons r (each_of t)
theorem of_each : ∀ {bs : List (V × D)} {us : List Value}, PySem.W.EachIs RV us bs → Vals (bs.map (·.1)) us
  | [], _, h => by cases h; exact .nil
  | b :: bs, _, h => by cases h with | cons r t => exact .cons r (of_each t)
def rSortD (K : PySem.W.Frag) : List V → Hp → VK → Prop := fun vs H Q => ∃ (a : Addr) (bs : List (V × D)), vs = [V.ref a] ∧ SqL K H a (bs.map (·.1)) ∧ (∀ b ∈ bs, Dp K H b.1 (toPy b.2)) ∧ okSort (bs.map (·.2)) = true ∧
  ∀ p, H p = none → Q (.ref p) (upd H p (.lst ((bs.mergeSort fun b c => leD b.2 c.2).map (·.1))))
theorem okSort_alike {ds : List D} (h : okSort ds = true) : PySem.W.AllAlike (ds.map toPy) := by
  unfold okSort at h
  simp only [Bool.and_eq_true, Bool.or_eq_true, List.all_eq_true] at h
  intro d hd e he
  obtain ⟨d', h1, rfl⟩ := List.mem_map.mp hd
  obtain ⟨e', h2, rfl⟩ := List.mem_map.mp he
  exact h.1.2 d' h1 e' h2
theorem okSort_sortable {ds : List D} (h : okSort ds = true) : PySem.W.Sortable (ds.map toPy) := by
  unfold okSort at h
  simp only [Bool.and_eq_true, Bool.or_eq_true, List.all_eq_true] at h
  rcases h.2 with q | q
  · refine .inl fun d hd => ?_
    obtain ⟨d', h1, rfl⟩ := List.mem_map.mp hd
    have := q d' h1
    unfold tupCons at this
    split at this
    · rename_i e; exact ⟨_, _, e⟩
    · cases this
  · refine .inr fun d hd => ?_
    obtain ⟨d', h1, rfl⟩ := List.mem_map.mp hd
    have := q d' h1
    unfold noTupNon at this
    split at this
    · cases this
    · cases this
    · rename_i e1 e2; exact ⟨e2, fun xs q => e1 xs q⟩
theorem okSort_shp {ds : List D} (h : okSort ds = true) : ∀ d ∈ ds, (toPy d).canLay0 = true ∧ (toPy d).depth ≤ 100 := by
  unfold okSort at h
  simp only [Bool.and_eq_true, Bool.or_eq_true, List.all_eq_true] at h
  exact fun d hd => ⟨(shp_iff (h.1.1.1 d hd)).1, of_decide_eq_true (h.1.1.2 d hd)⟩
section
variable {X : Cx} {G : Wh}
theorem cr_sortD (hu : X.A.units + 200 < cLine) : CallR X (.builtin "sorted") (rSortD X.K) := by
  intro pins s σ H vs us Q I r h
  obtain ⟨a, bs, rfl, hs, hdp, hok, q⟩ := h
  obtain ⟨its, rv, hl, hz⟩ := I.list hs
  rw [Vals.ref1 r]
  have e := each_of rv
  have em : (bs.map encB) = (bs.map (·.2)).map toPy := by rw [List.map_map]; rfl
  have er : PySem.W.EachIs (fun v b => ∃ as, PySem.Reads s.heap v (encB b) as) its bs := by
    refine (PySem.W.each_mem e).mono fun v b ⟨rb, hb⟩ => ?_
    exact Dp.reads I _ _ _ (hdp b hb) rb
  refine PySem.W.sorted_data hl.isList e er (by rw [em]; exact okSort_alike hok) (by rw [em]; exact okSort_sortable hok) (by rw [← List.length_map (f := Prod.fst)]; exact hz) (fun b hb => ?_) fun out ho h2 => ?_
  · have := (okSort_shp hok b.2 (List.mem_map.mpr ⟨b, hb, rfl⟩)).2
    show X.A.units + 2 + (toPy b.2).depth < cLine
    omega
  · have hv := of_each h2
    obtain ⟨ep, he'⟩ := PyProof.Rows.sortedAll_at s.heap its out.toArray
    have hlen : ((bs.mergeSort (PySem.W.dataLe false encB)).map (·.1)).length ≤ sizeLine := by
      rw [List.length_map, List.length_mergeSort]
      rw [List.length_map] at hz
      exact hz
    exact ⟨.ref _, upd H (s.heap.objs.size + 1) (.lst ((bs.mergeSort (PySem.W.dataLe false encB)).map (·.1))), I.laid (t' := s.toks) (fun _ _ => PyProof.Rows.sortedAll_old) (Nat.le_succ _) ⟨hlen, out, ep, hv, he'⟩, rfl, q _ (I.hok.fresh (Nat.le_succ _))⟩
def sortD : List D → R D | [.lst ds] => (if okSort ds then .ok (.lst (srtL ds)) else .no) | _ => .no
theorem reps_zip {K : PySem.W.Frag} {Z : Hp} : ∀ {vs : List V} {ds : List D}, Reps K Z vs ds → ∃ bs : List (V × D), bs.map (·.1) = vs ∧ bs.map (·.2) = ds ∧ ∀ b ∈ bs, Rep K Z b.1 b.2
  | _, _, .nil => ⟨[], rfl, rfl, fun b h => by cases h⟩
  | _, _, .cons h t => by
    obtain ⟨bs, h1, h2, h3⟩ := reps_zip t
    exact ⟨(_, _) :: bs, by rw [List.map_cons, h1], by rw [List.map_cons, h2], fun b hb => by
      rcases List.mem_cons.mp hb with rfl | hb
      · exact h
      · exact h3 b hb⟩
theorem zip_reps {K : PySem.W.Frag} {Z : Hp} : ∀ {bs : List (V × D)}, (∀ b ∈ bs, Rep K Z b.1 b.2) → Reps K Z (bs.map (·.1)) (bs.map (·.2))
  | [], _ => .nil
  | b :: bs, h => .cons (h b List.mem_cons_self) (zip_reps fun c hc => h c (List.mem_cons_of_mem _ hc))
theorem ad_sort {K : PySem.W.Frag} : ADen K G (rSortD K) .t .f sortD := by
  intro vs ds Z H Q s n f h
  unfold sortD at h
  split at h
  · split at h
    · rename_i ds hok
      obtain ⟨v, rfl, fv⟩ := fins1 f
      obtain ⟨a, us, rfl, hh, r⟩ := now_lst s fv
      obtain ⟨bs, rfl, rfl, hb⟩ := reps_zip r
      refine ⟨a, bs, rfl, SqL.of hh, fun b hbm => ?_, hok, fun p hp => ?_⟩
      · exact Rep.dp _ _ (okSort_shp hok b.2 (List.mem_map.mpr ⟨b, hbm, rfl⟩)).1 (Rep.le s.le _ _ (hb b hbm))
      · have e : srtL (bs.map (·.2)) = (bs.mergeSort fun b c => leD b.2 c.2).map (·.2) := by
          unfold srtL
          exact (List.map_mergeSort (r := fun b c : V × D => leD b.2 c.2) (s := leD) (f := fun b : V × D => b.2) (fun _ _ _ _ => rfl)).symm
        rw [e] at h
        exact ansL s n h (zip_reps fun b hb' => hb b (List.mem_mergeSort.mp hb')) p hp
    · exact h.elim
  · exact h.elim
end
end VS

set_option Elab.async false
set_option linter.all false
set_option maxRecDepth 100000
set_option maxHeartbeats 4000000
/-! VS13: sets of ints and texts made of a list, sorted. -/
namespace VS
open PySem PySem.Spec PyProof.Rows L2 LamX

def kOf (e : Int × Value) : Key := match e.2 with | .int k _ => .inl k | .str x _ => .inr x | _ => .inl 0
def KE1 (w : World) (e : Int × Value) : Prop := RelV (kV (kOf e)) e.2 ∧ e.1 = keyH w (kOf e)
theorem kOf_rel {k : Key} {v : Value} (h : Int) (r : RelV (kV k) v) : kOf (h, v) = k := by
  cases k with
  | inl i => obtain ⟨t, rfl⟩ := r; rfl
  | inr x => obtain ⟨t, rfl⟩ := r; rfl
/-- a set's table: its keys in ks, its order to be asked -/
def SetQ (w : World) (h : Heap) (a : Addr) (ks : List Key) : Prop :=
  ∃ o es ep t, h.get? a = some o ∧ o.ExactSet ∧ o.data = .set es ep t ∧ (∀ e ∈ es.toList, KE1 w e) ∧ (es.toList.map kOf).Perm ks ∧ ks.Nodup ∧
    es.size < scanBound ∧ t.fits es.size = true ∧ Ris t.place.toList ∧ (w.params.followText "set-order" = true ∨ t.led = true)
theorem SetQ.keep {w : World} {h h' : Heap} {a : Addr} {ks : List Key} (R : SetQ w h a ks) (k : ∀ o, h.get? a = some o → h'.get? a = some o) : SetQ w h' a ks := by
  obtain ⟨o, es, ep, t, ho, r⟩ := R; exact ⟨o, es, ep, t, k o ho, r⟩
theorem SetQ.perm {w : World} {h : Heap} {a : Addr} {ks ks' : List Key} (R : SetQ w h a ks) (p : ks.Perm ks') : SetQ w h a ks' := by
  obtain ⟨o, es, ep, t, ho, hx, hd, g, pk, nd, r⟩ := R; exact ⟨o, es, ep, t, ho, hx, hd, g, pk.trans p, p.nodup_iff.mp nd, r⟩
section
variable {P : Program} {w : World} {A : Around} {E : Value → Shared → Prop} {s : Shared} {a : Addr} {ks : List Key}
theorem ke_elems {l : List (Int × Value)} (g : ∀ e ∈ l, KE1 w e) : ElemsOf (mixKind P w) l := fun e he => ⟨⟨kOf e, kV_is (g e he).1, (g e he).2⟩, key_scan (g e he).1⟩
theorem ke_is {e : Int × Value} (g : KE1 w e) (k : Key) : (mixKind P w).is k e.2 = true ↔ kOf e = k := by
  constructor
  · intro h; exact (mixKind P w).inj _ _ _ (kV_is g.1) h
  · rintro rfl; exact kV_is g.1
theorem ke_mem {l : List (Int × Value)} (g : ∀ e ∈ l, KE1 w e) (k : Key) : k ∈ l.map kOf ↔ ∃ e ∈ l, (mixKind P w).is k e.2 = true := by
  rw [List.mem_map]
  exact ⟨fun ⟨e, he, q⟩ => ⟨e, he, (ke_is (g e he) k).2 q⟩, fun ⟨e, he, q⟩ => ⟨e, he, (ke_is (g e he) k).1 q⟩⟩
theorem putTail {g : Bool → Sem Unit} (hg : ∀ (b : Bool) (z : Shared) (Q' : Unit → Shared → Prop), Q' () z → wpAny (model P w) A (g b) Q' E z)
    {o : Obj} {es : Array (Int × Value)} {ep : Nat} {t : SetTable} (ho : s.heap.get? a = some o) (hex : o.ExactSet) (hd : o.data = .set es ep t)
    {fs : Array (Int × Value)} {t2 : SetTable} (g1 : ∀ e ∈ fs.toList, KE1 w e) (m1 : (fs.toList.map kOf).Perm ks) (nd1 : ks.Nodup)
    (hb1 : fs.size < scanBound) (hf2 : t2.fits fs.size = true) (hr : Ris t2.place.toList) (hl : w.params.followText "set-order" = true ∨ t2.led = true) {dm : Bool} {R : Option Bool → Shared → Prop}
    (hR : ∀ h', Heap.SameBut a s.heap h' → SetQ w h' a ks → R (some true) { s with heap := h' }) :
    wpAny (model P w) A (do storeSet a fs t2
                            if (!dm && t2.tooFull) = true then do g (relayAll t2 fs (SetTable.grown fs.size)).2.2
                                                                  storeSet a (relayAll t2 fs (SetTable.grown fs.size)).1 (relayAll t2 fs (SetTable.grown fs.size)).2.1
                                                                  pure (some true)
                              else pure (some true)) R E s := by
  refine wpAny_bind (wpAny_storeSet_of ho hd ?_ (fits_of_scanBound hb1))
  have at1 := store_at (es' := fs) (t' := t2) ho hd
  have same1 := Heap.SameBut.update s.heap a (Obj.putSet fs t2)
  split
  · have pm := relayAll_perm t2 fs (SetTable.grown fs.size)
    have fit3 := relayAll_fits t2 fs (SetTable.grown fs.size)
    have ris3 := relayAll_ris t2 fs (SetTable.grown fs.size)
    have led3 := relayAll_led t2 fs (SetTable.grown fs.size)
    generalize relayAll t2 fs (SetTable.grown fs.size) = Y at pm fit3 ris3 led3 ⊢
    obtain ⟨gs, t3, gave⟩ := Y
    dsimp only at pm fit3 ris3 led3 ⊢
    have sz : gs.size = fs.size := by rw [← Array.length_toList, pm.length_eq, Array.length_toList]
    have hb2 : gs.size < scanBound := by rw [sz]; exact hb1
    refine wpAny_bind (hg _ _ _ ?_)
    refine wpAny_bind (wpAny_storeSet_of at1 rfl ?_ (fits_of_scanBound hb2))
    refine wpAny_pure (hR _ (same1.trans (Heap.SameBut.update _ a _)) ?_)
    exact ⟨_, gs, _, t3, store_at (es' := gs) (t' := t3) at1 rfl, hex, rfl, fun e he => g1 e (pm.mem_iff.mp he), (pm.map kOf).trans m1, nd1, hb2, fit3, ris3, hl.imp id fun z => by rw [led3]; exact z⟩
  · exact wpAny_pure (hR _ same1 ⟨_, fs, _, t2, at1, hex, rfl, g1, m1, nd1, hb1, hf2, hr, hl⟩)

def hasK (ks : List Key) (k : Key) : Bool := ks.any fun j => decide (j = k)
theorem hasK_iff {ks : List Key} {k : Key} : hasK ks k = true ↔ k ∈ ks := by
  unfold hasK
  rw [List.any_eq_true]
  exact ⟨fun ⟨x, h, e⟩ => of_decide_eq_true e ▸ h, fun h => ⟨k, h, decide_eq_true rfl⟩⟩
def insK (ks : List Key) (k : Key) : List Key := if hasK ks k then ks else k :: ks
theorem putHashed {k : Key} {v : Value} {Q : Bool → Shared → Prop} (R : SetQ w s.heap a ks) (rv : RelV (kV k) v) (room : ks.length + 1 < scanBound)
    (hQ : ∀ h' b, Heap.SameBut a s.heap h' → SetQ w h' a (insK ks k) → Q b { s with heap := h' }) :
    wpAny (model P w) A (setAddHashed a v ((mixKind P w).hash k)) Q E s := by
  obtain ⟨o, es, ep, t, ho, hex, hd, g, pk, nd, hb, hf, hr, hl⟩ := R
  have key1 : (mixKind P w).is k v = true := kV_is rv
  have scan1 : v.scannable = true := key_scan rv
  have hel : ElemsOf (mixKind P w) es.toList := ke_elems g
  have hn : es.size = ks.length := by rw [← pk.length_eq, List.length_map, Array.length_toList]
  unfold setAddHashed setAddHashedIn
  refine wpAny_holding (wpAny_bind (wpAny_setState_of ho hd hf ?_))
  dsimp only
  rw [byScan_of scan1 hb hel]
  simp only [↓reduceIte]
  unfold setAddByScan
  refine wpAny_bind ?_
  refine wpAny_bind (wpAny_rule ?_)
  refine wpAny_bind (wpAny_setScan_of key1 ho hd hf hel ?_)
  cases hfi : List.findIdx? (fun e => (mixKind P w).is k e.2) es.toList with
  | some j =>
    dsimp only
    obtain ⟨hj, pj, _⟩ := List.findIdx?_eq_some_iff_getElem.mp hfi
    have mem : k ∈ ks := pk.mem_iff.mp ((ke_mem (P := P) g k).2 ⟨es.toList[j], List.getElem_mem hj, pj⟩)
    refine wpAny_pure (wpAny_pure ?_)
    refine hQ s.heap _ (Heap.SameBut.refl a s.heap) ?_
    unfold insK
    rw [if_pos (hasK_iff.mpr mem)]
    exact ⟨o, es, ep, t, ho, hex, hd, g, pk, nd, hb, hf, hr, hl⟩
  | none =>
    dsimp only
    have nmem : k ∉ ks := fun z => by
      obtain ⟨e, he, q⟩ := (ke_mem (P := P) g k).1 (pk.mem_iff.mpr z)
      have c := List.findIdx?_eq_none_iff.mp hfi e he
      rw [q] at c; cases c
    have gw : ∀ (b : Bool) {z : Shared} {Q' : Unit → Shared → Prop}, Q' () z → wpAny (model P w) A (match b with | true => rule "set.scan.the-table-gave-way" | false => pure ()) Q' E z :=
      fun b z Q' q => by cases b <;> first | exact wpAny_pure q | exact wpAny_rule q
    have pm := layNew_perm t es ((mixKind P w).hash k) v
    have fit1 := layNew_fits t es ((mixKind P w).hash k) v
    have ris1 := layNew_ris t es ((mixKind P w).hash k) v hr
    have led1 := layNew_led t es ((mixKind P w).hash k) v
    generalize layNew t es ((mixKind P w).hash k) v = Y at pm fit1 ris1 led1 ⊢
    obtain ⟨fs, t1, dm, gave⟩ := Y
    dsimp only at pm fit1 ris1 led1 ⊢
    rw [Array.toList_push] at pm
    have pc : fs.toList.Perm (((mixKind P w).hash k, v) :: es.toList) := pm.trans (List.perm_append_singleton _ _)
    have kk : kOf ((mixKind P w).hash k, v) = k := kOf_rel _ rv
    have g1 : ∀ e ∈ fs.toList, KE1 w e := fun e he => by
      rcases List.mem_cons.mp (pc.mem_iff.mp he) with z | z
      · rw [z]; exact ⟨by rw [kk]; exact rv, by rw [kk]; rfl⟩
      · exact g e z
    have pk1 : (fs.toList.map kOf).Perm (k :: ks) := by
      have := pc.map kOf
      rw [List.map_cons, kk] at this
      exact this.trans (pk.cons k)
    have nd1 : (k :: ks).Nodup := List.nodup_cons.mpr ⟨nmem, nd⟩
    have sz : fs.size = ks.length + 1 := by rw [← Array.length_toList, pc.length_eq, List.length_cons, Array.length_toList, hn]
    have hb1 : fs.size < scanBound := by rw [sz]; exact room
    have hled : w.params.followText "set-order" = true ∨ t1.led = true := hl.imp id fun z => by rw [led1]; exact z
    have done : ∀ h', Heap.SameBut a s.heap h' → SetQ w h' a (k :: ks) → Q true { s with heap := h' } := fun h' sb r => hQ h' _ sb (by unfold insK; rw [if_neg (fun z => nmem (hasK_iff.mp z))]; exact r)
    refine wpAny_bind (gw _ ?_)
    split
    · refine wpAny_bind ?_
      rw [hashByValue_scannable 8 scan1]
      refine wpAny_pure ?_
      refine putTail ?_ ho hex hd g1 pk1 nd1 hb1 ?_ ?_ ?_ ?_
      · intro b z Q' q; cases b <;> first | exact wpAny_pure q | exact wpAny_rule q
      · first | (split <;> first | exact fit1 | exact SetTable.fits_plain_off fit1) | exact fit1
      · first | (split <;> exact ris1) | exact ris1
      · first | (split <;> exact hled) | exact hled
      · intro h' sb r; dsimp only; exact wpAny_pure (done h' sb r)
    · refine wpAny_bind (wpAny_pure ?_)
      simp only [↓reduceIte]
      refine putTail ?_ ho hex hd g1 pk1 nd1 hb1 fit1 ris1 hled ?_
      · intro b z Q' q; cases b <;> first | exact wpAny_pure q | exact wpAny_rule q
      · intro h' sb r; dsimp only; exact wpAny_pure (done h' sb r)
end

def newSetO (w : World) : Obj := { cls := .type "set", dict := none, data := .set #[] 0 (.fresh 0 0 (!w.params.followText "set-order")) }
theorem newSetQ {w : World} {h : Heap} {a : Addr} (ho : h.get? a = some (newSetO w)) : SetQ w h a [] :=
  ⟨_, #[], 0, _, ho, ⟨rfl, rfl, rfl⟩, rfl, (fun e he => by simp at he), (by simp), List.nodup_nil, (by decide), (by rfl), List.Pairwise.nil, by
    show _ ∨ (!w.params.followText "set-order") = true
    cases w.params.followText "set-order" <;> first | exact .inl rfl | exact .inr rfl⟩
theorem insK_len (ks : List Key) (k : Key) : (insK ks k).length ≤ ks.length + 1 := by
  unfold insK; split <;> simp
section
variable {P : Program} {w : World} {A : Around} {E : Value → Shared → Prop} {s : Shared}
theorem updKeys {I : Addr} {fp wr : List Addr} {G : Array GenState → Array GenState → Prop} {n : Nat} {Pv : Nat → Value → Prop} {St : Nat → Shared → Prop} {R : Result → Shared → Prop}
    (W : WalksS P w A.in1 I fp wr G n Pv St) (S : Addr) (hSf : S ∉ fp) (ks : List Key) (hn : n = ks.length) (room : ks.length + 1 < scanBound) (hval : ∀ i v, Pv i v → ∃ k, ks[i]? = some k ∧ RelV (kV k) v) :
    ∀ (m i : Nat) (s : Shared), n - i = m → i ≤ n → St i s → SetQ w s.heap S ((ks.take i).foldl insK []) → ((ks.take i).foldl insK []).length ≤ i →
      (∀ z, Moved (S :: wr) G s z → SetQ w z.heap S (ks.foldl insK []) → R (.ok (.ret .none)) z) → codeAny (model P w) A (.builtin "set.update.loop" ⟨[.ref S, .ref I], []⟩) R s := by
  have hSw : S ∉ wr := fun h => hSf (W.sub _ h)
  have sub1 : ∀ b ∈ wr, b ∈ S :: wr := fun b hb => List.mem_cons_of_mem _ hb
  intro m
  induction m with
  | zero =>
    intro i s hm hi hst hS hle hR
    obtain rfl : i = n := by omega
    refine codeAny_builtin F.entry_set_update_loop ?_
    rw [Around.under_plainId F.plain_set_update_loop _]
    show wpAny _ A.in1 (pyNext (.ref I) >>= _) _ _ s
    refine wpAny_bind (W.done s _ _ hst fun z hz => ?_)
    show wpAny _ A.in1 (ret Value.none) _ _ z
    rw [List.take_of_length_le (by omega)] at hS
    exact wpAny_pure (hR z (hz.mono sub1) (hS.keep fun o e => hz.heap S o hSw e))
  | succ m ih =>
    intro i s hm hi hst hS hle hR
    have lt : i < n := by omega
    refine codeAny_builtin F.entry_set_update_loop ?_
    rw [Around.under_plainId F.plain_set_update_loop _]
    show wpAny _ A.in1 (pyNext (.ref I) >>= _) _ _ s
    refine wpAny_bind (W.item i s _ _ lt hst fun v z hP hst' hz => ?_)
    obtain ⟨k, hk, rv⟩ := hval i v hP
    have hS1 : SetQ w z.heap S ((ks.take i).foldl insK []) := hS.keep fun o e => hz.heap S o hSw e
    have nx : (ks.take (i + 1)).foldl insK [] = insK ((ks.take i).foldl insK []) k := by rw [List.take_add_one, hk, List.foldl_append]; rfl
    show wpAny _ A.in1 (holding [v] (setAdd S v) >>= _) _ _ z
    refine wpAny_bind (wpAny_holding ?_)
    unfold setAdd
    refine wpAny_holding ?_
    refine wpAny_bind ((mixKind P w).pyHash (k := k) (kV_is rv) ?_)
    refine putHashed (s := { z with toks := z.toks + 1 }) hS1 rv (by omega) fun h' b sb hS2 => ?_
    rw [← nx] at hS2
    have hle2 : ((ks.take (i + 1)).foldl insK []).length ≤ i + 1 := by
      rw [nx]
      have := insK_len ((ks.take i).foldl insK []) k
      omega
    refine wpAny_pure ⟨plainId_quiet F.plain_set_update_loop _, ih (i + 1) _ (by omega) lt (W.frame _ z _ _ hst' (Nat.le_succ _) fun b hb o e => ?_) hS2 hle2 fun z2 hm2 hq => ?_⟩
    · rw [sb.2 b (fun h : b = S => hSf (by rw [← h]; exact hb))]; exact e
    · refine hR z2 (Moved.trans W.gtrans ((hz.mono sub1).then_heap (Nat.le_succ _) fun b o hb e => ?_) hm2) hq
      rw [sb.2 b (fun h : b = S => hb (by rw [h]; exact List.mem_cons_self))]; exact e
theorem vals_at {ks : List Key} {us : List Value} (r : Vals (ks.map kV) us) {i : Nat} {v : Value} (h : us[i]? = some v) : ∃ k, ks[i]? = some k ∧ RelV (kV k) v := by
  induction ks generalizing us i with
  | nil => cases r; simp at h
  | cons k ks ih =>
    cases r with
    | cons r1 r2 =>
      cases i with
      | zero => simp at h; subst h; exact ⟨k, rfl, r1⟩
      | succ i => simp at h; obtain ⟨k', h1, h2⟩ := ih r2 h; exact ⟨k', by simpa using h1, h2⟩
theorem callSet {l : Addr} {items : Array Value} (ks : List Key) {Q : Value → Shared → Prop} (hh : A.handled = none) (hl : s.heap.IsList l items) (hv : Vals (ks.map kV) items.toList) (room : ks.length + 1 < scanBound)
    (h : ∀ (h' : Heap) (tk : Nat), SetQ w h' s.heap.objs.size (ks.foldl insK []) → (∀ b o, s.heap.get? b = some o → h'.get? b = some o) → Q (.ref s.heap.objs.size) { s with heap := h', toks := tk }) :
    wpAny (model P w) A (call (.type "set") [.ref l]) Q E s := by
  have sz : items.size = ks.length := by rw [← Array.length_toList, ← hv.length, List.length_map]
  obtain ⟨c0, tl0, mro0⟩ := F.called_set.mro
  have made0 := F.called_set.made
  have sub0 := F.called_set.sub
  refine wpAny_call (codeAny_of_tree ?_)
  show wpAny _ _ (callAny (.type "set") _) _ _ _
  refine wpAny_pure ⟨Code.quiet_builtin _ (by decide +kernel), codeAny_builtin F.entry_type_call ?_⟩
  rw [Around.under_plain (weight_type_call_type "set" [.ref l] []) rfl]
  have n0 := F.called_set.notType
  have n1 := F.called_set.canCreate
  have n2 := F.typeCall_set_1 (.ref l)
  repeat (any_goals (first | assumption | wp_step))
  refine codeAny_mono (code_set_led1 (.ref l) (E := E) (Q₁ := fun obj s₁ => obj = .ref s.heap.objs.size ∧ s₁ = { s with heap := s.heap.push (newSetO w) }) ⟨rfl, rfl⟩) fun r s₁ hr => ?_
  cases r with
  | error e => exact hr
  | ok fl =>
    cases fl with
    | ret obj =>
      obtain ⟨rfl, rfl⟩ := hr
      have hS : (s.heap.push (newSetO w)).get? s.heap.objs.size = some (newSetO w) := Heap.get?_push_size _ rfl
      have hT : Shared.TypeIs { s with heap := s.heap.push (newSetO w) } (.ref s.heap.objs.size) "set" := ⟨_, hS, rfl⟩
      have i0 := F.called_set.init.lookup
      have i1 := F.called_set.init.bind (.ref s.heap.objs.size)
      repeat (any_goals (first | assumption | wp_step))
      refine codeAny_mono (codeAny_call_builtin (R := wants (fun r s₂ => r = .none ∧ ∃ h' tk, s₂ = { s with heap := h', toks := tk } ∧ SetQ w h' s.heap.objs.size (ks.foldl insK []) ∧
          (∀ b o, s.heap.get? b = some o → h'.get? b = some o)) E) F.called_set.init.plain F.entry_set_init (check_set_init_1 hT ?_)) fun r₂ s₂ hr₂ => ?_
      · obtain ⟨ol, hol, hcl, nl, hdl⟩ := hl
        obtain ⟨c1, c2, c3, c4⟩ := ol
        simp only at hcl hdl
        subst hcl hdl
        have hol' : (s.heap.push (newSetO w)).get? l = some { cls := .type "list", dict := c2, data := .seq items nl, slots := c4 } := Heap.get?_push_of_some _ hol
        have t1 := F.sub_list_set
        have t2 := F.sub_list_frozenset
        have t3 : (Value.type "list" == Value.type "dict") = false := by decide
        have hl1 : (s.heap.push (newSetO w)).IsList l items := ⟨_, hol', rfl, nl, rfl⟩
        unfold Builtin.«set.__init__» noKeywords Builtin.Frozenset.updateFrom
        generalize hPI : pyIter = PI
        wp_walk
        subst hPI
        refine wpAny_pyIter_list hl1 ?_
        refine wpAny_bind (wpAny_runValue ?_)
        have hlS : l < s.heap.objs.size := Heap.lt_size hol
        have hh3 : A.in1.in1.in1.handled = none := by simp [hh]
        have hneI : l ≠ (s.heap.push (newSetO w)).objs.size := by
          rw [Heap.size_push]; exact Nat.ne_of_lt (Nat.lt_succ_of_lt hlS)
        have hSf : s.heap.objs.size ∉ [(s.heap.push (newSetO w)).objs.size, l] := by
          rw [Heap.size_push]; simp only [List.mem_cons, List.mem_singleton, List.not_mem_nil, or_false, not_or]
          exact ⟨Nat.ne_of_lt (Nat.lt_succ_self _), Nat.ne_of_gt hlS⟩
        have hval : ∀ (i : Nat) (v : Value), items[i]? = some v → ∃ k, ks[i]? = some k ∧ RelV (kV k) v := fun i v e => vals_at hv (by rw [Array.getElem?_toList]; exact e)
        refine updKeys ((Walks.list hh3 _ l hneI items).toS) s.heap.objs.size hSf ks sz room hval (items.size - 0) 0 _ (by omega) (Nat.zero_le _) ⟨⟨_, Heap.get?_push_size _ rfl, rfl, rfl⟩, (hl1.push _)⟩ ?hS0 (by simp) ?hR
        case hS0 =>
          exact newSetQ (Heap.get?_push_of_some _ hS)
        case hR =>
          intro z hm hS'
          obtain ⟨h', g2, d', tk', os'⟩ := z
          have eg : g2 = s.gens := hm.gens
          have ed : d' = s.drawn := hm.drawn
          have eo : os' = s.os := hm.os
          subst eg ed eo
          show wpAny _ _ _ _ _ _
          refine wpAny_pure ?_
          show wpAny _ _ (ret Value.none) _ _ _
          refine wpAny_pure ⟨rfl, h', tk', rfl, hS', fun b o e => ?_⟩
          have hb0 : b < s.heap.objs.size := Heap.lt_size e
          have hb2 : b ≠ (s.heap.push (newSetO w)).objs.size := by
            rw [Heap.size_push]; exact Nat.ne_of_lt (Nat.lt_succ_of_lt hb0)
          exact hm.heap b o (by simp only [List.mem_cons, List.mem_singleton, List.not_mem_nil, or_false, not_or]; exact ⟨Nat.ne_of_lt hb0, hb2⟩) (Heap.get?_push_of_some _ (Heap.get?_push_of_some _ e))
      · cases r₂ with
        | error e => exact hr₂
        | ok fl₂ =>
          cases fl₂ with
          | ret r =>
            obtain ⟨rfl, h', tk, rfl, hS', hk'⟩ := hr₂
            repeat (any_goals (first | assumption | wp_step))
            exact h _ _ hS' hk'
          | _ => exact hr₂.elim
    | _ => exact hr.elim
end
end VS

set_option Elab.async false
set_option linter.all false
set_option maxRecDepth 100000
set_option maxHeartbeats 4000000
/-! VS14: sorted(set(list)), sorted(dict), raise. -/
namespace VS
open PySem PySem.Spec PyProof.Rows L2 LamX

/-! ### keys in order -/
def leK : Key → Key → Bool
  | .inl i, .inl j => decide (i ≤ j) | .inr x, .inr y => decide (x.cps.toList ≤ y.cps.toList) | .inl _, .inr _ => true | .inr _, .inl _ => false
theorem leK_trans : ∀ a b c : Key, leK a b = true → leK b c = true → leK a c = true
  | .inl i, .inl j, .inl k, h, q => by simp [leK] at *; omega
  | .inr x, .inr y, .inr z, h, q => by simp only [leK, decide_eq_true_eq] at *; exact List.le_trans h q
  | .inl _, .inl _, .inr _, _, _ => rfl
  | .inl _, .inr _, .inr _, _, _ => rfl
  | .inl _, .inr _, .inl _, _, q => by cases q
  | .inr _, .inl _, _, h, _ => by cases h
  | .inr _, .inr _, .inl _, _, q => by cases q
theorem leK_total : ∀ a b : Key, (leK a b || leK b a) = true
  | .inl i, .inl j => by simp [leK]; omega
  | .inr x, .inr y => by simp only [leK, Bool.or_eq_true, decide_eq_true_eq]; exact List.le_total _ _
  | .inl _, .inr _ => rfl
  | .inr _, .inl _ => rfl
theorem leK_anti : ∀ a b : Key, leK a b = true → leK b a = true → a = b
  | .inl i, .inl j, h, q => by simp [leK] at *; omega
  | .inr x, .inr y, h, q => by
    simp only [leK, decide_eq_true_eq] at *
    have e := List.le_antisymm h q
    cases x; cases y
    exact congrArg Sum.inr (congrArg Str.mk (Array.ext' e))
  | .inl _, .inr _, _, q => by cases q
  | .inr _, .inl _, h, _ => by cases h
def srtK (ks : List Key) : List Key := ks.mergeSort leK
theorem srtK_perm (ks : List Key) : (srtK ks).Perm ks := List.mergeSort_perm _ _
theorem srtK_pw (ks : List Key) : (srtK ks).Pairwise fun a b => leK a b = true := List.pairwise_mergeSort leK_trans leK_total ks
theorem srtK_of_perm {ks ks' : List Key} (p : ks.Perm ks') : srtK ks = srtK ks' :=
  List.Perm.eq_of_pairwise (fun a b _ _ h q => leK_anti a b h q) (srtK_pw _) (srtK_pw _) (((srtK_perm ks).trans p).trans (srtK_perm ks').symm)
def isL : Key → Bool | .inl _ => true | .inr _ => false
def sameK (ks : List Key) : Bool := ks.all isL || ks.all fun k => !isL k
def encK (k : Key) : PyData := toPy (keyV k)
theorem sort_congr {α : Type} {l : List α} {r s : α → α → Bool} (h : ∀ a ∈ l, ∀ b ∈ l, r a b = s a b) : l.mergeSort r = l.mergeSort s := by
  have := List.map_mergeSort (r := r) (s := s) (f := id) (l := l) h
  simpa using this
theorem le_encK {ks : List Key} (h : sameK ks = true) : ∀ a ∈ ks, ∀ b ∈ ks, PySem.W.dataLe false encK a b = leK a b := fun a ha b hb => by
  unfold sameK at h
  rw [PySem.W.dataLe_eq]
  simp only [cond_false]
  simp only [Bool.or_eq_true, List.all_eq_true] at h
  rcases h with h | h
  · cases a with
    | inr _ => have := h _ ha; cases this
    | inl i =>
      cases b with
      | inr _ => have := h _ hb; cases this
      | inl j => show (!PySem.W.dataLt (.int j) (.int i)) = _; rw [PySem.W.dataLt_int]; exact PySem.W.not_lt_int i j
  · cases a with
    | inl _ => have := h _ ha; cases this
    | inr i =>
      cases b with
      | inl _ => have := h _ hb; cases this
      | inr j => show (!PySem.W.dataLt (.str j) (.str i)) = _; rw [PySem.W.dataLt_str]; exact PySem.W.not_lt_str _ _
theorem srtK_data {ks : List Key} (h : sameK ks = true) : ks.mergeSort (PySem.W.dataLe false encK) = srtK ks := sort_congr (le_encK h)
theorem sameK_alike {ks : List Key} (h : sameK ks = true) : PySem.W.AllAlike (ks.map encK) := fun d hd e he => by
  obtain ⟨a, ha, rfl⟩ := List.mem_map.mp hd
  obtain ⟨b, hb, rfl⟩ := List.mem_map.mp he
  unfold sameK at h
  simp only [Bool.or_eq_true, List.all_eq_true] at h
  rcases h with h | h <;> have h1 := h _ ha <;> have h2 := h _ hb <;> cases a <;> cases b <;> first | (cases h1; done) | (cases h2; done) | rfl
theorem encK_sortable (ks : List Key) : PySem.W.Sortable (ks.map encK) := .inr fun d hd => by
  obtain ⟨a, ha, rfl⟩ := List.mem_map.mp hd
  cases a <;> exact ⟨(fun q => by cases q), (fun xs q => by cases q)⟩
theorem sameK_perm {ks ks' : List Key} (p : ks.Perm ks') (h : sameK ks = true) : sameK ks' = true := by
  unfold sameK at *
  rw [Bool.or_eq_true] at *
  rcases h with h | h
  · left; rw [List.all_eq_true] at *; exact fun x hx => h x (p.mem_iff.mpr hx)
  · right; rw [List.all_eq_true] at *; exact fun x hx => h x (p.mem_iff.mpr hx)
theorem encK_depth (k : Key) : (encK k).depth ≤ 1 := by cases k <;> exact Nat.zero_le _

/-! ### sorted(set(list)) -/
section
variable {P : Program} {w : World} {A : Around} {E : Value → Shared → Prop} {s : Shared} {a : Addr} {ks : List Key}
def RK (v : Value) (k : Key) : Prop := RelV (kV k) v
theorem eachK_of : ∀ {ks : List Key} {us : List Value}, Vals (ks.map kV) us → PySem.W.EachIs RK us ks
  | [], _, h => by cases h; exact .nil
  | b :: bs, _, h => by cases h with | cons r t => exact .cons r (eachK_of t)
theorem of_eachK : ∀ {ks : List Key} {us : List Value}, PySem.W.EachIs RK us ks → Vals (ks.map kV) us
  | [], _, h => by cases h; exact .nil
  | b :: bs, _, h => by cases h with | cons r t => exact .cons r (of_eachK t)
theorem rk_reads {h : Heap} {v : Value} {k : Key} (r : RK v k) : ∃ as, PySem.Reads h v (encK k) as ∧ as = [] := by
  cases k with
  | inl i => obtain ⟨t, rfl⟩ := r; exact ⟨_, PySem.Reads.int i t, rfl⟩
  | inr x => obtain ⟨t, rfl⟩ := r; exact ⟨_, PySem.Reads.str x t, rfl⟩
theorem vals_of_es {es : List (Int × Value)} (g : ∀ e ∈ es, KE1 w e) {vs : List Value} (pm : vs.Perm (es.map (·.2))) : ∃ ks' : List Key, ks'.Perm (es.map kOf) ∧ Vals (ks'.map kV) vs := by
  have key : ∀ (l : List Value), (∀ v ∈ l, RelV (kV (kOf (0, v))) v) → Vals ((l.map fun v => kOf (0, v)).map kV) l := fun l => by
    induction l with
    | nil => exact fun _ => .nil
    | cons v l ih => exact fun h => .cons (h v List.mem_cons_self) (ih fun u hu => h u (List.mem_cons_of_mem _ hu))
  refine ⟨vs.map fun v => kOf (0, v), ?_, key vs fun v hv => ?_⟩
  · have q := pm.map fun v => kOf (0, v)
    rw [List.map_map] at q
    exact q
  · obtain ⟨e, he, rfl⟩ := List.mem_map.mp (pm.mem_iff.mp hv)
    exact (g e he).1
theorem sortedQ {Q : Value → Shared → Prop} (R : SetQ w s.heap a ks) (hh : A.handled = none) (hsz : ks.length ≤ sizeLine) (hsm : sameK ks = true) (hu : A.units + 200 < cLine)
    (hQ : ∀ z p (out : Array Value) (c : Nat), (∀ b o, s.heap.get? b = some o → z.heap.get? b = some o) → z.gens = s.gens → z.os = s.os → s.heap.objs.size ≤ p →
      z.heap.get? p = some (seqObj "list" out c) → Vals ((srtK ks).map kV) out.toList → Q (.ref p) z) : wpAny (model P w) A (call (.builtin "sorted") [.ref a]) Q E s := by
  obtain ⟨o, es, ep, t, ho, hex, hd, g, pk, nd, hb, hf, hr, hl⟩ := R
  refine Calls.call_function_entry kind_sorted plain_sorted entry_sorted (args_sorted1 _) ?_
  unfold Builtin.«sorted»
  refine wpAny_bind (m := checkCount "sorted" 1 1 _) (wpAny_pure ?_)
  refine wpAny_bind (collect_set (A := A.in1) hh ⟨o, ho, hex.1, hd⟩ hf hb hr hl fun z vs k1 hz g1 o1 pm => ?_)
  obtain ⟨ks', pk', rv⟩ := vals_of_es g pm
  have pks : ks'.Perm ks := pk'.trans pk
  have hvl : vs.length = ks.length := by rw [← rv.length, List.length_map, pks.length_eq]
  refine wpAny_bind (wpAny_newList ?_ (by rw [hvl]; exact hsz))
  have hoL : (z.heap.push (seqObj "list" vs.toArray 0)).get? z.heap.objs.size = some (seqObj "list" vs.toArray 0) := Heap.get?_push_size _ rfl
  refine wpAny_bind (wpAny_holding ?_)
  have sm' : sameK ks' = true := sameK_perm pks.symm hsm
  have e1 : PySem.W.EachIs RK vs ks' := eachK_of rv
  refine PySem.W.list_sort_data (enc := encK) hoL e1 (e1.mono fun v k r => by obtain ⟨as, h1, h2⟩ := rk_reads r; exact ⟨as, h1, by rw [h2]; simp⟩) (sameK_alike sm') (encK_sortable _) (by rw [pks.length_eq]; exact hsz) (fun k _ => ?_) fun out ho2 h2 => ?_
  · have := encK_depth k
    show A.units + 1 + 1 + (encK k).depth < cLine
    omega
  · rw [srtK_data sm'] at h2
    obtain ⟨c, hc⟩ := sortedHeap_at (vs := vs) (out := out.toArray) hoL
    refine wpAny_pure ⟨_, rfl, hQ _ z.heap.objs.size out.toArray c (fun b u e => ?_) g1 o1 hz hc ?_⟩
    · have q := k1 b u e
      have hlt := Heap.lt_size q
      show (sortedHeap (z.heap.push (seqObj "list" vs.toArray 0)) z.heap.objs.size vs out.toArray).get? b = some u
      rw [sortedHeap_old (Nat.ne_of_lt hlt) (by rw [size_push']; exact Nat.lt_succ_of_lt hlt)]
      exact Heap.get?_push_of_some _ q
    · rw [← srtK_of_perm pks]; exact of_eachK h2
end

/-! ### as rules -/
def SetQO (w : World) (a : Addr) (ks : List Key) : HO := .ext fun h => SetQ w h a ks
def rSetQ (K : PySem.W.Frag) (w : World) : List V → Hp → VK → Prop := fun xs H Q => ∃ (l : Addr) (ks : List Key), xs = [V.ref l] ∧ SqL K H l (ks.map kV) ∧ ks.length + 1 < scanBound ∧ ∀ a, H a = none → Q (.ref a) (upd H a (SetQO w a (ks.foldl insK [])))
def rSortQ (w : World) : List V → Hp → VK → Prop := fun xs H Q => ∃ (a : Addr) (ks : List Key), xs = [V.ref a] ∧ H a = some (SetQO w a ks) ∧ ks.length ≤ sizeLine ∧ sameK ks = true ∧ ∀ p, H p = none → Q (.ref p) (upd H p (.lst ((srtK ks).map kV)))
section
variable {X : Cx} {G : Wh}
theorem setQO_new {w : World} {P : Program} {H : Hp} {h : Heap} {a : Addr} {ks : List Key} (R : SetQ w h a ks) : ObjOk P w H h a (SetQO w a ks) := by
  have ⟨o, _, _, _, ho, _⟩ := R
  exact ⟨R, ⟨o, ho⟩, fun h1 h2 p k => SetQ.keep p k⟩
theorem cr_setQ (hc : X.calm = true) : CallR X (.type "set") (rSetQ X.K X.w) := by
  intro pins s σ H xs us Q I r h
  obtain ⟨l, ks, rfl, hl, room, q⟩ := h
  rw [Vals.ref1 r]
  obtain ⟨its, rv, pl, hz⟩ := I.list hl
  refine callSet ks (I.ok.hd hc) pl.isList (by simpa using rv) room fun h' tk R k => ?_
  exact ⟨.ref s.heap.objs.size, upd H s.heap.objs.size (SetQO X.w s.heap.objs.size (ks.foldl insK [])), I.laid (t' := tk) k (Nat.le_refl _) (setQO_new R), rfl, q _ (I.hok.fresh (Nat.le_refl _))⟩
theorem cr_sortQ (hc : X.calm = true) (hu : X.A.units + 200 < cLine) : CallR X (.builtin "sorted") (rSortQ X.w) := by
  intro pins s σ H xs us Q I r h
  obtain ⟨a, ks, rfl, ha, hsz, hsm, q⟩ := h
  have R : SetQ X.w s.heap a ks := (I.hok a _ ha).1
  rw [Vals.ref1 r]
  refine sortedQ R (I.ok.hd hc) hsz hsm hu fun z p out c k g o hp hg hv => ?_
  have hlen : ((srtK ks).map kV).length ≤ sizeLine := by rw [List.length_map, (srtK_perm ks).length_eq]; exact hsz
  have J : Inv X pins σ (upd H p (.lst ((srtK ks).map kV))) { s with heap := z.heap, gens := z.gens, drawn := z.drawn, toks := z.toks } :=
    I.call (ch := []) (Un.laid k hp (I.hok.fresh hp)) (I.hok.laid k hp ⟨hlen, out.toList, c, hv, hg⟩) (by rw [g]; exact I.bare) (fun _ z => nomatch z)
  have e : z = { s with heap := z.heap, gens := z.gens, drawn := z.drawn, toks := z.toks } := by
    cases z; cases s; cases o; rfl
  rw [e]
  exact ⟨.ref p, _, J, rfl, q p (I.hok.fresh hp)⟩
/-- the items as keys -/
def keysL : List D → Option (List Key) := keysD
theorem reps_of_keys {K : PySem.W.Frag} {Z : Hp} : ∀ ks : List Key, Reps K Z (ks.map kV) (ks.map keyV)
  | [] => .nil
  | k :: ks => .cons (rep_key k) (reps_of_keys ks)
def sortKs (ks : List Key) : R D := if ks.length + 1 < scanBound ∧ sameK ks = true then .ok (.lst ((srtK (ks.foldl insK [])).map keyV)) else .no
def sortSet : D → R D
  | .lst ds => match keysD ds with
    | some ks => sortKs ks
    | none => .no
  | _ => .no
theorem mem_insK {ks : List Key} {k j : Key} : j ∈ insK ks k ↔ j ∈ ks ∨ j = k := by
  unfold insK
  split
  · rename_i h
    exact ⟨.inl, fun q => q.elim id fun e => e ▸ hasK_iff.mp h⟩
  · rw [List.mem_cons]; exact Or.comm
theorem mem_foldK {l : List Key} : ∀ {ks : List Key} {j : Key}, j ∈ l.foldl insK ks ↔ j ∈ ks ∨ j ∈ l := by
  induction l with
  | nil => intro ks j; simp
  | cons k l ih => intro ks j; rw [List.foldl_cons, ih, mem_insK, List.mem_cons, or_assoc]
theorem foldK_len {l : List Key} : ∀ {ks : List Key}, (l.foldl insK ks).length ≤ ks.length + l.length := by
  induction l with
  | nil => intro ks; simp
  | cons k l ih =>
    intro ks
    have h1 := ih (ks := insK ks k)
    have h2 := insK_len ks k
    rw [List.foldl_cons, List.length_cons]
    omega
theorem sameK_sub {ks ks' : List Key} (h : sameK ks = true) (s : ∀ k ∈ ks', k ∈ ks) : sameK ks' = true := by
  unfold sameK at *
  rw [Bool.or_eq_true] at *
  rcases h with h | h
  · left; rw [List.all_eq_true] at *; exact fun x hx => h x (s x hx)
  · right; rw [List.all_eq_true] at *; exact fun x hx => h x (s x hx)
theorem den_sortSet {e : Expr} {g : Env → R D} {m1 : Md} {p p2 q pos : Pos} (hc : X.calm = true) (hu : X.A.units + 200 < cLine) (he : Den X G m1 e g) (hg : Gl X "sorted") (hm : X.mg "sorted" = none) (hg2 : Gl X "set") (hm2 : X.mg "set" = none)
    (hs : starEach [e] X.env = (false, eval e X.env) :: starEach [] X.env) (hpl : (backTo q (starEach [] X.env)).any (·.1) = false) (hpl2 : (backTo pos (starEach [] X.env)).any (·.1) = false)
    (hs2 : starEach [.Call (.Name "set" p2) [e] [] q] X.env = (false, eval (.Call (.Name "set" p2) [e] [] q) X.env) :: starEach [] X.env) :
    Den X G .f (.Call (.Name "sorted" p) [.Call (.Name "set" p2) [e] [] q] [] pos) (ge1 sortSet g) := by
  obtain ⟨t, pt, qt⟩ := he.ex
  refine ⟨_, pe_callB (cr_sortQ hc hu) hg hm (by decide +kernel) (pa_cons (pe_callTy (cr_setQ hc) hg2 hm2 (by decide +kernel) (pa_cons pt pa_nil hs) (by decide) (by decide +kernel) hs hpl) pa_nil hs2) (by decide) (by decide +kernel) hs2 hpl2, fun Z0 H0 Z H σ ρ Q S h => ?_⟩
  refine qt Z0 H0 Z H σ ρ _ S ?_
  unfold ge1 at h
  cases ea : g ρ with
  | no => rw [ea] at h; exact h
  | ex c => rw [ea] at h; exact h
  | ok d =>
    rw [ea] at h
    intro v Z1 H1 g1 f1
    have h1 : Ans X.K G .f (sortSet d) Z1 H1 Q := Ans.grow h g1
    unfold sortSet at h1
    split at h1
    · rename_i ds
      split at h1
      · rename_i ks ek
        unfold sortKs at h1
        split at h1
        · rename_i hcond
          obtain ⟨a, vs, rfl, hh, r⟩ := now_lst g1.s (f1.now (Hx := H))
          have ev := keys_of r ek
          subst ev
          refine ⟨a, ks, rfl, SqL.of hh, hcond.1, fun b hb => ?_⟩
          have hsub : ∀ k ∈ ks.foldl insK [], k ∈ ks := fun k hk => (mem_foldK.mp hk).elim (fun z => by cases z) id
          have hl := foldK_len (l := ks) (ks := [])
          refine ⟨b, ks.foldl insK [], rfl, upd_same, by rw [sizeLine_eq]; have := hcond.1; unfold scanBound at this; simp at hl; omega, sameK_sub hcond.2 hsub, fun p hp => ?_⟩
          have gA : Grow G.T Z1 H1 Z1 (upd H1 b (SetQO X.w b (ks.foldl insK []))) := grow_new g1.s g1.n hb
          have h2 := Ans.grow h1 gA
          exact ansL gA.s gA.n h2 (reps_of_keys _) p hp
        · exact h1.elim
      · exact h1.elim
    · exact h1.elim
end
end VS

set_option Elab.async false
set_option linter.all false
set_option maxRecDepth 100000
set_option maxHeartbeats 4000000
/-! VS15: chains of comparisons, constants of the module, sorted(dict), statements that are not reached. -/
namespace VS
open PySem L2 LamX
section
variable {X : Cx} {G : Wh}
/-- a statement that is never reached -/
theorem dens_no {st : Stmt} : DenS X G st (fun _ => .no) := ⟨fun _ _ _ => False, ⟨fun pins s σ H D I h => h.elim⟩, fun Z0 H0 Z H σ ρ D S h => h⟩
theorem denb_no {sts : List Stmt} : DenB X G sts (fun _ => .no) := ⟨fun _ _ _ => False, ⟨fun pins s σ H D I h => h.elim⟩, fun Z0 H0 Z H σ ρ D S h => h⟩
theorem den_no {e : Expr} {m : Md} : Den X G m e (fun _ => .no) := ⟨fun _ _ _ => False, ⟨fun pins s σ H Q I h => h.elim⟩, fun Z0 H0 Z H σ ρ Q S h => h⟩
theorem den_glob {x : Str} {v : V} {d : D} {u : Value} {pos : Pos} (hg : Gl X x) (hm : X.mg x = some u) (r : RelV v u) (hd : (x == ("__debug__" : Str)) = false) (rp : ∀ Z, Rep X.K Z v d) : Den X G .c (.Name x pos) (fun _ => .ok d) :=
  den_tC (pe_glob hg hm r hd) rp
theorem den_globI {x : Str} {i : Int} {pos : Pos} (hg : Gl X x) (hm : ∃ t, X.mg x = some (.int i t)) (hd : (x == ("__debug__" : Str)) = false) : Den X G .c (.Name x pos) (fun _ => .ok (.int i)) := by
  obtain ⟨t, hm⟩ := hm
  exact den_glob (v := .int i) hg hm ⟨t, rfl⟩ hd fun Z => .int i
theorem den_globS {x z : Str} {pos : Pos} (hg : Gl X x) (hm : ∃ t, X.mg x = some (.str z t)) (hd : (x == ("__debug__" : Str)) = false) : Den X G .c (.Name x pos) (fun _ => .ok (.str z)) := by
  obtain ⟨t, hm⟩ := hm
  exact den_glob (v := .str z) hg hm ⟨t, rfl⟩ hd fun Z => .str z
/-- a op b op' c -/
def geChain (f f' : D → D → R D) (ga gb gc : Env → R D) : Env → R D := fun ρ => do
  let x ← ga ρ
  let y ← gb ρ
  let k ← geB (fun _ => f x y) ρ
  if k then do let z ← gc ρ; f' y z else pure (.bl false)
theorem ans_chain {r r' : R2} {f f' : D → D → R D} {m1 m2 m3 : Md} {ta tb tc : TE} {ga gb gc : Env → R D} (hr : RDen X.K G r .c f) (hr' : RDen X.K G r' .c f')
    (ha : ∀ Z0 H0 Z H σ ρ Q, Sim X.K G.T Z0 H0 Z H σ ρ → Ans X.K G m1 (ga ρ) Z H Q → ta σ H Q) (hb : ∀ Z0 H0 Z H σ ρ Q, Sim X.K G.T Z0 H0 Z H σ ρ → Ans X.K G m2 (gb ρ) Z H Q → tb σ H Q)
    (hc : ∀ Z0 H0 Z H σ ρ Q, Sim X.K G.T Z0 H0 Z H σ ρ → Ans X.K G m3 (gc ρ) Z H Q → tc σ H Q)
    {Z0 H0 Z H : Hp} {σ : L2.St} {ρ : Env} {Q : VK} (S : Sim X.K G.T Z0 H0 Z H σ ρ) (h : Ans X.K G .c (geChain f f' ga gb gc ρ) Z H Q) : tChain r r' ta tb tc σ H Q := by
  unfold geChain at h
  refine ha Z0 H0 Z H σ ρ _ S ?_
  cases ea : ga ρ with
  | no => rw [ea] at h; exact h
  | ex c => rw [ea] at h; exact h
  | ok dx =>
    rw [ea] at h
    intro x Z1 H1 g1 f1
    refine hb Z0 H0 Z1 H1 σ ρ _ (S.grow g1) ?_
    cases eb : gb ρ with
    | no => rw [eb] at h; exact h
    | ex c => rw [eb] at h; exact fun Z' H' g' => h Z' H' (g1.trans g')
    | ok dy =>
      rw [eb] at h
      intro y Z2 H2 g2 f2
      have g12 := g1.trans g2
      refine hr x y dx dy Z2 H2 _ g2.s g2.n (Now.grow g2 (f1.now (Hx := H))) f2.now ?_
      have h2 : Ans X.K G .c (do let k ← geB (fun _ => f dx dy) ρ; if k then (do let z ← gc ρ; f' dy z) else pure (.bl false)) Z2 H2 Q := Ans.grow h g12
      unfold geB at h2
      cases ef : f dx dy with
      | no => rw [ef] at h2; exact h2
      | ex c => rw [ef] at h2; exact h2
      | ok d =>
        rw [ef] at h2
        cases d with
        | bl k =>
          intro v Z3 H3 g3 f3
          cases f3
          refine ⟨k, rfl, ?_⟩
          cases k with
          | false => rw [if_neg Bool.false_ne_true]; exact h2 _ Z3 H3 g3 (.bl _)
          | true =>
            rw [if_pos rfl]
            refine hc Z0 H0 Z3 H3 σ ρ _ ((S.grow g12).grow g3) ?_
            have h3 : Ans X.K G .c (do let z ← gc ρ; f' dy z) Z3 H3 Q := Ans.grow h2 g3
            cases ec : gc ρ with
            | no => rw [ec] at h3; exact h3
            | ex c => rw [ec] at h3; exact h3
            | ok dz =>
              rw [ec] at h3
              intro z Z4 H4 g4 f4
              exact hr' y z dy dz Z4 H4 Q g4.s g4.n (Now.grow (g3.trans g4) (f2.now (Hx := H))) f4.now (Ans.grow h3 g4)
        | non => exact False.elim h2
        | int _ => exact False.elim h2
        | str _ => exact False.elim h2
        | tup _ => exact False.elim h2
        | lst _ => exact False.elim h2
        | dK _ => exact False.elim h2
        | dT _ => exact False.elim h2
        | scr _ => exact False.elim h2
section
variable {op op' : CmpOp} {a b c : Expr} {pos : Pos} {r r' : R2} {f f' : D → D → R D} {m1 m2 m3 : Md} {ga gb gc : Env → R D}
theorem den_chain (ho : OpR X (compareOp op) r) (ho' : OpR X (compareOp op') r') (hr : RDen X.K G r .c f) (hr' : RDen X.K G r' .c f') (ha : Den X G m1 a ga) (hb : Den X G m2 b gb) (hc : Den X G m3 c gc) (hm : lastMarks [op, op'] [b, c] = false) :
    Den X G .c (.Compare a [op, op'] [b, c] pos) (geChain f f' ga gb gc) := by
  obtain ⟨ta, pa, qa⟩ := ha.ex
  obtain ⟨tb, pb, qb⟩ := hb.ex
  obtain ⟨tc, pc, qc⟩ := hc.ex
  exact ⟨_, pe_chain ho ho' pa pb pc hm, fun Z0 H0 Z H σ ρ Q S h => ans_chain hr hr' qa qb qc S h⟩
theorem dent_chain (ho : OpR X (compareOp op) r) (ho' : OpR X (compareOp op') r') (hr : RDen X.K G r .c f) (hr' : RDen X.K G r' .c f') (ha : Den X G m1 a ga) (hb : Den X G m2 b gb) (hc : Den X G m3 c gc) (hm : lastMarks [op, op'] [b, c] = false) :
    DenT X G (.Compare a [op, op'] [b, c] pos) (geB (geChain f f' ga gb gc)) := by
  obtain ⟨ta, pa, qa⟩ := ha.ex
  obtain ⟨tb, pb, qb⟩ := hb.ex
  obtain ⟨tc, pc, qc⟩ := hc.ex
  refine ⟨_, pt_chain ho ho' pa pb pc hm, fun Z0 H0 Z H σ ρ Q S h => ?_⟩
  exact ans_B (te := tChain r r' ta tb tc) (m := .c) (fun Z0 H0 Z H σ ρ Q S h => ans_chain hr hr' qa qb qc S h) S h
end
/-! ### sorted(d), fewer than 64 keys -/
def keyI : Key → Int | .inl i => i | .inr _ => 0
def keyT : Key → Str | .inl _ => Str.empty | .inr x => x
def rSortDct : List V → Hp → VK → Prop := fun xs H Q => ∃ (a : Addr) (kvs : List (Key × V)), xs = [.ref a] ∧ Rd H a (.dK kvs) ∧ kvs.length < 64 ∧ sameK (kvs.map (·.1)) = true ∧ ∀ p, H p = none → Q (.ref p) (upd H p (.lst ((srtK (kvs.map (·.1))).map kV)))
theorem all_inl {ks : List Key} (h : ks.all isL = true) : ks = (ks.map keyI).map Sum.inl := by
  induction ks with
  | nil => rfl
  | cons k ks ih =>
    rw [List.all_cons, Bool.and_eq_true] at h
    cases k with
    | inl i => simp only [List.map_cons, keyI]; rw [← ih h.2]
    | inr x => cases h.1
theorem all_inr {ks : List Key} (h : (ks.all fun k => !isL k) = true) : ks = (ks.map keyT).map Sum.inr := by
  induction ks with
  | nil => rfl
  | cons k ks ih =>
    rw [List.all_cons, Bool.and_eq_true] at h
    cases k with
    | inl i => cases h.1
    | inr x => simp only [List.map_cons, keyT]; rw [← ih h.2]
theorem srtK_inl {ks : List Key} {ys : List Int} (p : (ys.map Sum.inl).Perm ks) (h : ys.Pairwise (· ≤ ·)) : ys.map (Sum.inl : Int → Key) = srtK ks := by
  refine List.Perm.eq_of_pairwise (fun a b _ _ h q => leK_anti a b h q) ?_ (srtK_pw ks) (p.trans (srtK_perm ks).symm)
  rw [List.pairwise_map]
  exact h.imp fun q => decide_eq_true q
theorem ltCps_eq : ∀ a b : List Nat, PySem.Spec.ltCps a b = decide (a < b)
  | [], [] => by simp [PySem.Spec.ltCps]
  | [], _ :: _ => by simp [PySem.Spec.ltCps]
  | _ :: _, [] => by simp [PySem.Spec.ltCps]
  | a :: r, b :: t => by
    rw [PySem.Spec.ltCps, ltCps_eq r t, Bool.eq_iff_iff]
    simp [List.cons_lt_cons_iff]
theorem nlt_le {x y : Str} (h : (!PySem.Spec.ltCps x.cps.toList y.cps.toList) = true) : leK (.inr y) (.inr x) = true := by
  rw [ltCps_eq, Bool.not_eq_true', decide_eq_false_iff_not] at h
  exact decide_eq_true (List.not_lt.mp h)
theorem risingS_all : ∀ {ys : List Str} {p : Str}, PyProof.Rows.risingS p ys = true → (p :: ys).Pairwise fun a b => leK (.inr a) (.inr b) = true
  | [], p, _ => List.pairwise_singleton _ _
  | x :: r, p, h => by
    unfold PyProof.Rows.risingS at h
    rw [Bool.and_eq_true] at h
    have ih := risingS_all h.2
    refine List.pairwise_cons.mpr ⟨fun y hy => ?_, ih⟩
    have h1 := nlt_le h.1
    rcases List.mem_cons.mp hy with rfl | hy
    · exact h1
    · exact leK_trans _ _ _ h1 ((List.pairwise_cons.mp ih).1 y hy)
theorem srtK_inr {ks : List Key} {ys : List Str} (p : (ys.map Sum.inr).Perm ks) (h : PyProof.Rows.sortedS ys = true) : ys.map (Sum.inr : Str → Key) = srtK ks := by
  refine List.Perm.eq_of_pairwise (fun a b _ _ h q => leK_anti a b h q) ?_ (srtK_pw ks) (p.trans (srtK_perm ks).symm)
  rw [List.pairwise_map]
  cases ys with
  | nil => exact .nil
  | cons x r => exact risingS_all h
theorem callR_or {f : Value} {r r' : List V → Hp → VK → Prop} (h : CallR X f r) (h' : CallR X f r') : CallR X f (fun xs H Q => r xs H Q ∨ r' xs H Q) := by
  intro pins s σ H xs us Q I rv q
  rcases q with q | q
  · exact h pins s σ H xs us Q I rv q
  · exact h' pins s σ H xs us Q I rv q
theorem callR_mono {f : Value} {r r' : List V → Hp → VK → Prop} (h : CallR X f r) (k : ∀ xs H Q, r' xs H Q → r xs H Q) : CallR X f r' := by
  intro pins s σ H xs us Q I rv q
  exact h pins s σ H xs us Q I rv (k _ _ _ q)
theorem kV_maps (ks : List Key) : (ks.all isL = true → ks.map kV = (ks.map keyI).map V.int) ∧ ((ks.all fun k => !isL k) = true → ks.map kV = (ks.map keyT).map V.str) := by
  constructor
  · intro h; conv => lhs; rw [all_inl h]
    rw [List.map_map]; rfl
  · intro h; conv => lhs; rw [all_inr h]
    rw [List.map_map]; rfl
theorem cr_sortDct (hc : X.calm = true) : CallR X (.builtin "sorted") rSortDct := by
  refine callR_mono (callR_or (call_sortedD hc) (call_sortedDI hc)) fun xs H Q ⟨a, kvs, e, hd, hl, hs, q⟩ => ?_
  unfold sameK at hs
  rw [Bool.or_eq_true] at hs
  rcases hs with hs | hs
  · refine .inr ⟨a, kvs, (kvs.map (·.1)).map keyI, e, hd, all_inl hs, by simpa using hl, fun ys p pm pw hp => ?_⟩
    have e1 : ys.map (Sum.inl : Int → Key) = srtK (kvs.map (·.1)) := srtK_inl (by
      have := pm.map (Sum.inl : Int → Key)
      rw [← all_inl hs] at this
      exact this) pw
    have := q p hp
    rw [← e1, List.map_map] at this
    exact this
  · refine .inl ⟨a, kvs, (kvs.map (·.1)).map keyT, e, hd, all_inr hs, by simpa using hl, fun ys p pm pw hp => ?_⟩
    have e1 : ys.map (Sum.inr : Str → Key) = srtK (kvs.map (·.1)) := srtK_inr (by
      have := pm.map (Sum.inr : Str → Key)
      rw [← all_inr hs] at this
      exact this) pw
    have := q p hp
    rw [← e1, List.map_map] at this
    exact this
def sortDct : List D → R D
  | [.dK kvs] => if kvs.length < 64 ∧ sameK (kvs.map (·.1)) = true then .ok (.lst ((srtK (kvs.map (·.1))).map keyV)) else .no
  | _ => .no
theorem keysP {K : PySem.W.Frag} {Z : Hp} : ∀ {vs : List (Key × V)} {ds : List (Key × D)}, RepsP K Z vs ds → vs.map (·.1) = ds.map (·.1)
  | _, _, .nil => rfl
  | _, _, .cons _ t => by rw [List.map_cons, List.map_cons, keysP t]
theorem ad_sortDct {K : PySem.W.Frag} : ADen K G rSortDct .t .f sortDct := by
  intro vs ds Z H Q s n f h
  unfold sortDct at h
  split at h
  · split at h
    · rename_i kvs hc
      obtain ⟨v, rfl, fv⟩ := fins1 f
      obtain ⟨a, us, rfl, hh, r⟩ := now_dK s fv
      refine ⟨a, us, rfl, hh, by rw [r.length]; exact hc.1, by rw [keysP r]; exact hc.2, fun p hp => ?_⟩
      rw [keysP r]
      exact ansL s n h (reps_of_keys _) p hp
    · exact h.elim
  · exact h.elim
end
end VS

set_option Elab.async false
set_option linter.all false
set_option maxRecDepth 100000
set_option maxHeartbeats 4000000
/-! VN16: defs of the text; the law's end. -/
namespace VS
open PySem PySem.Spec PyProof.Rows L2 LamX
abbrev FnP (K : PySem.W.Frag) (x : Str) (st : Stmt) (f : Addr) (fd : FuncData) : Prop := FunD K x x (defArgs st) (defBody st) (defScope st) [] [] f fd
section
variable {P : Program} {w : World} {K : PySem.W.Frag} {mg : Str → Option Value} {base : Heap}
/-- THE RULE for a def: its body tells fb -/
theorem def_okD {x : Str} {st : Stmt} {f : Addr} {fd : FuncData} {N ps : List Str} {k : Nat} {T : List (Addr × Str)} {cl : Str → Addr} {fb : Env → Out} (F : FnP K x st f fd) (S : FnScope N ps (defScope st)) (hps : ps.length ≤ N.length)
    (hb : ∀ (cdv : Value) (A : Around) (outer : List PySem.Env) (s : Shared) (H : Hp) (E : XK), Room k (A.deeper (envOfC x (defScope st) s.heap.objs.size f cdv)) →
      DenB (cxOf (L2N.CX P w) P w K mg base N x (defScope st) f cdv A outer s H E) ⟨T, cl, E⟩ (defBody st) fb) :
    FnOk P w K mg base (L2N.CX P w) (k + 1) f fd ps (spD K T cl ps.length (runDef N.length fb)) := by
  refine F.ok S (fun vs H Q E h => ?_) (fun cdv A outer s H vs Q E hr h => ?_)
  · obtain ⟨Z, ds, _, _, _, r, hl, _⟩ := h
    rw [r.length, hl]
  · obtain ⟨Z, ds, hs, hn, ht, r, hl, h⟩ := h
    obtain ⟨t, p, q⟩ := (hb cdv A outer s H E hr).ex
    refine ⟨t, p, q Z H Z H _ (startE N.length ds) _ (sim_start hs hn ht r (by rw [r.length, hl]; exact hps)) ?_⟩
    unfold runDef at h
    cases e : fb (startE N.length ds) with
    | nx ρ => rw [e] at h; exact fun Z' H' σ' S' => h _ Z' H' S'.g S'.tabs .non
    | rt d => rw [e] at h; exact fun v Z' H' g t r => h v Z' H' g t r
    | ex c => rw [e] at h; exact fun Z' H' g t => h Z' H' g t
    | bk ρ => rw [e] at h; exact h.elim
    | ct ρ => rw [e] at h; exact h.elim
    | no => rw [e] at h; exact h.elim
def noF : List D → R D := fun _ => .no
theorem def_no {x : Str} {st : Stmt} {f : Addr} {fd : FuncData} {N ps : List Str} {k : Nat} {T : List (Addr × Str)} {cl : Str → Addr} (F : FnP K x st f fd) (S : FnScope N ps (defScope st)) :
    FnOk P w K mg base (L2N.CX P w) (k + 1) f fd ps (spD K T cl ps.length noF) :=
  F.ok S (fun vs H Q E ⟨_, _, _, _, _, _, _, h⟩ => h.elim) fun cdv A outer s H vs Q E hr ⟨_, _, _, _, _, _, _, h⟩ => h.elim
theorem fnOk0 {f : Addr} {fd : FuncData} {ps : List Str} {k : Nat} {sp : Sp} (F : FnOk P w K mg base (L2N.CX P w) k f fd ps sp) : FnOk P w K mg base CX0 k f fd ps (fun vs H Q _ => sp vs H Q E0) :=
  ⟨fun vs H Q E h => F.len vs H Q E0 h, fun A outer s H args us vs Q E hr he hb hv hs => codeAny_mono (F.run A outer s H args us vs Q E0 hr he hb hv hs) fun r s' q => by
    cases r with
    | ok fl => cases fl <;> exact q
    | error e =>
      obtain ⟨_, _, _, _, _, _, _, _, _, _, _, _, z⟩ := q
      exact z.elim⟩
section
variable {N : List Str} {qual : Str} {scope : Scope} {f : Addr} {cd : Value} {A : Around} {outer : List PySem.Env} {s : Shared} {H : Hp} {E : XK}
abbrev bodyX (P : Program) (w : World) (K : PySem.W.Frag) (mg : Str → Option Value) (base : Heap) (N : List Str) (qual : Str) (scope : Scope) (f : Addr) (cd : Value) (A : Around) (outer : List PySem.Env) (s : Shared) (H : Hp) (E : XK) : Cx :=
  cxOf (L2N.CX P w) P w K mg base N qual scope f cd A outer s H E
theorem body_takes : L2N.Takes (bodyX P w K mg base N qual scope f cd A outer s H E) (fun cls d _ H => E cls d H) := L2N.takes_of rfl rfl rfl rfl
theorem body_pass : Passes (L2N.CX P w) (bodyX P w K mg base N qual scope f cd A outer s H E) E := L2N.passes_call body_takes fun _ _ _ _ h => h
theorem body_own : PassesOwn (model P w) (bodyX P w K mg base N qual scope f cd A outer s H E).A (bodyX P w K mg base N qual scope f cd A outer s H E).env (bodyX P w K mg base N qual scope f cd A outer s H E).xe := passes_of rfl
end
end
section
variable {X : Cx} {G : Wh}
theorem den_neg {a : Expr} {pos : Pos} {m : Md} {g : Env → R D} (h : Den X G m a g) : Den X G .c (.UnaryOp .USub a pos) (ge1 (subI (.int 0)) g) := by
  obtain ⟨t, p, q⟩ := h.ex
  refine ⟨_, pe_un un_neg p, fun Z0 H0 Z H σ ρ Q S k => ?_⟩
  refine q Z0 H0 Z H σ ρ _ S ?_
  unfold ge1 at k
  cases ea : g ρ with
  | no => rw [ea] at k; exact k
  | ex c => rw [ea] at k; exact k
  | ok d =>
    rw [ea] at k
    intro v Z1 H1 g1 f1
    exact un_negA g1.s g1.n (f1.now (Hx := H)) (Ans.grow (show Ans X.K G .c (subI (.int 0) d) Z H Q from k) g1)
end
/-! ### constants -/
def gI (i : Int) : Env → R D := fun _ => .ok (.int i)
def gS (z : Str) : Env → R D := fun _ => .ok (.str z)
def gB (b : Bool) : Env → R D := fun _ => .ok (.bl b)
def gN : Env → R D := fun _ => .ok .non
section
variable {X : Cx} {G : Wh}
theorem dI {i : Int} {j : Nat} {pos : Pos} : Den X G .c (.Constant (.int i) j pos) (gI i) := den_tC pe_int fun _ => .int i
theorem dS {z : Str} {j : Nat} {pos : Pos} : Den X G .c (.Constant (.str z) j pos) (gS z) := den_tC pe_str fun _ => .str z
theorem dB {b : Bool} {j : Nat} {pos : Pos} : Den X G .c (.Constant (.bool b) j pos) (gB b) := den_tC pe_bl fun _ => .bl b
theorem dN {j : Nat} {pos : Pos} : Den X G .c (.Constant .none j pos) gN := den_tC pe_non fun _ => .non
theorem dGI {x : Str} {i : Int} {pos : Pos} (hg : Gl X x) (hm : ∃ t, X.mg x = some (.int i t)) (hd : (x == ("__debug__" : Str)) = false) : Den X G .c (.Name x pos) (gI i) := den_globI hg hm hd
theorem dGS {x z : Str} {pos : Pos} (hg : Gl X x) (hm : ∃ t, X.mg x = some (.str z t)) (hd : (x == ("__debug__" : Str)) = false) : Den X G .c (.Name x pos) (gS z) := den_globS hg hm hd
end
/-- no exception is told: within a comprehension -/
theorem takes00 {X : Cx} : L2N.Takes X (fun _ _ _ _ => False) := fun _ _ x => by
  obtain ⟨_, _, _, _, _, _, _, _, _, _, _, _, _, _, _, _, z⟩ := x
  exact z.elim
theorem passLN {X : Cx} : Passes (L2N.CX X.prog X.w) X E0 := L2N.passes_call takes00 (fun _ _ _ _ z => z)
end VS

set_option Elab.async false
set_option linter.all false
set_option maxRecDepth 100000
set_option maxHeartbeats 4000000
/-! VN17: the rules with their small conditions filled in. -/
namespace VS
open PySem PySem.Spec PyProof.Rows L2 LamX
section
variable {X : Cx} {G : Wh} {m m1 m2 : Md} {a b e : Expr} {ga gb g : VS.Env → R D} {pos : Pos}
theorem denb_one {s : Stmt} {f : VS.Env → Out} (h : DenS X G s f) : DenB X G [s] f := by
  obtain ⟨t, p, q⟩ := h.ex
  exact ⟨_, pss_one p, q⟩
theorem v {i : Nat} {x : Str} (hN : X.N[i]? = some x := by rfl) (hv : Vis X.env.scope x := by first | exact .inl (by rfl) | exact .inr (.inl (by rfl)) | exact .inr (.inr (by rfl))) (hd : (x == ("__debug__" : Str)) = false := by rfl) (hcd : (x == ("__classdict__" : Str)) = false := by rfl) :
    Den X G .c (.Name x pos) (geV i) := den_var hN hv hd hcd
theorem vt {i : Nat} {x : Str} (hN : X.N[i]? = some x := by rfl) (hv : Vis X.env.scope x := by first | exact .inl (by rfl) | exact .inr (.inl (by rfl)) | exact .inr (.inr (by rfl))) (hd : (x == ("__debug__" : Str)) = false := by rfl) (hcd : (x == ("__classdict__" : Str)) = false := by rfl) :
    Den X G .t (.Name x pos) (geT i) := den_varT hN hv hd hcd
theorem cI {x : Str} {i : Int} (hm : ∃ t, X.mg x = some (.int i t)) (hg : Gl X x := by rfl) (hd : (x == ("__debug__" : Str)) = false := by rfl) : Den X G .c (.Name x pos) (gI i) := dGI hg hm hd
theorem cS {x z : Str} (hm : ∃ t, X.mg x = some (.str z t)) (hg : Gl X x := by rfl) (hd : (x == ("__debug__" : Str)) = false := by rfl) : Den X G .c (.Name x pos) (gS z) := dGS hg hm hd
/-! operators -/
section
variable (ha : Den X G m1 a ga) (hb : Den X G m2 b gb)
include ha hb
theorem addi : Den X G .c (.BinOp a .Add b pos) (geOp addI ga gb) := den_op op_add rd_addI ha hb
theorem subi : Den X G .c (.BinOp a .Sub b pos) (geOp subI ga gb) := den_op op_sub rd_subI ha hb
theorem muli : Den X G .c (.BinOp a .Mult b pos) (geOp mulI ga gb) := den_op op_mulA rd_mulI ha hb
theorem fdivi : Den X G .c (.BinOp a .FloorDiv b pos) (geOp fdivI ga gb) := den_op op_fdivW rd_fdivI ha hb
theorem modi : Den X G .c (.BinOp a .Mod b pos) (geOp modI ga gb) := den_op op_mod rd_modI ha hb
theorem adds : Den X G .c (.BinOp a .Add b pos) (geOp addS ga gb) := den_op op_add_str rd_addS ha hb
theorem addt : Den X G .c (.BinOp a .Add b pos) (geOp addT ga gb) := den_op op_catA rd_addT ha hb
theorem catl : Den X G .f (.BinOp a .Add b pos) (geOp catL ga gb) := den_op op_cat rd_catL ha hb
theorem repl : Den X G .f (.BinOp a .Mult b pos) (geOp repL ga gb) := den_op op_rep rd_repL ha hb
/-! comparisons -/
theorem lti (hm : behindInMarks .Lt b = false := by rfl) : Den X G .c (.Compare a [.Lt] [b] pos) (geOp (cmI fun i j => decide (i < j)) ga gb) := den_cmp op_lt rd_cmI ha hb hm
theorem lei (hm : behindInMarks .LtE b = false := by rfl) : Den X G .c (.Compare a [.LtE] [b] pos) (geOp (cmI fun i j => decide (i ≤ j)) ga gb) := den_cmp op_le rd_cmI ha hb hm
theorem gti (hm : behindInMarks .Gt b = false := by rfl) : Den X G .c (.Compare a [.Gt] [b] pos) (geOp (cmI fun i j => decide (j < i)) ga gb) := den_cmp op_gt rd_cmI ha hb hm
theorem gei (hm : behindInMarks .GtE b = false := by rfl) : Den X G .c (.Compare a [.GtE] [b] pos) (geOp (cmI fun i j => decide (j ≤ i)) ga gb) := den_cmp op_ge rd_cmI ha hb hm
theorem lts (hm : behindInMarks .Lt b = false := by rfl) : Den X G .c (.Compare a [.Lt] [b] pos) (geOp (cmS fun i j => decide (i < j)) ga gb) := den_cmp op_lt_str rd_cmS ha hb hm
theorem eqa (hu : X.A.units + 200 < cLine) (hm : behindInMarks .Eq b = false := by rfl) : Den X G .c (.Compare a [.Eq] [b] pos) (geOp cmEq ga gb) := den_cmp (op_eqS hu) rd_eq ha hb hm
theorem nea (hu : X.A.units + 200 < cLine) (hm : behindInMarks .NotEq b = false := by rfl) : Den X G .c (.Compare a [.NotEq] [b] pos) (geOp cmNe ga gb) := den_cmp (op_neS hu) rd_ne ha hb hm
theorem ins (hm : behindInMarks .In b = false := by rfl) : Den X G .c (.Compare a [.In] [b] pos) (geOp (inS false) ga gb) := den_cmp op_in_sign rd_inS ha hb hm
theorem inf (hm : behindInMarks .In b = false := by rfl) : Den X G .c (.Compare a [.In] [b] pos) (geOp (inF false) ga gb) := den_cmp op_in_seq rd_inF ha hb hm
theorem nif (hm : behindInMarks .NotIn b = false := by rfl) : Den X G .c (.Compare a [.NotIn] [b] pos) (geOp (inF true) ga gb) := den_cmp op_notIn_seq rd_inF ha hb hm
theorem ind (hu : X.A.units + 1 < cLine) (hm : behindInMarks .In b = false := by rfl) : Den X G .c (.Compare a [.In] [b] pos) (geOp (inD false) ga gb) := den_inD hu ha hb hm
theorem nid (hu : X.A.units + 1 < cLine) (hm : behindInMarks .NotIn b = false := by rfl) : Den X G .c (.Compare a [.NotIn] [b] pos) (geOp (inD true) ga gb) := den_niD hu ha hb hm
/-! .. as tests -/
theorem tlti (hm : behindInMarks .Lt b = false := by rfl) : DenT X G (.Compare a [.Lt] [b] pos) (geB (geOp (cmI fun i j => decide (i < j)) ga gb)) := dent_cmp op_lt rd_cmI ha hb hm
theorem tlei (hm : behindInMarks .LtE b = false := by rfl) : DenT X G (.Compare a [.LtE] [b] pos) (geB (geOp (cmI fun i j => decide (i ≤ j)) ga gb)) := dent_cmp op_le rd_cmI ha hb hm
theorem tgti (hm : behindInMarks .Gt b = false := by rfl) : DenT X G (.Compare a [.Gt] [b] pos) (geB (geOp (cmI fun i j => decide (j < i)) ga gb)) := dent_cmp op_gt rd_cmI ha hb hm
theorem tgei (hm : behindInMarks .GtE b = false := by rfl) : DenT X G (.Compare a [.GtE] [b] pos) (geB (geOp (cmI fun i j => decide (j ≤ i)) ga gb)) := dent_cmp op_ge rd_cmI ha hb hm
theorem tlts (hm : behindInMarks .Lt b = false := by rfl) : DenT X G (.Compare a [.Lt] [b] pos) (geB (geOp (cmS fun i j => decide (i < j)) ga gb)) := dent_cmp op_lt_str rd_cmS ha hb hm
theorem teqa (hu : X.A.units + 200 < cLine) (hm : behindInMarks .Eq b = false := by rfl) : DenT X G (.Compare a [.Eq] [b] pos) (geB (geOp cmEq ga gb)) := dent_cmp (op_eqS hu) rd_eq ha hb hm
theorem tnea (hu : X.A.units + 200 < cLine) (hm : behindInMarks .NotEq b = false := by rfl) : DenT X G (.Compare a [.NotEq] [b] pos) (geB (geOp cmNe ga gb)) := dent_cmp (op_neS hu) rd_ne ha hb hm
theorem tins (hm : behindInMarks .In b = false := by rfl) : DenT X G (.Compare a [.In] [b] pos) (geB (geOp (inS false) ga gb)) := dent_cmp op_in_sign rd_inS ha hb hm
theorem tinf (hm : behindInMarks .In b = false := by rfl) : DenT X G (.Compare a [.In] [b] pos) (geB (geOp (inF false) ga gb)) := dent_cmp op_in_seq rd_inF ha hb hm
theorem tnif (hm : behindInMarks .NotIn b = false := by rfl) : DenT X G (.Compare a [.NotIn] [b] pos) (geB (geOp (inF true) ga gb)) := dent_cmp op_notIn_seq rd_inF ha hb hm
theorem tind (hu : X.A.units + 1 < cLine) (hm : behindInMarks .In b = false := by rfl) : DenT X G (.Compare a [.In] [b] pos) (geB (geOp (inD false) ga gb)) := by
  obtain ⟨ta, pa, qa⟩ := ha.ex
  obtain ⟨tb, pb, qb⟩ := hb.ex
  refine dent_of (m := .c) (pc_din hu pa pb) hm fun Z0 H0 Z H σ ρ Q S h => ?_
  refine ans_op (r := fun y x H2 Q => ∃ a o, x = .ref a ∧ DGet H2 a y o ∧ Q (.bl o.isSome) H2) (fun y x dy dx Z H Q s n hy hx h => ?_) qa qb S h
  unfold inD at h
  split at h
  · rename_i oo e
    obtain ⟨a, r, rfl, g, _, h1, h2⟩ := look_get s hx hy e
    refine ⟨a, r, rfl, g, ?_⟩
    have : r.isSome = oo.isSome := by
      cases oo with
      | none => rw [h2 rfl]; rfl
      | some d => obtain ⟨v, rfl, _⟩ := h1 d rfl; rfl
    rw [this]
    exact ansC s n h (.bl _)
  · exact h.elim
theorem tnid (hu : X.A.units + 1 < cLine) (hm : behindInMarks .NotIn b = false := by rfl) : DenT X G (.Compare a [.NotIn] [b] pos) (geB (geOp (inD true) ga gb)) := by
  obtain ⟨ta, pa, qa⟩ := ha.ex
  obtain ⟨tb, pb, qb⟩ := hb.ex
  refine dent_of (m := .c) (pc_dnotin hu pa pb) hm fun Z0 H0 Z H σ ρ Q S h => ?_
  refine ans_op (r := fun y x H2 Q => ∃ a o, x = .ref a ∧ DGet H2 a y o ∧ Q (.bl (!o.isSome)) H2) (fun y x dy dx Z H Q s n hy hx h => ?_) qa qb S h
  unfold inD at h
  split at h
  · rename_i oo e
    obtain ⟨a, r, rfl, g, _, h1, h2⟩ := look_get s hx hy e
    refine ⟨a, r, rfl, g, ?_⟩
    have : r.isSome = oo.isSome := by
      cases oo with
      | none => rw [h2 rfl]; rfl
      | some d => obtain ⟨v, rfl, _⟩ := h1 d rfl; rfl
    rw [this]
    exact ansC s n h (.bl _)
  · exact h.elim
/-! places -/
theorem ixl (hs : PlainIx b := by intro _ _; rfl) : Den X G .c (.Subscript a b pos) (geOp ixL ga gb) := den_ix ix_list rd_ixL ha hb hs
theorem ixt (hs : PlainIx b := by intro _ _; rfl) : Den X G .c (.Subscript a b pos) (geOp ixT ga gb) := den_ix ix_tup rd_ixT ha hb hs
theorem ixs (hs : PlainIx b := by intro _ _; rfl) : Den X G .c (.Subscript a b pos) (geOp ixS ga gb) := den_ix ix_str rd_ixS ha hb hs
theorem ixc (hs : PlainIx b := by intro _ _; rfl) : Den X G .c (.Subscript a b pos) (geOp ixC ga gb) := den_ix ix_list rd_ixC ha hb hs
theorem ixd (hu : X.A.units + 1 < cLine) (hs : NoSl b := by intro _ _; rfl) : Den X G .c (.Subscript a b pos) (geOp ixD ga gb) := den_ixD hu ha hb hs
end
/-! chains of ints -/
section
variable {c : Expr} {gc : VS.Env → R D} {m3 : Md} (ha : Den X G m1 a ga) (hb : Den X G m2 b gb) (hc : Den X G m3 c gc)
include ha hb hc
theorem chle (hm : lastMarks [.LtE, .LtE] [b, c] = false := by with_unfolding_all rfl) : Den X G .c (.Compare a [.LtE, .LtE] [b, c] pos) (geChain (cmI fun i j => decide (i ≤ j)) (cmI fun i j => decide (i ≤ j)) ga gb gc) := den_chain op_le op_le rd_cmI rd_cmI ha hb hc hm
theorem tchle (hm : lastMarks [.LtE, .LtE] [b, c] = false := by with_unfolding_all rfl) : DenT X G (.Compare a [.LtE, .LtE] [b, c] pos) (geB (geChain (cmI fun i j => decide (i ≤ j)) (cmI fun i j => decide (i ≤ j)) ga gb gc)) := dent_chain op_le op_le rd_cmI rd_cmI ha hb hc hm
theorem tchlt (hm : lastMarks [.LtE, .Lt] [b, c] = false := by with_unfolding_all rfl) : DenT X G (.Compare a [.LtE, .Lt] [b, c] pos) (geB (geChain (cmI fun i j => decide (i ≤ j)) (cmI fun i j => decide (i < j)) ga gb gc)) := dent_chain op_le op_lt rd_cmI rd_cmI ha hb hc hm
end
theorem tv (h : Den X G m e g) (he : ∀ whole, isTrue e X.env whole = (do let v ← whole; standAt e.pos; holding [v] (truthy v)) := by intro whole; rfl) : DenT X G e (geB g) := dent_val he h
theorem room2 {k : Nat} {A : Around} (r : Room k A) : A.units + 200 < cLine := by have := r.un; omega
theorem room1 {k : Nat} {A : Around} (r : Room k A) : A.units + 1 < cLine := by have := r.un; omega
/-! arguments -/
theorem a0 : DenA X G m [] gaNil := dena_nil
theorem a1 {es : List Expr} {h : VS.Env → R (List D)} (ha : Den X G .c e g) (hr : DenA X G .c es h) (hs : starEach (e :: es) X.env = (false, eval e X.env) :: starEach es X.env := by rfl) : DenA X G .c (e :: es) (gaCons g h) := dena_cons (fun q => by cases q) ha hr hs
theorem at1 {es : List Expr} {h : VS.Env → R (List D)} (ha : Den X G .t e g) (hr : DenA X G .t es h) (hs : starEach (e :: es) X.env = (false, eval e X.env) :: starEach es X.env := by rfl) : DenA X G .t (e :: es) (gaCons g h) := dena_cons (fun q => by cases q) ha hr hs
def Len (n : Nat) (ga : VS.Env → R (List D)) : Prop := ∀ ρ ds, ga ρ = .ok ds → ds.length = n
theorem l0 : Len 0 gaNil := fun ρ ds h => by cases h; rfl
theorem l1 {n : Nat} {h : VS.Env → R (List D)} (k : Len n h) : Len (n + 1) (gaCons g h) := fun ρ ds e => by
  unfold gaCons at e
  cases e1 : g ρ with
  | ok d =>
    rw [e1] at e
    cases e2 : h ρ with
    | ok es => rw [e2] at e; cases e; rw [List.length_cons, k ρ es e2]
    | ex c => rw [e2] at e; cases e
    | no => rw [e2] at e; cases e
  | ex c => rw [e1] at e; cases e
  | no => rw [e1] at e; cases e
section
variable {es : List Expr} {ha' : VS.Env → R (List D)} {p : Pos} {x : Str}
/-- a built-in by name -/
theorem cb {id : String} {r : List V → Hp → VK → Prop} {f : List D → R D} (hc : CallR X (.builtin id) r) (hr : ADen X.K G r m1 m f) (ha : DenA X G m1 (e :: es) ha') (hm : X.mg x = none) (hg : Gl X x := by rfl)
    (hv : bootBuiltins x = some (.builtin id) := by decide +kernel) (hn : x ≠ "__name__" := by decide) (hdb : (x == ("__debug__" : Str)) = false := by rfl) (he : starEach (e :: es) X.env = (false, eval e X.env) :: starEach es X.env := by rfl)
    (hpl : (backTo pos (starEach es X.env)).any (·.1) = false := by rfl) : Den X G m (.Call (.Name x p) (e :: es) [] pos) (geA f ha') := den_callB hc hr ha hg hm hv hn hdb he hpl
theorem cy {id : String} {r : List V → Hp → VK → Prop} {f : List D → R D} (hc : CallR X (.type id) r) (hr : ADen X.K G r m1 m f) (ha : DenA X G m1 (e :: es) ha') (hm : X.mg x = none) (hg : Gl X x := by rfl)
    (hv : bootBuiltins x = some (.type id) := by decide +kernel) (hn : x ≠ "__name__" := by decide) (hdb : (x == ("__debug__" : Str)) = false := by rfl) (he : starEach (e :: es) X.env = (false, eval e X.env) :: starEach es X.env := by rfl)
    (hpl : (backTo pos (starEach es X.env)).any (·.1) = false := by rfl) : Den X G m (.Call (.Name x p) (e :: es) [] pos) (geA f ha') := den_callTy hc hr ha hg hm hv hn hdb he hpl
/-- a def of the text -/
theorem cf {P : Program} {w : World} {K : PySem.W.Frag} {mg : Str → Option Value} {base : Heap} {T : List (Addr × Str)} {cl : Str → Addr} {f : Addr} {fd : FuncData} {ps : List Str} {k n : Nat} {F : List D → R D} (Fn : FnOk P w K mg base (L2N.CX P w) k f fd ps (spD K T cl n F)) (hm : mg x = some (.ref f)) (hk : PySem.W.keepIn K (.ref f) = true) (hb : Binds K fd ps [])
    (ha : DenA X G .c (e :: es) ha') (ln : Len n ha') (h8 : ps.length = n := by rfl) (h1 : X.prog = P := by rfl) (h2 : X.w = w := by rfl) (h3 : X.K = K := by rfl) (h4 : X.mg = mg := by rfl) (h5 : X.base = base := by rfl) (h6 : G.T = T := by rfl) (h7 : G.cl = cl := by rfl)
    (hr : Room k X.A := by assumption) (hx : Passes (L2N.CX X.prog X.w) X G.E := by first | exact body_pass | exact passLN) (hg : Gl X x := by rfl) (hl : es.length + 1 = ps.length := by rfl) (hdb : (x == ("__debug__" : Str)) = false := by rfl)
    (he : starEach (e :: es) X.env = (false, eval e X.env) :: starEach es X.env := by rfl) (hpl : (backTo pos (starEach es X.env)).any (·.1) = false := by rfl) : Den X G .c (.Call (.Name x p) (e :: es) [] pos) (geA F ha') := by
  subst h1 h2 h3 h4 h5 h6 h7 h8
  exact den_call Fn hr hg hm hk hb hx ha hl hdb he hpl ln
end
/-! targets -/
theorem tn {i : Nat} {x : Str} (hN : decide X.N.Nodup = true := by kernel_rfl) (hi : X.N[i]? = some x := by rfl) (hx : Loc X.env.scope x := by first | exact .inl (by rfl) | exact .inr (by rfl)) (hf : X.fn x = true ∨ X.env.scope.names.lookup x = some .local := by first | exact .inl (by rfl) | exact .inr (by rfl)) : DenG X G (.Name x pos) (.nm i) := deng_nm (of_decide_eq_true hN) hi hx hf
theorem t0 : DenGs X G [] .nil := dengs_nil
theorem t1 {es : List Expr} {t : Tg} {ts : Tgs} (h : DenG X G e t) (hr : DenGs X G es ts) (hs : (assignEach (e :: es) X.env).map (·.2) = assign e X.env :: (assignEach es X.env).map (·.2) := by rfl) : DenGs X G (e :: es) (.cons t ts) := dengs_cons h hr hs
theorem tt {es : List Expr} {k : Nat} {ts : Tgs} (h : DenGs X G es ts) (hc : X.calm = true := by rfl) (hn : (assignEach es X.env).length = ts.len := by rfl) (hst : (assignEach es X.env).findIdx? (·.1) = none := by rfl) : DenG X G (.Tuple es k pos) (.tp ts) := deng_tp hc h rfl hn hst
/-! statements -/
theorem sx (he : Den X G m e g) (hs : swapsWith e none pos.line X.env = pure false := by rfl) : DenS X G (.Expr e pos) (fun ρ => ofR (g ρ) fun _ => .nx ρ) := dens_expr he hs
theorem ss {i : Nat} {x : Str} {pos' : Pos} (he : Den X G .c e g) (hN : decide X.N.Nodup = true := by kernel_rfl) (hi : X.N[i]? = some x := by rfl) (hx : Loc X.env.scope x := by first | exact .inl (by rfl) | exact .inr (by rfl)) (hs : swapsWith e (some (.Name x pos')) pos.line X.env = pure false := by rfl)
    (hf : X.fn x = true ∨ X.env.scope.names.lookup x = some .local := by first | exact .inl (by rfl) | exact .inr (by rfl)) : DenS X G (.Assign [.Name x pos'] e pos) (fun ρ => ofR (g ρ) fun d => .nx (ρ.set i (.im d))) := dens_set (of_decide_eq_true hN) hi hx he hs hf
theorem so {i : Nat} {x : Str} {pos' : Pos} (he : Den X G .f e g) (hN : decide X.N.Nodup = true := by kernel_rfl) (hi : X.N[i]? = some x := by rfl) (hx : Loc X.env.scope x := by first | exact .inl (by rfl) | exact .inr (by rfl)) (hs : swapsWith e (some (.Name x pos')) pos.line X.env = pure false := by rfl)
    (hf : X.fn x = true ∨ X.env.scope.names.lookup x = some .local := by first | exact .inl (by rfl) | exact .inr (by rfl)) : DenS X G (.Assign [.Name x pos'] e pos) (ownO i g) := dens_own (of_decide_eq_true hN) hi hx he hs hf
theorem sfor {tg iter : Expr} {body : List Stmt} {t : Tg} {gi : VS.Env → R (List D)} {f : VS.Env → Out} (hp : PassesOwn (model X.prog X.w) X.A X.env X.xe) (hi : DenI X G tg iter gi) (hg : DenG X G tg t) (hb : DenB X G body f) (hc : X.calm = true := by rfl)
    (hs : ∀ x, foldedSetIterable iter X.env x = pure x := by intro x; rfl) : DenS X G (.For tg iter body [] pos) (forO t gi f) := dens_for hp hc hi hg hb hs
theorem sford {tg : Expr} {x : Str} {p1 : Pos} {body : List Stmt} {t : Tg} {i : Nat} {f : VS.Env → Out} (hp : PassesOwn (model X.prog X.w) X.A X.env X.xe) (hg : DenG X G tg t) (hb : DenB X G body f) (hc : X.calm = true := by rfl)
    (hN : X.N[i]? = some x := by rfl) (hv : Vis X.env.scope x := by first | exact .inl (by rfl) | exact .inr (.inl (by rfl)) | exact .inr (.inr (by rfl))) (hd : (x == ("__debug__" : Str)) = false := by rfl) (hcd : (x == ("__classdict__" : Str)) = false := by rfl) : DenS X G (.For tg (.Name x p1) body [] pos) (forDO t i f) := dens_forD hp hc hN hv hd hcd hg hb
theorem r1 {a : Expr} {ha' : VS.Env → R (List D)} {p : Pos} {tg : Expr} (ha : DenA X G .c [a] ha') (hm : X.mg "range" = none) (hg : Gl X "range" := by rfl) (hs : starEach [a] X.env = [(false, eval a X.env)] := by rfl) : DenI X G tg (.Call (.Name "range" p) [a] [] pos) (gSeqA rng1 ha') := deni_range1 hg hm ha hs
theorem r2 {a b : Expr} {ha' : VS.Env → R (List D)} {p : Pos} {tg : Expr} (ha : DenA X G .c [a, b] ha') (hm : X.mg "range" = none) (hg : Gl X "range" := by rfl) (hs : starEach [a, b] X.env = [(false, eval a X.env), (false, eval b X.env)] := by rfl)
    (hs2 : starEach [b] X.env = [(false, eval b X.env)] := by rfl) : DenI X G tg (.Call (.Name "range" p) [a, b] [] pos) (gSeqA rng2 ha') := deni_range2 hg hm ha hs hs2
section
variable {x : Str} {i : Nat} {p1 apos cpos : Pos}
theorem sapp (he : Den X G .c e g) (hN : X.N[i]? = some x := by rfl) (hv : Vis X.env.scope x := by first | exact .inl (by rfl) | exact .inr (.inl (by rfl)) | exact .inr (.inr (by rfl))) (hd : (x == ("__debug__" : Str)) = false := by rfl) (hcd : (x == ("__classdict__" : Str)) = false := by rfl)
    (hbase : attributeBase (.Name x p1) "append" X.env (eval (.Name x p1) X.env) = eval (.Name x p1) X.env := by rfl)
    (hfew : ((backTo cpos (starEach [e] X.env)).all (fun x => !x.1) && (backToKw cpos (keywordEach [] X.env)).all (fun x => x.1.isSome) && decide (([e] : List Expr).length + ([] : List Keyword).length + (if ([] : List Keyword).isEmpty then 0 else 1) < 30)) = true := by rfl)
    (hline : (apos.endLine == cpos.line) = true := by rfl) (hs : starEach [e] X.env = (false, eval e X.env) :: starEach [] X.env := by rfl) (hplain : (backTo cpos (starEach [] X.env)).any (·.1) = false := by rfl) :
    DenS X G (.Expr (.Call (.Attribute (.Name x p1) "append" apos) [e] [] cpos) pos) (appO i g) := dens_app hN hv hd hcd he hbase hfew hline hs hplain
theorem sext (he : Den X G m1 e g) (hN : X.N[i]? = some x := by rfl) (hv : Vis X.env.scope x := by first | exact .inl (by rfl) | exact .inr (.inl (by rfl)) | exact .inr (.inr (by rfl))) (hd : (x == ("__debug__" : Str)) = false := by rfl) (hcd : (x == ("__classdict__" : Str)) = false := by rfl)
    (hbase : attributeBase (.Name x p1) "extend" X.env (eval (.Name x p1) X.env) = eval (.Name x p1) X.env := by rfl)
    (hfew : ((backTo cpos (starEach [e] X.env)).all (fun x => !x.1) && (backToKw cpos (keywordEach [] X.env)).all (fun x => x.1.isSome) && decide (([e] : List Expr).length + ([] : List Keyword).length + (if ([] : List Keyword).isEmpty then 0 else 1) < 30)) = true := by rfl)
    (hline : (apos.endLine == cpos.line) = true := by rfl) (hs : starEach [e] X.env = (false, eval e X.env) :: starEach [] X.env := by rfl) (hplain : (backTo cpos (starEach [] X.env)).any (·.1) = false := by rfl) :
    DenS X G (.Expr (.Call (.Attribute (.Name x p1) "extend" apos) [e] [] cpos) pos) (extO i g) := dens_ext hN hv hd hcd he hbase hfew hline hs hplain
theorem spop {j : Nat} {y : Str} {py : Pos} (hN : X.N[i]? = some x := by rfl) (hv : Vis X.env.scope x := by first | exact .inl (by rfl) | exact .inr (.inl (by rfl)) | exact .inr (.inr (by rfl))) (hd : (x == ("__debug__" : Str)) = false := by rfl) (hcd : (x == ("__classdict__" : Str)) = false := by rfl)
    (hbase : attributeBase (.Name x p1) "pop" X.env (eval (.Name x p1) X.env) = eval (.Name x p1) X.env := by rfl) (hline : (apos.endLine == cpos.line) = true := by rfl) (hnd : decide X.N.Nodup = true := by kernel_rfl) (hj : X.N[j]? = some y := by rfl) (hy : Loc X.env.scope y := by first | exact .inl (by rfl) | exact .inr (by rfl))
    (hf : X.fn y = true ∨ X.env.scope.names.lookup y = some .local := by first | exact .inl (by rfl) | exact .inr (by rfl)) :
    DenS X G (.Assign [.Name y py] (.Call (.Attribute (.Name x p1) "pop" apos) [] [] cpos) pos) (popO i (some j)) := dens_popA hN hv hd hcd hbase hline (of_decide_eq_true hnd) hj hy hf
theorem sput {ix : Expr} {gk : VS.Env → R D} {pt : Pos} (hu : X.A.units + 1 < cLine) (he : Den X G .c e g) (hk : Den X G m2 ix gk) (hN : X.N[i]? = some x := by rfl) (hv : Vis X.env.scope x := by first | exact .inl (by rfl) | exact .inr (.inl (by rfl)) | exact .inr (.inr (by rfl)))
    (hd : (x == ("__debug__" : Str)) = false := by rfl) (hcd : (x == ("__classdict__" : Str)) = false := by rfl) (hs : swapsWith e (some (.Subscript (.Name x p1) ix pt)) pos.line X.env = pure false := by rfl) :
    DenS X G (.Assign [.Subscript (.Name x p1) ix pt] e pos) (putO i g gk) := dens_put hu hN hv hd hcd he hk hs
theorem m_get {o f : Expr} {go gf : VS.Env → R D} (hu : X.A.units + 1 < cLine) (ho : Den X G m1 o go) (he : Den X G m2 e g) (hf : Den X G .c f gf) (hbase : attributeBase o "get" X.env (eval o X.env) = eval o X.env := by rfl)
    (hfew : ((backTo cpos (starEach [e, f] X.env)).all (fun x => !x.1) && (backToKw cpos (keywordEach [] X.env)).all (fun x => x.1.isSome) && decide (([e, f] : List Expr).length + ([] : List Keyword).length + (if ([] : List Keyword).isEmpty then 0 else 1) < 30)) = true := by rfl)
    (hline : (apos.endLine == cpos.line) = true := by rfl) (htr : backTo cpos (starEach [e, f] X.env) = [(false, eval e X.env), (false, eval f X.env)] := by rfl) :
    Den X G .c (.Call (.Attribute o "get" apos) [e, f] [] cpos) (geGet go g gf) := den_get hu ho he hf ⟨hbase, hfew, hline, htr⟩
theorem isi {c : Ty} {pi p2 : Pos} {xc : Str} (he : Den X G m1 e g) (hmi : X.mg "isinstance" = none) (hmc : X.mg xc = none) (hgi : Gl X "isinstance" := by rfl) (hgc : Gl X xc := by rfl) (hvc : bootBuiltins xc = some (.type c.name) := by decide +kernel) (hnc : xc ≠ "__name__" := by decide)
    (hdc : (xc == ("__debug__" : Str)) = false := by rfl) (hs1 : starEach [e, .Name xc p2] X.env = (false, eval e X.env) :: starEach [.Name xc p2] X.env := by rfl) (hs2 : starEach [.Name xc p2] X.env = (false, eval (.Name xc p2) X.env) :: starEach [] X.env := by rfl) (hpl : (backTo pos (starEach [.Name xc p2] X.env)).any (·.1) = false := by rfl) :
    Den X G .c (.Call (.Name "isinstance" pi) [e, .Name xc p2] [] pos) (ge1 (isiD c) g) := den_isi (x := e) he (pe_bltn hgc hmc hvc rfl hnc hdc) hgi hmi (by decide +kernel) (by decide) (by rfl) hs1 hs2 hpl
theorem ssrt {p p2 q : Pos} (hu : X.A.units + 200 < cLine) (he : Den X G m1 e g) (hm : X.mg "sorted" = none) (hm2 : X.mg "set" = none) (hc : X.calm = true := by rfl) (hg : Gl X "sorted" := by rfl) (hg2 : Gl X "set" := by rfl) (hs : starEach [e] X.env = (false, eval e X.env) :: starEach [] X.env := by rfl)
    (hpl : (backTo q (starEach [] X.env)).any (·.1) = false := by rfl) (hpl2 : (backTo pos (starEach [] X.env)).any (·.1) = false := by rfl) (hs2 : starEach [.Call (.Name "set" p2) [e] [] q] X.env = (false, eval (.Call (.Name "set" p2) [e] [] q) X.env) :: starEach [] X.env := by rfl) :
    Den X G .f (.Call (.Name "sorted" p) [.Call (.Name "set" p2) [e] [] q] [] pos) (ge1 sortSet g) := den_sortSet hc hu he hg hm hg2 hm2 hs hpl hpl2 hs2
end
theorem slt {lo hi : Option Expr} {gl gh : VS.Env → R (Option Int)} {p2 : Pos} (he : Den X G m1 e g) (hl : DenO X G lo gl) (hh : DenO X G hi gh) : Den X G .c (.Subscript e (.Slice lo hi none p2) pos) (geSl slT g gl gh) := den_sl sl_tupA sd_T he hl hh
theorem sll {lo hi : Option Expr} {gl gh : VS.Env → R (Option Int)} {p2 : Pos} (he : Den X G m1 e g) (hl : DenO X G lo gl) (hh : DenO X G hi gh) : Den X G .f (.Subscript e (.Slice lo hi none p2) pos) (geSl slL g gl gh) := den_sl sl_list sd_L he hl hh
/-! comprehensions -/
section
variable {elt tg iter : Expr} {ifs : List Expr} {scope : Scope} {own : List (Str × Nat)} {t : Tg} {gi : VS.Env → R (List D)} {tst : VS.Env → R Bool} {x : Str} {p1 : Pos} {i : Nat}
theorem comp (hi : DenI X G tg iter gi) (hg : ∀ (s : Shared) (H : Hp) (C : Addr) (cl : List (Str × Addr)) (fp : List Addr), DenG (X.blk s H scope (compEnvC scope cl C X.env) fp) G.calm tg t)
    (ht : ∀ (s : Shared) (H : Hp) (C : Addr) (cl : List (Str × Addr)) (fp : List Addr), DenTs (X.blk s H scope (compEnvC scope cl C X.env) fp) G.calm ifs tst) (he : ∀ (s : Shared) (H : Hp) (C : Addr) (cl : List (Str × Addr)) (fp : List Addr), Den (X.blk s H scope (compEnvC scope cl C X.env) fp) G.calm .c elt g)
    {vs : List Nat} (own : List (Str × Nat)) (hq : own.map (·.2) = vs := by rfl) (ok : blkC X.N X.env.scope scope own = true := by kernel_rfl) (hv : ∀ j ∈ t.slots, j ∈ vs := by decide) (hc : X.calm = true := by rfl) (hN : decide X.N.Nodup = true := by kernel_rfl) (hs : ∀ x, foldedSetIterable iter X.env x = pure x := by intro x; rfl) :
    Den X G .f (.ListComp elt [⟨tg, iter, ifs, 0⟩] scope pos) (compE t vs gi tst g) := by subst hq; exact den_comp hc (of_decide_eq_true hN) hi (blkOk_by ok) hg ht he hs hv
theorem compd (hg : ∀ (s : Shared) (H : Hp) (C : Addr) (cl : List (Str × Addr)) (fp : List Addr), DenG (X.blk s H scope (compEnvC scope cl C X.env) fp) G.calm tg t)
    (ht : ∀ (s : Shared) (H : Hp) (C : Addr) (cl : List (Str × Addr)) (fp : List Addr), DenTs (X.blk s H scope (compEnvC scope cl C X.env) fp) G.calm ifs tst) (he : ∀ (s : Shared) (H : Hp) (C : Addr) (cl : List (Str × Addr)) (fp : List Addr), Den (X.blk s H scope (compEnvC scope cl C X.env) fp) G.calm .c elt g)
    {vs : List Nat} (own : List (Str × Nat)) (hq : own.map (·.2) = vs := by rfl) (ok : blkC X.N X.env.scope scope own = true := by kernel_rfl) (hvs : ∀ j ∈ t.slots, j ∈ vs := by decide) (hc : X.calm = true := by rfl) (hnd : decide X.N.Nodup = true := by kernel_rfl)
    (hN : X.N[i]? = some x := by rfl) (hv : Vis X.env.scope x := by first | exact .inl (by rfl) | exact .inr (.inl (by rfl)) | exact .inr (.inr (by rfl))) (hd : (x == ("__debug__" : Str)) = false := by rfl) (hcd : (x == ("__classdict__" : Str)) = false := by rfl) :
    Den X G .f (.ListComp elt [⟨tg, .Name x p1, ifs, 0⟩] scope pos) (compDE t vs i tst g) := by subst hq; exact den_compD hc (of_decide_eq_true hnd) hN hv hd hcd (blkOk_by ok) hg ht he hvs
theorem scomp {y : Str} {j : Nat} {py spos : Pos} (hi : DenI X G tg iter gi) (hg : ∀ (s : Shared) (H : Hp) (C : Addr) (cl : List (Str × Addr)) (fp : List Addr), DenG (X.blk s H scope (compEnvC scope cl C X.env) fp) G.calm tg t)
    (ht : ∀ (s : Shared) (H : Hp) (C : Addr) (cl : List (Str × Addr)) (fp : List Addr), DenTs (X.blk s H scope (compEnvC scope cl C X.env) fp) G.calm ifs tst) (he : ∀ (s : Shared) (H : Hp) (C : Addr) (cl : List (Str × Addr)) (fp : List Addr), Den (X.blk s H scope (compEnvC scope cl C X.env) fp) G.calm .c elt g)
    {vs : List Nat} (own : List (Str × Nat)) (hq : own.map (·.2) = vs := by rfl) (ok : blkC X.N X.env.scope scope own = true := by kernel_rfl) (hv : ∀ j ∈ t.slots, j ∈ vs := by decide) (hc : X.calm = true := by rfl) (hN : decide X.N.Nodup = true := by kernel_rfl) (hs : ∀ x, foldedSetIterable iter X.env x = pure x := by intro x; rfl)
    (hy : X.N[j]? = some y := by rfl) (hyl : X.env.scope.names.lookup y = some .local := by rfl) (hsw : swapsWith (.ListComp elt [⟨tg, iter, ifs, 0⟩] scope pos) (some (.Name y py)) spos.line X.env = pure true := by rfl) :
    DenS X G (.Assign [.Name y py] (.ListComp elt [⟨tg, iter, ifs, 0⟩] scope pos) spos) (ownO j (compE t vs gi tst g)) := by subst hq; exact dens_setComp hc (of_decide_eq_true hN) hy hyl hsw hi (blkOk_by ok) hg ht he hs hv
end
end
end VS

set_option Elab.async false
set_option linter.all false
set_option maxRecDepth 100000
set_option maxHeartbeats 4000000
/-! VN18: parallel assignments, targets, with their small conditions. -/
namespace VS
open PySem PySem.Spec PyProof.Rows L2 LamX
section
variable {X : Cx} {G : Wh} {m m1 m2 m3 : Md} {a b c e : Expr} {ga gb gc g : VS.Env → R D} {pos : Pos}
theorem sp2 {i j : Nat} {x y : Str} {px py pt : Pos} {kt k2 pt2} (ha : Den X G m1 a ga) (hb : Den X G m2 b gb) (hc : X.calm = true := by rfl) (hN : decide X.N.Nodup = true := by kernel_rfl) (hi : X.N[i]? = some x := by rfl) (hj : X.N[j]? = some y := by rfl) (hij : i ≠ j := by decide)
    (hx : X.env.scope.names.lookup x = some .local := by rfl) (hy : X.env.scope.names.lookup y = some .local := by rfl)
    (hs1 : starEach [a, b] X.env = (false, eval a X.env) :: starEach [b] X.env := by rfl) (hs2 : starEach [b] X.env = (false, eval b X.env) :: starEach [] X.env := by rfl)
    (hw : swappedStores [.Tuple [.Name x px, .Name y py] kt pt] (.Tuple [a, b] k2 pt2) X.env = pure (some [x, y]) := by rfl)
    (hs : swapsWithSole [.Tuple [.Name x px, .Name y py] kt pt] (.Tuple [a, b] k2 pt2) pos.line X.env = pure false := by rfl) :
    DenS X G (.Assign [.Tuple [.Name x px, .Name y py] kt pt] (.Tuple [a, b] k2 pt2) pos) (parO2 i j m1 m2 ga gb) := dens_par2 hc (of_decide_eq_true hN) hi hj hij hx hy ha hb hs1 hs2 hw hs
theorem sp3 {i j l : Nat} {x y z : Str} {px py pz pt : Pos} {kt k2 pt2} (ha : Den X G m1 a ga) (hb : Den X G m2 b gb) (hcc : Den X G m3 c gc) (hc : X.calm = true := by rfl) (hN : decide X.N.Nodup = true := by kernel_rfl) (hi : X.N[i]? = some x := by rfl) (hj : X.N[j]? = some y := by rfl) (hl : X.N[l]? = some z := by rfl) (hij : i ≠ j := by decide) (hil : i ≠ l := by decide) (hjl : j ≠ l := by decide)
    (hx : X.env.scope.names.lookup x = some .local := by rfl) (hy : X.env.scope.names.lookup y = some .local := by rfl) (hz : X.env.scope.names.lookup z = some .local := by rfl)
    (hs1 : starEach [a, b, c] X.env = (false, eval a X.env) :: starEach [b, c] X.env := by rfl) (hs2 : starEach [b, c] X.env = (false, eval b X.env) :: starEach [c] X.env := by rfl) (hs3 : starEach [c] X.env = (false, eval c X.env) :: starEach [] X.env := by rfl)
    (hw : swappedStores [.Tuple [.Name x px, .Name y py, .Name z pz] kt pt] (.Tuple [a, b, c] k2 pt2) X.env = pure (some [x, y, z]) := by rfl)
    (hs : swapsWithSole [.Tuple [.Name x px, .Name y py, .Name z pz] kt pt] (.Tuple [a, b, c] k2 pt2) pos.line X.env = pure false := by rfl) :
    DenS X G (.Assign [.Tuple [.Name x px, .Name y py, .Name z pz] kt pt] (.Tuple [a, b, c] k2 pt2) pos) (parO3 i j l m1 m2 m3 ga gb gc) := dens_par3 hc (of_decide_eq_true hN) hi hj hl hij hil hjl hx hy hz ha hb hcc hs1 hs2 hs3 hw hs
theorem stg {tg : Expr} {t : Tg} (he : Den X G .c e g) (hg : DenG X G tg t) (hs : swapsWithSole [tg] e pos.line X.env = pure false := by rfl) (hw : swappedStores [tg] e X.env = pure none := by rfl) (h1 : (assignEach [tg] X.env).map (·.2) = [assign tg X.env] := by rfl) : DenS X G (.Assign [tg] e pos) (tgO t g) := dens_tg he hg hs hw h1
/-! .. with cells: by a tuple -/
theorem sq2 {i j : Nat} {x y : Str} {px py pt : Pos} {kt k2 pt2} (ha : Den X G m1 a ga) (hb : Den X G m2 b gb) (hc : X.calm = true := by rfl) (hN : decide X.N.Nodup = true := by kernel_rfl) (hi : X.N[i]? = some x := by rfl) (hj : X.N[j]? = some y := by rfl) (hij : i ≠ j := by decide)
    (hx : Loc X.env.scope x := by first | exact .inl (by rfl) | exact .inr (by rfl)) (hy : Loc X.env.scope y := by first | exact .inl (by rfl) | exact .inr (by rfl)) (fx : X.fn x = true := by rfl) (fy : X.fn y = true := by rfl)
    (hs1 : starEach [a, b] X.env = (false, eval a X.env) :: starEach [b] X.env := by rfl) (hs2 : starEach [b] X.env = (false, eval b X.env) :: starEach [] X.env := by rfl)
    (hw : swappedStores [.Tuple [.Name x px, .Name y py] kt pt] (.Tuple [a, b] k2 pt2) X.env = pure none := by rfl)
    (hs : swapsWithSole [.Tuple [.Name x px, .Name y py] kt pt] (.Tuple [a, b] k2 pt2) pos.line X.env = pure false := by rfl)
    (he : (assignEach [.Tuple [.Name x px, .Name y py] kt pt] X.env).map (·.2) = [assign (.Tuple [.Name x px, .Name y py] kt pt) X.env] := by rfl)
    (hn : (assignEach [.Name x px, .Name y py] X.env).length = 2 := by rfl) (hst : (assignEach [.Name x px, .Name y py] X.env).findIdx? (·.1) = none := by rfl)
    (e1 : (assignEach [.Name x px, .Name y py] X.env).map (·.2) = assign (.Name x px) X.env :: (assignEach [.Name y py] X.env).map (·.2) := by rfl)
    (e2 : (assignEach [.Name y py] X.env).map (·.2) = assign (.Name y py) X.env :: (assignEach [] X.env).map (·.2) := by rfl) :
    DenS X G (.Assign [.Tuple [.Name x px, .Name y py] kt pt] (.Tuple [a, b] k2 pt2) pos) (parO2 i j m1 m2 ga gb) := by
  have nd := of_decide_eq_true hN
  obtain ⟨ta, pa, qa⟩ := ha.ex
  obtain ⟨tb, pb, qb⟩ := hb.ex
  refine ⟨_, ps_asg (pe_tup (pa_cons pa (pa_cons pb pa_nil hs2) hs1)) (pg_tup (n := 2) hc (pgs_cons (pg_name nd hi hx (.inl fx)) (pgs_cons (pg_name nd hj hy (.inl fy)) pgs_nil e2) e1) hn hst) hs hw he, fun Z0 H0 Z H σ ρ D S h => ?_⟩
  show ta σ H _
  refine ans_bind (e := a) qa S h fun d1 _ h1 v1 Z1 H1 g1 f1 => ?_
  have S1 := S.grow g1
  show tb σ H1 _
  refine ans_bind (e := b) qb S1 h1 fun d2 _ h2 v2 Z2 H2 g2 f2 => ?_
  have h2' : PostS X.K G (match slM m1 d1, slM m2 d2 with | some s1, some s2 => .nx ((ρ.set i s1).set j s2) | _, _ => .no) Z0 H0 D := h2
  refine ⟨by show 2 ≤ sizeLine; rw [sizeLine_eq]; omega, fun p hp => ⟨p, [v1, v2], rfl, SqT.of upd_same, rfl, v1, [v2], rfl, v2, [], rfl, rfl, ?_⟩⟩
  split at h2'
  · rename_i s1 s2 e1 e2
    have g3 : Grow G.T Z2 H2 Z2 (upd H2 p (.tup [v1, v2])) := grow_new g2.s g2.n hp
    have i1 := (item_of f1 e1 (ExtN.refl H)).grow (g2.trans g3)
    have i2 := (item_of f2 e2 g1.h).grow g3
    have S2 := (S1.grow g2).grow g3
    have ap1 : ∀ a, v1 = .ref a → m1 = .f → Apart σ ρ a := fun a e hm => S.apart (nprot_f f1 hm a e)
    have ap2 : ∀ a, v2 = .ref a → m2 = .f → Apart (σ.set i (some v1)) (ρ.set i s1) a := fun a e hm =>
      Apart.item (S1.apart (nprot_f f2 hm a e)) i1 (fun hm1 e1 => by
        obtain ⟨a', e3, pr⟩ := prot_f f1 hm1
        rw [e1] at e3; cases e3
        exact nprot_f f2 hm a e pr) i
    exact h2' Z2 _ _ ((S2.item S.g.h i1 ap1 i).item S.g.h i2 ap2 j)
  · exact h2'.elim
theorem sq3 {i j l : Nat} {x y z : Str} {px py pz pt : Pos} {kt k2 pt2} (ha : Den X G m1 a ga) (hb : Den X G m2 b gb) (hcc : Den X G m3 c gc) (hc : X.calm = true := by rfl) (hN : decide X.N.Nodup = true := by kernel_rfl) (hi : X.N[i]? = some x := by rfl) (hj : X.N[j]? = some y := by rfl) (hl : X.N[l]? = some z := by rfl) (hij : i ≠ j := by decide) (hil : i ≠ l := by decide) (hjl : j ≠ l := by decide)
    (hx : Loc X.env.scope x := by first | exact .inl (by rfl) | exact .inr (by rfl)) (hy : Loc X.env.scope y := by first | exact .inl (by rfl) | exact .inr (by rfl)) (hz : Loc X.env.scope z := by first | exact .inl (by rfl) | exact .inr (by rfl)) (fx : X.fn x = true := by rfl) (fy : X.fn y = true := by rfl) (fz : X.fn z = true := by rfl)
    (hs1 : starEach [a, b, c] X.env = (false, eval a X.env) :: starEach [b, c] X.env := by rfl) (hs2 : starEach [b, c] X.env = (false, eval b X.env) :: starEach [c] X.env := by rfl) (hs3 : starEach [c] X.env = (false, eval c X.env) :: starEach [] X.env := by rfl)
    (hw : swappedStores [.Tuple [.Name x px, .Name y py, .Name z pz] kt pt] (.Tuple [a, b, c] k2 pt2) X.env = pure none := by rfl)
    (hs : swapsWithSole [.Tuple [.Name x px, .Name y py, .Name z pz] kt pt] (.Tuple [a, b, c] k2 pt2) pos.line X.env = pure false := by rfl)
    (he : (assignEach [.Tuple [.Name x px, .Name y py, .Name z pz] kt pt] X.env).map (·.2) = [assign (.Tuple [.Name x px, .Name y py, .Name z pz] kt pt) X.env] := by rfl)
    (hn : (assignEach [.Name x px, .Name y py, .Name z pz] X.env).length = 3 := by rfl) (hst : (assignEach [.Name x px, .Name y py, .Name z pz] X.env).findIdx? (·.1) = none := by rfl)
    (e1 : (assignEach [.Name x px, .Name y py, .Name z pz] X.env).map (·.2) = assign (.Name x px) X.env :: (assignEach [.Name y py, .Name z pz] X.env).map (·.2) := by rfl)
    (e2 : (assignEach [.Name y py, .Name z pz] X.env).map (·.2) = assign (.Name y py) X.env :: (assignEach [.Name z pz] X.env).map (·.2) := by rfl)
    (e3 : (assignEach [.Name z pz] X.env).map (·.2) = assign (.Name z pz) X.env :: (assignEach [] X.env).map (·.2) := by rfl) :
    DenS X G (.Assign [.Tuple [.Name x px, .Name y py, .Name z pz] kt pt] (.Tuple [a, b, c] k2 pt2) pos) (parO3 i j l m1 m2 m3 ga gb gc) := by
  have nd := of_decide_eq_true hN
  obtain ⟨ta, pa, qa⟩ := ha.ex
  obtain ⟨tb, pb, qb⟩ := hb.ex
  obtain ⟨tc, pc, qc⟩ := hcc.ex
  refine ⟨_, ps_asg (pe_tup (pa_cons pa (pa_cons pb (pa_cons pc pa_nil hs3) hs2) hs1)) (pg_tup (n := 3) hc (pgs_cons (pg_name nd hi hx (.inl fx)) (pgs_cons (pg_name nd hj hy (.inl fy)) (pgs_cons (pg_name nd hl hz (.inl fz)) pgs_nil e3) e2) e1) hn hst) hs hw he, fun Z0 H0 Z H σ ρ D S h => ?_⟩
  show ta σ H _
  refine ans_bind (e := a) qa S h fun d1 _ h1 v1 Z1 H1 g1 f1 => ?_
  have S1 := S.grow g1
  show tb σ H1 _
  refine ans_bind (e := b) qb S1 h1 fun d2 _ h2 v2 Z2 H2 g2 f2 => ?_
  have S2 := S1.grow g2
  show tc σ H2 _
  refine ans_bind (e := c) qc S2 h2 fun d3 _ h3 v3 Z3 H3 g3 f3 => ?_
  have h3' : PostS X.K G (match slM m1 d1, slM m2 d2, slM m3 d3 with | some s1, some s2, some s3 => .nx (((ρ.set i s1).set j s2).set l s3) | _, _, _ => .no) Z0 H0 D := h3
  refine ⟨by show 3 ≤ sizeLine; rw [sizeLine_eq]; omega, fun p hp => ⟨p, [v1, v2, v3], rfl, SqT.of upd_same, rfl, v1, [v2, v3], rfl, v2, [v3], rfl, v3, [], rfl, rfl, ?_⟩⟩
  split at h3'
  · rename_i s1 s2 s3 e1 e2 e3
    have g4 : Grow G.T Z3 H3 Z3 (upd H3 p (.tup [v1, v2, v3])) := grow_new g3.s g3.n hp
    have i1 := (item_of f1 e1 (ExtN.refl H)).grow ((g2.trans g3).trans g4)
    have i2 := (item_of f2 e2 g1.h).grow (g3.trans g4)
    have i3 := (item_of f3 e3 (g1.h.trans g2.h)).grow g4
    have S3 := (S2.grow g3).grow g4
    have ap1 : ∀ a, v1 = .ref a → m1 = .f → Apart σ ρ a := fun a e hm => S.apart (nprot_f f1 hm a e)
    have ap2 : ∀ a, v2 = .ref a → m2 = .f → Apart (σ.set i (some v1)) (ρ.set i s1) a := fun a e hm =>
      Apart.item (S1.apart (nprot_f f2 hm a e)) i1 (fun hm1 e1 => by
        obtain ⟨a', e3, pr⟩ := prot_f f1 hm1
        rw [e1] at e3; cases e3
        exact nprot_f f2 hm a e pr) i
    have ap3 : ∀ a, v3 = .ref a → m3 = .f → Apart ((σ.set i (some v1)).set j (some v2)) ((ρ.set i s1).set j s2) a := fun a e hm =>
      Apart.item (Apart.item (S2.apart (nprot_f f3 hm a e)) i1 (fun hm1 e1 => by
        obtain ⟨a', e3, pr⟩ := prot_f f1 hm1
        rw [e1] at e3; cases e3
        exact nprot_f f3 hm a e (pr.ext g2.h)) i) i2 (fun hm2 e2 => by
        obtain ⟨a', e3, pr⟩ := prot_f f2 hm2
        rw [e2] at e3; cases e3
        exact nprot_f f3 hm a e pr) j
    exact h3' Z3 _ _ (((S3.item S.g.h i1 ap1 i).item S.g.h i2 ap2 j).item S.g.h i3 ap3 l)
  · exact h3'.elim
end
theorem law_sp {K : PySem.W.Frag} {cl : Str → Addr} {F : List D → R D} {H : Hp} {a : Addr} {ns : List Int} (ho : Only H) (hS : SqL K H a (ns.map V.int)) (h : F [.scr ns] = .ok (.bl true)) : spD K [] cl 1 F [.ref a] H (fun v _ => v = .bl true) E0 := by
  refine ⟨H, [.scr ns], Sub.refl H, fun b o e => ?_, (fun p hp => by cases hp), .cons (.scr hS) .nil, rfl, ?_⟩
  · rcases ho b with q | ⟨o', xs, q⟩
    · rw [q] at e; cases e
    · rw [q] at e; cases e; exact fun ps z => by cases z
  · rw [h]
    intro v Z' H' _ _ r
    cases r; rfl
end VS

set_option Elab.async false
set_option linter.all false
set_option maxRecDepth 100000
set_option maxHeartbeats 4000000
/-! VR3: range with a step; the plain reading is by rangeSize. -/
namespace VS
open PySem PySem.Spec PyProof.Rows L2 LamX
def uptoC (lo c : Int) (n : Nat) : List D := (List.range n).map fun (i : Nat) => .int (lo + (i : Nat) * c)
theorem uptoC_walk {K : PySem.W.Frag} {T : List (Addr × Str)} {Z : Hp} (lo c : Int) (n : Nat) : WalkD K T (Itc lo c n) Z (uptoC lo c n) := by
  have hl : (uptoC lo c n).length = n := by simp [uptoC]
  refine ⟨fun _ => True, _, by rw [hl]; exact walk_rangeC, fun _ _ => trivial, fun i Z2 H2 x H3 hi s1 s2 nt y => ?_⟩
  obtain ⟨rfl, rfl⟩ := y
  rw [hl] at hi
  exact ⟨Z2, .int (lo + (i : Nat) * c), .refl s2 nt, by simp [uptoC, hi], .int _⟩
def rng3 : List D → R (List D)
  | [.int i, .int j, .int c] => if c ≠ 0 ∧ c.natAbs < 1073741824 ∧ Builtin.Range.small i j c = true then .ok (uptoC i c (Builtin.Range.rangeSize i j c).toNat) else .no
  | _ => .no
theorem fins3' {K : PySem.W.Frag} {m : Md} {Z H : Hp} {vs : List V} {d e f : D} (h : Fins K m Z H vs [d, e, f]) : ∃ v w x, vs = [v, w, x] ∧ Fin K H Z H m v d ∧ Fin K H Z H m w e ∧ Fin K H Z H m x f := by
  cases h with | cons h t => obtain ⟨w, x, rfl, q, r⟩ := fins2 t; exact ⟨_, _, _, rfl, h, q, r⟩
section
variable {X : Cx} {G : Wh}
theorem deni_range3 {tg a b c : Expr} {p pos : Pos} {g : Env → R (List D)} (hg : Gl X "range") (hm : X.mg "range" = none) (ha : DenA X G .c [a, b, c] g)
    (hs : starEach [a, b, c] X.env = (false, eval a X.env) :: starEach [b, c] X.env) (hpl : (backTo pos (starEach [b, c] X.env)).any (·.1) = false) :
    DenI X G tg (.Call (.Name "range" p) [a, b, c] [] pos) (gSeqA rng3 g) := by
  obtain ⟨t, pt, q⟩ := ha.ex
  refine ⟨_, pi_range3 hg hm pt hs hpl, fun Z0 H0 Z H σ ρ Rk S h => ?_⟩
  refine seq_a (es := [a, b, c]) q S h (fun d ds e v Z' H' g' f k => ?_) (fun d c => by unfold rng3; split <;> (try split) <;> (intro z; cases z))
  unfold rng3 at e
  split at e
  · split at e
    · rename_i hc
      cases e
      obtain ⟨x, y, z, rfl, fx, fy, fz⟩ := fins3' f
      exact ⟨_, _, _, _, by rw [now_int (fx.now (Hx := H')), now_int (fy.now (Hx := H')), now_int (fz.now (Hx := H'))], ⟨hc.1, hc.2.1, hc.2.2, PyProof.Rows.rangeSize_toNat _ _ _⟩, k _ Z' H' (.refl g'.s g'.n) (uptoC_walk _ _ _)⟩
    · cases e
  · cases e
theorem r3 {a b c : Expr} {ha' : VS.Env → R (List D)} {p pos : Pos} {tg : Expr} (ha : DenA X G .c [a, b, c] ha') (hm : X.mg "range" = none) (hg : Gl X "range" := by rfl)
    (hs : starEach [a, b, c] X.env = (false, eval a X.env) :: starEach [b, c] X.env := by rfl) (hpl : (backTo pos (starEach [b, c] X.env)).any (·.1) = false := by rfl) : DenI X G tg (.Call (.Name "range" p) [a, b, c] [] pos) (gSeqA rng3 ha') := deni_range3 hg hm ha hs hpl
end
end VS

set_option Elab.async false
set_option linter.all false
set_option maxRecDepth 100000
set_option maxHeartbeats 4000000
/-! VX1: powers, dict of pairs, written dicts, list and sorted of dicts with tuple keys, xs.pop(0). -/
namespace VS
open PySem PySem.Spec PyProof.Rows L2 LamX
section
variable {K : PySem.W.Frag} {G : Wh}
def powI : D → D → R D | .int i, .int j => if 0 ≤ j ∧ j ≤ 1000000 ∧ i.natAbs < 2 ^ 64 then .ok (.int (i ^ j.toNat)) else .no | _, _ => .no
theorem rd_powI : RDen K G (rI CPow fun i j => .int (i ^ j.toNat)) .c powI := by
  intro x y dx dy Z H Q s n hx hy h
  unfold powI at h
  split at h
  · split at h
    · rename_i hc
      exact ⟨_, _, now_int hx, now_int hy, hc, ansC s n h (.int _)⟩
    · exact h.elim
  · exact h.elim
theorem ansK {Z H : Hp} {Q : VK} {ds : List (Key × D)} {vs : List (Key × V)} (s : Sub Z H) (n : ∀ a o, Z a = some o → NoTb o) (h : Ans K G .f (.ok (.dK ds)) Z H Q) (r : RepsP K Z vs ds) : ∀ p, H p = none → Q (.ref p) (upd H p (.dK vs)) :=
  fun p hp => h _ Z _ (grow_new s n hp) ⟨p, rfl, .dK upd_same r, sub_none s hp, nprot_none hp⟩
/-! dict of a list of pairs -/
def pairD : D → Option (Key × D) | .tup [k, v] => (keyD k).map (·, v) | _ => none
def pairsD : List D → Option (List (Key × D))
  | [] => some [] | d :: ds => match pairD d, pairsD ds with | some p, some ps => some (p :: ps) | _, _ => none
def dictP : List D → R D | [.lst ds] => (match pairsD ds with | some kvs => .ok (.dK (mg [] kvs)) | none => .no) | _ => .no
theorem pairs_rep {Z H : Hp} (s : Sub Z H) : ∀ {ds : List D} {vs : List V} {kvs : List (Key × D)}, Reps K Z vs ds → pairsD ds = some kvs →
    ∃ (ps : List Addr) (us : List (Key × V)), vs = ps.map V.ref ∧ Paired (fun p kv => SqT K H p [kV kv.1, kv.2]) ps us ∧ RepsP K Z us kvs
  | [], _, _, h, e => by cases h; cases e; exact ⟨[], [], rfl, .nil, .nil⟩
  | d :: ds, _, kvs, h, e => by
    cases h with
    | @cons v vs _ _ h t =>
      unfold pairsD at e
      split at e
      · rename_i p ps e1 e2
        cases e
        obtain ⟨qs, us, rfl, q1, q2⟩ := pairs_rep s t e2
        unfold pairD at e1
        split at e1
        · rename_i k w
          cases ek : keyD k with
          | none => rw [ek] at e1; cases e1
          | some k' =>
            rw [ek] at e1; cases e1
            cases h with
            | @tup a ws _ hz hr =>
              cases hr with
              | cons r1 r2 =>
                cases r2 with
                | cons r2 r3 =>
                  cases r3
                  rw [key_of r1 ek] at hz
                  exact ⟨a :: qs, (k', _) :: us, rfl, .cons (SqT.of (s _ _ hz)) q1, .cons r2 q2⟩
        · cases e1
      · cases e
abbrev rDictP (K : PySem.W.Frag) : List V → Hp → VK → Prop := fun xs H Q => ∃ (a : Addr) (ps : List Addr) (kvs : List (Key × V)), xs = [.ref a] ∧ SqL K H a (ps.map V.ref) ∧ Paired (fun p kv => SqT K H p [kV kv.1, kv.2]) ps kvs ∧
    ∀ p, H p = none → Q (.ref p) (upd H p (.dK (mergeK [] kvs)))
theorem ad_dictP : ADen K G (rDictP K) .t .f dictP := by
  intro vs ds Z H Q s n f h
  unfold dictP at h
  split at h
  · rename_i es
    split at h
    · rename_i kvs e
      obtain ⟨v, rfl, fv⟩ := fins1 f
      obtain ⟨a, us, rfl, hh, r⟩ := now_lst s fv
      obtain ⟨ps, ws, rfl, q1, q2⟩ := pairs_rep s r e
      exact ⟨a, ps, ws, rfl, SqL.of hh, q1, ansK s n h (mg_P q2 .nil)⟩
    · exact h.elim
  · exact h.elim
/-! list of a dict with tuple keys -/
def tupK (k : List Key) : D := .tup (k.map keyV)
def listDctT : List D → R D | [.dT kvs] => .ok (.lst (kvs.map fun kd => tupK kd.1)) | _ => .no
theorem frz_keys {T : List (Addr × Str)} : ∀ {vs : List (List Key × V)} {bs : List Addr} {Z H : Hp}, Sub Z H → (∀ a o, Z a = some o → NoTb o) → IsKeys H vs bs →
    ∃ Z', Grow T Z H Z' H ∧ ∀ (i : Nat) (b : Addr) (v : List Key × V), bs[i]? = some b → vs[i]? = some v → Rep K Z' (.ref b) (tupK v.1)
  | [], [], Z, H, s, n, _ => ⟨Z, .refl s n, fun i b v e _ => by simp at e⟩
  | [], _ :: _, _, _, _, _, h => by cases h
  | _ :: _, [], _, _, _, _, h => by cases h
  | v :: vs, b :: bs, Z, H, s, n, h => by
    cases h with
    | cons h t =>
      obtain ⟨Z', g, k⟩ := frz_keys (T := T) s n t
      have fin : ∀ Z2, Grow T Z H Z2 H → Rep K Z2 (.ref b) (tupK v.1) → Sub Z' Z2 → ∃ Z', Grow T Z H Z' H ∧ ∀ (i : Nat) (c : Addr) (w : List Key × V), (b :: bs)[i]? = some c → (v :: vs)[i]? = some w → Rep K Z' (.ref c) (tupK w.1) := fun Z2 g2 r sb =>
        ⟨Z2, g2, fun i c w e1 e2 => by
          cases i with
          | zero => simp at e1 e2; subst e1 e2; exact r
          | succ i => simp at e1 e2; exact Rep.le sb.le _ _ (k i c w e1 e2)⟩
      cases e : Z' b with
      | some w =>
        have := g.s _ _ e
        rw [h] at this; cases this
        exact fin Z' g (.tup e (reps_keyV _)) (Sub.refl _)
      | none => exact fin _ (grow_frz g.s g.n e h (nt_tup _) g (fun ⟨w, e, _, nu⟩ => by rw [h] at e; cases e; exact nu _ rfl)) (.tup upd_same (reps_keyV _)) (sub_upd e)
theorem reps_at {Z : Hp} : ∀ {vs : List V} {ds : List D}, vs.length = ds.length → (∀ (i : Nat) (v : V) (d : D), vs[i]? = some v → ds[i]? = some d → Rep K Z v d) → Reps K Z vs ds
  | [], [], _, _ => .nil
  | [], _ :: _, h, _ => by cases h
  | _ :: _, [], h, _ => by cases h
  | v :: vs, d :: ds, h, k => .cons (k 0 v d rfl rfl) (reps_at (by simpa using h) fun i v d e1 e2 => k (i + 1) v d (by simpa using e1) (by simpa using e2))
theorem isKeys_len {H : Hp} : ∀ {vs : List (List Key × V)} {bs : List Addr}, IsKeys H vs bs → bs.length = vs.length
  | _, _, .nil => rfl
  | _, _, .cons _ t => by rw [List.length_cons, List.length_cons, isKeys_len t]
theorem keysQ {Z : Hp} : ∀ {vs : List (List Key × V)} {ds : List (List Key × D)}, RepsQ K Z vs ds → vs.map (·.1) = ds.map (·.1)
  | _, _, .nil => rfl
  | _, _, .cons _ t => by rw [List.map_cons, List.map_cons, keysQ t]
abbrev rListDT : List V → Hp → VK → Prop := fun xs H Q => ∃ d kvs, xs = [V.ref d] ∧ Rd H d (.dT kvs) ∧ ∀ p bs, H p = none → IsKeys H kvs bs → Q (.ref p) (upd H p (.lst (bs.map V.ref)))
theorem ad_listDctT : ADen K G rListDT .t .f listDctT := by
  intro vs ds Z H Q s n f h
  unfold listDctT at h
  split at h
  · rename_i kvs
    obtain ⟨v, rfl, fv⟩ := fins1 f
    obtain ⟨a, us, rfl, hh, r⟩ := now_dT s fv
    refine ⟨a, us, rfl, hh, fun p bs hp hk => ?_⟩
    obtain ⟨Z', g, k⟩ := frz_keys (T := G.T) (K := K) s n hk
    have hl := isKeys_len hk
    have kq := keysQ r
    have hl2 := r.length
    have rr : Reps K Z' (bs.map V.ref) (kvs.map fun kd => tupK kd.1) := by
      refine reps_at (by rw [List.length_map, List.length_map, hl, hl2]) fun i v d e1 e2 => ?_
      rw [List.getElem?_map] at e1 e2
      cases e3 : bs[i]? with
      | none => rw [e3] at e1; cases e1
      | some b =>
        rw [e3] at e1; cases e1
        cases e4 : kvs[i]? with
        | none => rw [e4] at e2; cases e2
        | some kd =>
          rw [e4] at e2; cases e2
          have e5 : (us.map (·.1))[i]? = some kd.1 := by rw [kq, List.getElem?_map, e4]; rfl
          rw [List.getElem?_map] at e5
          cases e6 : us[i]? with
          | none => rw [e6] at e5; cases e5
          | some u =>
            rw [e6] at e5
            have e7 : u.1 = kd.1 := Option.some.inj e5
            have := k i b u e3 e6
            rw [e7] at this; exact this
    exact ansL (Z := Z') g.s g.n (Ans.grow h g) rr p hp
  · exact h.elim
end
/-! xs.pop(0) to a target -/
def pop0O (i : Nat) (t : Tg) : Env → Out := fun ρ => match ρ[i]? with
  | some (.ow (d :: ds)) => (match bindT t d (ρ.set i (.ow ds)) with | .ok ρ' => .nx ρ' | _ => .no)
  | _ => .no
section
variable {X : Cx} {G : Wh} {x : Str} {i : Nat} {p1 p2 apos cpos pos : Pos}
theorem dens_pop0 {tg : Expr} {t : Tg} {kk : Nat} (hN : X.N[i]? = some x) (hv : Vis X.env.scope x) (hd : (x == ("__debug__" : Str)) = false) (hcd : (x == ("__classdict__" : Str)) = false)
    (hbase : attributeBase (.Name x p1) "pop" X.env (eval (.Name x p1) X.env) = eval (.Name x p1) X.env)
    (hfew : ((backTo cpos (starEach [.Constant (.int 0) kk p2] X.env)).all (fun x => !x.1) && (backToKw cpos (keywordEach [] X.env)).all (fun x => x.1.isSome)
      && decide (([.Constant (.int 0) kk p2] : List Expr).length + ([] : List Keyword).length + (if ([] : List Keyword).isEmpty then 0 else 1) < 30)) = true)
    (hline : (apos.endLine == cpos.line) = true) (hst : starEach [.Constant (.int 0) kk p2] X.env = (false, eval (.Constant (.int 0) kk p2) X.env) :: starEach [] X.env) (hplain : (backTo cpos (starEach [] X.env)).any (·.1) = false)
    (hg : DenG X G tg t) (hs : swapsWithSole [tg] (.Call (.Attribute (.Name x p1) "pop" apos) [.Constant (.int 0) kk p2] [] cpos) pos.line X.env = pure false) (hw : swappedStores [tg] (.Call (.Attribute (.Name x p1) "pop" apos) [.Constant (.int 0) kk p2] [] cpos) X.env = pure none)
    (h1 : (assignEach [tg] X.env).map (·.2) = [assign tg X.env]) :
    DenS X G (.Assign [tg] (.Call (.Attribute (.Name x p1) "pop" apos) [.Constant (.int 0) kk p2] [] cpos) pos) (pop0O i t) := by
  obtain ⟨gt, pt, qt⟩ := hg.ex
  refine ⟨_, ps_asg (pe_bm PySem.F.plainAttrs_list PySem.F.slot_list_pop PySem.F.type_list_pop mt_popAt (pe_var hN hv hd hcd) (pa_cons pe_int pa_nil hst) hbase hfew hline hst hplain) pt hs hw h1, fun Z0 H0 Z H σ ρ D S h => ?_⟩
  unfold pop0O at h
  split at h
  · rename_i d ds ei
    split at h
    · rename_i ρ' eb
      obtain ⟨a, vs, e1, e2, e3, e4⟩ := own_list S ei
      cases e4 with
      | @cons v vs _ _ r1 r2 =>
        have S' := S.write ei rfl e1 (.ow upd_same e3 r2 : OwnAt X.K Z (upd H a (.lst vs)) a (.ow ds))
        refine ⟨.ref a, e1, tyL e2, a, v :: vs, 0, 0, v, rfl, rfl, e2, by decide, by decide, by rw [List.length_cons]; simp [seqIndex?], rfl, ?_⟩
        exact qt Z0 H0 Z _ σ _ ρ' v d _ S' r1 eb fun σ' _ S2 => h Z _ σ' S2
    · exact h.elim
  · exact h.elim
end
end VS
namespace VS
open PySem PySem.Spec PyProof.Rows L2 LamX
/-! dicts held against each other -/
def hitsK (kb : List (Key × D)) : List (Key × D) → Bool
  | [] => true | (k, v) :: r => (match lk kb k with | none => false | some y => eqD v y && hitsK kb r)
def shpK (ks : List (Key × D)) : Bool := ks.all fun kd => shp kd.2 && decide ((toPy kd.2).depth ≤ 190)
def cmNeK : D → D → R D
  | .dK ks, .dK ls => if shpK ks && shpK ls then .ok (.bl (!(ks.length == ls.length && hitsK ls ks))) else .no
  | _, _ => .no
section
variable {X : Cx} {pins : List (Addr × Obj)} {σ : L2.St} {H : Hp} {s : Shared} {P : Program} {w : World}
theorem shpK_at {ks : List (Key × D)} (h : shpK ks = true) {k : Key} {d : D} (e : lk ks k = some d) : (shp d && decide ((toPy d).depth ≤ 190)) = true := by
  unfold lk at e
  cases e1 : ks.find? fun kv => decide (kv.1 = k) with
  | none => rw [e1] at e; cases e
  | some p =>
    rw [e1] at e; cases e
    exact List.all_eq_true.mp h p (List.mem_of_find?_eq_some e1)
theorem hits_kd (I : Inv X pins σ H s) {A : Around} (hu : A.units + 190 < cLine) {ls : List (Key × V)} {vb : List (Key × Value)} {dls : List (Key × D)} (rb : KV ls vb) (db : RepsP X.K H ls dls) (sb : shpK dls = true) :
    ∀ {ks : List (Key × V)} {va : List (Key × Value)} {dks : List (Key × D)}, KV ks va → RepsP X.K H ks dks → shpK dks = true → PySem.W.KeqHits A s vb va (hitsK dls dks)
  | [], va, dks, ra, da, _ => by
    cases da
    have : va = [] := by cases ra; rfl
    subst this
    exact .nil
  | (k, v) :: ks, va, _, ra, .cons (d := d) (ds := dks) rd rt, sa => by
    unfold shpK at sa
    rw [List.all_cons, Bool.and_eq_true] at sa
    cases ra with
    | @cons _ q _ qs h t =>
      obtain ⟨h1, h2⟩ := h
      obtain ⟨key, u⟩ := q
      have h1' : k = key := h1
      subst h1'
      obtain ⟨i1, i2⟩ := lk_P (k := k) db
      have rr : RelO (valV ls k) (valueAt vb k) := rb.val k
      unfold hitsK
      cases e : lk dls k with
      | none =>
        rw [i2 e] at rr
        refine .miss ?_
        cases e2 : valueAt vb k with
        | none => rfl
        | some z => rw [e2] at rr; exact nomatch rr
      | some y =>
        obtain ⟨yv, e3, ry⟩ := i1 y e
        rw [e3] at rr
        obtain ⟨z, hz, rz⟩ := rr.some_of
        have sb2 := shpK_at sb e
        rw [Bool.and_eq_true] at sb2
        have sa2 := sa.1
        rw [Bool.and_eq_true] at sa2
        have d1 : (toPy d).depth ≤ 190 := of_decide_eq_true sa2.2
        obtain ⟨c1, _⟩ := shp_iff sa2.1
        obtain ⟨c2, _⟩ := shp_iff sb2.1
        obtain ⟨as, r1⟩ := Dp.reads I _ _ u (Rep.dp _ _ c1 rd) h2
        obtain ⟨bs, r2⟩ := Dp.reads I _ _ z (Rep.dp _ _ c2 ry) rz
        exact .hit hz (SeqAt.eqAt_reads _ _ A s u z as bs r1 r2 c1 c2 (by have := Nat.min_le_left (toPy d).depth (toPy y).depth; omega)) (hits_kd I hu rb db sb t rt sa.2)
def rNeK (K : PySem.W.Frag) : R2 := fun x y H Q => ∃ a b ks ls dks dls, x = .ref a ∧ y = .ref b ∧ Rd H a (.dK ks) ∧ Rd H b (.dK ls) ∧ RepsP K H ks dks ∧ RepsP K H ls dls ∧ shpK dks = true ∧ shpK dls = true ∧ Q (.bl (!(dks.length == dls.length && hitsK dls dks))) H
theorem op_neK (hu : X.A.units + 200 < cLine) : OpR X (compareOp .NotEq) (rNeK X.K) := by
  intro pins s σ H x y v u Q I rx ry h
  obtain ⟨a, b, ks, ls, dks, dls, rfl, rfl, ha, hb, ra, rb, sa, sb, q⟩ := h
  cases (show v = Value.ref a from rx)
  cases (show u = Value.ref b from ry)
  obtain ⟨_, ya, va, ka, da⟩ := dk_rd I.hok ha
  obtain ⟨_, yb, vb, kb, db⟩ := dk_rd I.hok hb
  refine PySem.W.keq_ne (knd := mixKind X.prog X.w) (r := hitsK dls dks) ya yb da db (by omega) (fun _ => hits_kd I (by show X.A.units + 1 + 190 < cLine; omega) kb rb sb ka ra sa) ?_
  have e1 : va.length = dks.length := by rw [← ka.length, ra.length]
  have e2 : vb.length = dls.length := by rw [← kb.length, rb.length]
  rw [e1, e2]
  exact ⟨.bl _, H, I, rfl, q⟩
end
section
variable {K : PySem.W.Frag} {G : Wh}
theorem rd_neK : RDen K G (rNeK K) .c cmNeK := by
  intro x y dx dy Z H Q s n hx hy h
  unfold cmNeK at h
  split at h
  · rename_i ks ls
    split at h
    · rename_i hc
      rw [Bool.and_eq_true] at hc
      obtain ⟨a, us, rfl, h1, r1⟩ := now_dK s hx
      obtain ⟨b, ws, rfl, h2, r2⟩ := now_dK s hy
      exact ⟨a, b, us, ws, ks, ls, rfl, rfl, h1, h2, RepsP.le s.le _ _ r1, RepsP.le s.le _ _ r2, hc.1, hc.2, ansC s n h (.bl _)⟩
    · exact h.elim
  · exact h.elim
end
end VS

set_option Elab.async false
set_option linter.all false
set_option maxRecDepth 100000
set_option maxHeartbeats 4000000
/-! VX2: sorted of what is walked: dicts with tuple keys. -/
namespace VS
open PySem PySem.Spec PyProof.Rows L2 LamX
mutual
theorem reads_lt {h : Heap} : ∀ (d : PyData) (v : Value) (as : List Addr), d.canLay0 = true → Reads h v d as → ∀ a ∈ as, a < h.objs.size
  | .none, _, _, _, r => by cases r; intro a q; cases q
  | .bool _, _, _, _, r => by cases r; intro a q; cases q
  | .int _, _, _, _, r => by cases r; intro a q; cases q
  | .str _, _, _, _, r => by cases r; intro a q; cases q
  | .list ds, _, _, c, r => by
    cases r with
    | list h1 _ _ h2 =>
      intro a q
      rcases List.mem_cons.mp q with rfl | q
      · exact Heap.lt_size h1
      · exact readsAll_lt ds _ _ (by simpa [PyData.canLay0] using c) h2 a q
  | .tuple ds, _, _, c, r => by
    cases r with
    | tuple h1 _ _ h2 => exact readsAll_lt ds _ _ (by simpa [PyData.canLay0] using c) h2
  | .dict _, _, _, c, _ => by simp [PyData.canLay0] at c
theorem readsAll_lt {h : Heap} : ∀ (ds : List PyData) (vs : List Value) (as : List Addr), PyData.canLayAll0 ds = true → ReadsAll h vs ds as → ∀ a ∈ as, a < h.objs.size
  | [], _, _, _, r => by cases r; intro a q; cases q
  | d :: ds, _, _, c, r => by
    rw [PyData.canLayAll0, Bool.and_eq_true] at c
    cases r with
    | cons h1 h2 =>
      intro a q
      rcases List.mem_append.mp q with q | q
      · exact reads_lt d _ _ c.1 h1 a q
      · exact readsAll_lt ds _ _ c.2 h2 a q
end
theorem sorted_src {prog : Program} {w : World} {A : Around} {E : Value → Shared → Prop} {s : Shared} {T : String} {r d : Addr} {n : Nat} {Pv : Nat → Value → Prop} {OK : Heap → Prop} {Q : Value → Shared → Prop} (Ks : PySem.W.KdlSrc prog w T r d n Pv OK) (hh : A.handled = none) (hok : OK s.heap) (hn : n ≤ sizeLine)
    (h : ∀ (h' : Heap) (tk : Nat) (acc : Array Value), (∀ b o, s.heap.get? b = some o → h'.get? b = some o) → ItemsOf Pv acc n →
      wpAny (model prog w) A.in1 (call (.builtin "list.sort") [.ref h'.objs.size]) (fun _ s' => Q (.ref h'.objs.size) s') E { s with heap := h'.push (seqObj "list" acc.toList.toArray 0), toks := tk }) :
    wpAny (model prog w) A (call (.builtin "sorted") [.ref r]) Q E s := by
  refine Calls.call_function_entry PyProof.Rows.kind_sorted PyProof.Rows.plain_sorted PyProof.Rows.entry_sorted (PyProof.Rows.args_sorted1 _) ?_
  unfold Builtin.«sorted»
  refine wpAny_bind (m := checkCount "sorted" 1 1 _) (wpAny_pure ?_)
  refine wpAny_bind (PySem.W.kdu_collect (A := A.in1) Ks hh hok hn fun h' tk acc hk hacc => ?_)
  have hal : acc.toList.length = n := by rw [Array.length_toList, hacc.1]
  refine wpAny_bind (wpAny_newList ?_ (by rw [hal]; exact hn))
  refine wpAny_bind (wpAny_holding (wpAny_mono (h h' tk acc hk hacc) (fun _ s' x => ?_) fun _ _ e => e))
  exact wpAny_pure ⟨_, rfl, x⟩
section
variable {X : Cx} {pins : List (Addr × Obj)} {σ : L2.St} {H : Hp}
/-- the sort of a new list of data -/
theorem sort_new {s' : Shared} {bs : List (V × D)} {acc : List Value} {Q : VK} (hu : X.A.units + 200 < cLine) (I : Inv X pins σ H s') (hv : Vals (bs.map (·.1)) acc) (hz : bs.length ≤ sizeLine) (hdp : ∀ b ∈ bs, Dp X.K H b.1 (toPy b.2)) (hok : okSort (bs.map (·.2)) = true)
    (q : ∀ p, H p = none → Q (.ref p) (upd H p (.lst ((bs.mergeSort fun b c => leD b.2 c.2).map (·.1))))) :
    wpAny (model X.prog X.w) X.A.in1 (call (.builtin "list.sort") [.ref s'.heap.objs.size]) (fun _ s'' => EP X pins σ Q (.ref s'.heap.objs.size) s'') X.xe { s' with heap := s'.heap.push (seqObj "list" acc.toArray 0) } := by
  have e := each_of hv
  have em : (bs.map encB) = (bs.map (·.2)).map toPy := by rw [List.map_map]; rfl
  have hoL : (s'.heap.push (seqObj "list" acc.toArray 0)).get? s'.heap.objs.size = some (seqObj "list" acc.toArray 0) := Heap.get?_push_size _ rfl
  have er : PySem.W.EachIs (fun v b => ∃ as, PySem.Reads (s'.heap.push (seqObj "list" acc.toArray 0)) v (encB b) as ∧ s'.heap.objs.size ∉ as) acc bs := by
    refine (PySem.W.each_mem e).mono fun v b ⟨rb, hb⟩ => ?_
    obtain ⟨as, r⟩ := Dp.reads I _ _ _ (hdp b hb) rb
    have c := (okSort_shp hok b.2 (List.mem_map.mpr ⟨b, hb, rfl⟩)).1
    exact ⟨as, PyProof.Rows.Reads.keeps (fun _ _ => Heap.get?_push_of_some _) r, fun z => Nat.lt_irrefl _ (reads_lt _ _ _ c r _ z)⟩
  refine PySem.W.list_sort_data (s := { s' with heap := s'.heap.push (seqObj "list" acc.toArray 0) }) hoL e er (by rw [em]; exact okSort_alike hok) (by rw [em]; exact okSort_sortable hok) hz (fun b hb => ?_) fun out ho h2 => ?_
  · have := (okSort_shp hok b.2 (List.mem_map.mpr ⟨b, hb, rfl⟩)).2
    show X.A.units + 1 + 1 + (toPy b.2).depth < cLine
    omega
  · have hv2 := of_each h2
    obtain ⟨e', he'⟩ := PyProof.Rows.sortedHeap_at (vs := acc) (out := out.toArray) hoL
    refine ⟨.ref _, upd H s'.heap.objs.size (.lst ((bs.mergeSort (PySem.W.dataLe false encB)).map (·.1))), I.laid (t' := s'.toks) (fun b u e => ?_) (Nat.le_refl _) ⟨by rw [List.length_map, List.length_mergeSort]; exact hz, out, e', hv2, he'⟩, rfl, q _ (I.hok.fresh (Nat.le_refl _))⟩
    have hb : b < s'.heap.objs.size := Heap.lt_size e
    rw [PyProof.Rows.sortedHeap_old (Nat.ne_of_lt hb) (by rw [size_push']; exact Nat.lt_succ_of_lt hb)]
    exact Heap.get?_push_of_some _ e
def rSortDT : List V → Hp → VK → Prop := fun xs H Q => ∃ (d : Addr) (kvs : List (List Key × V)), xs = [V.ref d] ∧ Rd H d (.dT kvs) ∧ okSort (kvs.map fun kd => tupK kd.1) = true ∧
  ∀ (p : Addr) (bs : List Addr), H p = none → IsKeys H kvs bs → Q (.ref p) (upd H p (.lst ((((bs.map V.ref).zip (kvs.map fun kd => tupK kd.1)).mergeSort fun b c => leD b.2 c.2).map (·.1))))
theorem zip_fst {α β : Type} : ∀ {as : List α} {bs : List β}, as.length = bs.length → (as.zip bs).map (·.1) = as
  | [], [], _ => rfl
  | [], _ :: _, h => by cases h
  | _ :: _, [], h => by cases h
  | a :: as, b :: bs, h => by rw [List.zip_cons_cons, List.map_cons, zip_fst (by simpa using h)]
theorem zip_snd {α β : Type} : ∀ {as : List α} {bs : List β}, as.length = bs.length → (as.zip bs).map (·.2) = bs
  | [], [], _ => rfl
  | [], _ :: _, h => by cases h
  | _ :: _, [], h => by cases h
  | a :: as, b :: bs, h => by rw [List.zip_cons_cons, List.map_cons, zip_snd (by simpa using h)]
theorem dp_keys {K : PySem.W.Frag} : ∀ k : List Key, DpAll K H (k.map kV) (toPys (k.map keyV))
  | [] => .nil
  | .inl i :: k => .cons (.int i) (dp_keys k)
  | .inr x :: k => .cons (.str x) (dp_keys k)
theorem cr_sortDT (hc : X.calm = true) (hu : X.A.units + 200 < cLine) : CallR X (.builtin "sorted") rSortDT := by
  intro pins s σ H xs us Q I r h
  obtain ⟨d, kvs, rfl, hd, hok, q⟩ := h
  obtain ⟨u, rfl, rx⟩ := r.one
  cases rx
  obtain ⟨z, hs, ks, pr, o, es, ep, ho, hx, hdt, he, hn⟩ := (show ObjOk X.prog X.w H s.heap d (.dT kvs) from hd.ok I.hok)
  have l1 : es.size = ks.length := size_of_entries he
  have l2 : kvs.length = ks.length := Paired.length pr
  refine sorted_src (kdl_raw hs hx hdt) (I.ok.hd hc) ho (by omega) fun h' tk acc' kp it => ?_
  have ea : acc'.toList = ks.map fun x => Value.ref x.2.1 := by
    have hl : acc'.toList.length = ks.length := by rw [Array.length_toList, it.1]; exact l1
    apply List.ext_getElem?
    intro j
    rw [List.getElem?_map]
    cases hj : acc'.toList[j]? with
    | none =>
      have h1 := List.getElem?_eq_none_iff.mp hj
      rw [List.getElem?_eq_none (by omega)]
      all_goals rfl
    | some v =>
      obtain ⟨en, hen, hv⟩ := it.2 j v (by rw [← Array.getElem?_toList]; exact hj)
      have qe := entry_at he j
      rw [hen] at qe
      cases hb : ks[j]? with
      | none =>
        rw [hb] at qe
        exact nomatch (show some en = none from qe)
      | some b =>
        rw [hb] at qe
        have e2 : en = entryOfKey (tupleKind (mixKind X.prog X.w)) b := Option.some.inj qe
        rw [hv, e2]
        all_goals rfl
  have eb : acc'.toList = (ks.map fun x => x.2.1).map Value.ref := by rw [ea, List.map_map]; all_goals rfl
  have rv : Vals ((ks.map fun x => x.2.1).map V.ref) acc'.toList := by rw [eb]; exact vals_refs _
  have I1 : Inv X pins σ H { s with heap := h', toks := tk } := I.kept kp
  have ik := isKeys_of pr
  generalize ks.map (fun x => x.2.1) = bs at ik rv
  have lb := isKeys_len ik
  have lz : (bs.map V.ref).length = (kvs.map fun kd => tupK kd.1).length := by rw [List.length_map, List.length_map, lb]
  refine sort_new (s' := { s with heap := h', toks := tk }) (bs := (bs.map V.ref).zip (kvs.map fun kd => tupK kd.1)) hu I1 (by rw [zip_fst lz]; exact rv) (by rw [List.length_zip, List.length_map, List.length_map]; omega) (fun b hb => ?_) (by rw [zip_snd lz]; exact hok) fun p hp => q p bs hp ik
  obtain ⟨i, hi⟩ := List.getElem?_of_mem hb
  rw [List.getElem?_zip_eq_some] at hi
  obtain ⟨h1, h2⟩ := hi
  rw [List.getElem?_map] at h1 h2
  cases e1 : bs[i]? with
  | none => rw [e1] at h1; cases h1
  | some a =>
    rw [e1] at h1
    cases e2 : kvs[i]? with
    | none => rw [e2] at h2; cases h2
    | some kv =>
      rw [e2] at h2
      have b1 : b.1 = .ref a := (Option.some.inj h1).symm
      have b2 : b.2 = tupK kv.1 := (Option.some.inj h2).symm
      rw [b1, b2]
      have hH : H a = some (.tup (kv.1.map kV)) := by
        have : ∀ {kvs : List (List Key × V)} {bs : List Addr} {i : Nat}, IsKeys H kvs bs → bs[i]? = some a → kvs[i]? = some kv → H a = some (.tup (kv.1.map kV)) := by
          intro kvs bs i ik
          induction ik generalizing i with
          | nil => intro q; simp at q
          | cons h t ih =>
            cases i with
            | zero => intro q1 q2; simp at q1 q2; subst q1 q2; exact h
            | succ i => intro q1 q2; exact ih (by simpa using q1) (by simpa using q2)
        exact this ik e1 e2
      exact .tup (SqT.of hH) (dp_keys _)
end
section
variable {K : PySem.W.Frag} {G : Wh}
def sortDctT : List D → R D
  | [.dT kvs] => if okSort (kvs.map fun kd => tupK kd.1) then .ok (.lst (srtL (kvs.map fun kd => tupK kd.1))) else .no
  | _ => .no
theorem ad_sortDctT : ADen K G rSortDT .t .f sortDctT := by
  intro vs ds Z H Q s n f h
  unfold sortDctT at h
  split at h
  · rename_i kvs
    split at h
    · rename_i hok
      obtain ⟨v, rfl, fv⟩ := fins1 f
      obtain ⟨a, us, rfl, hh, r⟩ := now_dT s fv
      have kq := keysQ r
      have ek : (us.map fun kd => tupK kd.1) = kvs.map fun kd => tupK kd.1 := by
        have := congrArg (List.map tupK) kq
        rw [List.map_map, List.map_map] at this; exact this
      refine ⟨a, us, rfl, hh, by rw [ek]; exact hok, fun p bs hp hk => ?_⟩
      obtain ⟨Z', g, k⟩ := frz_keys (T := G.T) (K := K) s n hk
      have hl := isKeys_len hk
      have hl2 := r.length
      rw [ek]
      have lz : (bs.map V.ref).length = (kvs.map fun kd => tupK kd.1).length := by rw [List.length_map, List.length_map, hl, hl2]
      have hb : ∀ b ∈ (bs.map V.ref).zip (kvs.map fun kd => tupK kd.1), Rep K Z' b.1 b.2 := fun b hb => by
        obtain ⟨i, hi⟩ := List.getElem?_of_mem hb
        rw [List.getElem?_zip_eq_some] at hi
        obtain ⟨h1, h2⟩ := hi
        rw [← ek] at h2
        rw [List.getElem?_map] at h1 h2
        cases e1 : bs[i]? with
        | none => rw [e1] at h1; cases h1
        | some c =>
          rw [e1] at h1
          cases e2 : us[i]? with
          | none => rw [e2] at h2; cases h2
          | some kv =>
            rw [e2] at h2
            have b1 : b.1 = .ref c := (Option.some.inj h1).symm
            have b2 : b.2 = tupK kv.1 := (Option.some.inj h2).symm
            rw [b1, b2]
            exact k i c kv e1 e2
      have e : srtL (kvs.map fun kd => tupK kd.1) = (((bs.map V.ref).zip (kvs.map fun kd => tupK kd.1)).mergeSort fun b c => leD b.2 c.2).map (·.2) := by
        rw [List.map_mergeSort (r := fun b c : V × D => leD b.2 c.2) (s := leD) (f := fun b : V × D => b.2) (fun _ _ _ _ => rfl), zip_snd lz]; rfl
      rw [e] at h
      exact ansL (Z := Z') g.s g.n (Ans.grow h g) (zip_reps fun b hb' => hb b (List.mem_mergeSort.mp hb')) p hp
    · exact h.elim
  · exact h.elim
end
end VS

set_option Elab.async false
set_option linter.all false
set_option maxRecDepth 100000
set_option maxHeartbeats 4000000
/-! VX3: the new readings with their small conditions filled in. -/
namespace VS
open PySem PySem.Spec PyProof.Rows L2 LamX
section
variable {X : Cx} {G : Wh} {m m1 m2 : Md} {a b e : Expr} {ga gb g : VS.Env → R D} {pos : Pos}
theorem powi (ha : Den X G m1 a ga) (hb : Den X G m2 b gb) : Den X G .c (.BinOp a .Pow b pos) (geOp powI ga gb) := den_op op_pow rd_powI ha hb
theorem nek (ha : Den X G m1 a ga) (hb : Den X G m2 b gb) (hu : X.A.units + 200 < cLine) (hm : behindInMarks .NotEq b = false := by rfl) : Den X G .c (.Compare a [.NotEq] [b] pos) (geOp cmNeK ga gb) := den_cmp (op_neK hu) rd_neK ha hb hm
theorem tnek (ha : Den X G m1 a ga) (hb : Den X G m2 b gb) (hu : X.A.units + 200 < cLine) (hm : behindInMarks .NotEq b = false := by rfl) : DenT X G (.Compare a [.NotEq] [b] pos) (geB (geOp cmNeK ga gb)) := dent_cmp (op_neK hu) rd_neK ha hb hm
theorem den_isX {op : CmpOp} {q : D → R D} {bf : V → Bool} {bd : D → Bool} (hr : ∀ {t : TE}, PE X a t → ∀ {p : Pos} {k : Nat}, PE X (.Compare a [op] [.Constant .none k p] pos) (fun σ H Q => t σ H fun x H1 => Q (.bl (bf x)) H1)) (e1 : ∀ d, q d = .ok (.bl (bd d))) (e2 : ∀ {Z H : Hp} {x : V} {d : D}, Fin X.K H Z H .t x d → bf x = bd d) (ha : Den X G m1 a ga) {p : Pos} {k : Nat} :
    Den X G .c (.Compare a [op] [.Constant .none k p] pos) (ge1 q ga) := by
  obtain ⟨t, pt, r⟩ := ha.ex
  refine ⟨_, hr pt, fun Z0 H0 Z H σ ρ Q S h => ?_⟩
  refine r Z0 H0 Z H σ ρ _ S ?_
  unfold ge1 at h
  cases ea : ga ρ with
  | no => rw [ea] at h; exact h
  | ex c => rw [ea] at h; exact h
  | ok d =>
    rw [ea] at h
    have h' : Ans X.K G .c (q d) Z H Q := h
    rw [e1] at h'
    intro v Z1 H1 g1 f1
    rw [e2 (f1.now (Hx := H1))]
    exact h' (.bl _) Z1 H1 g1 (.bl _)
def isNon : D → Bool | .non => true | _ => false
theorem now_isNon {K : PySem.W.Frag} {Z H : Hp} {x : V} {d : D} (h : Fin K H Z H .t x d) : decide (x = .non) = isNon d := by
  have := now_isN h
  cases d <;> exact this
theorem isn (ha : Den X G m1 a ga) {p : Pos} {k : Nat} : Den X G .c (.Compare a [.Is] [.Constant .none k p] pos) (ge1 isN ga) :=
  den_isX (bf := fun x => decide (x = .non)) (bd := isNon) (fun pt _ _ => pe_cmp (pc_isN pt) rfl) (fun d => by cases d <;> rfl) (fun h => now_isNon h) ha
theorem notn (ha : Den X G m1 a ga) {p : Pos} {k : Nat} : Den X G .c (.Compare a [.IsNot] [.Constant .none k p] pos) (ge1 notN ga) :=
  den_isX (bf := fun x => !decide (x = .non)) (bd := fun d => !isNon d) (fun pt _ _ => pe_cmp (pc_notN pt) rfl) (fun d => by cases d <;> rfl) (fun h => by rw [now_isNon h]) ha
section
variable {x : Str} {i : Nat} {p1 p2 apos cpos : Pos}
theorem spop0 {tg : Expr} {t : Tg} {kk : Nat} (hg : DenG X G tg t) (hN : X.N[i]? = some x := by rfl) (hv : Vis X.env.scope x := by first | exact .inl (by rfl) | exact .inr (.inl (by rfl)) | exact .inr (.inr (by rfl))) (hd : (x == ("__debug__" : Str)) = false := by rfl) (hcd : (x == ("__classdict__" : Str)) = false := by rfl)
    (hbase : attributeBase (.Name x p1) "pop" X.env (eval (.Name x p1) X.env) = eval (.Name x p1) X.env := by rfl)
    (hfew : ((backTo cpos (starEach [.Constant (.int 0) kk p2] X.env)).all (fun x => !x.1) && (backToKw cpos (keywordEach [] X.env)).all (fun x => x.1.isSome)
      && decide (([.Constant (.int 0) kk p2] : List Expr).length + ([] : List Keyword).length + (if ([] : List Keyword).isEmpty then 0 else 1) < 30)) = true := by rfl)
    (hline : (apos.endLine == cpos.line) = true := by rfl) (hst : starEach [.Constant (.int 0) kk p2] X.env = (false, eval (.Constant (.int 0) kk p2) X.env) :: starEach [] X.env := by rfl) (hplain : (backTo cpos (starEach [] X.env)).any (·.1) = false := by rfl)
    (hs : swapsWithSole [tg] (.Call (.Attribute (.Name x p1) "pop" apos) [.Constant (.int 0) kk p2] [] cpos) pos.line X.env = pure false := by rfl) (hw : swappedStores [tg] (.Call (.Attribute (.Name x p1) "pop" apos) [.Constant (.int 0) kk p2] [] cpos) X.env = pure none := by rfl)
    (h1 : (assignEach [tg] X.env).map (·.2) = [assign tg X.env] := by rfl) :
    DenS X G (.Assign [tg] (.Call (.Attribute (.Name x p1) "pop" apos) [.Constant (.int 0) kk p2] [] cpos) pos) (pop0O i t) := dens_pop0 hN hv hd hcd hbase hfew hline hst hplain hg hs hw h1
end
end
end VS

set_option Elab.async false
set_option linter.all false
set_option maxRecDepth 100000
set_option maxHeartbeats 4000000
/-! VX4: raise of an own class. -/
namespace VS
open PySem PySem.Spec PyProof.Rows L2 LamX
structure ExF (K : PySem.W.Frag) (mg : Str → Option Value) (cl : Str → Addr) (x : Str) : Prop where
  g : mg x = some (.ref (cl x))
  q : PySem.W.excIn K (cl x) He.veBase "ValueError.__new__" = true
  k : PySem.W.keepIn K (.ref (cl x)) = true
  b : PySem.W.subIn K (.ref (cl x)) (.type "BaseException") = some true
  t : PySem.W.typeIn K (.ref (cl x)) = some (.type "type")
theorem sraise {X : Cx} {G : Wh} {K : PySem.W.Frag} {mg : Str → Option Value} {cl : Str → Addr} {x m : Str} {j : Nat} {p p2 pos pos' : Pos} (hx : ExF K mg cl x) (tk : L2N.Takes X (fun cls d _ H => G.E cls d H)) (h3 : X.K = K := by rfl) (h4 : X.mg = mg := by rfl) (h7 : G.cl = cl := by rfl) (hc : X.calm = true := by rfl) (hg : Gl X x := by rfl) (hdb : (x == ("__debug__" : Str)) = false := by rfl) :
    DenS X G (.Raise (some (.Call (.Name x p) [.Constant (.str m) j p2] [] pos')) none pos) (fun _ => .ex x) := by
  subst h3 h4 h7
  refine ⟨_, L2N.ps_raise hc tk (L2N.pmk_own PySem.F.excBase_ValueError hx.q hx.g hx.k (L2.raises_own hx.b hx.t) hg hdb), fun Z0 H0 Z H σ ρ D S h => ?_⟩
  exact post_ex S h Z H (.refl S.sub S.nt)
end VS

set_option Elab.async false
set_option linter.all false
set_option maxRecDepth 100000
namespace VP
open PySem PySem.Spec PyProof.Rows L2 LamX VS
noncomputable section
structure S__law_cell where
  (script k : Sl)
def S__law_cell.e (s : S__law_cell) : VS.Env := [s.script, s.k]
@[simp] theorem S__law_cell.g0 (s : S__law_cell) : s.e[0]? = Option.some s.script := rfl
@[simp] theorem S__law_cell.w0 (s : S__law_cell) (u : Sl) : List.set s.e 0 u = S__law_cell.e { s with script := u } := rfl
@[simp] theorem S__law_cell.g1 (s : S__law_cell) : s.e[1]? = Option.some s.k := rfl
@[simp] theorem S__law_cell.w1 (s : S__law_cell) (u : Sl) : List.set s.e 1 u = S__law_cell.e { s with k := u } := rfl
theorem S__law_cell.st (d0 d1 : D) : startE 2 [d0, d1] = S__law_cell.e { script := .im d0, k := .im d1 } := rfl
def b__law_cell : VS.Env → Out :=
 (seqO (ifO (geB (geOp cmEq (geV 0) (geA lstD gaNil)))
  (fun ρ => ofR ((geOp mulI (geV 1) (gI 7919)) ρ) .rt)
  .nx)
 (fun ρ => ofR ((geOp addI (geOp ixC (geV 0) (geOp modI (geV 1) (geA lenD (gaCons (geV 0) gaNil)))) (geOp mulI (geOp fdivI (geV 1) (geA lenD (gaCons (geV 0) gaNil))) (gI 104729))) ρ) .rt))
def F__law_cell : List D → R D := runDef 2 b__law_cell
structure S__law_drawn where
  (cell_here k more : Sl)
def S__law_drawn.e (s : S__law_drawn) : VS.Env := [s.cell_here, s.k, s.more]
@[simp] theorem S__law_drawn.g0 (s : S__law_drawn) : s.e[0]? = Option.some s.cell_here := rfl
@[simp] theorem S__law_drawn.w0 (s : S__law_drawn) (u : Sl) : List.set s.e 0 u = S__law_drawn.e { s with cell_here := u } := rfl
@[simp] theorem S__law_drawn.g1 (s : S__law_drawn) : s.e[1]? = Option.some s.k := rfl
@[simp] theorem S__law_drawn.w1 (s : S__law_drawn) (u : Sl) : List.set s.e 1 u = S__law_drawn.e { s with k := u } := rfl
@[simp] theorem S__law_drawn.g2 (s : S__law_drawn) : s.e[2]? = Option.some s.more := rfl
@[simp] theorem S__law_drawn.w2 (s : S__law_drawn) (u : Sl) : List.set s.e 2 u = S__law_drawn.e { s with more := u } := rfl
theorem S__law_drawn.st (d0 d1 : D) : startE 3 [d0, d1] = S__law_drawn.e { cell_here := .im d0, k := .im d1, more := .un } := rfl
def b__law_drawn : VS.Env → Out :=
 (seqO (fun ρ => ofR ((geOp modI (geOp addI (geOp mulI (geV 0) (gI 6364136223846793005)) (geOp mulI (geOp addI (geV 1) (gI 1)) (gI 1442695040888963407))) (gI 340282366920938463463374607431768211507)) ρ) fun d => .nx (ρ.set 2 (.im d)))
 (seqO (fun ρ => ofR ((geOp modI (geOp mulI (geV 2) (geV 2)) (gI 340282366920938463463374607431768211297)) ρ) fun d => .nx (ρ.set 2 (.im d)))
 (seqO (fun ρ => ofR ((geOp mulI (geOp mulI (geOp addI (geOp modI (geV 2) (gI 18446744073709551557)) (gI 1)) (geOp addI (geOp fdivI (geV 2) (gI 18446744073709551557)) (gI 1))) (geV 2)) ρ) fun d => .nx (ρ.set 2 (.im d)))
 (fun ρ => ofR ((geOp modI (geV 2) (gI 340282366920938463463374607431768211507)) ρ) .rt))))
def F__law_drawn : List D → R D := runDef 3 b__law_drawn
structure S__law_name where
  (more : Sl)
def S__law_name.e (s : S__law_name) : VS.Env := [s.more]
@[simp] theorem S__law_name.g0 (s : S__law_name) : s.e[0]? = Option.some s.more := rfl
@[simp] theorem S__law_name.w0 (s : S__law_name) (u : Sl) : List.set s.e 0 u = S__law_name.e { s with more := u } := rfl
theorem S__law_name.st (d0 : D) : startE 1 [d0] = S__law_name.e { more := .im d0 } := rfl
def b__law_name : VS.Env → Out :=
 (fun ρ => ofR ((geOp ixL (geA lstD (gaCons (gS "a") (gaCons (gS "b") (gaCons (gS "c") (gaCons (gS "ab") (gaCons (gS "work") (gaCons (gS "abcdefgh") gaNil))))))) (geOp modI (geOp fdivI (geV 0) (gI 8)) (gI 6))) ρ) .rt)
def F__law_name : List D → R D := runDef 1 b__law_name
def L__law_calls_1 (self : List D → R D) : VS.Env → Out :=
 (seqO (fun ρ => ofR ((geA F__law_drawn (gaCons (geV 0) (gaCons (geV 4) gaNil))) ρ) fun d => .nx (ρ.set 7 (.im d)))
  (seqO (fun ρ => ofR ((geOp addI (geV 6) (geOp modI (geOp fdivI (geV 7) (gI 8)) (geOp ixL (geA lstD (gaCons (gI 1) (gaCons (gI 4) (gaCons (gI 9) gaNil)))) (geOp modI (geV 7) (gI 3))))) ρ) fun d => .nx (ρ.set 8 (.im d)))
  (seqO (fun ρ => ofR ((geOp addI (geV 8) (geOp modI (geOp fdivI (geV 7) (gI 512)) (geOp ixL (geA lstD (gaCons (gI 1) (gaCons (gI 7) (gaCons (gI 40) (gaCons (gI 300) gaNil))))) (geOp modI (geOp fdivI (geV 7) (gI 64)) (gI 4))))) ρ) fun d => .nx (ρ.set 9 (.im d)))
  (ifO (geB (geOp (cmI fun i j => decide (i ≤ j)) (geV 9) (geV 2)))
   (seqO (appO 5 (geA tupD (gaCons (geA F__law_name (gaCons (geOp fdivI (geV 7) (gI 16)) gaNil)) (gaCons (geV 8) (gaCons (geV 9) (gaCons (geA self (gaCons (geA F__law_drawn (gaCons (geV 7) (gaCons (gI 1) gaNil))) (gaCons (geV 8) (gaCons (geV 9) (gaCons (geOp subI (geV 3) (gI 1)) gaNil))))) gaNil))))))
   (fun ρ => ofR ((geV 9) ρ) fun d => .nx (ρ.set 6 (.im d))))
   .nx))))
structure S__law_calls where
  (more low high deep j found here one first last : Sl)
def S__law_calls.e (s : S__law_calls) : VS.Env := [s.more, s.low, s.high, s.deep, s.j, s.found, s.here, s.one, s.first, s.last]
@[simp] theorem S__law_calls.g0 (s : S__law_calls) : s.e[0]? = Option.some s.more := rfl
@[simp] theorem S__law_calls.w0 (s : S__law_calls) (u : Sl) : List.set s.e 0 u = S__law_calls.e { s with more := u } := rfl
@[simp] theorem S__law_calls.g1 (s : S__law_calls) : s.e[1]? = Option.some s.low := rfl
@[simp] theorem S__law_calls.w1 (s : S__law_calls) (u : Sl) : List.set s.e 1 u = S__law_calls.e { s with low := u } := rfl
@[simp] theorem S__law_calls.g2 (s : S__law_calls) : s.e[2]? = Option.some s.high := rfl
@[simp] theorem S__law_calls.w2 (s : S__law_calls) (u : Sl) : List.set s.e 2 u = S__law_calls.e { s with high := u } := rfl
@[simp] theorem S__law_calls.g3 (s : S__law_calls) : s.e[3]? = Option.some s.deep := rfl
@[simp] theorem S__law_calls.w3 (s : S__law_calls) (u : Sl) : List.set s.e 3 u = S__law_calls.e { s with deep := u } := rfl
@[simp] theorem S__law_calls.g4 (s : S__law_calls) : s.e[4]? = Option.some s.j := rfl
@[simp] theorem S__law_calls.w4 (s : S__law_calls) (u : Sl) : List.set s.e 4 u = S__law_calls.e { s with j := u } := rfl
@[simp] theorem S__law_calls.g5 (s : S__law_calls) : s.e[5]? = Option.some s.found := rfl
@[simp] theorem S__law_calls.w5 (s : S__law_calls) (u : Sl) : List.set s.e 5 u = S__law_calls.e { s with found := u } := rfl
@[simp] theorem S__law_calls.g6 (s : S__law_calls) : s.e[6]? = Option.some s.here := rfl
@[simp] theorem S__law_calls.w6 (s : S__law_calls) (u : Sl) : List.set s.e 6 u = S__law_calls.e { s with here := u } := rfl
@[simp] theorem S__law_calls.g7 (s : S__law_calls) : s.e[7]? = Option.some s.one := rfl
@[simp] theorem S__law_calls.w7 (s : S__law_calls) (u : Sl) : List.set s.e 7 u = S__law_calls.e { s with one := u } := rfl
@[simp] theorem S__law_calls.g8 (s : S__law_calls) : s.e[8]? = Option.some s.first := rfl
@[simp] theorem S__law_calls.w8 (s : S__law_calls) (u : Sl) : List.set s.e 8 u = S__law_calls.e { s with first := u } := rfl
@[simp] theorem S__law_calls.g9 (s : S__law_calls) : s.e[9]? = Option.some s.last := rfl
@[simp] theorem S__law_calls.w9 (s : S__law_calls) (u : Sl) : List.set s.e 9 u = S__law_calls.e { s with last := u } := rfl
theorem S__law_calls.st (d0 d1 d2 d3 : D) : startE 10 [d0, d1, d2, d3] = S__law_calls.e { more := .im d0, low := .im d1, high := .im d2, deep := .im d3, j := .un, found := .un, here := .un, one := .un, first := .un, last := .un } := rfl
def b__law_calls (self : List D → R D) : VS.Env → Out :=
 (seqO (parO2 5 6 .f .c (geA lstD gaNil) (geV 1))
 (seqO (forO (.nm 4) (gSeqA rng1 (gaCons (geIf (geB (geOp (cmI fun i j => decide (j < i)) (geV 3) (gI 0))) (geOp modI (geV 0) (gI 4)) (gI 0)) gaNil))
  (L__law_calls_1 self))
 (fun ρ => ofR ((geA tupOf (gaCons (geT 5) gaNil)) ρ) .rt)))
def F__law_calls : Nat → List D → R D
  | 0 => noF
  | j + 1 => runDef 10 (b__law_calls (F__law_calls j))
def L__law_trees_1 : VS.Env → Out :=
 (seqO (fun ρ => ofR ((geA F__law_drawn (gaCons (geV 0) (gaCons (geOp addI (gI 10) (geV 2)) gaNil))) ρ) fun d => .nx (ρ.set 3 (.im d)))
  (seqO (fun ρ => ofR ((geA (F__law_calls 8) (gaCons (geOp fdivI (geV 3) (gI 8)) (gaCons (geOp modI (geV 3) (gI 5)) (gaCons (geOp addI (gI 5) (geOp modI (geOp fdivI (geV 3) (gI 64)) (gI 900))) (gaCons (gI 4) gaNil))))) ρ) fun d => .nx (ρ.set 4 (.im d)))
  (ifO (gAnd (geB (geOp cmNe (geV 4) (geA tupD gaNil))) (geB (geOp (cmI fun i j => decide (j < i)) (geOp modI (geV 3) (gI 3)) (gI 0))))
   (putO 1 (geV 4) (geV 2))
   .nx)))
structure S__law_trees where
  (more found hand here calls_here : Sl)
def S__law_trees.e (s : S__law_trees) : VS.Env := [s.more, s.found, s.hand, s.here, s.calls_here]
@[simp] theorem S__law_trees.g0 (s : S__law_trees) : s.e[0]? = Option.some s.more := rfl
@[simp] theorem S__law_trees.w0 (s : S__law_trees) (u : Sl) : List.set s.e 0 u = S__law_trees.e { s with more := u } := rfl
@[simp] theorem S__law_trees.g1 (s : S__law_trees) : s.e[1]? = Option.some s.found := rfl
@[simp] theorem S__law_trees.w1 (s : S__law_trees) (u : Sl) : List.set s.e 1 u = S__law_trees.e { s with found := u } := rfl
@[simp] theorem S__law_trees.g2 (s : S__law_trees) : s.e[2]? = Option.some s.hand := rfl
@[simp] theorem S__law_trees.w2 (s : S__law_trees) (u : Sl) : List.set s.e 2 u = S__law_trees.e { s with hand := u } := rfl
@[simp] theorem S__law_trees.g3 (s : S__law_trees) : s.e[3]? = Option.some s.here := rfl
@[simp] theorem S__law_trees.w3 (s : S__law_trees) (u : Sl) : List.set s.e 3 u = S__law_trees.e { s with here := u } := rfl
@[simp] theorem S__law_trees.g4 (s : S__law_trees) : s.e[4]? = Option.some s.calls_here := rfl
@[simp] theorem S__law_trees.w4 (s : S__law_trees) (u : Sl) : List.set s.e 4 u = S__law_trees.e { s with calls_here := u } := rfl
theorem S__law_trees.st (d0 : D) : startE 5 [d0] = S__law_trees.e { more := .im d0, found := .un, hand := .un, here := .un, calls_here := .un } := rfl
def b__law_trees : VS.Env → Out :=
 (seqO (ownO 1 (fun _ => .ok (.dK [])))
 (seqO (forO (.nm 2) (gSeqA rng2 (gaCons (gI 1) (gaCons (gI 5) gaNil)))
  L__law_trees_1)
 (frzO 1 (fun ρ => ofR ((geV 1) ρ) .rt))))
def F__law_trees : List D → R D := runDef 5 b__law_trees
structure S_is_count where
  (thing low high : Sl)
def S_is_count.e (s : S_is_count) : VS.Env := [s.thing, s.low, s.high]
@[simp] theorem S_is_count.g0 (s : S_is_count) : s.e[0]? = Option.some s.thing := rfl
@[simp] theorem S_is_count.w0 (s : S_is_count) (u : Sl) : List.set s.e 0 u = S_is_count.e { s with thing := u } := rfl
@[simp] theorem S_is_count.g1 (s : S_is_count) : s.e[1]? = Option.some s.low := rfl
@[simp] theorem S_is_count.w1 (s : S_is_count) (u : Sl) : List.set s.e 1 u = S_is_count.e { s with low := u } := rfl
@[simp] theorem S_is_count.g2 (s : S_is_count) : s.e[2]? = Option.some s.high := rfl
@[simp] theorem S_is_count.w2 (s : S_is_count) (u : Sl) : List.set s.e 2 u = S_is_count.e { s with high := u } := rfl
theorem S_is_count.st (d0 d1 d2 : D) : startE 3 [d0, d1, d2] = S_is_count.e { thing := .im d0, low := .im d1, high := .im d2 } := rfl
def b_is_count : VS.Env → Out :=
 (fun ρ => ofR ((gAndV (ge1 (isiD .int) (geV 0)) (gAndV (geOfB (gNot (geB (ge1 (isiD .bool) (geV 0))))) (geChain (cmI fun i j => decide (i ≤ j)) (cmI fun i j => decide (i ≤ j)) (geV 1) (geV 0) (geV 2)))) ρ) .rt)
def F_is_count : List D → R D := runDef 3 b_is_count
def C_is_name_1 : VS.Env → R D :=
 (compE (.nm 1) [1] (gSeq itS (geV 0)) (fun _ => .ok true) (geOp (inS false) (geV 1) (gS "abcdefghijklmnopqrstuvwxyz")))
structure S_is_name where
  (thing sign : Sl)
def S_is_name.e (s : S_is_name) : VS.Env := [s.thing, s.sign]
@[simp] theorem S_is_name.g0 (s : S_is_name) : s.e[0]? = Option.some s.thing := rfl
@[simp] theorem S_is_name.w0 (s : S_is_name) (u : Sl) : List.set s.e 0 u = S_is_name.e { s with thing := u } := rfl
@[simp] theorem S_is_name.g1 (s : S_is_name) : s.e[1]? = Option.some s.sign := rfl
@[simp] theorem S_is_name.w1 (s : S_is_name) (u : Sl) : List.set s.e 1 u = S_is_name.e { s with sign := u } := rfl
theorem S_is_name.st (d0 : D) : startE 2 [d0] = S_is_name.e { thing := .im d0, sign := .un } := rfl
def b_is_name : VS.Env → Out :=
 (fun ρ => ofR ((gAndV (ge1 (isiD .str) (geV 0)) (gAndV (geChain (cmI fun i j => decide (i ≤ j)) (cmI fun i j => decide (i ≤ j)) (gI 1) (geA lenD (gaCons (geV 0) gaNil)) (gI 8)) (geA allD (gaCons C_is_name_1 gaNil)))) ρ) .rt)
def F_is_name : List D → R D := runDef 2 b_is_name
def L_are_calls_1 (self : List D → R D) : VS.Env → Out :=
 (seqO (ifO (gOr (gNot (geB (ge1 (isiD .tuple) (geV 3)))) (gOr (geB (geOp cmNe (geA lenD (gaCons (geV 3) gaNil)) (gI 4))) (gOr (gNot (geB (geA F_is_name (gaCons (geOp ixT (geV 3) (gI 0)) gaNil)))) (gNot (geB (geA F_is_count (gaCons (geOp ixT (geV 3) (gI 1)) (gaCons (geV 1) (gaCons (geV 2) gaNil)))))))))
   (fun ρ => ofR ((gB false) ρ) .rt)
   .nx)
  (seqO (ifO (gOr (gNot (geB (geA F_is_count (gaCons (geOp ixT (geV 3) (gI 2)) (gaCons (geOp ixT (geV 3) (gI 1)) (gaCons (geV 2) gaNil)))))) (gNot (geB (geA self (gaCons (geOp ixT (geV 3) (gI 3)) (gaCons (geOp ixT (geV 3) (gI 1)) (gaCons (geOp ixT (geV 3) (gI 2)) gaNil)))))))
   (fun ρ => ofR ((gB false) ρ) .rt)
   .nx)
  (fun ρ => ofR ((geOp ixT (geV 3) (gI 2)) ρ) fun d => .nx (ρ.set 1 (.im d)))))
structure S_are_calls where
  (thing low high one : Sl)
def S_are_calls.e (s : S_are_calls) : VS.Env := [s.thing, s.low, s.high, s.one]
@[simp] theorem S_are_calls.g0 (s : S_are_calls) : s.e[0]? = Option.some s.thing := rfl
@[simp] theorem S_are_calls.w0 (s : S_are_calls) (u : Sl) : List.set s.e 0 u = S_are_calls.e { s with thing := u } := rfl
@[simp] theorem S_are_calls.g1 (s : S_are_calls) : s.e[1]? = Option.some s.low := rfl
@[simp] theorem S_are_calls.w1 (s : S_are_calls) (u : Sl) : List.set s.e 1 u = S_are_calls.e { s with low := u } := rfl
@[simp] theorem S_are_calls.g2 (s : S_are_calls) : s.e[2]? = Option.some s.high := rfl
@[simp] theorem S_are_calls.w2 (s : S_are_calls) (u : Sl) : List.set s.e 2 u = S_are_calls.e { s with high := u } := rfl
@[simp] theorem S_are_calls.g3 (s : S_are_calls) : s.e[3]? = Option.some s.one := rfl
@[simp] theorem S_are_calls.w3 (s : S_are_calls) (u : Sl) : List.set s.e 3 u = S_are_calls.e { s with one := u } := rfl
theorem S_are_calls.st (d0 d1 d2 : D) : startE 4 [d0, d1, d2] = S_are_calls.e { thing := .im d0, low := .im d1, high := .im d2, one := .un } := rfl
def b_are_calls (self : List D → R D) : VS.Env → Out :=
 (seqO (ifO (gNot (geB (ge1 (isiD .tuple) (geV 0))))
  (fun ρ => ofR ((gB false) ρ) .rt)
  .nx)
 (seqO (forO (.nm 3) (gSeq itT (geV 0))
  (L_are_calls_1 self))
 (fun ρ => ofR ((gB true) ρ) .rt)))
def F_are_calls : Nat → List D → R D
  | 0 => noF
  | j + 1 => runDef 4 (b_are_calls (F_are_calls j))
def C_need_trees_1 : VS.Env → R D :=
 (compDE (.nm 1) [1] 0 (fun _ => .ok true) (geA F_is_count (gaCons (geV 1) (gaCons (gI 1) (gaCons (gI 4) gaNil)))))
def C_need_trees_2 : VS.Env → R D :=
 (compDE (.nm 1) [1] 0 (fun _ => .ok true) (geA (F_are_calls 8) (gaCons (geOp ixD (geV 0) (geV 1)) (gaCons (gI 0) (gaCons (gI 1000000) gaNil)))))
structure S_need_trees where
  (trees_here hand : Sl)
def S_need_trees.e (s : S_need_trees) : VS.Env := [s.trees_here, s.hand]
@[simp] theorem S_need_trees.g0 (s : S_need_trees) : s.e[0]? = Option.some s.trees_here := rfl
@[simp] theorem S_need_trees.w0 (s : S_need_trees) (u : Sl) : List.set s.e 0 u = S_need_trees.e { s with trees_here := u } := rfl
@[simp] theorem S_need_trees.g1 (s : S_need_trees) : s.e[1]? = Option.some s.hand := rfl
@[simp] theorem S_need_trees.w1 (s : S_need_trees) (u : Sl) : List.set s.e 1 u = S_need_trees.e { s with hand := u } := rfl
theorem S_need_trees.st (d0 : D) : startE 2 [d0] = S_need_trees.e { trees_here := .im d0, hand := .un } := rfl
def b_need_trees : VS.Env → Out :=
 (seqO (ifO (gOr (gNot (geB (ge1 (isiD .dict) (geV 0)))) (gNot (geB (geA allD (gaCons C_need_trees_1 gaNil)))))
  (fun _ => .ex "BadTrees")
  .nx)
 (ifO (gNot (geB (geA allD (gaCons C_need_trees_2 gaNil))))
  (fun _ => .ex "BadTrees")
  .nx))
def F_need_trees : List D → R D := runDef 2 b_need_trees
structure S_whole where
  (call : Sl)
def S_whole.e (s : S_whole) : VS.Env := [s.call]
@[simp] theorem S_whole.g0 (s : S_whole) : s.e[0]? = Option.some s.call := rfl
@[simp] theorem S_whole.w0 (s : S_whole) (u : Sl) : List.set s.e 0 u = S_whole.e { s with call := u } := rfl
theorem S_whole.st (d0 : D) : startE 1 [d0] = S_whole.e { call := .im d0 } := rfl
def b_whole : VS.Env → Out :=
 (fun ρ => ofR ((geOp subI (geOp ixT (geV 0) (gI 2)) (geOp ixT (geV 0) (gI 1))) ρ) .rt)
def F_whole : List D → R D := runDef 1 b_whole
def C_own_1 : VS.Env → R D :=
 (compE (.nm 1) [1] (gSeq itT (geOp ixT (geV 0) (gI 3))) (fun _ => .ok true) (geA F_whole (gaCons (geV 1) gaNil)))
structure S_own where
  (call one : Sl)
def S_own.e (s : S_own) : VS.Env := [s.call, s.one]
@[simp] theorem S_own.g0 (s : S_own) : s.e[0]? = Option.some s.call := rfl
@[simp] theorem S_own.w0 (s : S_own) (u : Sl) : List.set s.e 0 u = S_own.e { s with call := u } := rfl
@[simp] theorem S_own.g1 (s : S_own) : s.e[1]? = Option.some s.one := rfl
@[simp] theorem S_own.w1 (s : S_own) (u : Sl) : List.set s.e 1 u = S_own.e { s with one := u } := rfl
theorem S_own.st (d0 : D) : startE 2 [d0] = S_own.e { call := .im d0, one := .un } := rfl
def b_own : VS.Env → Out :=
 (fun ρ => ofR ((geOp subI (geA F_whole (gaCons (geV 0) gaNil)) (geA sumD (gaCons C_own_1 gaNil))) ρ) .rt)
def F_own : List D → R D := runDef 2 b_own
def L_all_calls_1 (self : List D → R D) : VS.Env → Out :=
 (seqO (appO 1 (geV 2))
  (extO 1 (geA self (gaCons (geOp ixT (geV 2) (gI 3)) gaNil))))
structure S_all_calls where
  (calls found one : Sl)
def S_all_calls.e (s : S_all_calls) : VS.Env := [s.calls, s.found, s.one]
@[simp] theorem S_all_calls.g0 (s : S_all_calls) : s.e[0]? = Option.some s.calls := rfl
@[simp] theorem S_all_calls.w0 (s : S_all_calls) (u : Sl) : List.set s.e 0 u = S_all_calls.e { s with calls := u } := rfl
@[simp] theorem S_all_calls.g1 (s : S_all_calls) : s.e[1]? = Option.some s.found := rfl
@[simp] theorem S_all_calls.w1 (s : S_all_calls) (u : Sl) : List.set s.e 1 u = S_all_calls.e { s with found := u } := rfl
@[simp] theorem S_all_calls.g2 (s : S_all_calls) : s.e[2]? = Option.some s.one := rfl
@[simp] theorem S_all_calls.w2 (s : S_all_calls) (u : Sl) : List.set s.e 2 u = S_all_calls.e { s with one := u } := rfl
theorem S_all_calls.st (d0 : D) : startE 3 [d0] = S_all_calls.e { calls := .im d0, found := .un, one := .un } := rfl
def b_all_calls (self : List D → R D) : VS.Env → Out :=
 (seqO (ownO 1 (geA lstD gaNil))
 (seqO (forO (.nm 2) (gSeq itT (geV 0))
  (L_all_calls_1 self))
 (frzO 1 (fun ρ => ofR ((geV 1) ρ) .rt))))
def F_all_calls : Nat → List D → R D
  | 0 => noF
  | j + 1 => runDef 3 (b_all_calls (F_all_calls j))
structure S_need_hand where
  (trees_here hand : Sl)
def S_need_hand.e (s : S_need_hand) : VS.Env := [s.trees_here, s.hand]
@[simp] theorem S_need_hand.g0 (s : S_need_hand) : s.e[0]? = Option.some s.trees_here := rfl
@[simp] theorem S_need_hand.w0 (s : S_need_hand) (u : Sl) : List.set s.e 0 u = S_need_hand.e { s with trees_here := u } := rfl
@[simp] theorem S_need_hand.g1 (s : S_need_hand) : s.e[1]? = Option.some s.hand := rfl
@[simp] theorem S_need_hand.w1 (s : S_need_hand) (u : Sl) : List.set s.e 1 u = S_need_hand.e { s with hand := u } := rfl
theorem S_need_hand.st (d0 d1 : D) : startE 2 [d0, d1] = S_need_hand.e { trees_here := .im d0, hand := .im d1 } := rfl
def b_need_hand : VS.Env → Out :=
 (seqO (fun ρ => ofR ((geA F_need_trees (gaCons (geV 0) gaNil)) ρ) fun _ => .nx ρ)
 (ifO (gOr (gNot (geB (geA F_is_count (gaCons (geV 1) (gaCons (gI 1) (gaCons (gI 4) gaNil)))))) (geB (geOp (inD true) (geV 1) (geV 0))))
  (fun _ => .ex "NoHand")
  .nx))
def F_need_hand : List D → R D := runDef 2 b_need_hand
structure S_need_tick where
  (tick : Sl)
def S_need_tick.e (s : S_need_tick) : VS.Env := [s.tick]
@[simp] theorem S_need_tick.g0 (s : S_need_tick) : s.e[0]? = Option.some s.tick := rfl
@[simp] theorem S_need_tick.w0 (s : S_need_tick) (u : Sl) : List.set s.e 0 u = S_need_tick.e { s with tick := u } := rfl
theorem S_need_tick.st (d0 : D) : startE 1 [d0] = S_need_tick.e { tick := .im d0 } := rfl
def b_need_tick : VS.Env → Out :=
 (ifO (gNot (geB (geA F_is_count (gaCons (geV 0) (gaCons (gI 0) (gaCons (gI 1000000) gaNil))))))
  (fun _ => .ex "BadTick")
  .nx)
def F_need_tick : List D → R D := runDef 1 b_need_tick
def L_stack_in_1 (self : List D → R D) : VS.Env → Out :=
 (ifO (geB (geChain (cmI fun i j => decide (i ≤ j)) (cmI fun i j => decide (i < j)) (geV 3) (geV 1) (geV 4)))
   (fun ρ => ofR ((geOp catL (geA lstD (gaCons (geV 2) gaNil)) (geA self (gaCons (geV 5) (gaCons (geV 1) gaNil)))) ρ) .rt)
   .nx)
structure S_stack_in where
  (calls tick name first last inner : Sl)
def S_stack_in.e (s : S_stack_in) : VS.Env := [s.calls, s.tick, s.name, s.first, s.last, s.inner]
@[simp] theorem S_stack_in.g0 (s : S_stack_in) : s.e[0]? = Option.some s.calls := rfl
@[simp] theorem S_stack_in.w0 (s : S_stack_in) (u : Sl) : List.set s.e 0 u = S_stack_in.e { s with calls := u } := rfl
@[simp] theorem S_stack_in.g1 (s : S_stack_in) : s.e[1]? = Option.some s.tick := rfl
@[simp] theorem S_stack_in.w1 (s : S_stack_in) (u : Sl) : List.set s.e 1 u = S_stack_in.e { s with tick := u } := rfl
@[simp] theorem S_stack_in.g2 (s : S_stack_in) : s.e[2]? = Option.some s.name := rfl
@[simp] theorem S_stack_in.w2 (s : S_stack_in) (u : Sl) : List.set s.e 2 u = S_stack_in.e { s with name := u } := rfl
@[simp] theorem S_stack_in.g3 (s : S_stack_in) : s.e[3]? = Option.some s.first := rfl
@[simp] theorem S_stack_in.w3 (s : S_stack_in) (u : Sl) : List.set s.e 3 u = S_stack_in.e { s with first := u } := rfl
@[simp] theorem S_stack_in.g4 (s : S_stack_in) : s.e[4]? = Option.some s.last := rfl
@[simp] theorem S_stack_in.w4 (s : S_stack_in) (u : Sl) : List.set s.e 4 u = S_stack_in.e { s with last := u } := rfl
@[simp] theorem S_stack_in.g5 (s : S_stack_in) : s.e[5]? = Option.some s.inner := rfl
@[simp] theorem S_stack_in.w5 (s : S_stack_in) (u : Sl) : List.set s.e 5 u = S_stack_in.e { s with inner := u } := rfl
theorem S_stack_in.st (d0 d1 : D) : startE 6 [d0, d1] = S_stack_in.e { calls := .im d0, tick := .im d1, name := .un, first := .un, last := .un, inner := .un } := rfl
def b_stack_in (self : List D → R D) : VS.Env → Out :=
 (seqO (forO (.tp (.cons (.nm 2) (.cons (.nm 3) (.cons (.nm 4) (.cons (.nm 5) .nil))))) (gSeq itT (geV 0))
  (L_stack_in_1 self))
 (fun ρ => ofR ((geA lstD gaNil) ρ) .rt))
def F_stack_in : Nat → List D → R D
  | 0 => noF
  | j + 1 => runDef 6 (b_stack_in (F_stack_in j))
structure S_stack_at where
  (trees_here hand tick : Sl)
def S_stack_at.e (s : S_stack_at) : VS.Env := [s.trees_here, s.hand, s.tick]
@[simp] theorem S_stack_at.g0 (s : S_stack_at) : s.e[0]? = Option.some s.trees_here := rfl
@[simp] theorem S_stack_at.w0 (s : S_stack_at) (u : Sl) : List.set s.e 0 u = S_stack_at.e { s with trees_here := u } := rfl
@[simp] theorem S_stack_at.g1 (s : S_stack_at) : s.e[1]? = Option.some s.hand := rfl
@[simp] theorem S_stack_at.w1 (s : S_stack_at) (u : Sl) : List.set s.e 1 u = S_stack_at.e { s with hand := u } := rfl
@[simp] theorem S_stack_at.g2 (s : S_stack_at) : s.e[2]? = Option.some s.tick := rfl
@[simp] theorem S_stack_at.w2 (s : S_stack_at) (u : Sl) : List.set s.e 2 u = S_stack_at.e { s with tick := u } := rfl
theorem S_stack_at.st (d0 d1 d2 : D) : startE 3 [d0, d1, d2] = S_stack_at.e { trees_here := .im d0, hand := .im d1, tick := .im d2 } := rfl
def b_stack_at : VS.Env → Out :=
 (seqO (fun ρ => ofR ((geA F_need_hand (gaCons (geV 0) (gaCons (geV 1) gaNil))) ρ) fun _ => .nx ρ)
 (seqO (fun ρ => ofR ((geA F_need_tick (gaCons (geV 2) gaNil)) ρ) fun _ => .nx ρ)
 (fun ρ => ofR ((geA (F_stack_in 8) (gaCons (geOp ixD (geV 0) (geV 1)) (gaCons (geV 2) gaNil))) ρ) .rt)))
def F_stack_at : List D → R D := runDef 3 b_stack_at
def C_depth_of_1 (self : List D → R D) : VS.Env → R D :=
 (compE (.nm 1) [1] (gSeq itT (geV 0)) (fun _ => .ok true) (geOp addI (gI 1) (geA self (gaCons (geOp ixT (geV 1) (gI 3)) gaNil))))
structure S_depth_of where
  (calls one : Sl)
def S_depth_of.e (s : S_depth_of) : VS.Env := [s.calls, s.one]
@[simp] theorem S_depth_of.g0 (s : S_depth_of) : s.e[0]? = Option.some s.calls := rfl
@[simp] theorem S_depth_of.w0 (s : S_depth_of) (u : Sl) : List.set s.e 0 u = S_depth_of.e { s with calls := u } := rfl
@[simp] theorem S_depth_of.g1 (s : S_depth_of) : s.e[1]? = Option.some s.one := rfl
@[simp] theorem S_depth_of.w1 (s : S_depth_of) (u : Sl) : List.set s.e 1 u = S_depth_of.e { s with one := u } := rfl
theorem S_depth_of.st (d0 : D) : startE 2 [d0] = S_depth_of.e { calls := .im d0, one := .un } := rfl
def b_depth_of (self : List D → R D) : VS.Env → Out :=
 (fun ρ => ofR ((geA maxL (gaCons (geOp catL (geA lstD (gaCons (gI 0) gaNil)) (C_depth_of_1 self)) gaNil)) ρ) .rt)
def F_depth_of : Nat → List D → R D
  | 0 => noF
  | j + 1 => runDef 2 (b_depth_of (F_depth_of j))
def C_deepest_1 : VS.Env → R D :=
 (compDE (.nm 1) [1] 0 (fun _ => .ok true) (geA (F_depth_of 8) (gaCons (geOp ixD (geV 0) (geV 1)) gaNil)))
structure S_deepest where
  (trees_here hand : Sl)
def S_deepest.e (s : S_deepest) : VS.Env := [s.trees_here, s.hand]
@[simp] theorem S_deepest.g0 (s : S_deepest) : s.e[0]? = Option.some s.trees_here := rfl
@[simp] theorem S_deepest.w0 (s : S_deepest) (u : Sl) : List.set s.e 0 u = S_deepest.e { s with trees_here := u } := rfl
@[simp] theorem S_deepest.g1 (s : S_deepest) : s.e[1]? = Option.some s.hand := rfl
@[simp] theorem S_deepest.w1 (s : S_deepest) (u : Sl) : List.set s.e 1 u = S_deepest.e { s with hand := u } := rfl
theorem S_deepest.st (d0 : D) : startE 2 [d0] = S_deepest.e { trees_here := .im d0, hand := .un } := rfl
def b_deepest : VS.Env → Out :=
 (seqO (fun ρ => ofR ((geA F_need_trees (gaCons (geV 0) gaNil)) ρ) fun _ => .nx ρ)
 (fun ρ => ofR ((geA maxL (gaCons (geOp catL (geA lstD (gaCons (gI 0) gaNil)) C_deepest_1) gaNil)) ρ) .rt))
def F_deepest : List D → R D := runDef 2 b_deepest
end
end VP

set_option Elab.async false
set_option linter.all false
set_option maxRecDepth 100000
namespace VP
open PySem PySem.Spec PyProof.Rows L2 LamX VS
noncomputable section
def L_outer_1 (self : List D → R D) : VS.Env → Out :=
 (seqO (ifO (geB (geOp (inF true) (geOp ixT (geV 3) (gI 0)) (geV 1)))
   (appO 2 (geA tupD (gaCons (geOp ixT (geV 3) (gI 0)) (gaCons (geA F_whole (gaCons (geV 3) gaNil)) gaNil))))
   .nx)
  (extO 2 (geA self (gaCons (geOp ixT (geV 3) (gI 3)) (gaCons (geOp catL (geV 1) (geA lstD (gaCons (geOp ixT (geV 3) (gI 0)) gaNil))) gaNil)))))
structure S_outer where
  (calls around found one : Sl)
def S_outer.e (s : S_outer) : VS.Env := [s.calls, s.around, s.found, s.one]
@[simp] theorem S_outer.g0 (s : S_outer) : s.e[0]? = Option.some s.calls := rfl
@[simp] theorem S_outer.w0 (s : S_outer) (u : Sl) : List.set s.e 0 u = S_outer.e { s with calls := u } := rfl
@[simp] theorem S_outer.g1 (s : S_outer) : s.e[1]? = Option.some s.around := rfl
@[simp] theorem S_outer.w1 (s : S_outer) (u : Sl) : List.set s.e 1 u = S_outer.e { s with around := u } := rfl
@[simp] theorem S_outer.g2 (s : S_outer) : s.e[2]? = Option.some s.found := rfl
@[simp] theorem S_outer.w2 (s : S_outer) (u : Sl) : List.set s.e 2 u = S_outer.e { s with found := u } := rfl
@[simp] theorem S_outer.g3 (s : S_outer) : s.e[3]? = Option.some s.one := rfl
@[simp] theorem S_outer.w3 (s : S_outer) (u : Sl) : List.set s.e 3 u = S_outer.e { s with one := u } := rfl
theorem S_outer.st (d0 d1 : D) : startE 4 [d0, d1] = S_outer.e { calls := .im d0, around := .im d1, found := .un, one := .un } := rfl
def b_outer (self : List D → R D) : VS.Env → Out :=
 (seqO (ownO 2 (geA lstD gaNil))
 (seqO (forO (.nm 3) (gSeq itT (geV 0))
  (L_outer_1 self))
 (frzO 2 (fun ρ => ofR ((geV 2) ρ) .rt))))
def F_outer : Nat → List D → R D
  | 0 => noF
  | j + 1 => runDef 4 (b_outer (F_outer j))
def L_every_1 : VS.Env → Out :=
 (extO 1 (geA (F_all_calls 8) (gaCons (geOp ixD (geV 0) (geV 2)) gaNil)))
structure S_every where
  (trees_here found hand : Sl)
def S_every.e (s : S_every) : VS.Env := [s.trees_here, s.found, s.hand]
@[simp] theorem S_every.g0 (s : S_every) : s.e[0]? = Option.some s.trees_here := rfl
@[simp] theorem S_every.w0 (s : S_every) (u : Sl) : List.set s.e 0 u = S_every.e { s with trees_here := u } := rfl
@[simp] theorem S_every.g1 (s : S_every) : s.e[1]? = Option.some s.found := rfl
@[simp] theorem S_every.w1 (s : S_every) (u : Sl) : List.set s.e 1 u = S_every.e { s with found := u } := rfl
@[simp] theorem S_every.g2 (s : S_every) : s.e[2]? = Option.some s.hand := rfl
@[simp] theorem S_every.w2 (s : S_every) (u : Sl) : List.set s.e 2 u = S_every.e { s with hand := u } := rfl
theorem S_every.st (d0 : D) : startE 3 [d0] = S_every.e { trees_here := .im d0, found := .un, hand := .un } := rfl
def b_every : VS.Env → Out :=
 (seqO (ownO 1 (geA lstD gaNil))
 (seqO (forO (.nm 2) (gSeq itL (geA sortDct (gaCons (geV 0) gaNil)))
  L_every_1)
 (frzO 1 (fun ρ => ofR ((geV 1) ρ) .rt))))
def F_every : List D → R D := runDef 3 b_every
def L_table_1 : VS.Env → Out :=
 (seqO (putO 3 (geOp addI (geGet (geT 3) (geOp ixT (geV 1) (gI 0)) (gI 0)) (gI 1)) (geOp ixT (geV 1) (gI 0)))
  (putO 5 (geOp addI (geGet (geT 5) (geOp ixT (geV 1) (gI 0)) (gI 0)) (geA F_own (gaCons (geV 1) gaNil))) (geOp ixT (geV 1) (gI 0))))
def L_table_2 : VS.Env → Out :=
 (putO 4 (geOp addI (geGet (geT 4) (geV 6) (gI 0)) (geV 7)) (geV 6))
def L_table_3 : VS.Env → Out :=
 (forO (.tp (.cons (.nm 6) (.cons (.nm 7) .nil))) (gSeq itL (geA (F_outer 8) (gaCons (geOp ixD (geV 0) (geV 2)) (gaCons (geA lstD gaNil) gaNil))))
   L_table_2)
def C_table_1 : VS.Env → R D :=
 (compE (.nm 6) [6] (gSeq itL (geA sortDct (gaCons (geT 3) gaNil))) (fun _ => .ok true) (geA tupD (gaCons (geV 6) (gaCons (geOp ixD (geT 3) (geV 6)) (gaCons (geOp ixD (geT 4) (geV 6)) (gaCons (geOp ixD (geT 5) (geV 6)) gaNil))))))
structure S_table where
  (trees_here one hand counts wholes owns name time : Sl)
def S_table.e (s : S_table) : VS.Env := [s.trees_here, s.one, s.hand, s.counts, s.wholes, s.owns, s.name, s.time]
@[simp] theorem S_table.g0 (s : S_table) : s.e[0]? = Option.some s.trees_here := rfl
@[simp] theorem S_table.w0 (s : S_table) (u : Sl) : List.set s.e 0 u = S_table.e { s with trees_here := u } := rfl
@[simp] theorem S_table.g1 (s : S_table) : s.e[1]? = Option.some s.one := rfl
@[simp] theorem S_table.w1 (s : S_table) (u : Sl) : List.set s.e 1 u = S_table.e { s with one := u } := rfl
@[simp] theorem S_table.g2 (s : S_table) : s.e[2]? = Option.some s.hand := rfl
@[simp] theorem S_table.w2 (s : S_table) (u : Sl) : List.set s.e 2 u = S_table.e { s with hand := u } := rfl
@[simp] theorem S_table.g3 (s : S_table) : s.e[3]? = Option.some s.counts := rfl
@[simp] theorem S_table.w3 (s : S_table) (u : Sl) : List.set s.e 3 u = S_table.e { s with counts := u } := rfl
@[simp] theorem S_table.g4 (s : S_table) : s.e[4]? = Option.some s.wholes := rfl
@[simp] theorem S_table.w4 (s : S_table) (u : Sl) : List.set s.e 4 u = S_table.e { s with wholes := u } := rfl
@[simp] theorem S_table.g5 (s : S_table) : s.e[5]? = Option.some s.owns := rfl
@[simp] theorem S_table.w5 (s : S_table) (u : Sl) : List.set s.e 5 u = S_table.e { s with owns := u } := rfl
@[simp] theorem S_table.g6 (s : S_table) : s.e[6]? = Option.some s.name := rfl
@[simp] theorem S_table.w6 (s : S_table) (u : Sl) : List.set s.e 6 u = S_table.e { s with name := u } := rfl
@[simp] theorem S_table.g7 (s : S_table) : s.e[7]? = Option.some s.time := rfl
@[simp] theorem S_table.w7 (s : S_table) (u : Sl) : List.set s.e 7 u = S_table.e { s with time := u } := rfl
theorem S_table.st (d0 : D) : startE 8 [d0] = S_table.e { trees_here := .im d0, one := .un, hand := .un, counts := .un, wholes := .un, owns := .un, name := .un, time := .un } := rfl
def b_table : VS.Env → Out :=
 (seqO (fun ρ => ofR ((geA F_need_trees (gaCons (geV 0) gaNil)) ρ) fun _ => .nx ρ)
 (seqO (parO3 3 4 5 .f .f .f (fun _ => .ok (.dK [])) (fun _ => .ok (.dK [])) (fun _ => .ok (.dK [])))
 (seqO (forO (.nm 1) (gSeq itL (geA F_every (gaCons (geV 0) gaNil)))
  L_table_1)
 (seqO (forDO (.nm 2) 0
  L_table_3)
 (fun ρ => ofR (C_table_1 ρ) .rt)))))
def F_table : List D → R D := runDef 8 b_table
end
end VP

set_option Elab.async false
set_option linter.all false
set_option maxRecDepth 100000
set_option maxHeartbeats 4000000
/-! VX5: {k: v}; enumerate and zip with their small conditions. -/
namespace VS
open PySem PySem.Spec PyProof.Rows L2 LamX
def disp1 : D → D → R D := fun k d => match keyD k with | some k => .ok (.dK [(k, d)]) | none => .no
def intD : List D → R D | [.int i] => .ok (.int i) | [.bl b] => .ok (.int (if b then 1 else 0)) | _ => .no
theorem ad_int {K : PySem.W.Frag} {G : Wh} : ADen K G (fun xs H Q => (∃ i, xs = [.int i] ∧ Q (.int i) H) ∨ ∃ k, xs = [.bl k] ∧ Q (.int (if k then 1 else 0)) H) .t .c intD := by
  intro vs ds Z H Q s n f h
  unfold intD at h
  split at h
  · obtain ⟨v, rfl, fv⟩ := fins1 f
    exact .inl ⟨_, by rw [now_int fv], ansC s n h (.int _)⟩
  · obtain ⟨v, rfl, fv⟩ := fins1 f
    exact .inr ⟨_, by rw [now_bl fv], ansC s n h (.int _)⟩
  · exact h.elim
theorem uptoR {K : PySem.W.Frag} {Z : Hp} (a b : Int) : Reps K Z (rgV a b) (upto a (b - a).toNat) := by
  unfold rgV upto
  generalize List.range (b - a).toNat = l
  induction l with
  | nil => exact .nil
  | cons i l ih => exact .cons (.int _) ih
def lrg2 : D → D → R D
  | .int i, .int j => if 0 ≤ i ∧ j ≤ 16777216 ∧ i ≤ 16777216 ∧ 0 ≤ j then .ok (.lst (upto i (j - i).toNat)) else .no
  | _, _ => .no
def rLrg : R2 := fun x y H Q => ∃ i j, x = .int i ∧ y = .int j ∧ RgOk i j ∧ ∀ q, H q = none → Q (.ref q) (upd H q (.lst (rgV i j)))
theorem rd_lrg {K : PySem.W.Frag} {G : Wh} : RDen K G rLrg .f lrg2 := by
  intro x y dx dy Z H Q s n hx hy h
  unfold lrg2 at h
  split at h
  · split at h
    · rename_i hc
      exact ⟨_, _, now_int hx, now_int hy, RgOk.of_le hc.1 hc.2.1 hc.2.2.1 hc.2.2.2, ansL s n h (uptoR _ _)⟩
    · exact h.elim
  · exact h.elim
section
variable {X : Cx} {G : Wh}
theorem den_disp1 {ek ev : Expr} {pos : Pos} {gk gv : Env → R D} (hk : Den X G .c ek gk) (hv : Den X G .c ev gv) : Den X G .f (.Dict [some ek] [ev] pos) (geOp disp1 gk gv) := by
  obtain ⟨tk, pk, qk⟩ := hk.ex
  obtain ⟨tv, pv, qv⟩ := hv.ex
  refine ⟨_, pe_disp (pps_cons pk pv pps_nil) rfl rfl (by simp) (by simp), fun Z0 H0 Z H σ ρ Q S h p hp => ?_⟩
  have g0 : Grow G.T Z H Z (upd H p (.dK [])) := grow_new S.sub S.nt hp
  have pr0 : Prot (upd H p (.dK [])) p := pr_dK upd_same
  have z0 : Z p = none := sub_none S.sub hp
  refine qk Z0 H0 Z _ σ ρ _ (S.grow g0) ?_
  unfold geOp at h
  cases ea : gk ρ with
  | no => rw [ea] at h; exact h.elim
  | ex c => rw [ea] at h; exact fun Z' H' g' => h Z' H' (g0.trans g')
  | ok kd =>
    rw [ea] at h
    intro x Z1 H1 g1 f1
    refine qv Z0 H0 Z1 H1 σ ρ _ ((S.grow g0).grow g1) ?_
    cases eb : gv ρ with
    | no => rw [eb] at h; exact h.elim
    | ex c => rw [eb] at h; exact fun Z' H' g' => h Z' H' ((g0.trans g1).trans g')
    | ok vd =>
      rw [eb] at h
      intro y Z2 H2 g2 f2
      have h' : Ans X.K G .f (disp1 kd vd) Z H Q := h
      unfold disp1 at h'
      have e1 : H1 p = some (.dK []) := g1.h _ _ upd_same (nt_dK _)
      have z1 : Z1 p = none := g1.p _ z0 pr0
      have e2 : H2 p = some (.dK []) := g2.h _ _ e1 (nt_dK _)
      have z2 : Z2 p = none := g2.p _ z1 (pr_dK e1)
      cases ek2 : keyD kd with
      | none => rw [ek2] at h'; exact h'.elim
      | some k =>
        rw [ek2] at h'
        refine ⟨e2, [(k, y)], by rw [key_of (K := X.K) f1 ek2]; rfl, by simp, ?_⟩
        have g3 := (g0.trans g1).trans g2
        have sub2 : Sub Z2 (upd H2 p (.dK [(k, y)])) := fun a u e => by rw [upd_ne (ne_of_none e z2)]; exact g3.s a u e
        refine h' (.ref p) Z2 _ ⟨g3.z, fun a u e n => ?_, sub2, g3.n, g3.p, fun t => tabs_write e2 (nt_dK _) (fun _ q => by cases q) (g3.t t)⟩ ⟨p, rfl, .dK upd_same (.cons f2 .nil), z2, nprot_none hp⟩
        rw [upd_ne (ne_of_none e hp)]
        exact g3.h _ _ e n
theorem lrg {a b : Expr} {p p2 pos q : Pos} {ga gb : Env → R D} {m1 m2 : Md} (ha : Den X G m1 a ga) (hb : Den X G m2 b gb) (hml : X.mg "list" = none) (hmr : X.mg "range" = none) (hgl : Gl X "list" := by rfl) (hgr : Gl X "range" := by rfl) (hc : X.calm = true := by rfl)
    (na : starEach [a, b] X.env = (false, eval a X.env) :: starEach [b] X.env := by rfl) (nb : starEach [b] X.env = (false, eval b X.env) :: starEach [] X.env := by rfl) (hp : (backTo q (starEach [b] X.env)).any (·.1) = false := by rfl)
    (nl : starEach [.Call (.Name "range" p2) [a, b] [] q] X.env = (false, eval (.Call (.Name "range" p2) [a, b] [] q) X.env) :: starEach [] X.env := by rfl) : Den X G .f (.Call (.Name "list" p) [.Call (.Name "range" p2) [a, b] [] q] [] pos) (geOp lrg2 ga gb) := by
  obtain ⟨ta, pa, qa⟩ := ha.ex
  obtain ⟨tb, pb, qb⟩ := hb.ex
  refine ⟨_, pe_listRg hc hgl hml (prg_2 hgr hmr pa pb na nb hp) nl, fun Z0 H0 Z H σ ρ Q S h => ?_⟩
  have k := ans_op rd_lrg qa qb S h
  refine (show ta σ H fun x H1 => tb σ H1 fun y H2 => ∃ i j, x = .int i ∧ y = .int j ∧ (RgOk i j ∧ ∀ q, H2 q = none → Q (.ref q) (upd H2 q (.lst (rgV i j)))) from k)
theorem disp {ek ev : Expr} {pos : Pos} {gk gv : Env → R D} (hk : Den X G .c ek gk) (hv : Den X G .c ev gv) : Den X G .f (.Dict [some ek] [ev] pos) (geOp disp1 gk gv) := den_disp1 hk hv
theorem en {e : Expr} {p pos tpos : Pos} {elts : List Expr} {kk : Nat} {g : Env → R (List D)} (ha : DenA X G .c [e] g) (hm : X.mg "enumerate" = none) (hg : Gl X "enumerate" := by rfl) (hs : starEach [e] X.env = [(false, eval e X.env)] := by rfl) :
    DenI X G (.Tuple elts kk tpos) (.Call (.Name "enumerate" p) [e] [] pos) (gSeqA enm g) := deni_enum hg hm ha hs
theorem zi {e e2 : Expr} {p pos tpos : Pos} {elts : List Expr} {kk : Nat} {g : Env → R (List D)} (ha : DenA X G .c [e, e2] g) (hm : X.mg "zip" = none) (hg : Gl X "zip" := by rfl) (hs : starEach [e, e2] X.env = (false, eval e X.env) :: starEach [e2] X.env := by rfl) (hpl : (backTo pos (starEach [e2] X.env)).any (·.1) = false := by rfl) :
    DenI X G (.Tuple elts kk tpos) (.Call (.Name "zip" p) [e, e2] [] pos) (gSeqA zp g) := deni_zip hg hm ha fun t pt => pi_zip hg hm pt hs hpl
theorem sset {e ix : Expr} {m2 : Md} {g gk : VS.Env → R D} {x : Str} {i : Nat} {p1 pos : Pos} {pt : Pos} (he : Den X G .c e g) (hk : Den X G m2 ix gk) (hN : X.N[i]? = some x := by rfl) (hv : Vis X.env.scope x := by first | exact .inl (by rfl) | exact .inr (.inl (by rfl)) | exact .inr (.inr (by rfl)))
    (hd : (x == ("__debug__" : Str)) = false := by rfl) (hcd : (x == ("__classdict__" : Str)) = false := by rfl) (hs : swapsWithSole [.Subscript (.Name x p1) ix pt] e pos.line X.env = pure false := by rfl) (hw : swappedStores [.Subscript (.Name x p1) ix pt] e X.env = pure none := by rfl)
    (h1 : (assignEach [.Subscript (.Name x p1) ix pt] X.env).map (·.2) = [assign (.Subscript (.Name x p1) ix pt) X.env] := by rfl)
    (ha : ∀ v, assign (.Subscript (.Name x p1) ix pt) X.env v = (do
      let ov ← holding [v] (eval (.Name x p1) X.env)
      let iv ← holding [v, ov] (eval ix X.env)
      standAt pt
      holding [v, ov, iv] (setItem ov iv v)
      release [v, ov, iv] []) := by intro _; rfl) :
    DenS X G (.Assign [.Subscript (.Name x p1) ix pt] e pos) (setO i g gk) := dens_setL hN hv hd hcd he hk fun te to ti p1 p2 p3 => ps_asg p1 (pg_sub p2 p3 set_list ha) hs hw h1
end
end VS

set_option Elab.async false
set_option linter.all false
set_option maxRecDepth 100000
set_option maxHeartbeats 4000000
/-! VX6: name = [.. for k in d], d a frozen slot's dict. -/
namespace VS
open PySem PySem.Spec PyProof.Rows L2 LamX
section
variable {X : Cx} {G : Wh} {elt tg : Expr} {ifs : List Expr} {scope : Scope} {own : List (Str × Nat)} {pos p1 : Pos} {t : Tg} {tt : Env → R Bool} {g : Env → R D} {x : Str} {i : Nat}
theorem compD_read (hvs : ∀ j ∈ t.slots, j ∈ own.map (·.2)) {Z0 H0 Z H : Hp} {σ : L2.St} {ρ : Env} {Q : VK} (S : Sim X.K G.T Z0 H0 Z H σ ρ) (h : Ans X.K G .f (compDE t (own.map (·.2)) i tt g ρ) Z H Q) :
    (tLockE (tLc (iKeys (tVar i)) (gDen X.K G.calm t) (tDenT X.K G.calm tt) (tDen X.K G.calm .c g) (own.map (·.2))) σ H Q) ∨ tLc (iKeys (tVar i)) (gDen X.K G.calm t) (tDenT X.K G.calm tt) (tDen X.K G.calm .c g) (own.map (·.2)) σ H Q := by
  unfold compDE at h
  split at h
  · rename_i d ei
    cases hk : keysOf d with
    | none => rw [hk] at h; exact h.elim
    | some ks =>
      rw [hk] at h
      dsimp only at h
      unfold compE at h
      dsimp only at h
      split at h
      · rename_i hl
        cases e2 : runComp (bindT t) tt g (wipeE ρ (own.map (·.2))) ks with
        | ex c => rw [e2] at h; exact h.elim
        | no => rw [e2] at h; exact h.elim
        | ok r =>
          rw [e2] at h
          obtain ⟨a, u, e1, hu, hz, hr⟩ := dct_slot S ei hk
          rcases hz with hz | ⟨o, hz⟩
          · refine .inl ⟨a, u, S.sub _ _ hz, hu.mut, fun od => ?_⟩
            obtain ⟨Hb, Sl', bk1, bk2⟩ := S.base.lock hu hz od
            refine iKeys_run (G := G) Sl' e1 hk upd_same (rep_re (lock_le hu hz) hr) fun J w Dl hD => ?_
            refine comp_run (G := G) (Q := fun v H' => H' a = some (.frz od u) ∧ Q v (upd H' a u)) w Sl' hD hl hvs e2 fun Z' H' g' ⟨acc, ha, hra⟩ hzD => ?_
            obtain ⟨q1, q2, q3, q4⟩ := bk1 Z' H' (Sl'.g.trans g')
            have hDa : Dl ≠ a := fun q => by rw [q, upd_same] at hD; cases hD
            refine ⟨q2, ?_⟩
            have hD0 : H Dl = none := by rw [upd_ne hDa] at hD; exact hD
            have gz : Grow G.T Z H (upd Z' a u) (upd H' a u) := by
              refine ⟨q3.z, fun b o e nt => ?_, q3.s, q3.n, fun b hb pb => ?_, fun _ => q4 (g'.t Sl'.tabs)⟩
              · by_cases hb : b = a
                · subst hb; rw [S.sub _ _ hz] at e; cases e; exact upd_same
                · rw [upd_ne hb]; exact g'.h b o (by rw [upd_ne hb]; exact e) nt
              · have hba : b ≠ a := fun q => by rw [q, hz] at hb; cases hb
                rw [upd_ne hba]
                obtain ⟨o, eo, nt, nu⟩ := pb
                exact g'.p b (by rw [upd_ne hba]; exact hb) ⟨o, by rw [upd_ne hba]; exact eo, nt, nu⟩
            exact h _ _ _ gz ⟨Dl, rfl, .lst (by rw [upd_ne hDa]; exact ha) (Reps.le (unlock_le hu q1) _ _ hra), by rw [upd_ne hDa]; exact hzD, nprot_none hD0⟩
          · refine .inr (iKeys_run (G := G) S e1 hk hz hr fun J w Dl hD => ?_)
            refine comp_run (G := G) w S hD hl hvs e2 fun Z' H' g' ⟨acc, ha, hra⟩ hzD => ?_
            exact h _ Z' H' g' ⟨Dl, rfl, .lst ha hra, hzD, nprot_none hD⟩
      · exact h.elim
  · exact h.elim
theorem dens_setCompD {k : Nat} {y : Str} {py spos : Pos} (hc : X.calm = true) (hnd : X.N.Nodup) (hy : X.N[k]? = some y) (hyl : X.env.scope.names.lookup y = some .local) (hsw : swapsWith (.ListComp elt [⟨tg, .Name x p1, ifs, 0⟩] scope pos) (some (.Name y py)) spos.line X.env = pure true)
    (hN : X.N[i]? = some x) (hv : Vis X.env.scope x) (hd : (x == ("__debug__" : Str)) = false) (hcd : (x == ("__classdict__" : Str)) = false) (ok : BlkOk X.N X.env.scope scope own)
    (hg : ∀ (s : Shared) (H : Hp) (C : Addr) (cl : List (Str × Addr)) (fp : List Addr), DenG (X.blk s H scope (compEnvC scope cl C X.env) fp) G.calm tg t) (ht : ∀ (s : Shared) (H : Hp) (C : Addr) (cl : List (Str × Addr)) (fp : List Addr), DenTs (X.blk s H scope (compEnvC scope cl C X.env) fp) G.calm ifs tt)
    (he : ∀ (s : Shared) (H : Hp) (C : Addr) (cl : List (Str × Addr)) (fp : List Addr), Den (X.blk s H scope (compEnvC scope cl C X.env) fp) G.calm .c elt g)
    (hvs : ∀ j ∈ t.slots, j ∈ own.map (·.2)) : DenS X G (.Assign [.Name y py] (.ListComp elt [⟨tg, .Name x p1, ifs, 0⟩] scope pos) spos) (ownO k (compDE t (own.map (·.2)) i tt g)) := by
  have pf := ps_setLc (g := gDen X.K G.calm t) (tt := tDenT X.K G.calm tt) (te := tDen X.K G.calm .c g) hc hnd hy hyl hsw (pi_keys (pe_var hN hv hd hcd)) ok (fun s H C cl fp => (hg s H C cl fp).can) (fun s H C cl fp => (ht s H C cl fp).can) (fun s H C cl fp => (he s H C cl fp).can) (fun _ => rfl)
  refine ⟨_, ps_or (ps_lock pf) pf, fun Z0 H0 Z H σ ρ D S h => ?_⟩
  have key : Ans X.K G .f (compDE t (own.map (·.2)) i tt g ρ) Z H (fun v H' => D.nx (σ.set k (some v)) H') := by
    unfold ownO at h
    cases e : compDE t (own.map (·.2)) i tt g ρ with
    | ex c => rw [e] at h; exact post_ex S h
    | no => rw [e] at h; exact h
    | ok d =>
      rw [e] at h
      intro v Z' H' g' f
      obtain ⟨a, rfl, ta, hz, np⟩ := f
      have h' : PostS X.K G (match slOf d with | some sl => .nx (ρ.set k sl) | none => .no) Z0 H0 D := h
      cases e2 : slOf d with
      | none => rw [e2] at h'; exact h'.elim
      | some sl =>
        rw [e2] at h'
        exact h' Z' H' _ ((S.grow g').setOwn (top_own ta hz e2) (nprot_ext S.g.h np) k fun j sl' _ h1 h2 => S.apart np j sl' h1 h2)
  exact compD_read hvs S key
theorem scompd {k : Nat} {y : Str} {py spos : Pos} (hg : ∀ (s : Shared) (H : Hp) (C : Addr) (cl : List (Str × Addr)) (fp : List Addr), DenG (X.blk s H scope (compEnvC scope cl C X.env) fp) G.calm tg t)
    (ht : ∀ (s : Shared) (H : Hp) (C : Addr) (cl : List (Str × Addr)) (fp : List Addr), DenTs (X.blk s H scope (compEnvC scope cl C X.env) fp) G.calm ifs tt) (he : ∀ (s : Shared) (H : Hp) (C : Addr) (cl : List (Str × Addr)) (fp : List Addr), Den (X.blk s H scope (compEnvC scope cl C X.env) fp) G.calm .c elt g)
    {vs : List Nat} (own : List (Str × Nat)) (hq : own.map (·.2) = vs := by rfl) (ok : blkC X.N X.env.scope scope own = true := by kernel_rfl) (hvs : ∀ j ∈ t.slots, j ∈ vs := by decide) (hc : X.calm = true := by rfl) (hnd : decide X.N.Nodup = true := by kernel_rfl)
    (hN : X.N[i]? = some x := by rfl) (hv : Vis X.env.scope x := by first | exact .inl (by rfl) | exact .inr (.inl (by rfl)) | exact .inr (.inr (by rfl))) (hd : (x == ("__debug__" : Str)) = false := by rfl) (hcd : (x == ("__classdict__" : Str)) = false := by rfl)
    (hy : X.N[k]? = some y := by rfl) (hyl : X.env.scope.names.lookup y = some .local := by rfl) (hsw : swapsWith (.ListComp elt [⟨tg, .Name x p1, ifs, 0⟩] scope pos) (some (.Name y py)) spos.line X.env = pure true := by rfl) :
    DenS X G (.Assign [.Name y py] (.ListComp elt [⟨tg, .Name x p1, ifs, 0⟩] scope pos) spos) (ownO k (compDE t vs i tt g)) := by subst hq; exact dens_setCompD hc (of_decide_eq_true hnd) hy hyl hsw hN hv hd hcd (blkOk_by ok) hg ht he hvs
end
end VS

set_option Elab.async false
set_option linter.all false
set_option maxRecDepth 100000
set_option maxHeartbeats 4000000
/-! VX7: enumerate(tuple). -/
namespace VS
open PySem PySem.Spec PyProof.Rows L2 LamX
theorem meets_enumB1 {v : Value} {o : Obj} {H : Heap → Prop} (B : Begins v o H) :
    Meets (Builtin.«enumerate.__new__» ⟨[.type "enumerate", v], []⟩) (fun _ R s => H s.heap ∧
      R (.ok (.ret (.ref (s.heap.push o).objs.size))) { s with heap := (s.heap.push o).push { cls := .type "enumerate", data := .fields #[.none, .bool false, .ref s.heap.objs.size, rawInt 0, .none, .none] } }) :=
  .of_wp fun prog w A R s h => by
    obtain ⟨hp, g, d, tk, os⟩ := s; obtain ⟨h1, h⟩ := h
    have hsub := sub_enumerate
    have q1 : ∀ {A' : Around} {E : Value → Shared → Prop} {Q : Value → Shared → Prop}, Q (.ref hp.objs.size) ⟨hp.push o, g, d, tk, os⟩ → wpAny (model prog w) A' (pyIter v) Q E ⟨hp, g, d, tk, os⟩ :=
      fun q => B.iter prog w _ _ ⟨hp, g, d, tk, os⟩ _ h1 q
    wp_walk using q1
    refine wpAny_stack_any fun st => wpAny_pure ?_
    split
    · rename_i c _ _ _ _ _
      cases (c == Value.type "enumerate")
      · wp_walk using q1
        exact ⟨_, rfl, h⟩
      · wp_walk using q1
        exact ⟨_, rfl, h⟩
    · wp_walk using q1
      exact ⟨_, rfl, h⟩
section
variable {prog : Program} {w : World} {A : Around} {E : Value → Shared → Prop} {s : Shared}
theorem call_enumB1 {v : Value} {o : Obj} {H : Heap → Prop} {Q : Value → Shared → Prop} (B : Begins v o H) (h1 : H s.heap)
    (h : ∀ h', IsEnum h' (s.heap.objs.size + 1) s.heap.objs.size 0 .none → h'.get? s.heap.objs.size = some o → h'.objs.size = s.heap.objs.size + 2 →
      (∀ b o, s.heap.get? b = some o → h'.get? b = some o) → Q (.ref (s.heap.objs.size + 1)) { s with heap := h' }) :
    wpAny (model prog w) A (call (.type "enumerate") [v]) Q E s := by
  refine callType_new F.called_enumerate (by decide) (F.typeCall_enumerate_1 _) (F.newCall_enumerate_1 _) (fun obj => F.args_object_init_2 obj _) F.entry_enumerate_new
    (meets_enumB1 B) ⟨h1, ?_⟩
  have hz : (s.heap.push o).objs.size = s.heap.objs.size + 1 := Heap.size_push ..
  show _ ∧ _
  rw [hz]
  have he : IsEnum ((s.heap.push o).push { cls := .type "enumerate", data := .fields #[.none, .bool false, .ref s.heap.objs.size, rawInt 0, .none, .none] }) (s.heap.objs.size + 1) s.heap.objs.size 0 .none := by
    have := Heap.get?_push_size (s.heap.push o) (o := { cls := .type "enumerate", data := .fields #[.none, .bool false, .ref s.heap.objs.size, rawInt 0, .none, .none] }) rfl
    rw [hz] at this; exact this
  refine ⟨⟨_, he, rfl⟩, h _ he (Heap.get?_push_of_some _ (Heap.get?_push_size _ B.free)) (by rw [Heap.size_push, hz]) fun b o x => Heap.get?_push_of_some _ (Heap.get?_push_of_some _ x)⟩
end
def IteT (K : PySem.W.Frag) (a : Addr) : It :=
  ⟨fun i H => ∃ (xs : List V) (x : V), SqT K H a xs ∧ xs[i]? = some x, fun i H v H' => ∃ T x, v = .ref T ∧ H T = none ∧ H' = upd H T (.tup [.int (i : Nat), x]) ∧ ∀ xs, SqT K H a xs → xs[i]? = some x, fun i H => ∃ xs : List V, SqT K H a xs ∧ xs.length ≤ i⟩
theorem turn_enumT {P : Program} {w : World} {K : PySem.W.Frag} {elts : List Expr} {kk : Nat} {tpos : Pos} (a e it : Addr) :
    Turn P w K (.Tuple elts kk tpos) (IteT K a) [e, it] e (fun i h => (∃ old, IsEnum h e it ((i : Nat) : Int) old) ∧ h.IsTupleIter it a i ∧ e ≠ it ∧ a ≠ it ∧ a ≠ e) where
  mem := by simp
  obj := fun i h st b hb => by
    obtain ⟨⟨old, he⟩, ⟨o, ho, hc, hd⟩, _⟩ := st
    have e' : b = e ∨ b = it := by simpa using hb
    rcases e' with z | z
    · rw [z]; exact ⟨_, he, fun v q => nomatch q⟩
    · rw [z]; exact ⟨o, ho, fun v q => by rw [hd] at q; cases q⟩
  keep := fun i h h' st k => let ⟨⟨old, he⟩, hi, hne⟩ := st; ⟨⟨old, k e (by simp) _ he⟩, hi.at fun o q => k it (by simp) o q, hne⟩
  item := by
    intro X hP hw hK hc i pins s σ H E I hf st hg
    subst hP hw hK
    obtain ⟨⟨old, he⟩, hit, hne, hai, hae⟩ := st
    obtain ⟨xs, x, hq, hx⟩ := hg
    obtain ⟨its, rv, p, hz⟩ := I.tuple hq
    obtain ⟨u, hu, ru⟩ := rv.get hx
    have hel : e < s.heap.objs.size := Heap.lt_size he
    have hil : it < s.heap.objs.size := by obtain ⟨_, q, _⟩ := hit; exact Heap.lt_size q
    have hlt : i < its.toArray.size := by
      obtain ⟨h1, _⟩ := List.getElem?_eq_some_iff.mp hu
      simpa using h1
    have hhd : X.A.in1.handled = none := I.ok.hd hc
    refine wpAny_pyNext_enum_itemD (Draws.tuple hhd it a hai its.toArray) he ⟨hit, p⟩ hlt hne (by simp; exact ⟨hne, fun z => hae z.symm⟩) fun y h' tk hy ho hst hT hsz hk => ?_
    have hyu : y = u := by
      have : its.toArray[i]? = some u := by simpa using hu
      rw [this] at hy; exact (Option.some.inj hy).symm
    subst hyu
    refine ⟨_, rfl, wpAny_letOwnedTupleGo_enum (s := { s with heap := h', toks := tk + 1 }) ho fun h'' he' sb => ?_⟩
    have hT2 : h''.get? s.heap.objs.size = some { cls := .type "tuple", data := .seq #[.int i tk, y] } := (sb.2 _ (Nat.ne_of_gt hel)).trans hT
    have new : ObjOk X.prog X.w (upd H s.heap.objs.size (.tup [.int (i : Nat), x])) h'' s.heap.objs.size (.tup [.int (i : Nat), x]) :=
      ⟨by show 2 ≤ sizeLine; decide, [.int i tk, y], .cons ⟨_, rfl⟩ (.cons ru .nil), ⟨_, hT2, rfl, _, rfl⟩⟩
    have I1 : Inv X pins σ (upd H s.heap.objs.size (.tup [.int (i : Nat), x])) { s with heap := h'', toks := tk + 1 } :=
      I.turnedNew (ch := [e, it]) (fun b ob hb q => (sb.2 b (fun z => hb (by simp [z]))).trans (hk b ob (fun z => hb (by simp [z])) (fun z => hb (by simp [z])) q)) hf (Nat.le_refl _) new
    refine ⟨.ref s.heap.objs.size, _, I1, rfl, ⟨_, x, rfl, I.hok.fresh (Nat.le_refl _), rfl, fun ys hy => by rw [I.tuple_inj hy hq]; exact hx⟩, ⟨⟨y, ?_⟩, hst.1.at fun o q => (sb.2 it (Ne.symm hne)).trans q, hne, hai, hae⟩, fun b hb => ?_⟩
    · have e1 : ((i + 1 : Nat) : Int) = (i : Int) + 1 := by omega
      rw [e1]; exact he'
    · have hb' : b < s.heap.objs.size := by
        have e' : b = e ∨ b = it := by simpa using hb
        rcases e' with z | z
        · rw [z]; exact hel
        · rw [z]; exact hil
      rw [upd_ne (Nat.ne_of_lt hb')]
      exact (hf b hb).1
  done := by
    intro X hP hw hK hc i pins s σ H E I hf st hg
    subst hP hw hK
    obtain ⟨⟨old, he⟩, hit, hne, hai, hae⟩ := st
    obtain ⟨xs, hq, hx⟩ := hg
    obtain ⟨its, rv, p, hz⟩ := I.tuple hq
    obtain ⟨f0, f1, f2, f3, f4, f5⟩ := hf it (by simp)
    have hl := rv.length
    have hhd : X.A.in1.handled = none := I.ok.hd hc
    have hT : s.TypeIs (.ref e) "enumerate" := ⟨_, he, rfl⟩
    unfold pyNext
    refine wpAny_bind (wpAny_attempt (wpAny_callSpecial?_slot (name := Str.ofString "__next__") hT F.slot_enumerate_next
      (wpAny_call_entry F.slot_enumerate_next hT F.entry_enumerate_next ?_ (F.args_enumerate_next_1 _))))
    show wpAny _ _ (field (.ref e) 2 >>= _) _ _ _
    refine wpAny_bind (wpAny_field he rfl (x := .ref it) rfl ?_)
    refine wpAny_bind (wpAny_nextOf_tuple_end hhd hit p (by simp; omega) fun h' x he' hx' => ?_)
    obtain ⟨o, ho, hc'⟩ := hx'
    refine wpAny_bind (wpAny_isInstance (T := "StopIteration") (b := true) ⟨o, ho, hc'⟩ isSubtype_stop ?_)
    exact wpAny_pure ⟨rfl, I.turned (t' := s.toks) (fun b o hb q => he' b o hb q) f0 f1 f3 f4 f5⟩
  self := fun A i s Q E st h => let ⟨⟨_, he⟩, _⟩ := st; wpAny_pyIter_enum he h
def iEnumT (K : PySem.W.Frag) (ta : TA) : TI := fun σ H R => ta σ H fun vs H1 => ∃ a xs, vs = [.ref a] ∧ SqT K H1 a xs ∧ R (IteT K a) H1
theorem pi_enumT {X : Cx} {e : Expr} {ta : TA} {p pos tpos : Pos} {elts : List Expr} {kk : Nat} (hg : Gl X "enumerate") (hm : X.mg "enumerate" = none) (ha : PA X [e] ta) (hs : starEach [e] X.env = [(false, eval e X.env)] := by rfl) :
    PI X (.Tuple elts kk tpos) (.Call (.Name "enumerate" p) [e] [] pos) (iEnumT X.K ta) := by
  refine ⟨fun pins s σ H R I h => ?_⟩
  refine Call_ (ld_blt I hg hm boot_enumerate (PyProof.Rows.callWith_type1 (thn (ha.run pos pins s σ H _ I h) fun us s1 ⟨vs, H1, I1, r1, q1⟩ => ?_) hs rfl))
  obtain ⟨a, xs, ex, hq, q⟩ := q1
  subst ex
  cases r1 with
  | cons r rr =>
    cases rr
    cases r
    obtain ⟨its, rv, p', hz⟩ := I1.tuple hq
    refine call_enumB1 (begins_tuple a its.toArray) p' fun h' he hit hsz hk => wpAny_pyIter_enum he ?_
    have I2 : Inv X pins σ H1 { s1 with heap := h' } := I1.kept (t' := s1.toks) hk
    have hal : a < s1.heap.objs.size := by obtain ⟨o, ho, _⟩ := p'; exact Heap.lt_size ho
    refine ⟨s1.heap.objs.size + 1, [s1.heap.objs.size + 1, s1.heap.objs.size], _, _, H1, rfl, I2, turn_enumT a (s1.heap.objs.size + 1) s1.heap.objs.size, ⟨⟨.none, he⟩, ⟨_, hit, rfl, rfl⟩, Nat.succ_ne_self _, Nat.ne_of_lt hal, Nat.ne_of_lt (Nat.lt_succ_of_lt hal)⟩, fun b hb => ?_, q⟩
    have e' : b = s1.heap.objs.size + 1 ∨ b = s1.heap.objs.size := by simpa using hb
    have hle : s1.heap.objs.size ≤ b := by
      rcases e' with z | z
      · rw [z]; exact Nat.le_add_right _ _
      · rw [z]; exact Nat.le_refl _
    exact I1.fpOk hle (I1.hok.fresh hle)
theorem walk_enumT {K : PySem.W.Frag} {a : Addr} {xs : List V} : Walk (IteT K a) xs.length (fun H => SqT K H a xs) (YPair (fun i => some (.int (i : Nat))) (fun i => xs[i]?)) := by
  refine ⟨fun i _ hi q => ⟨xs, xs[i], q, by simp [hi]⟩, fun _ q => ⟨xs, q, Nat.le_refl _⟩, fun i H v H' _ q y => ?_⟩
  obtain ⟨T, x, h1, h2, h3, h4⟩ := y
  exact ⟨T, .int (i : Nat), x, h1, h2, h3, rfl, h4 xs q⟩
def enmT : List D → R (List D) | [.tup ds] => .ok (enumL ds) | _ => .no
section
variable {X : Cx} {G : Wh}
theorem deni_enumT {e : Expr} {p pos tpos : Pos} {elts : List Expr} {kk : Nat} {g : Env → R (List D)} (hg : Gl X "enumerate") (hm : X.mg "enumerate" = none) (ha : DenA X G .c [e] g) (hs : starEach [e] X.env = [(false, eval e X.env)]) :
    DenI X G (.Tuple elts kk tpos) (.Call (.Name "enumerate" p) [e] [] pos) (gSeqA enmT g) := by
  obtain ⟨t, pt, q⟩ := ha.ex
  refine ⟨_, pi_enumT hg hm pt hs, fun Z0 H0 Z H σ ρ Rk S h => ?_⟩
  refine seq_a (es := [e]) q S h (fun d ds e v Z' H' g' f k => ?_) (fun d c => by unfold enmT; split <;> (intro z; cases z))
  unfold enmT at e
  split at e
  · rename_i es
    cases e
    obtain ⟨x, rfl, fx⟩ := fins1 f
    cases fx with
    | @tup a vs _ h1 h2 =>
      have hl := enumL_len es
      refine ⟨a, vs, rfl, SqT.of (g'.s _ _ h1), k _ Z' H' (.refl g'.s g'.n) ⟨fun H => SqT X.K H a vs, _, by rw [hl, ← h2.length]; exact walk_enumT, fun H' s => SqT.of (s _ _ h1), fun i Z2 H2 x H3 hi s1 s2 n y => ?_⟩⟩
      obtain ⟨t, x1, y1, rfl, ht, rfl, e1, e2⟩ := y
      cases e1
      obtain ⟨d, e3, e4⟩ := h2.getV e2
      obtain ⟨Z'', g2, r2⟩ := pair_new (T := G.T) s2 n ht (.int (i : Int)) (Rep.le s1.le _ _ e4)
      exact ⟨Z'', _, g2, enumL_get e3, r2⟩
  · cases e
theorem ent {e : Expr} {p pos tpos : Pos} {elts : List Expr} {kk : Nat} {g : Env → R (List D)} (ha : DenA X G .c [e] g) (hm : X.mg "enumerate" = none) (hg : Gl X "enumerate" := by rfl) (hs : starEach [e] X.env = [(false, eval e X.env)] := by rfl) :
    DenI X G (.Tuple elts kk tpos) (.Call (.Name "enumerate" p) [e] [] pos) (gSeqA enmT g) := deni_enumT hg hm ha hs
end
end VS

set_option Elab.async false
set_option linter.all false
set_option maxRecDepth 100000
set_option maxHeartbeats 4000000
/-! VX8: zip of two tuples. -/
namespace VS
open PySem PySem.Spec PyProof.Rows L2 LamX
def zpT : List D → R (List D) | [.tup ds, .tup es] => .ok (zipD ds es) | _ => .no
theorem walk_zipT {K : PySem.W.Frag} {a b : Addr} {xs ys : List V} {n : Nat} (hn : n = min xs.length ys.length) : Walk (RZ.ItzT K a b) n (fun H => SqT K H a xs ∧ SqT K H b ys) (YPair (fun i => xs[i]?) (fun i => ys[i]?)) := by
  subst hn
  refine ⟨fun i _ hi q => ?_, fun _ q => ⟨xs, ys, q.1, q.2, by omega⟩, fun i H v H' _ q y => ?_⟩
  · have h1 : i < xs.length := by omega
    have h2 : i < ys.length := by omega
    exact ⟨xs, ys, xs[i], ys[i], q.1, q.2, by simp [h1], by simp [h2]⟩
  · obtain ⟨T, x, z, h1, h2, h3, h4, h5⟩ := y
    exact ⟨T, x, z, h1, h2, h3, h4 xs q.1, h5 ys q.2⟩
section
variable {X : Cx} {G : Wh}
theorem deni_zipT {e e2 : Expr} {p pos tpos : Pos} {elts : List Expr} {kk : Nat} {g : Env → R (List D)} (ha : DenA X G .c [e, e2] g)
    (pz : ∀ t, PA X [e, e2] t → PI X (.Tuple elts kk tpos) (.Call (.Name "zip" p) [e, e2] [] pos) (RZ.iZipA X.K t)) :
    DenI X G (.Tuple elts kk tpos) (.Call (.Name "zip" p) [e, e2] [] pos) (gSeqA zpT g) := by
  obtain ⟨t, pt, q⟩ := ha.ex
  refine ⟨_, pz t pt, fun Z0 H0 Z H σ ρ Rk S h => ?_⟩
  refine seq_a (es := [e, e2]) q S h (fun d ds e v Z' H' g' f k => ?_) (fun d c => by unfold zpT; split <;> (intro z; cases z))
  unfold zpT at e
  split at e
  · rename_i es fs
    cases e
    obtain ⟨x, y, rfl, fx, fy⟩ := fins2 f
    cases fx with
    | @tup a vs _ h1 h2 =>
      cases fy with
      | @tup b us _ h3 h4 =>
        have hl : (zipD es fs).length = min vs.length us.length := by unfold zipD; rw [List.length_map, List.length_zip, h2.length, h4.length]
        refine ⟨a, b, vs, us, rfl, .inr ⟨SqT.of (g'.s _ _ h1), SqT.of (g'.s _ _ h3), k _ Z' H' (.refl g'.s g'.n) ⟨fun H => SqT X.K H a vs ∧ SqT X.K H b us, _, walk_zipT hl, fun H' s => ⟨SqT.of (s _ _ h1), SqT.of (s _ _ h3)⟩, fun i Z2 H2 x H3 hi s1 s2 n y => ?_⟩⟩⟩
        obtain ⟨t, x1, y1, rfl, ht, rfl, e1, e2⟩ := y
        obtain ⟨d1, e3, e4⟩ := h2.getV e1
        obtain ⟨d2, e5, e6⟩ := h4.getV e2
        obtain ⟨Z'', g2, r2⟩ := pair_new (T := G.T) s2 n ht (Rep.le s1.le _ _ e4) (Rep.le s1.le _ _ e6)
        refine ⟨Z'', _, g2, ?_, r2⟩
        unfold zipD
        rw [List.getElem?_map, List.getElem?_zip_eq_some (z := (d1, d2)) |>.mpr ⟨e3, e5⟩]; rfl
  · cases e
theorem zit {e e2 : Expr} {p pos tpos : Pos} {elts : List Expr} {kk : Nat} {g : Env → R (List D)} (ha : DenA X G .c [e, e2] g) (hm : X.mg "zip" = none) (hg : Gl X "zip" := by rfl) (hs : starEach [e, e2] X.env = (false, eval e X.env) :: starEach [e2] X.env := by rfl) (hpl : (backTo pos (starEach [e2] X.env)).any (·.1) = false := by rfl) :
    DenI X G (.Tuple elts kk tpos) (.Call (.Name "zip" p) [e, e2] [] pos) (gSeqA zpT g) := deni_zipT ha fun t pt => RZ.pi_zipA hg hm pt hs hpl
end
end VS

set_option Elab.async false
set_option linter.all false
set_option maxRecDepth 100000
set_option maxHeartbeats 4000000
/-! VX9: x in a list of any data. -/
namespace VS
open PySem PySem.Spec PyProof.Rows L2 LamX
def rInQ (K : PySem.W.Frag) (neg : Bool) : R2 := fun x y H Q => ∃ p xs e ds, y = .ref p ∧ (SqL K H p xs ∨ SqT K H p xs) ∧ Dp K H x e ∧ DpAll K H xs ds ∧ e.canLay0 = true ∧ PyData.canLayAll0 ds = true ∧ e.depth ≤ 100 ∧
  Q (.bl (if neg then !(ds.any fun d => PyData.eqv d e) else ds.any fun d => PyData.eqv d e)) H
noncomputable def rdE (h : Heap) (e : PyData) (w : Value) : Bool := @decide (∃ d as, d.canLay0 = true ∧ Reads h w d as ∧ PyData.eqv d e = true) (Classical.propDecidable _)
theorem rdE_of {h : Heap} {e d : PyData} {w : Value} {as : List Addr} (c : d.canLay0 = true) (r : Reads h w d as) : rdE h e w = PyData.eqv d e := by
  unfold rdE
  cases hh : PyData.eqv d e with
  | true => exact @decide_eq_true _ (Classical.propDecidable _) ⟨d, as, c, r, hh⟩
  | false =>
    refine @decide_eq_false _ (Classical.propDecidable _) ?_
    rintro ⟨d', as', c', r', q⟩
    have := SeqAt.Reads.unique d d' w as as' c r r'
    subst this
    rw [hh] at q; cases q
theorem in_heads {X : Cx} {pins : List (Addr × Obj)} {σ : L2.St} {H : Hp} {s : Shared} (I : Inv X pins σ H s) {e : PyData} {x : Value} {bs : List Addr} {A : Around} (re : Reads s.heap x e bs) (ce : e.canLay0 = true) (hu : A.units + 101 < cLine) (hd : e.depth ≤ 100) :
    ∀ {xs : List V} {us : List Value} {ds : List PyData}, Vals xs us → DpAll X.K H xs ds → PyData.canLayAll0 ds = true → (∀ u ∈ us, SeqAt.EqAt A s u x (rdE s.heap e u)) ∧ us.any (rdE s.heap e) = ds.any fun d => PyData.eqv d e
  | _, _, _, .nil, h, _ => by cases h; exact ⟨fun u hu => (by cases hu), rfl⟩
  | v :: xs, u :: us, _, .cons r t, h, c => by
    cases h with
    | @cons _ _ d ds h1 h2 =>
      rw [PyData.canLayAll0, Bool.and_eq_true] at c
      obtain ⟨as, q⟩ := Dp.reads I d v u h1 r
      obtain ⟨i1, i2⟩ := in_heads I re ce hu hd t h2 c.2
      have ee := rdE_of (e := e) c.1 q
      refine ⟨fun w hw => ?_, by rw [List.any_cons, List.any_cons, ee, i2]⟩
      rcases List.mem_cons.mp hw with rfl | hw
      · rw [ee]
        exact SeqAt.eqAt_reads d e A s w x as bs q re c.1 ce (by have := Nat.min_le_right d.depth e.depth; omega)
      · exact i1 w hw
theorem op_inQ {X : Cx} (hu : X.A.units + 200 < cLine) : OpR X (compareOp .In) (rInQ X.K false) := by
  intro pins s σ H x y v u Q I rx ry h
  obtain ⟨p, xs, e, ds, rfl, hq, he, hd, c1, c2, hz, q⟩ := h
  cases ry
  obtain ⟨bs, re⟩ := Dp.reads I e x v he rx
  have hu1 : X.A.in1.units + 101 < cLine := by rw [Around.in1_units]; omega
  rcases hq with hq | hq
  · obtain ⟨its, r, pl, _⟩ := I.list hq
    obtain ⟨i1, i2⟩ := in_heads I re c1 hu1 hz r hd c2
    refine SeqAt.in_listAt (rdE s.heap e) pl.isList (fun w hw => i1 w (by simpa using hw)) ⟨.bl _, H, I, rfl, ?_⟩
    rw [show its.toArray.any (rdE s.heap e) = its.any (rdE s.heap e) by simp, i2]
    exact q
  · obtain ⟨its, r, pl, _⟩ := I.tuple hq
    obtain ⟨i1, i2⟩ := in_heads I re c1 hu1 hz r hd c2
    refine SeqAt.in_tupleAt (rdE s.heap e) pl (fun w hw => i1 w (by simpa using hw)) ⟨.bl _, H, I, rfl, ?_⟩
    rw [show its.toArray.any (rdE s.heap e) = its.any (rdE s.heap e) by simp, i2]
    exact q
theorem op_niQ {X : Cx} (hu : X.A.units + 200 < cLine) : OpR X (compareOp .NotIn) (rInQ X.K true) := by
  intro pins s σ H x y v u Q I rx ry h
  obtain ⟨p, xs, e, ds, rfl, hq, he, hd, c1, c2, hz, q⟩ := h
  cases ry
  obtain ⟨bs, re⟩ := Dp.reads I e x v he rx
  have hu1 : X.A.in1.units + 101 < cLine := by rw [Around.in1_units]; omega
  rcases hq with hq | hq
  · obtain ⟨its, r, pl, _⟩ := I.list hq
    obtain ⟨i1, i2⟩ := in_heads I re c1 hu1 hz r hd c2
    refine SeqAt.notIn_listAt (rdE s.heap e) pl.isList (fun w hw => i1 w (by simpa using hw)) ⟨.bl _, H, I, rfl, ?_⟩
    rw [show its.toArray.any (rdE s.heap e) = its.any (rdE s.heap e) by simp, i2]
    exact q
  · obtain ⟨its, r, pl, _⟩ := I.tuple hq
    obtain ⟨i1, i2⟩ := in_heads I re c1 hu1 hz r hd c2
    refine SeqAt.notIn_tupleAt (rdE s.heap e) pl (fun w hw => i1 w (by simpa using hw)) ⟨.bl _, H, I, rfl, ?_⟩
    rw [show its.toArray.any (rdE s.heap e) = its.any (rdE s.heap e) by simp, i2]
    exact q
def layD (d : D) : Bool := (toPy d).canLay0
def inQ (neg : Bool) : D → D → R D := fun x y => match itemsD y with
  | some ds => if layD x && decide ((toPy x).depth ≤ 100) && ds.all layD then .ok (.bl (if neg then !(ds.any fun d => eqD d x) else ds.any fun d => eqD d x)) else .no
  | none => .no
theorem lay_list : ∀ {ds : List D}, ds.all layD = true → PyData.canLayAll0 (toPys ds) = true
  | [], _ => rfl
  | d :: ds, h => by
    rw [List.all_cons, Bool.and_eq_true] at h
    rw [toPys, PyData.canLayAll0, lay_list h.2, Bool.and_true]; exact h.1
theorem any_toPys (e : PyData) : ∀ ds : List D, ((toPys ds).any fun d => PyData.eqv d e) = ds.any fun d => PyData.eqv (toPy d) e
  | [] => rfl
  | d :: ds => by rw [toPys, List.any_cons, List.any_cons, any_toPys e ds]
section
variable {K : PySem.W.Frag} {G : Wh}
theorem rd_inQ {neg : Bool} : RDen K G (rInQ K neg) .c (inQ neg) := by
  intro x y dx dy Z H Q s n hx hy h
  unfold inQ at h
  split at h
  · rename_i ds e
    split at h
    · rename_i hc
      rw [Bool.and_eq_true, Bool.and_eq_true, decide_eq_true_eq] at hc
      obtain ⟨a, vs, rfl, hh, r⟩ := now_items s hy e
      have rx := Now.rep s hx
      have c2 := lay_list hc.2
      refine ⟨a, vs, _, _, rfl, hh, Rep.dp _ _ hc.1.1 rx, Reps.dp ds vs c2 (Reps.le s.le _ _ r), hc.1.1, c2, hc.1.2, ?_⟩
      rw [any_toPys]
      exact ansC s n h (.bl _)
    · exact h.elim
  · exact h.elim
end
section
variable {X : Cx} {G : Wh} {a b : Expr} {m1 m2 : Md} {ga gb : Env → R D} {pos : Pos}
theorem inq (ha : Den X G m1 a ga) (hb : Den X G m2 b gb) (hu : X.A.units + 200 < cLine) (hm : behindInMarks .In b = false := by rfl) : Den X G .c (.Compare a [.In] [b] pos) (geOp (inQ false) ga gb) := den_cmp (op_inQ hu) rd_inQ ha hb hm
theorem niq (ha : Den X G m1 a ga) (hb : Den X G m2 b gb) (hu : X.A.units + 200 < cLine) (hm : behindInMarks .NotIn b = false := by rfl) : Den X G .c (.Compare a [.NotIn] [b] pos) (geOp (inQ true) ga gb) := den_cmp (op_niQ hu) rd_inQ ha hb hm
theorem tinq (ha : Den X G m1 a ga) (hb : Den X G m2 b gb) (hu : X.A.units + 200 < cLine) (hm : behindInMarks .In b = false := by rfl) : DenT X G (.Compare a [.In] [b] pos) (geB (geOp (inQ false) ga gb)) := dent_cmp (op_inQ hu) rd_inQ ha hb hm
theorem tniq (ha : Den X G m1 a ga) (hb : Den X G m2 b gb) (hu : X.A.units + 200 < cLine) (hm : behindInMarks .NotIn b = false := by rfl) : DenT X G (.Compare a [.NotIn] [b] pos) (geB (geOp (inQ true) ga gb)) := dent_cmp (op_niQ hu) rd_inQ ha hb hm
end
end VS

set_option Elab.async false
set_option linter.all false
set_option maxRecDepth 100000
set_option maxHeartbeats 4000000
/-! VX10: dict(pairs) with tuple keys. -/
namespace VS
open PySem PySem.Spec PyProof.Rows L2 LamX
abbrev KV3 := List Key × Addr × V
def kvT (p : KV3) : List Key × V := (p.1, p.2.2)
def putsT (l acc : List (List Key × V)) : List (List Key × V) := l.foldl (fun acc kv => putK acc kv.1 kv.2) acc
def rDictQ (K : PySem.W.Frag) : List V → Hp → VK → Prop := fun xs H Q => ∃ (a : Addr) (ps : List Addr) (kvs : List KV3), xs = [.ref a] ∧ SqL K H a (ps.map V.ref) ∧
  Paired (fun p (kv : KV3) => SqT K H p [.ref kv.2.1, kv.2.2] ∧ H kv.2.1 = some (.tup (kv.1.map kV))) ps kvs ∧ ∀ p, H p = none → Q (.ref p) (upd H p (.dT (putsT (kvs.map kvT) [])))
section
variable {X : Cx}
theorem pairs_ofT {pins : List (Addr × Obj)} {σ : L2.St} {H : Hp} {s : Shared} (I : Inv X pins σ H s) : ∀ {ps : List Addr} {kvs : List KV3}, Paired (fun p (kv : KV3) => SqT X.K H p [.ref kv.2.1, kv.2.2] ∧ H kv.2.1 = some (.tup (kv.1.map kV))) ps kvs →
    ∃ prs : List (List Key × Addr × Value), KT H (kvs.map kvT) prs ∧ prs.length = ps.length ∧ (∀ (j : Nat) (q : List Key × Addr × Value), prs[j]? = some q → ∃ (b : Addr), ps[j]? = some b ∧ IsTup s.heap b #[.ref q.2.1, q.2.2]) ∧ ∀ x ∈ prs, H x.2.1 = some (.tup (x.1.map kV))
  | _, _, .nil => ⟨[], .nil, rfl, (fun j q e => by simp at e), fun x hx => (by cases hx)⟩
  | _, _, .cons (a := p) (b := kv) h t => by
    obtain ⟨prs, r, hl, hp, hm⟩ := pairs_ofT I t
    obtain ⟨its, rv, ht, _⟩ := I.tuple h.1
    obtain ⟨u, y, ei, ru, ry⟩ := vals2 rv
    subst ei
    cases ru
    refine ⟨(kv.1, kv.2.1, y) :: prs, .cons ⟨rfl, h.2, ry⟩ r, by rw [List.length_cons, List.length_cons, hl], fun j q e => ?_, fun x hx => ?_⟩
    · cases j with
      | zero =>
        have e' : (kv.1, kv.2.1, y) = q := Option.some.inj e
        subst e'
        exact ⟨p, rfl, ht⟩
      | succ j =>
        obtain ⟨b, e1, e2⟩ := hp j q (by simpa using e)
        exact ⟨b, by simpa using e1, e2⟩
    · rcases List.mem_cons.mp hx with rfl | hx
      · exact h.2
      · exact hm x hx
theorem KT_all {H : Hp} : ∀ {l : List (List Key × V)} {prs acc' : List (List Key × Addr × Value)} {acc : List (List Key × V)}, KT H l prs → KT H acc acc' → KT H (putsT l acc) (storedAllH acc' prs)
  | _, _, _, _, .nil, q => q
  | _, _, _, _, .cons (a := p) (b := x) h t, q => by
    obtain ⟨h1, h2, h3⟩ := h
    have := q.put p.1 h2 h3
    rw [h1] at this
    show KT H (putsT _ (putK _ p.1 p.2)) (storedAllH (storedH _ x.1 x.2.1 x.2.2) _)
    rw [h1]
    exact KT_all t this
theorem putsT_len : ∀ (l acc : List (List Key × V)), (putsT l acc).length ≤ acc.length + l.length
  | [], _ => Nat.le_refl _
  | p :: l, acc => by
    have h1 := putsT_len l (putK acc p.1 p.2)
    have h2 := length_putK acc p.1 p.2
    show (putsT l (putK acc p.1 p.2)).length ≤ _
    rw [List.length_cons]; omega
theorem call_dictQ (hcalm : X.calm = true) (hu : X.A.units + 200 < cLine) : CallR X (.type "dict") (rDictQ X.K) := by
  intro pins s σ H xs us Q I r q
  obtain ⟨a, ps, kvs, ex, hq, hp, q⟩ := q
  subst ex
  obtain ⟨u, eu, rx⟩ := vals1 r
  subst eu
  cases rx
  obtain ⟨its, rv, pl, hz⟩ := I.list hq
  have ei := refs_at rv
  subst ei
  rw [List.length_map] at hz
  obtain ⟨prs, rel, hl, hpr, hmem⟩ := pairs_ofT I hp
  obtain ⟨o, n, ho, hc, hd, hdat⟩ := pl
  have ok : PlainSeq "list" s.heap a (ps.map Value.ref).toArray ∧ PairItems s.heap (ps.map Value.ref).toArray (fun j => ps.getD j 0) (prs.map fun q => ((.ref q.2.1, q.2.2) : Value × Value)) := by
    refine ⟨⟨o, n, ho, hc, hd, hdat⟩, by simp [hl], fun j k v e => ?_⟩
    rw [List.getElem?_map] at e
    cases e2 : prs[j]? with
    | none => rw [e2] at e; cases e
    | some q =>
      rw [e2] at e
      cases e
      obtain ⟨b, e3, e4⟩ := hpr j q e2
      have e5 : ps.getD j 0 = b := by rw [List.getD_eq_getElem?_getD, e3]; rfl
      refine ⟨?_, .inl (by show s.heap.IsTuple (ps.getD j 0) _; rw [e5]; exact e4)⟩
      simp [e3]
  have keyIs : ∀ h' : Heap, (∀ b o, b ≠ s.heap.objs.size → s.heap.get? b = some o → h'.get? b = some o) → ∀ x ∈ prs, (tupleKind (mixKind X.prog X.w)).is h' x.1 x.2.1 := fun h' hk x hx => by
    obtain ⟨o, its, n, h1, h2, h3, h4⟩ := L2.key_of I.hok (hmem x hx)
    exact ⟨o, its, n, hk _ _ (Nat.ne_of_lt (Heap.lt_size h1)) h1, h2, h3, h4⟩
  refine call_dict_pairsH (knd := tupleKind (mixKind X.prog X.w)) (ps := prs) (PairArg.list a (ps.map Value.ref).toArray (fun j => ps.getD j 0) (prs.map fun q => ((.ref q.2.1, q.2.2) : Value × Value))) (I.ok.hd hcalm) (tupleKind_room_in1 (by show X.A.units + 1 + 1 < cLine; omega)) ok
    ⟨by simp, fun i key v e => ?_⟩ (fun h' hk x hx => keyIs h' (fun b o h1 e => hk b o h1 (fun z => nomatch z) e) x hx) (by simp [hl]; exact hz) fun h' tk hD hk => ?_
  · have e' : (prs.map fun q => ((.ref q.2.1, q.2.2) : Value × Value))[i]? = some (key, v) := e
    rw [List.getElem?_map] at e'
    cases e2 : prs[i]? with
    | none => rw [e2] at e'; cases e'
    | some q =>
      rw [e2] at e'
      cases e'
      exact ⟨q.1, q.2.1, rfl, rfl⟩
  · have hm : (s.heap.objs.size == sysModules) = false := beq_eq_false_iff_ne.mpr (Nat.ne_of_gt I.big)
    have hlen : (putsT (kvs.map kvT) []).length ≤ sizeLine := by
      refine Nat.le_trans (putsT_len _ _) ?_
      rw [List.length_nil, Nat.zero_add, rel.length, hl]
      exact hz
    have kt : KT H (putsT (kvs.map kvT) []) (storedAllH [] prs) := KT_all rel .nil
    obtain ⟨o, es, ep, g1, g2, g3, g4, _, g5⟩ := hD
    refine ⟨.ref s.heap.objs.size, upd H s.heap.objs.size (.dT (putsT (kvs.map kvT) [])), I.laid (t' := tk) (fun b o e => hk b o (fun z => nomatch z) e) (Nat.le_refl _)
      (show ObjOk X.prog X.w _ _ _ (.dT (putsT (kvs.map kvT) [])) from ⟨hlen, hm, storedAllH [] prs, kt.keeps fun b ys e => by rw [upd_ne (ne_of_none e (I.hok.fresh (Nat.le_refl _)))]; exact e, o, es, ep, g1, g2, g3, g4, g5⟩), rfl, q _ (I.hok.fresh (Nat.le_refl _))⟩
end
def pairQ : D → Option (List Key × D) | .tup [.tup ks, d] => (keysD ks).map fun k => (k, d) | _ => none
def pairsQ : List D → Option (List (List Key × D))
  | [] => some []
  | d :: ds => match pairQ d, pairsQ ds with | some p, some ps => some (p :: ps) | _, _ => none
def dictQ : List D → R D | [.lst ds] => (match pairsQ ds with | some kvs => .ok (.dT (mg [] kvs)) | none => .no) | _ => .no
section
variable {K : PySem.W.Frag} {G : Wh}
theorem keys_tup {Z H : Hp} (s : Sub Z H) {v : V} {ks : List D} {k : List Key} (r : Rep K Z v (.tup ks)) (e : keysD ks = some k) : ∃ b, v = .ref b ∧ H b = some (.tup (k.map kV)) := by
  cases r with
  | @tup a vs _ h1 h2 => exact ⟨a, rfl, by rw [s _ _ h1, keys_of h2 e]⟩
theorem pairs_repQ {Z H : Hp} (s : Sub Z H) : ∀ {ds : List D} {vs : List V} {kvs : List (List Key × D)}, Reps K Z vs ds → pairsQ ds = some kvs →
    ∃ (ps : List Addr) (us : List KV3), vs = ps.map V.ref ∧ Paired (fun p (kv : KV3) => SqT K H p [.ref kv.2.1, kv.2.2] ∧ H kv.2.1 = some (.tup (kv.1.map kV))) ps us ∧ RepsQ K Z (us.map kvT) kvs
  | [], _, _, h, e => by cases h; cases e; exact ⟨[], [], rfl, .nil, .nil⟩
  | d :: ds, _, kvs, h, e => by
    cases h with
    | @cons v vs _ _ h t =>
      unfold pairsQ at e
      split at e
      · rename_i p ps e1 e2
        cases e
        obtain ⟨qs, us, rfl, q1, q2⟩ := pairs_repQ s t e2
        unfold pairQ at e1
        split at e1
        · rename_i ks x
          cases ek : keysD ks with
          | none => rw [ek] at e1; cases e1
          | some k =>
            rw [ek] at e1; cases e1
            cases h with
            | @tup a ws _ h1 h2 =>
              cases h2 with
              | cons r1 r2 =>
                cases r2 with
                | cons r2 r3 =>
                  cases r3
                  obtain ⟨b, rfl, hb⟩ := keys_tup s r1 ek
                  exact ⟨a :: qs, (k, b, _) :: us, rfl, .cons ⟨SqT.of (s _ _ h1), hb⟩ q1, .cons r2 q2⟩
        · cases e1
      · cases e
theorem mg_Q {Z : Hp} : ∀ {es : List (List Key × D)} {us : List (List Key × V)} {ds : List (List Key × D)} {vs : List (List Key × V)}, RepsQ K Z us es → RepsQ K Z vs ds → RepsQ K Z (putsT us vs) (mg ds es)
  | [], _, _, _, h, q => by cases h; exact q
  | (k, d) :: es, _, _, _, h, q => by
    cases h with
    | cons h t =>
      have := mg_Q t (pk_Q q k h)
      exact this
theorem ad_dictQ : ADen K G (rDictQ K) .t .f dictQ := by
  intro vs ds Z H Q s n f h
  unfold dictQ at h
  split at h
  · rename_i es
    split at h
    · rename_i kvs e
      obtain ⟨v, rfl, fv⟩ := fins1 f
      obtain ⟨a, us, rfl, hh, r⟩ := now_lst s fv
      obtain ⟨ps, ws, rfl, q1, q2⟩ := pairs_repQ s r e
      refine ⟨a, ps, ws, rfl, SqL.of hh, q1, fun p hp => ?_⟩
      have r3 := mg_Q q2 (.nil (K := K) (Z := Z))
      exact h _ Z _ (grow_new s n hp) ⟨p, rfl, .dT upd_same r3, sub_none s hp, nprot_none hp⟩
    · exact h.elim
  · exact h.elim
end
end VS

set_option Elab.async false
set_option linter.all false
set_option maxRecDepth 100000
set_option maxHeartbeats 4000000
/-! VX11: a tuple the other way about. -/
namespace VS
open PySem PySem.Spec PyProof.Rows L2 LamX
section
variable {prog : Program} {w : World} {A : Around} {E : Value → Shared → Prop} {s : Shared}
theorem adjust_rev (n : Nat) : Builtin.Slice.sliceAdjust none none (-1) (n : Int) = ((n : Int) - 1, -1) := by
  unfold Builtin.Slice.sliceAdjust
  simp
theorem places_rev (n : Nat) : Builtin.Slice.slicePlaces ((n : Int) - 1) (-1) (-1) = n := by
  unfold Builtin.Slice.slicePlaces
  simp
  split <;> omega
theorem sliceApplied_rev {sl : Addr} {vl vu vs : Value} {n : Nat} {Q : Int × Int × Nat → Shared → Prop} (hs : s.heap.IsSliceOf sl vl vu vs) (pl : IsPart vl none) (pu : IsPart vu none) (ps : IsPart vs (some (-1)))
    (h : Q ((n : Int) - 1, -1, n) s) : wpAny (model prog w) A (Builtin.Slice.sliceApplied (.ref sl) (pure (n : Int))) Q E s := by
  obtain ⟨os, hos, hcs, hds⟩ := id hs
  unfold Builtin.Slice.sliceApplied Builtin.Slice.sliceFields
  refine wpAny_bind (wpAny_bind (wpAny_field hos hds (x := vl) rfl (wpAny_bind (wpAny_field hos hds (x := vu) rfl (wpAny_bind (wpAny_field hos hds (x := vs) rfl (wpAny_pure ?_)))))))
  refine wpAny_bind (HT.slicePart_ ps ?_)
  show wpAny _ _ (if ((-1 : Int) == 0) = true then _ else _) _ _ s
  rw [if_neg (by decide)]
  refine wpAny_bind (HT.slicePart_ pl (wpAny_bind (HT.slicePart_ pu (wpAny_bind (wpAny_pure ?_)))))
  show wpAny _ _ (match Builtin.Slice.sliceAdjust none none (-1) (n : Int) with | (lo, hi) => pure (lo, (-1 : Int), Builtin.Slice.slicePlaces lo hi (-1))) _ _ s
  rw [adjust_rev n]
  show wpAny _ _ (pure ((n : Int) - 1, (-1 : Int), Builtin.Slice.slicePlaces ((n : Int) - 1) (-1) (-1))) _ _ s
  rw [places_rev]
  exact wpAny_pure h
theorem pick_rev (xs : Array Value) : ((List.range xs.size).filterMap fun (m : Nat) => xs[((xs.size : Int) - 1 + (m : Int) * (-1)).toNat]?).toArray = xs.toList.reverse.toArray := by
  congr 1
  apply List.ext_getElem?
  intro i
  have key : ∀ (l : List Nat), (∀ m ∈ l, m < xs.size) → l.filterMap (fun (m : Nat) => xs[((xs.size : Int) - 1 + (m : Int) * (-1)).toNat]?) = l.map fun m => xs[xs.size - 1 - m]! := by
    intro l hl
    induction l with
    | nil => rfl
    | cons m l ih =>
      have hm := hl m List.mem_cons_self
      have e : ((xs.size : Int) - 1 + (m : Int) * (-1)).toNat = xs.size - 1 - m := by omega
      rw [List.filterMap_cons, e]
      have h2 : xs.size - 1 - m < xs.size := by omega
      rw [Array.getElem?_eq_getElem h2]
      dsimp only
      rw [ih fun k hk => hl k (List.mem_cons_of_mem _ hk), List.map_cons]
      congr 1
      rw [getElem!_pos xs _ h2]
  rw [key _ fun m hm => List.mem_range.mp hm]
  by_cases hi : i < xs.size
  · rw [List.getElem?_map, List.getElem?_range hi, List.getElem?_reverse (by simpa using hi)]
    have h2 : xs.size - 1 - i < xs.size := by omega
    simp [h2]
  · rw [List.getElem?_eq_none (by simpa using hi), List.getElem?_eq_none (by simpa using hi)]
theorem getItem_tuple_rev {t sl : Addr} {items : Array Value} {vl vu vs : Value} {Q : Value → Shared → Prop} (ht : IsTup s.heap t items) (hs : s.heap.IsSliceOf sl vl vu vs) (pl : IsPart vl none) (pu : IsPart vu none) (ps : IsPart vs (some (-1)))
    (h : Q (.ref s.heap.objs.size) { s with heap := s.heap.push { cls := .type "tuple", data := .seq items.toList.reverse.toArray } })
    (hsz : items.size ≤ sizeLine) : wpAny (model prog w) A (getItem (.ref t) (.ref sl)) Q E s := by
  have htake : sizeOk (.seq items.toList.reverse.toArray) := by
    show items.toList.reverse.toArray.size ≤ sizeLine
    rw [List.size_toArray, List.length_reverse, Array.length_toList]
    exact hsz
  obtain ⟨os, hos, hcs, hds⟩ := id hs
  have hTs : s.TypeIs (.ref sl) "slice" := ⟨os, hos, hcs⟩
  unfold getItem
  try with_reducible refine wpAny_holding ?_
  first | refine wpAny_bind (wpAny_pure ?_) | skip
  refine wpAny_bind (wpAny_sequenceKey ht.typeIs (by decide) ?_)
  refine wpAny_bind (wpAny_callSpecial?_slot (name := Str.ofString "__getitem__") ht.typeIs PyProof.Rows.slot_tuple_getitem
    (wpAny_call_entry PyProof.Rows.slot_tuple_getitem ht.typeIs entry_tuple_getitem ?_ (args_tuple_getitem _ _)))
  show wpAny _ _ (Builtin.Tuple.tupleItemsOf (.ref t) >>= _) _ _ s
  refine wpAny_bind (tupleItemsOf_ ht ?_)
  refine wpAny_bind (wpAny_typeOf hTs ?_)
  rw [if_pos (by decide)]
  refine wpAny_bind (sliceApplied_rev hs pl pu ps ?_)
  have hno : ¬ ((((items.size : Int) - 1) == 0 && (-1 : Int) == 1 && items.size == items.size) = true) := by
    intro q
    rw [Bool.and_eq_true, Bool.and_eq_true] at q
    exact absurd q.1.2 (by decide)
  show wpAny _ _ (if (((items.size : Int) - 1) == 0 && (-1 : Int) == 1 && items.size == items.size) = true then _ else _) _ _ s
  rw [if_neg hno, pick_rev]
  first
    | exact wpAny_bind (m := Builtin.Tuple.tupleExact _) (wpAny_newObj_type (wpAny_pure ⟨_, rfl, wpAny_pure h⟩) htake)
    | exact wpAny_bind (m := Builtin.Tuple.tupleExact _) (wpAny_newObj_type (wpAny_bind (wpAny_pure (wpAny_pure ⟨_, rfl, wpAny_pure h⟩))) htake)
    | exact wpAny_bind (wpAny_bind (m := Builtin.Tuple.tupleExact _) (wpAny_newObj_type (wpAny_pure (wpAny_pure ⟨_, rfl, wpAny_pure h⟩)) htake))
    | exact wpAny_bind (wpAny_bind (m := Builtin.Tuple.tupleExact _) (wpAny_newObj_type (wpAny_pure ⟨_, rfl, wpAny_pure h⟩) htake))
end
section
variable {X : Cx}
def tRevT (K : PySem.W.Frag) (te : TE) : TE := fun σ H Q => te σ H fun x H1 => ∃ a xs, x = .ref a ∧ SqT K H1 a xs ∧ ∀ p, H1 p = none → Q (.ref p) (upd H1 p (.tup xs.reverse))
theorem pe_revT {e : Expr} {te : TE} {k : Nat} {p1 p2 p3 pos : Pos} (he : PE X e te) : PE X (.Subscript e (.Slice none none (some (.UnaryOp .USub (.Constant (.int 1) k p1) p2)) p3) pos) (tRevT X.K te) := by
  refine ⟨fun pins s σ H Q I h => ?_⟩
  refine Subscript_ (thn (he.run pins s σ H _ I h) fun v s1 ⟨x, H1, I1, r1, q1⟩ => ?_)
  obtain ⟨a, xs, ex, hx, q⟩ := q1
  subst ex
  cases r1
  have hst : PO X (some (.UnaryOp .USub (.Constant (.int 1) k p1) p2)) (tPart (tUn (rU fun i => .int (-i)) (tC (.int 1)))) := po_some (pe_un un_neg pe_int)
  refine wpAny_Slice (thn (po_none.run pins s1 σ H1 (fun o H2 => o = none ∧ H2 = H1) I1 ⟨rfl, rfl⟩) fun vl s2 ⟨l, H2, I2, pl, el, e2⟩ => ?_)
  subst el e2
  refine thn (po_none.run pins s2 σ H2 (fun o H3 => o = none ∧ H3 = H2) I2 ⟨rfl, rfl⟩) fun vu s3 ⟨u, H3, I3, pu, eu, e3⟩ => ?_
  subst eu e3
  refine thn (hst.run pins s3 σ H3 (fun o H4 => o = some (-1) ∧ H4 = H3) I3 ⟨1, rfl, -1, rfl, rfl, rfl⟩) fun vs s4 ⟨o, H4, I4, ps, eo, e4⟩ => ?_
  subst eo e4
  have I5 : Inv X pins σ H4 { s4 with heap := s4.heap.push { cls := .type "slice", data := .fields #[vl, vu, vs] } } := I4.kept (t' := s4.toks) fun b ob q => Heap.get?_push_of_some _ q
  obtain ⟨its, r, ht, hz⟩ := I5.tuple hx
  have hlen := r.length
  show wpAny (model X.prog X.w) X.A (subscriptTail e (.Slice none none (some (.UnaryOp .USub (.Constant (.int 1) k p1) p2)) p3) (.ref a) (.ref s4.heap.objs.size)) (EP X pins σ Q) X.xe { s4 with heap := s4.heap.push { cls := .type "slice", data := .fields #[vl, vu, vs] } }
  refine tail_any (ops := [.ref a, .ref s4.heap.objs.size]) ht.typeIs (PyProof.Rows.slot_tuple_getitem.lookup) ?_ (by with_unfolding_all rfl)
  refine getItem_tuple_rev ht (Heap.IsSliceOf.new _ vl vu vs) pl pu ps ?_ (by rw [List.size_toArray]; omega)
  refine ⟨.ref _, _, I5.laid (t' := s4.toks) (o := .tup xs.reverse) (fun b ob q => Heap.get?_push_of_some _ q) (Nat.le_refl _) ?_, rfl, q _ (I5.hok.fresh (Nat.le_refl _))⟩
  exact ⟨by rw [List.length_reverse]; omega, _, r.reverse, ⟨_, Heap.get?_push_size _ rfl, rfl, 0, rfl⟩⟩
end
def revT : D → R D | .tup ds => .ok (.tup ds.reverse) | _ => .no
section
variable {X : Cx} {G : Wh}
theorem den_revT {e : Expr} {k : Nat} {p1 p2 p3 pos : Pos} {m1 : Md} {g : Env → R D} (he : Den X G m1 e g) : Den X G .c (.Subscript e (.Slice none none (some (.UnaryOp .USub (.Constant (.int 1) k p1) p2)) p3) pos) (ge1 revT g) := by
  obtain ⟨t, p, q⟩ := he.ex
  refine ⟨_, pe_revT p, fun Z0 H0 Z H σ ρ Q S k => ?_⟩
  refine q Z0 H0 Z H σ ρ _ S ?_
  unfold ge1 at k
  cases ea : g ρ with
  | no => rw [ea] at k; exact k
  | ex c => rw [ea] at k; exact k
  | ok d =>
    rw [ea] at k
    intro v Z1 H1 g1 f1
    have k' : Ans X.K G .c (revT d) Z1 H1 Q := Ans.grow k g1
    unfold revT at k'
    split at k'
    · obtain ⟨a, vs, rfl, _, hh, r⟩ := now_tup g1.s (f1.now (Hx := H))
      exact ⟨a, vs, rfl, SqT.of hh, ansT g1.s g1.n k' r.reverse⟩
    · exact k'.elim
end
end VS

set_option Elab.async false
set_option linter.all false
set_option maxRecDepth 100000
set_option maxHeartbeats 4000000
/-! VX12: is None as a test. -/
namespace VS
open PySem PySem.Spec PyProof.Rows L2 LamX
section
variable {X : Cx} {G : Wh} {m1 : Md} {a : Expr} {ga : VS.Env → R D} {pos : Pos}
theorem ans_isX {q : D → R D} {bf : V → Bool} {bd : D → Bool} (e1 : ∀ d, q d = .ok (.bl (bd d))) (e2 : ∀ {Z H : Hp} {x : V} {d : D}, Fin X.K H Z H .t x d → bf x = bd d) {t : TE}
    (r : ∀ Z0 H0 Z H σ ρ Q, Sim X.K G.T Z0 H0 Z H σ ρ → Ans X.K G m1 (ga ρ) Z H Q → t σ H Q) {Z0 H0 Z H : Hp} {σ : L2.St} {ρ : VS.Env} {Q : VK} (S : Sim X.K G.T Z0 H0 Z H σ ρ) (h : Ans X.K G .c (ge1 q ga ρ) Z H Q) : t σ H fun x H1 => Q (.bl (bf x)) H1 := by
  refine r Z0 H0 Z H σ ρ _ S ?_
  unfold ge1 at h
  cases ea : ga ρ with
  | no => rw [ea] at h; exact h
  | ex c => rw [ea] at h; exact h
  | ok d =>
    rw [ea] at h
    have h' : Ans X.K G .c (q d) Z H Q := h
    rw [e1] at h'
    intro v Z1 H1 g1 f1
    rw [e2 (f1.now (Hx := H1))]
    exact h' (.bl _) Z1 H1 g1 (.bl _)
theorem tisn (ha : Den X G m1 a ga) {p : Pos} {k : Nat} : DenT X G (.Compare a [.Is] [.Constant .none k p] pos) (geB (ge1 isN ga)) := by
  obtain ⟨t, pt, r⟩ := ha.ex
  exact dent_of (m := .c) (pc_isN pt) rfl fun Z0 H0 Z H σ ρ Q S h => ans_isX (bd := isNon) (fun d => by cases d <;> rfl) (fun h => now_isNon h) r S h
theorem tnotn (ha : Den X G m1 a ga) {p : Pos} {k : Nat} : DenT X G (.Compare a [.IsNot] [.Constant .none k p] pos) (geB (ge1 notN ga)) := by
  obtain ⟨t, pt, r⟩ := ha.ex
  exact dent_of (m := .c) (pc_notN pt) rfl fun Z0 H0 Z H σ ρ Q S h => ans_isX (bf := fun x => !decide (x = .non)) (bd := fun d => !isNon d) (fun d => by cases d <;> rfl) (fun h => by rw [now_isNon h]) r S h
end
end VS

set_option Elab.async false
set_option linter.all false
set_option maxRecDepth 100000
set_option maxHeartbeats 4000000
/-! VX13: what is walked is a list or a tuple. -/
namespace VS
open PySem PySem.Spec PyProof.Rows L2 LamX
section
variable {X : Cx} {G : Wh}
def iSeqA (K : PySem.W.Frag) (tl : TE) : TI := fun σ H R => tl σ H fun x H1 => ∃ a, x = .ref a ∧ (((∃ xs, SqL K H1 a xs) ∧ R (Itl K a) H1) ∨ ((∃ xs, SqT K H1 a xs) ∧ R (Itt K a) H1))
theorem pi_seqA {tg l : Expr} {tl : TE} (hl : PE X l tl) : PI X tg l (iSeqA X.K tl) := by
  refine ⟨fun pins s σ H R I h => ?_⟩
  refine thn (hl.run pins s σ H _ I h) fun v s1 ⟨x, H1, I1, r1, q1⟩ => ?_
  obtain ⟨a, e, q1⟩ := q1
  subst e
  cases r1
  rcases q1 with ⟨⟨xs, hq⟩, q⟩ | ⟨⟨xs, hq⟩, q⟩
  · obtain ⟨its, rv, p, hz⟩ := I1.list hq
    refine wpAny_pyIter_list p.isList ?_
    refine ⟨s1.heap.objs.size, [s1.heap.objs.size], _, _, H1, rfl, I1.kept (t' := s1.toks) fun b o e => Heap.get?_push_of_some _ e, turn_list a _, ⟨_, Heap.get?_push_size _ rfl, rfl, rfl⟩, fun b hb => ?_, q⟩
    have e : b = s1.heap.objs.size := by simpa using hb
    subst e
    exact I1.fpOk (Nat.le_refl _) (I1.hok.fresh (Nat.le_refl _))
  · obtain ⟨its, rv, p, hz⟩ := I1.tuple hq
    refine wpAny_pyIter_tuple (show s1.heap.IsTuple a its.toArray from p) ?_
    refine ⟨s1.heap.objs.size, [s1.heap.objs.size], _, _, H1, rfl, I1.kept (t' := s1.toks) fun b o e => Heap.get?_push_of_some _ e, turn_tuple a _, ⟨_, Heap.get?_push_size _ rfl, rfl, rfl⟩, fun b hb => ?_, q⟩
    have e : b = s1.heap.objs.size := by simpa using hb
    subst e
    exact I1.fpOk (Nat.le_refl _) (I1.hok.fresh (Nat.le_refl _))
def itA : D → R (List D) | .lst ds => .ok ds | .tup ds => .ok ds | _ => .no
theorem deni_seqA {tg e : Expr} {g : Env → R D} (he : Den X G .c e g) : DenI X G tg e (gSeq itA g) := by
  obtain ⟨t, p, q⟩ := he.ex
  refine ⟨_, pi_seqA p, fun Z0 H0 Z H σ ρ Rk S h => ?_⟩
  refine seq_i (e := e) q S h (fun d ds e v Z' H' g' f k => ?_) (fun d c => by unfold itA; split <;> (intro z; cases z))
  unfold itA at e
  split at e
  · cases e
    cases f with
    | @lst a vs _ h1 h2 =>
      refine ⟨a, rfl, .inl ⟨⟨vs, SqL.of (g'.s _ _ h1)⟩, k _ Z' H' (.refl g'.s g'.n) ⟨fun H => SqL X.K H a vs, _, by rw [← h2.length]; exact walk_list, fun H' s => SqL.of (s _ _ h1), fun i Z2 H2 x H3 hi s1 s2 n y => ?_⟩⟩⟩
      obtain ⟨rfl, y⟩ := y
      obtain ⟨d, e1, e2⟩ := h2.getV y
      exact ⟨Z2, d, .refl s2 n, e1, Rep.le s1.le _ _ e2⟩
  · cases e
    cases f with
    | @tup a vs _ h1 h2 =>
      refine ⟨a, rfl, .inr ⟨⟨vs, SqT.of (g'.s _ _ h1)⟩, k _ Z' H' (.refl g'.s g'.n) ⟨fun H => SqT X.K H a vs, _, by rw [← h2.length]; exact walk_tup, fun H' s => SqT.of (s _ _ h1), fun i Z2 H2 x H3 hi s1 s2 n y => ?_⟩⟩⟩
      obtain ⟨rfl, y⟩ := y
      obtain ⟨d, e1, e2⟩ := h2.getV y
      exact ⟨Z2, d, .refl s2 n, e1, Rep.le s1.le _ _ e2⟩
  · cases e
end
end VS

set_option Elab.async false
set_option linter.all false
set_option maxRecDepth 100000
set_option maxHeartbeats 4000000
/-! VB1: a dict lent to a def, which changes it. -/
namespace VS
open PySem PySem.Spec PyProof.Rows L2 LamX
section
variable {K : PySem.W.Frag} {T : List (Addr × Str)} {Z0 H0 Z H Z' H' : Hp} {σ : L2.St} {ρ : Env} {a : Addr}
/-- the heap without the lent thing -/
abbrev hid (H : Hp) (a : Addr) : Hp := upd H a (.tbl #[])
theorem hid_ne {b : Addr} (h : b ≠ a) : hid H a b = H b := upd_ne h
theorem hid_np : ¬ Prot (hid H a) a := fun ⟨o, e, nt, _⟩ => by
  rw [hid, upd_same] at e; cases e; exact nt #[] rfl
theorem hid_ext : ExtN (hid H a) H := fun b o e nt => by
  by_cases hb : b = a
  · subst hb; rw [hid, upd_same] at e; cases e; exact absurd rfl (nt #[])
  · rw [hid_ne hb] at e; exact e
theorem hid_sub (s : Sub Z H) (hz : Z a = none) : Sub Z (hid H a) := fun b o e => by
  have : b ≠ a := fun q => by rw [q, hz] at e; cases e
  rw [hid_ne this]; exact s _ _ e
theorem hid_grow (s : Sub Z H) (n : ∀ a o, Z a = some o → NoTb o) (tb : Tabs T H) : Grow T Z (hid H a) Z H :=
  ⟨Sub.refl _, hid_ext, s, n, fun _ h _ => h, fun _ => tb⟩
theorem OwnAt.hid {b : Addr} {sl : Sl} (h : OwnAt K Z H b sl) (hb : b ≠ a) : OwnAt K Z (hid H a) b sl := by
  cases h with
  | ow h1 h2 h3 => exact .ow (by rw [hid_ne hb]; exact h1) h2 h3
  | oK h1 h2 h3 => exact .oK (by rw [hid_ne hb]; exact h1) h2 h3
  | oT h1 h2 h3 => exact .oT (by rw [hid_ne hb]; exact h1) h2 h3
  | bK h1 h2 h3 => exact .bK (by rw [hid_ne hb]; exact h1) h2 h3
/-- what grows with an own thing lent -/
theorem grow_lent (g0 : Grow T Z0 H0 Z H) (np : ¬ Prot H0 a) (pa : Prot H a) (g : Grow T Z (hid H a) Z' H') (tb : Tabs T H') : Grow T Z0 H0 Z' H' := by
  have ne : ∀ b o, H0 b = some o → NoTb o → b ≠ a := fun b o e nt q => by
    subst q
    refine np ⟨o, e, nt, ?_⟩
    obtain ⟨oa, p1, p2, p3⟩ := pa
    have := g0.h _ _ e nt
    rw [p1] at this; cases this; exact p3
  refine ⟨g0.z.trans g.z, fun b o e nt => g.h b o (by rw [hid_ne (ne b o e nt)]; exact g0.h b o e nt) nt, g.s, g.n, fun b h p => ?_, fun _ => tb⟩
  have hb : b ≠ a := fun q => np (q ▸ p)
  obtain ⟨o, e, nt, nu⟩ := p
  exact g.p b (g0.p b h ⟨o, e, nt, nu⟩) ⟨o, by rw [hid_ne hb]; exact g0.h b o e nt, nt, nu⟩
/-- an own thing was lent, and is something else now -/
theorem Sim.lent (S : Sim K T Z0 H0 Z H σ ρ) {i : Nat} {sl sl' : Sl} (hi : ρ[i]? = some sl) (hs : isOwn sl = true) (ha : σ[i]? = some (some (.ref a)))
    (g : Grow T Z (hid H a) Z' H') (tb : Tabs T H') (hn : OwnAt K Z' H' a sl') : Sim K T Z0 H0 Z' H' σ (ρ.set i sl') := by
  obtain ⟨b, e1, e2, np⟩ := S.own hi hs
  rw [ha] at e1; cases e1
  have hlen : i < ρ.length := (List.getElem?_eq_some_iff.mp hi).1
  refine ⟨grow_lent S.g np e2.prot.1 g tb, tb, by simp [S.len], fun j u sl1 h1 h2 => ?_, fun j b sl1 h1 h2 h3 => ?_, fun j k b sl1 sl2 hjk h1 h2 h3 h4 h5 h6 => ?_⟩
  · by_cases hj : i = j
    · subst hj
      rw [List.getElem?_set_self hlen] at h2
      cases h2
      rw [ha] at h1; cases h1
      exact .own hn
    · rw [List.getElem?_set_ne hj] at h2
      have q := S.slot j u sl1 h1 h2
      cases q with
      | un => exact .un
      | im r => exact .im (Rep.le g.z.le _ _ r)
      | @own b _ q =>
        have hb : b ≠ a := fun e => by
          subst e
          exact S.dis i j _ sl sl1 hj ha h1 hi h2 hs q.own
        exact .own ((q.hid hb).grow g)
  · by_cases hj : i = j
    · subst hj
      rw [ha] at h1; cases h1
      exact np
    · rw [List.getElem?_set_ne hj] at h2
      exact S.new j b sl1 h1 h2 h3
  · have fix : ∀ m slm, (ρ.set i sl')[m]? = some slm → isOwn slm = true → ∃ slm', ρ[m]? = some slm' ∧ isOwn slm' = true := fun m slm e f => by
      by_cases hm : i = m
      · subst hm; exact ⟨sl, hi, hs⟩
      · rw [List.getElem?_set_ne hm] at e; exact ⟨slm, e, f⟩
    obtain ⟨s1, f1, f2⟩ := fix j sl1 h3 h5
    obtain ⟨s2, f3, f4⟩ := fix k sl2 h4 h6
    exact S.dis j k b s1 s2 hjk h1 h2 f1 f3 f2 f4
end

/-! ### the promise of a def that is lent a dict -/
abbrev LF := List D → Addr → List (Key × D) → R (List (Key × D))
def spB (K : PySem.W.Frag) (T : List (Addr × Str)) (cl : Str → Addr) (n : Nat) (F : LF) : Sp := fun vs H Q E => ∃ Z ds us a ps kvs, vs = us ++ [.ref a] ∧ Sub Z H ∧ (∀ a o, Z a = some o → NoTb o) ∧ Tabs T H ∧ Reps K Z us ds ∧ ds.length = n ∧
  H a = some (.dK ps) ∧ Z a = none ∧ RepsP K Z ps kvs ∧
  match F ds a kvs with
  | .ok kvs' => ∀ Z' H', Grow T Z (hid H a) Z' H' → Tabs T H' → OwnAt K Z' H' a (.bK a kvs') → Q .non H'
  | .ex c => ∀ Z' H', Grow T Z (hid H a) Z' H' → Tabs T H' → E (.ref (cl c)) none H'
  | .no => False
def startB (n : Nat) (ds : List D) (a : Addr) (kvs : List (Key × D)) : Env := (ds.map .im ++ [.bK a kvs]) ++ List.replicate (n - ds.length - 1) .un
def runDefB (n : Nat) (f : Env → Out) : LF := fun ds a kvs => match f (startB n ds a kvs) with
  | .nx ρ => (match ρ[ds.length]? with
    | some (.bK b kvs') => if b = a then .ok kvs' else .no
    | _ => .no)
  | .ex c => .ex c | _ => .no
theorem sim_startB {K : PySem.W.Frag} {T : List (Addr × Str)} {Z H : Hp} {N : List Str} {us : List V} {ds : List D} {a : Addr} {ps : List (Key × V)} {kvs : List (Key × D)} (s : Sub Z H) (nt : ∀ a o, Z a = some o → NoTb o) (tb : Tabs T H) (r : Reps K Z us ds)
    (ha : H a = some (.dK ps)) (hz : Z a = none) (rk : RepsP K Z ps kvs) (hn : us.length + 1 ≤ N.length) :
    Sim K T Z (hid H a) Z H (L2.start N (us ++ [.ref a])) (startB N.length ds a kvs) := by
  have hl := r.length
  have at_own : ∀ (i : Nat) (sl : Sl), (startB N.length ds a kvs)[i]? = some sl → isOwn sl = true → i = ds.length ∧ sl = .bK a kvs := fun i sl h ho => by
    unfold startB at h
    by_cases h1 : i < ds.length
    · rw [List.getElem?_append_left (by simp; omega), List.getElem?_append_left (by simpa using h1), List.getElem?_map] at h
      cases e : ds[i]? with
      | none => rw [e] at h; cases h
      | some d => rw [e] at h; cases h; cases ho
    · by_cases h2 : i = ds.length
      · subst h2
        rw [List.getElem?_append_left (by simp), List.getElem?_append_right (by simp)] at h
        simp at h
        exact ⟨rfl, h.symm⟩
      · rw [List.getElem?_append_right (by simp; omega)] at h
        rw [(List.mem_replicate.mp (List.mem_of_getElem? h)).2] at ho; cases ho
  have at_ref : ∀ v, (L2.start N (us ++ [.ref a]))[ds.length]? = some (some v) → v = .ref a := fun v h => by
    unfold L2.start at h
    rw [List.getElem?_append_left (by simp [hl]), List.getElem?_map, List.getElem?_append_right (by omega)] at h
    simp [hl] at h
    exact h.symm
  refine ⟨hid_grow s nt tb, tb, by unfold L2.start startB; simp [hl]; omega, fun i o sl h1 h2 => ?_, fun i b sl h1 h2 h3 => ?_, fun i j b sl sl' hij _ _ h3 h4 h5 h6 => ?_⟩
  · by_cases hi : i < ds.length
    · unfold L2.start at h1
      unfold startB at h2
      rw [List.getElem?_append_left (by simp; omega), List.getElem?_append_left (by simpa using hi), List.getElem?_map] at h2
      rw [List.getElem?_append_left (by simp [hl]; omega), List.getElem?_map, List.getElem?_append_left (by omega)] at h1
      cases e : ds[i]? with
      | none => rw [e] at h2; cases h2
      | some d =>
        rw [e] at h2; cases h2
        obtain ⟨v, e1, e2⟩ := r.get e
        rw [e1] at h1; cases h1
        exact .im e2
    · by_cases hi2 : i = ds.length
      · subst hi2
        unfold startB at h2
        rw [List.getElem?_append_left (by simp), List.getElem?_append_right (by simp)] at h2
        simp at h2; subst h2
        unfold L2.start at h1
        rw [List.getElem?_append_left (by simp [hl]), List.getElem?_map, List.getElem?_append_right (by omega)] at h1
        simp [hl] at h1
        subst h1
        exact .own (.bK ha hz rk)
      · unfold startB at h2
        rw [List.getElem?_append_right (by simp; omega)] at h2
        rw [(List.mem_replicate.mp (List.mem_of_getElem? h2)).2]
        exact .un
  · obtain ⟨rfl, rfl⟩ := at_own i sl h2 h3
    cases at_ref _ h1
    exact hid_np
  · obtain ⟨rfl, _⟩ := at_own i sl h3 h5
    obtain ⟨rfl, _⟩ := at_own j sl' h4 h6
    exact hij rfl
section
variable {P : Program} {w : World} {K : PySem.W.Frag} {mg : Str → Option Value} {base : Heap}
/-- THE RULE for a def that is lent a dict as its last thing -/
theorem def_okB {x : Str} {st : Stmt} {f : Addr} {fd : FuncData} {N ps : List Str} {k n : Nat} {T : List (Addr × Str)} {cl : Str → Addr} {fb : Env → Out} (F : FnP K x st f fd) (S : FnScope N ps (defScope st)) (hn : ps.length = n + 1) (hps : ps.length ≤ N.length)
    (hb : ∀ (cdv : Value) (A : Around) (outer : List PySem.Env) (s : Shared) (H : Hp) (E : XK), Room k (A.deeper (envOfC x (defScope st) s.heap.objs.size f cdv)) →
      DenB (cxOf (L2N.CX P w) P w K mg base N x (defScope st) f cdv A outer s H E) ⟨T, cl, E⟩ (defBody st) fb) :
    FnOk P w K mg base (L2N.CX P w) (k + 1) f fd ps (spB K T cl n (runDefB N.length fb)) := by
  refine F.ok S (fun vs H Q E h => ?_) (fun cdv A outer s H vs Q E hr h => ?_)
  · obtain ⟨Z, ds, us, a, pv, kvs, rfl, _, _, _, r, hl, _⟩ := h
    rw [List.length_append, r.length, hl, hn]; rfl
  · obtain ⟨Z, ds, us, a, pv, kvs, rfl, hs, hnt, ht, r, hl, ha, hz, rk, h⟩ := h
    obtain ⟨t, p, q⟩ := (hb cdv A outer s H E hr).ex
    refine ⟨t, p, q Z (hid H a) Z H _ (startB N.length ds a kvs) _ (sim_startB hs hnt ht r ha hz rk (by rw [r.length, hl]; omega)) ?_⟩
    unfold runDefB at h
    cases e : fb (startB N.length ds a kvs) with
    | nx ρ =>
      rw [e] at h
      dsimp only at h
      intro Z' H' σ' S'
      split at h
      · rename_i kvs' hr1
        split at hr1
        · rename_i b kvs2 eb
          split at hr1
          · rename_i hba
            cases hr1; subst hba
            obtain ⟨c, e1, e2, _⟩ := S'.own eb rfl
            have : c = b := by cases e2; rfl
            subst this
            exact h Z' H' S'.g S'.tabs e2
          · cases hr1
        · cases hr1
      · rename_i c hr1
        split at hr1
        · split at hr1 <;> cases hr1
        · cases hr1
      · exact h.elim
    | rt d => rw [e] at h; exact h.elim
    | ex c => rw [e] at h; exact fun Z' H' g t => h Z' H' g t
    | bk ρ => rw [e] at h; exact h.elim
    | ct ρ => rw [e] at h; exact h.elim
    | no => rw [e] at h; exact h.elim
def noB : LF := fun _ _ _ => .no
theorem def_noB {x : Str} {st : Stmt} {f : Addr} {fd : FuncData} {N ps : List Str} {k n : Nat} {T : List (Addr × Str)} {cl : Str → Addr} (F : FnP K x st f fd) (S : FnScope N ps (defScope st)) :
    FnOk P w K mg base (L2N.CX P w) (k + 1) f fd ps (spB K T cl n noB) :=
  F.ok S (fun vs H Q E ⟨_, _, _, _, _, _, _, _, _, _, _, _, _, _, _, h⟩ => h.elim) fun cdv A outer s H vs Q E hr ⟨_, _, _, _, _, _, _, _, _, _, _, _, _, _, _, h⟩ => h.elim
end

/-! ### the call, as a statement -/
open Classical in
/-- what becomes of one's own dict, lent: at whatever place -/
noncomputable def lentR (F : LF) (ds : List D) (kvs : List (Key × D)) : R (List (Key × D)) := if h : ∃ r, ∀ a, F ds a kvs = .ok r then .ok h.choose else .no
theorem lentR_ok {F : LF} {ds : List D} {kvs r : List (Key × D)} (h : ∀ a, F ds a kvs = .ok r) : lentR F ds kvs = .ok r := by
  have h' : ∃ r, ∀ a, F ds a kvs = .ok r := ⟨r, h⟩
  unfold lentR
  rw [dif_pos h']
  have := h'.choose_spec 0
  rw [h 0] at this
  exact this.symm
theorem lentR_at {F : LF} {ds : List D} {kvs r : List (Key × D)} (h : lentR F ds kvs = .ok r) (a : Addr) : F ds a kvs = .ok r := by
  unfold lentR at h
  split at h
  · rename_i h'
    cases h
    exact h'.choose_spec a
  · cases h
noncomputable def lendS (F : LF) (ds : List D) : Sl → Option Sl
  | .oK kvs => (match lentR F ds kvs with | .ok r => some (.oK r) | _ => none)
  | .bK a kvs => (match F ds a kvs with | .ok r => some (.bK a r) | _ => none)
  | _ => none
noncomputable def lendO (i : Nat) (F : LF) (ga : Env → R (List D)) : Env → Out := fun ρ => match ga ρ with
  | .ok ds => (match ρ[i]? with
    | some sl => (match lendS F ds sl with | some sl' => .nx (ρ.set i sl') | none => .no)
    | none => .no)
  | _ => .no
/-- the things handed to it: frozen ones, then a slot's own -/
structure DenL (X : Cx) (G : Wh) (es : List Expr) (i : Nat) (ga : Env → R (List D)) : Prop where
  ex : ∃ t, PA X es t ∧ ∀ Z0 H0 Z H σ ρ a sl Q, Sim X.K G.T Z0 H0 Z H σ ρ → ρ[i]? = some sl → isOwn sl = true → σ[i]? = some (some (.ref a)) → (match ga ρ with
    | .ok ds => ∀ us Z' H', Grow G.T Z H Z' H' → Reps X.K Z' us ds → Q (us ++ [.ref a]) H'
    | .ex c => ∀ Z' H', Grow G.T Z H Z' H' → G.E (.ref (G.cl c)) none H'
    | .no => False) → t σ H Q
section
variable {X : Cx} {G : Wh}
theorem denl_last {i : Nat} {x : Str} {pos : Pos} (hN : X.N[i]? = some x) (hv : Vis X.env.scope x) (hd : (x == ("__debug__" : Str)) = false) (hcd : (x == ("__classdict__" : Str)) = false)
    (hs : starEach [.Name x pos] X.env = (false, eval (.Name x pos) X.env) :: starEach [] X.env) : DenL X G [.Name x pos] i gaNil := by
  refine ⟨_, pa_cons (pe_var hN hv hd hcd) pa_nil hs, fun Z0 H0 Z H σ ρ a sl Q S e ho ha h => ?_⟩
  exact ⟨.ref a, ha, h [] Z H (.refl S.sub S.nt) .nil⟩
theorem denl_cons {i : Nat} {e : Expr} {es : List Expr} {g : Env → R D} {h : Env → R (List D)} (ha : Den X G .c e g) (hr : DenL X G es i h) (hs : starEach (e :: es) X.env = (false, eval e X.env) :: starEach es X.env) : DenL X G (e :: es) i (gaCons g h) := by
  obtain ⟨t, p, q⟩ := ha.ex
  obtain ⟨tr, pr, qr⟩ := hr.ex
  refine ⟨_, pa_cons p pr hs, fun Z0 H0 Z H σ ρ a sl Q S ei ho hai k => ?_⟩
  refine q Z0 H0 Z H σ ρ _ S ?_
  unfold gaCons at k
  cases ea : g ρ with
  | no => rw [ea] at k; exact k
  | ex c => rw [ea] at k; exact k
  | ok d =>
    rw [ea] at k
    intro v Z1 H1 g1 f1
    refine qr Z0 H0 Z1 H1 σ ρ a sl _ (S.grow g1) ei ho hai ?_
    cases eb : h ρ with
    | no => rw [eb] at k; exact k
    | ex c => rw [eb] at k; exact fun Z' H' g' => k Z' H' (g1.trans g')
    | ok ds =>
      rw [eb] at k
      intro us Z2 H2 g2 r2
      exact k (v :: us) Z2 H2 (g1.trans g2) (.cons (Rep.le g2.z.le _ _ f1) r2)
theorem dens_lend {x : Str} {f : Addr} {fd : FuncData} {ps : List Str} {k n i : Nat} {F : LF} {p pos spos : Pos} {e : Expr} {es : List Expr} {ga : Env → R (List D)} {CX : CXT}
    (Fn : FnOk X.prog X.w X.K X.mg X.base CX k f fd ps (spB X.K G.T G.cl n F)) (hr : Room k X.A) (hg : Gl X x) (hm : X.mg x = some (.ref f)) (hk : PySem.W.keepIn X.K (.ref f) = true) (hb : Binds X.K fd ps []) (hx : Passes CX X G.E)
    (ha : DenL X G (e :: es) i ga) (hl : es.length + 1 = ps.length) (hdb : (x == ("__debug__" : Str)) = false) (he : starEach (e :: es) X.env = (false, eval e X.env) :: starEach es X.env) (hpl : (backTo pos (starEach es X.env)).any (·.1) = false)
    (hn : ∀ ρ ds, ga ρ = .ok ds → ds.length = n) (hs : swapsWith (.Call (.Name x p) (e :: es) [] pos) none spos.line X.env = pure false) :
    DenS X G (.Expr (.Call (.Name x p) (e :: es) [] pos) spos) (lendO i F ga) := by
  obtain ⟨t, pt, q⟩ := ha.ex
  refine ⟨_, ps_expr (pe_call Fn hr hg hm hk hb .nil hx pt hdb he hpl) hs, fun Z0 H0 Z H σ ρ D S h => ?_⟩
  unfold lendO at h
  cases ea : ga ρ with
  | no => rw [ea] at h; exact h.elim
  | ex c => rw [ea] at h; exact h.elim
  | ok ds =>
    rw [ea] at h
    dsimp only at h
    cases ei : ρ[i]? with
    | none => rw [ei] at h; exact h.elim
    | some sl =>
      rw [ei] at h
      dsimp only at h
      cases el : lendS F ds sl with
      | none => rw [el] at h; exact h.elim
      | some sl' =>
        rw [el] at h
        have ho : isOwn sl = true := by
          unfold lendS at el
          split at el <;> first | rfl | cases el
        obtain ⟨a, e1, e2, np⟩ := S.own ei ho
        refine q Z0 H0 Z H σ ρ a sl _ S ei ho e1 ?_
        rw [ea]
        intro us Z1 H1 g1 r1
        show spB X.K G.T G.cl n F ((us ++ [.ref a]) ++ []) H1 _ G.E
        rw [List.append_nil]
        have S1 := S.grow g1
        have e3 := e2.grow g1
        unfold lendS at el
        split at el
        · rename_i kvs
          cases el2 : lentR F ds kvs with
          | ok r =>
            rw [el2] at el; cases el
            cases e3 with
            | oK h1 h2 h3 =>
              refine ⟨Z1, ds, us, a, _, kvs, rfl, g1.s, g1.n, g1.t S.tabs, r1, hn ρ ds ea, h1, h2, h3, ?_⟩
              rw [lentR_at el2 a]
              intro Z' H' g' tb o
              cases o with
              | bK o1 o2 o3 => exact h Z' H' σ (S1.lent ei rfl e1 g' tb (.oK o1 o2 o3))
          | ex c => rw [el2] at el; cases el
          | no => rw [el2] at el; cases el
        · rename_i b kvs
          cases el2 : F ds b kvs with
          | ok r =>
            rw [el2] at el; cases el
            cases e3 with
            | bK h1 h2 h3 =>
              refine ⟨Z1, ds, us, _, _, kvs, rfl, g1.s, g1.n, g1.t S.tabs, r1, hn ρ ds ea, h1, h2, h3, ?_⟩
              rw [el2]
              exact fun Z' H' g' tb o => h Z' H' σ (S1.lent ei rfl e1 g' tb o)
          | ex c => rw [el2] at el; cases el
          | no => rw [el2] at el; cases el
        · cases el
end
end VS
namespace VS
open PySem PySem.Spec PyProof.Rows L2 LamX
section
variable {X : Cx} {G : Wh} {pos : Pos}
theorem b0 {i : Nat} {x : Str} (hN : X.N[i]? = some x := by rfl) (hv : Vis X.env.scope x := by first | exact .inl (by rfl) | exact .inr (.inl (by rfl)) | exact .inr (.inr (by rfl))) (hd : (x == ("__debug__" : Str)) = false := by rfl) (hcd : (x == ("__classdict__" : Str)) = false := by rfl)
    (hs : starEach [.Name x pos] X.env = (false, eval (.Name x pos) X.env) :: starEach [] X.env := by rfl) : DenL X G [.Name x pos] i gaNil := denl_last hN hv hd hcd hs
theorem b1 {i : Nat} {e : Expr} {es : List Expr} {g : Env → R D} {h : Env → R (List D)} (ha : Den X G .c e g) (hr : DenL X G es i h) (hs : starEach (e :: es) X.env = (false, eval e X.env) :: starEach es X.env := by rfl) : DenL X G (e :: es) i (gaCons g h) := denl_cons ha hr hs
theorem slend {P : Program} {w : World} {K : PySem.W.Frag} {mg : Str → Option Value} {base : Heap} {T : List (Addr × Str)} {cl : Str → Addr} {x : Str} {f : Addr} {fd : FuncData} {ps : List Str} {k n i : Nat} {F : LF} {p spos : Pos} {e : Expr} {es : List Expr} {ga : Env → R (List D)}
    (Fn : FnOk P w K mg base (L2N.CX P w) k f fd ps (spB K T cl n F)) (hm : mg x = some (.ref f)) (hk : PySem.W.keepIn K (.ref f) = true) (hb : Binds K fd ps [])
    (ha : DenL X G (e :: es) i ga) (ln : Len n ga) (h1 : X.prog = P := by rfl) (h2 : X.w = w := by rfl) (h3 : X.K = K := by rfl) (h4 : X.mg = mg := by rfl) (h5 : X.base = base := by rfl) (h6 : G.T = T := by rfl) (h7 : G.cl = cl := by rfl)
    (hr : Room k X.A := by assumption) (hx : Passes (L2N.CX X.prog X.w) X G.E := by first | exact body_pass | exact passLN) (hg : Gl X x := by rfl) (hl : es.length + 1 = ps.length := by rfl) (hdb : (x == ("__debug__" : Str)) = false := by rfl)
    (he : starEach (e :: es) X.env = (false, eval e X.env) :: starEach es X.env := by rfl) (hpl : (backTo pos (starEach es X.env)).any (·.1) = false := by rfl)
    (hs : swapsWith (.Call (.Name x p) (e :: es) [] pos) none spos.line X.env = pure false := by rfl) : DenS X G (.Expr (.Call (.Name x p) (e :: es) [] pos) spos) (lendO i F ga) := by
  subst h1 h2 h3 h4 h5 h6 h7
  exact dens_lend Fn hr hg hm hk hb hx ha hl hdb he hpl ln hs
end
end VS

set_option Elab.async false
set_option linter.all false
set_option maxRecDepth 100000
set_option maxHeartbeats 4000000
/-! VX14: sorted(d.items()), d one's own dict of ints and texts. -/
namespace VS
open PySem PySem.Spec PyProof.Rows L2 LamX
section
variable {X : Cx}
def rItemsK : V → List V → Hp → VK → Prop := fun x xs H Q => ∃ (a : Addr) (kvs : List (Key × V)), x = .ref a ∧ xs = [] ∧ H a = some (.dK kvs) ∧ ∀ p, H p = none → Q (.ref p) (upd H p (DX.itemsO p a))
theorem mt_itemsK : MtR X "dict.items" rItemsK := by
  intro pins s σ H x xs v us Q I rx rxs h
  obtain ⟨a, kvs, rfl, rfl, ha, q⟩ := h
  cases rx
  cases rxs
  obtain ⟨z, hd, vs, rel, o, es, ep, ho, hx, hdat, _⟩ := dk_of I.hok ha
  refine DT.callItems (es := es) (ep := ep) hd ⟨o, ho, hx, hdat⟩ ?_
  have hf : H s.heap.objs.size = none := I.hok.fresh (Nat.le_refl _)
  exact ⟨.ref s.heap.objs.size, upd H s.heap.objs.size (DX.itemsO s.heap.objs.size a), I.laid (t' := s.toks) (fun b u e => Heap.get?_push_of_some _ e) (Nat.le_refl _) (DX.itemsO_ok (Heap.get?_push_size _ rfl)), rfl, q _ hf⟩
/-- the pairs of a dict -/
def itD (kds : List (Key × D)) : List D := kds.map fun kd => .tup [keyV kd.1, kd.2]
theorem pairs_at {K : Type} [DecidableEq K] {prog : Program} {w : World} {knd : KeyKind prog w K} : ∀ {es : List DictEntry} {kvs : List (K × Value)} {j : Nat} {e : DictEntry}, Pairs knd es kvs → es[j]? = some e → ∃ kv, kvs[j]? = some kv ∧ knd.is kv.1 e.key = true ∧ e.val = kv.2
  | _, _, _, _, .nil, h => by simp at h
  | _, _, 0, _, .cons h1 h2 _, h => by simp at h; subst h; exact ⟨_, rfl, h1, h2⟩
  | _, _, j + 1, _, .cons _ _ t, h => by simp at h; obtain ⟨kv, a, b⟩ := pairs_at t h; exact ⟨kv, by simpa using a, b⟩
def rSortItK (K : PySem.W.Frag) : List V → Hp → VK → Prop := fun vs H Q => ∃ (p a : Addr) (kvs : List (Key × V)) (kds : List (Key × D)), vs = [.ref p] ∧ H p = some (DX.itemsO p a) ∧ H a = some (.dK kvs) ∧ kvs.length = kds.length ∧
  (∀ (j : Nat) (k : Key) (v : V), kvs[j]? = some (k, v) → ∃ d : D, kds[j]? = some (k, d) ∧ ((toPy d).canLay0 = true → Dp K H v (toPy d))) ∧ okSort (itD kds) = true ∧
  ∀ (H' : Hp) (as : List Addr) (l : Addr), (∀ b o, H b = some o → H' b = some o) → as.length = kvs.length → as.Nodup → (∀ b, H b = none → b ∉ as → H' b = none) → (∀ (j : Nat) (b : Addr) (k : Key) (v : V), as[j]? = some b → kvs[j]? = some (k, v) → H b = none ∧ H' b = some (.tup [kV k, v])) → H' l = none →
    Q (.ref l) (upd H' l (.lst ((((as.map V.ref).zip (itD kds)).mergeSort fun b c => leD b.2 c.2).map (·.1))))
theorem take_only {pins : List (Addr × Obj)} {σ : L2.St} {H0 : Hp} {s : Shared} {h' : Heap} {tk : Nat} {P : Addr → List V → Prop} (I0 : Inv X pins σ H0 s) : ∀ (L : List Addr) (H1 : Hp), Inv X pins σ H1 { s with heap := h', toks := tk } → L.Nodup →
    (∀ a ∈ L, s.heap.objs.size ≤ a ∧ H1 a = none ∧ ∃ vs, P a vs ∧ ∀ H2, ObjOk X.prog X.w H2 h' a (.tup vs)) →
    ∃ H2, Inv X pins σ H2 { s with heap := h', toks := tk } ∧ (∀ b o, H1 b = some o → H2 b = some o) ∧ (∀ b, H1 b = none → b ∉ L → H2 b = none) ∧ ∀ a ∈ L, ∃ vs, P a vs ∧ H2 a = some (.tup vs)
  | [], H1, I1, _, _ => ⟨H1, I1, fun _ _ e => e, fun _ e _ => e, fun _ h => nomatch h⟩
  | a :: L, H1, I1, hn, h => by
    obtain ⟨hb, hnone, vs, hP, ok⟩ := h a (List.mem_cons_self ..)
    have I2 : Inv X pins σ (upd H1 a (.tup vs)) { s with heap := h', toks := tk } := I1.take (h' := h') (t' := tk) (fun b ob _ e => e) (I0.fpOk hb hnone) (ok _)
    rw [List.nodup_cons] at hn
    obtain ⟨H2, I3, g, g2, q⟩ := take_only I0 L (upd H1 a (.tup vs)) I2 hn.2 fun c hc => by
      obtain ⟨c1, c2, c3⟩ := h c (List.mem_cons_of_mem _ hc)
      exact ⟨c1, by rw [upd_ne (fun z => hn.1 (by rw [← z]; exact hc))]; exact c2, c3⟩
    refine ⟨H2, I3, fun b o e => g b o (by rw [upd_ne (ne_of_none e hnone)]; exact e), fun b e nb => ?_, fun c hc => ?_⟩
    · rw [List.mem_cons, not_or] at nb
      exact g2 b (by rw [upd_ne nb.1]; exact e) nb.2
    · rcases List.mem_cons.mp hc with rfl | hc
      · exact ⟨vs, hP, g _ _ upd_same⟩
      · exact q c hc
mutual
theorem Dp.grown {K : PySem.W.Frag} {H H' : Hp} (le : ∀ b o, H b = some o → H' b = some o) : ∀ (d : PyData) (v : V), Dp K H v d → Dp K H' v d
  | .none, _, h => by cases h; exact .non
  | .bool b, _, h => by cases h; exact .bl b
  | .int i, _, h => by cases h; exact .int i
  | .str x, _, h => by cases h; exact .str x
  | .list ds, _, h => by
    cases h with
    | lst h1 h2 =>
      refine .lst ?_ (DpAll.grown le ds _ h2)
      rcases h1 with h1 | h1
      · rcases h1 with h1 | ⟨o, h1⟩
        · exact .inl (.inl (le _ _ h1))
        · exact .inl (.inr ⟨o, le _ _ h1⟩)
      · exact .inr h1
  | .tuple ds, _, h => by
    cases h with
    | tup h1 h2 =>
      refine .tup ?_ (DpAll.grown le ds _ h2)
      rcases h1 with h1 | h1
      · rcases h1 with h1 | ⟨o, h1⟩
        · exact .inl (.inl (le _ _ h1))
        · exact .inl (.inr ⟨o, le _ _ h1⟩)
      · exact .inr h1
  | .dict _, _, h => by cases h
theorem DpAll.grown {K : PySem.W.Frag} {H H' : Hp} (le : ∀ b o, H b = some o → H' b = some o) : ∀ (ds : List PyData) (vs : List V), DpAll K H vs ds → DpAll K H' vs ds
  | [], _, h => by cases h; exact .nil
  | d :: ds, _, h => by cases h with | cons h1 h2 => exact .cons (Dp.grown le d _ h1) (DpAll.grown le ds _ h2)
end
theorem cr_sortItK (hc : X.calm = true) (hu : X.A.units + 200 < cLine) : CallR X (.builtin "sorted") (rSortItK X.K) := by
  intro pins s σ H xs us Q I r h
  obtain ⟨p, a, kvs, kds, rfl, hp, ha, hkl, hd, hok, q⟩ := h
  obtain rfl := Vals.ref1 r
  have view : s.heap.IsItemsView p a := (show ObjOk X.prog X.w H s.heap p (DX.itemsO p a) from I.hok p _ hp).1
  obtain ⟨z, hsm, vs, rel, o, es, ep, ho, hx, hdat, _, hpr, _⟩ := dk_of I.hok ha
  have l1 : kvs.length = vs.length := Paired.length rel
  have l2 : es.size = vs.length := by rw [← Array.length_toList]; exact hpr.length
  have hh : X.A.handled = none := I.ok.hd hc
  refine DT.sortedI (es := es) (ep := ep) hh view ⟨o, ho, hx, hdat⟩ (by omega) fun h' tk as hk hlt hl hG => ?_
  have lak : as.length = kvs.length := by omega
  have nd : as.Nodup := List.Pairwise.imp (fun h => Nat.ne_of_lt h) hG.rise
  have pr : ∀ (j : Nat) (b : Addr), as[j]? = some b → ∃ k v, kvs[j]? = some (k, v) ∧ ∀ H2, ObjOk X.prog X.w H2 h' b (.tup [kV k, v]) := by
    intro j b hj
    obtain ⟨en, he, hg⟩ := hG.pairs j b hj
    obtain ⟨kv, hkv, hi, hv⟩ := pairs_at hpr (by rw [Array.getElem?_toList]; exact he)
    obtain ⟨kv0, hkv0, r1, r2⟩ := DX.pget rel hkv
    obtain ⟨k0, v0⟩ := kv0
    refine ⟨k0, v0, hkv0, fun H2 => ⟨by show 2 ≤ sizeLine; decide, [en.key, en.val], .cons ?_ (.cons ?_ .nil), _, hg, rfl, 0, rfl⟩⟩
    · have r1' : k0 = kv.1 := r1
      rw [r1']; exact keyIs_rel hi
    · rw [hv]; exact r2
  have fresh : ∀ b, s.heap.objs.size ≤ b → H b = none := fun b hb => I.hok.fresh hb
  obtain ⟨H2, I2, g1, g2, q2⟩ := take_only (P := fun b us => ∃ j k v, as[j]? = some b ∧ kvs[j]? = some (k, v) ∧ us = [kV k, v]) I as H (I.kept hk) nd (fun b hb => by
    obtain ⟨j, hj⟩ := List.mem_iff_getElem?.mp hb
    obtain ⟨k, v, h1, h2⟩ := pr j b hj
    have := hG.above b hb
    exact ⟨Nat.le_of_lt this, fresh b (Nat.le_of_lt this), _, ⟨j, k, v, hj, h1, rfl⟩, h2⟩)
  have at2 : ∀ (j : Nat) (b : Addr) k v, as[j]? = some b → kvs[j]? = some (k, v) → H b = none ∧ H2 b = some (.tup [kV k, v]) := by
    intro j b k v hj hkv
    have hb := List.mem_of_getElem? hj
    obtain ⟨us, ⟨j', k', v', hj', hkv', rfl⟩, e⟩ := q2 b hb
    have : j' = j := (List.getElem?_inj (List.getElem?_eq_some_iff.mp hj').1 nd).mp (hj'.trans hj.symm)
    subst this
    rw [hkv] at hkv'; cases hkv'
    exact ⟨fresh b (Nat.le_of_lt (hG.above b hb)), e⟩
  have lz : (as.map V.ref).length = (itD kds).length := by rw [List.length_map]; unfold itD; rw [List.length_map]; omega
  refine sort_new (s' := { s with heap := h', toks := tk }) (acc := as.map Value.ref) (bs := (as.map V.ref).zip (itD kds)) hu I2 (by rw [zip_fst lz]; exact vals_refs _) (by rw [List.length_zip, List.length_map]; omega) (fun b hb => ?_) (by rw [zip_snd lz]; exact hok) fun l hl => q H2 as l g1 lak nd g2 at2 hl
  obtain ⟨i, hi⟩ := List.getElem?_of_mem hb
  rw [List.getElem?_zip_eq_some] at hi
  obtain ⟨h1, h2⟩ := hi
  rw [List.getElem?_map] at h1
  cases e1 : as[i]? with
  | none => rw [e1] at h1; cases h1
  | some c =>
    rw [e1] at h1
    obtain ⟨k, v, hkv, _⟩ := pr i c e1
    obtain ⟨d, hkd, dp⟩ := hd i k v hkv
    have b1 : b.1 = .ref c := (Option.some.inj h1).symm
    have b2 : b.2 = .tup [keyV k, d] := by
      unfold itD at h2
      rw [List.getElem?_map, hkd] at h2
      exact (Option.some.inj h2).symm
    have cl := (okSort_shp hok b.2 (by rw [← zip_snd lz]; exact List.mem_map.mpr ⟨b, hb, rfl⟩)).1
    rw [b2] at cl
    have cl2 : (toPy d).canLay0 = true := by
      have : PyData.canLayAll0 [toPy (keyV k), toPy d] = true := cl
      rw [PyData.canLayAll0, PyData.canLayAll0, Bool.and_eq_true, Bool.and_eq_true] at this
      exact this.2.1
    rw [b1, b2]
    refine .tup (SqT.of (at2 i c k v e1 hkv).2) (.cons ?_ (.cons (Dp.grown g1 _ _ (dp cl2)) .nil))
    cases k with
    | inl i => exact .int i
    | inr x => exact .str x
end
theorem RepsP.getR {K : PySem.W.Frag} {Z : Hp} : ∀ {ds : List (Key × D)} {vs : List (Key × V)} {j : Nat} {k : Key} {v : V}, RepsP K Z vs ds → vs[j]? = some (k, v) → ∃ d, ds[j]? = some (k, d) ∧ Rep K Z v d
  | [], _, _, _, _, h, e => by cases h; simp at e
  | (j, d) :: ds, _, 0, _, _, h, e => by cases h with | cons h t => simp at e; obtain ⟨rfl, rfl⟩ := e; exact ⟨d, rfl, h⟩
  | (j, d) :: ds, _, i + 1, _, _, h, e => by cases h with | cons h t => simp at e; obtain ⟨d', q, r⟩ := RepsP.getR t e; exact ⟨d', by simpa using q, r⟩
theorem reps_ext {K : PySem.W.Frag} {Z : Hp} : ∀ {vs : List V} {ds : List D}, vs.length = ds.length → (∀ (j : Nat) v, vs[j]? = some v → ∃ d, ds[j]? = some d ∧ Rep K Z v d) → Reps K Z vs ds
  | [], [], _, _ => .nil
  | [], _ :: _, h, _ => by cases h
  | _ :: _, [], h, _ => by cases h
  | v :: vs, d :: ds, h, f => by
    obtain ⟨d', e, r⟩ := f 0 v rfl
    simp at e; subst e
    exact .cons r (reps_ext (by simpa using h) fun j v hj => by
      obtain ⟨d', e, r⟩ := f (j + 1) v (by simpa using hj)
      exact ⟨d', by simpa using e, r⟩)
theorem zip_pair {α β : Type} : ∀ l : List (α × β), (l.map (·.1)).zip (l.map (·.2)) = l
  | [] => rfl
  | (a, b) :: l => by rw [List.map_cons, List.map_cons, List.zip_cons_cons, zip_pair l]
section
variable {X : Cx} {G : Wh} {pos : Pos}
def sItO (i : Nat) : Env → R D := fun ρ => match ρ[i]? with
  | some (.oK kvs) => if okSort (itD kvs) then .ok (.lst (srtL (itD kvs))) else .no
  | _ => .no
theorem den_sortIt {i : Nat} {x : Str} {ps px pa pc : Pos} (hc : X.calm = true) (hu : X.A.units + 200 < cLine) (hN : X.N[i]? = some x) (hv : Vis X.env.scope x) (hd : (x == ("__debug__" : Str)) = false) (hcd : (x == ("__classdict__" : Str)) = false)
    (hg : Gl X "sorted") (hm : X.mg "sorted" = none) (hbase : attributeBase (.Name x px) "items" X.env (eval (.Name x px) X.env) = eval (.Name x px) X.env) (hline : (pa.endLine == pc.line) = true)
    (he : starEach [.Call (.Attribute (.Name x px) "items" pa) [] [] pc] X.env = (false, eval (.Call (.Attribute (.Name x px) "items" pa) [] [] pc) X.env) :: starEach [] X.env) (hpl : (backTo pos (starEach [] X.env)).any (·.1) = false) :
    Den X G .f (.Call (.Name "sorted" ps) [.Call (.Attribute (.Name x px) "items" pa) [] [] pc] [] pos) (sItO i) := by
  refine ⟨_, pe_callB (cr_sortItK hc hu) hg hm (by decide +kernel) (pa_cons (pe_bm0 PySem.F.plainAttrs_dict PySem.F.slot_dict_items PySem.F.type_dict_items mt_itemsK (pe_var hN hv hd hcd) hbase hline) pa_nil he) (by decide) (by decide) he hpl, fun Z0 H0 Z H σ ρ Q S h => ?_⟩
  unfold sItO at h
  split at h
  · rename_i kds ei
    split at h
    · rename_i hok
      obtain ⟨a, e1, e2, _⟩ := S.own ei rfl
      cases e2 with
      | @oK kvs _ h1 h2 h3 =>
        refine ⟨.ref a, e1, .inr (.inr (.inl ⟨rfl, .inl ⟨kvs, h1⟩⟩)), a, kvs, rfl, rfl, h1, fun p hp => ?_⟩
        have ex1 : ∀ b o, H b = some o → upd H p (DX.itemsO p a) b = some o := fun b o e => by rw [upd_ne (ne_of_none e hp)]; exact e
        refine ⟨p, a, kvs, kds, rfl, upd_same, ex1 _ _ h1, h3.length, fun j k v hj => ?_, hok, fun H' as l g1 hl nd g2 at2 hl0 => ?_⟩
        · obtain ⟨d, hd, rd⟩ := h3.getR hj
          exact ⟨d, hd, fun c => Dp.grown ex1 _ _ (Dp.grown (S.sub) _ _ (Rep.dp _ _ c rd))⟩
        · have hpas : p ∉ as := fun hm => by
            obtain ⟨j, hj⟩ := List.mem_iff_getElem?.mp hm
            have hjl : j < kvs.length := by rw [← hl]; exact (List.getElem?_eq_some_iff.mp hj).1
            have := (at2 j p _ _ hj (List.getElem?_eq_getElem hjl)).1
            rw [upd_same] at this; cases this
          have ext : ∀ b o, H b = some o → H' b = some o := fun b o e => g1 b o (ex1 b o e)
          have np : ∀ b ∈ as, H b = none := fun b hb => by
            obtain ⟨j, hj⟩ := List.mem_iff_getElem?.mp hb
            have hjl : j < kvs.length := by rw [← hl]; exact (List.getElem?_eq_some_iff.mp hj).1
            have := (at2 j b _ _ hj (List.getElem?_eq_getElem hjl)).1
            by_cases hbp : b = p
            · subst hbp; rw [upd_same] at this; cases this
            · rw [upd_ne hbp] at this; exact this
          -- freeze the pairs
          let Z' : Hp := fun b => if b ∈ as then H' b else Z b
          have zin : ∀ b ∈ as, Z' b = H' b := fun b hb => if_pos hb
          have zout : ∀ b, b ∉ as → Z' b = Z b := fun b hb => if_neg hb
          have zn : ∀ b ∈ as, Z b = none := fun b hb => sub_none S.sub (np b hb)
          have atT : ∀ b ∈ as, ∃ us, H' b = some (.tup us) := fun b hb => by
            obtain ⟨j, hj⟩ := List.mem_iff_getElem?.mp hb
            have hjl : j < kvs.length := by rw [← hl]; exact (List.getElem?_eq_some_iff.mp hj).1
            exact ⟨_, (at2 j b _ _ hj (List.getElem?_eq_getElem hjl)).2⟩
          have gz : Grow G.T Z H Z' H' := by
            refine ⟨fun b o e => ?_, fun b o e _ => ext b o e, fun b o e => ?_, fun b o e => ?_, fun b hb pb => ?_, fun t => t.ext ext⟩
            · have : b ∉ as := fun hm => by rw [zn b hm] at e; cases e
              rw [zout b this]; exact e
            · by_cases hb : b ∈ as
              · rw [zin b hb] at e; exact e
              · rw [zout b hb] at e; exact ext b o (S.sub _ _ e)
            · by_cases hb : b ∈ as
              · rw [zin b hb] at e
                obtain ⟨us, e2⟩ := atT b hb
                rw [e2] at e; cases e; exact nt_tup _
              · rw [zout b hb] at e; exact S.nt _ _ e
            · have : b ∉ as := fun hm => by
                obtain ⟨o, e, _⟩ := pb
                rw [np b hm] at e; cases e
              rw [zout b this]; exact hb
          have rp : Reps X.K Z' (as.map V.ref) (itD kds) := by
            refine reps_ext (by rw [List.length_map]; unfold itD; rw [List.length_map, hl]; exact h3.length) fun j u hj => ?_
            rw [List.getElem?_map] at hj
            cases ea : as[j]? with
            | none => rw [ea] at hj; cases hj
            | some b =>
              rw [ea] at hj; cases hj
              have hjl : j < kvs.length := by rw [← hl]; exact (List.getElem?_eq_some_iff.mp ea).1
              have ek : kvs[j]? = some (kvs[j].1, kvs[j].2) := List.getElem?_eq_getElem hjl
              obtain ⟨d, hd, rd⟩ := h3.getR ek
              refine ⟨.tup [keyV kvs[j].1, d], by unfold itD; rw [List.getElem?_map, hd]; rfl, .tup (by rw [zin b (List.mem_of_getElem? ea)]; exact (at2 j b _ _ ea ek).2) (.cons (rep_key _) (.cons (Rep.le gz.z.le _ _ rd) .nil))⟩
          obtain ⟨bs, hb1, hb2, hb3⟩ := reps_zip rp
          have ez : (as.map V.ref).zip (itD kds) = bs := by
            rw [← hb1, ← hb2]
            exact zip_pair bs
          rw [ez]
          have e3 : srtL (itD kds) = (bs.mergeSort fun b c => leD b.2 c.2).map (·.2) := by
            rw [← hb2]
            unfold srtL
            exact (List.map_mergeSort (r := fun b c : V × D => leD b.2 c.2) (s := leD) (f := fun b : V × D => b.2) (fun _ _ _ _ => rfl)).symm
          rw [e3] at h
          exact ansL (K := X.K) gz.s gz.n (Ans.grow h gz) (zip_reps fun b hb' => hb3 b (List.mem_mergeSort.mp hb')) l hl0
    · exact h.elim
  · exact h.elim
end
end VS
namespace VS
open PySem PySem.Spec PyProof.Rows L2 LamX
theorem srit {X : Cx} {G : Wh} {pos : Pos} {i : Nat} {x : Str} {ps px pa pc : Pos} (hu : X.A.units + 200 < cLine) (hm : X.mg "sorted" = none) (hc : X.calm = true := by rfl) (hN : X.N[i]? = some x := by rfl) (hv : Vis X.env.scope x := by first | exact .inl (by rfl) | exact .inr (.inl (by rfl)) | exact .inr (.inr (by rfl)))
    (hd : (x == ("__debug__" : Str)) = false := by rfl) (hcd : (x == ("__classdict__" : Str)) = false := by rfl) (hg : Gl X "sorted" := by rfl) (hbase : attributeBase (.Name x px) "items" X.env (eval (.Name x px) X.env) = eval (.Name x px) X.env := by rfl) (hline : (pa.endLine == pc.line) = true := by rfl)
    (he : starEach [.Call (.Attribute (.Name x px) "items" pa) [] [] pc] X.env = (false, eval (.Call (.Attribute (.Name x px) "items" pa) [] [] pc) X.env) :: starEach [] X.env := by rfl) (hpl : (backTo pos (starEach [] X.env)).any (·.1) = false := by rfl) :
    Den X G .f (.Call (.Name "sorted" ps) [.Call (.Attribute (.Name x px) "items" pa) [] [] pc] [] pos) (sItO i) := den_sortIt hc hu hN hv hd hcd hg hm hbase hline he hpl
end VS

set_option Elab.async false
set_option linter.all false
set_option maxRecDepth 100000
namespace VP
open PySem PySem.Spec PyProof.Rows L2 LamX VS
noncomputable section
structure S_last_of where
  (calls : Sl)
def S_last_of.e (s : S_last_of) : VS.Env := [s.calls]
@[simp] theorem S_last_of.g0 (s : S_last_of) : s.e[0]? = Option.some s.calls := rfl
@[simp] theorem S_last_of.w0 (s : S_last_of) (u : Sl) : List.set s.e 0 u = S_last_of.e { s with calls := u } := rfl
theorem S_last_of.st (d0 : D) : startE 1 [d0] = S_last_of.e { calls := .im d0 } := rfl
def b_last_of : VS.Env → Out :=
 (fun ρ => ofR ((geIf (geB (geOp cmNe (geV 0) (geA tupD gaNil))) (geOp ixT (geOp ixT (geV 0) (ge1 (subI (.int 0)) (gI 1))) (gI 2)) (gI 0)) ρ) .rt)
def F_last_of : List D → R D := runDef 1 b_last_of
structure S_look where
  (trees_here hand first step : Sl)
def S_look.e (s : S_look) : VS.Env := [s.trees_here, s.hand, s.first, s.step]
@[simp] theorem S_look.g0 (s : S_look) : s.e[0]? = Option.some s.trees_here := rfl
@[simp] theorem S_look.w0 (s : S_look) (u : Sl) : List.set s.e 0 u = S_look.e { s with trees_here := u } := rfl
@[simp] theorem S_look.g1 (s : S_look) : s.e[1]? = Option.some s.hand := rfl
@[simp] theorem S_look.w1 (s : S_look) (u : Sl) : List.set s.e 1 u = S_look.e { s with hand := u } := rfl
@[simp] theorem S_look.g2 (s : S_look) : s.e[2]? = Option.some s.first := rfl
@[simp] theorem S_look.w2 (s : S_look) (u : Sl) : List.set s.e 2 u = S_look.e { s with first := u } := rfl
@[simp] theorem S_look.g3 (s : S_look) : s.e[3]? = Option.some s.step := rfl
@[simp] theorem S_look.w3 (s : S_look) (u : Sl) : List.set s.e 3 u = S_look.e { s with step := u } := rfl
theorem S_look.st (d0 d1 d2 d3 : D) : startE 4 [d0, d1, d2, d3] = S_look.e { trees_here := .im d0, hand := .im d1, first := .im d2, step := .im d3 } := rfl
def b_look : VS.Env → Out :=
 (seqO (fun ρ => ofR ((geA F_need_hand (gaCons (geV 0) (gaCons (geV 1) gaNil))) ρ) fun _ => .nx ρ)
 (seqO (ifO (gOr (gNot (geB (geA F_is_count (gaCons (geV 2) (gaCons (gI 0) (gaCons (gI 1000000) gaNil)))))) (gNot (geB (geA F_is_count (gaCons (geV 3) (gaCons (gI 1) (gaCons (gI 1000000) gaNil)))))))
  (fun _ => .ex "BadTick")
  .nx)
 (ifO (geB (geOp (cmI fun i j => decide (j < i)) (geOp addI (geOp fdivI (geOp subI (geA F_last_of (gaCons (geOp ixD (geV 0) (geV 1)) gaNil)) (geV 2)) (geV 3)) (gI 1)) (gI 2000)))
  (fun _ => .ex "BadTick")
  .nx)))
def F_look : List D → R D := runDef 4 b_look
def C_looks_1 : VS.Env → R D :=
 (compE (.nm 5) [5] (gSeqA rng3 (gaCons (geV 2) (gaCons (geA F_last_of (gaCons (geV 4) gaNil)) (gaCons (geV 3) gaNil)))) (fun _ => .ok true) (geA tupD (gaCons (geV 5) (gaCons (geA tupOf (gaCons (geA (F_stack_in 8) (gaCons (geV 4) (gaCons (geV 5) gaNil))) gaNil)) gaNil))))
structure S_looks where
  (trees_here hand first step calls tick : Sl)
def S_looks.e (s : S_looks) : VS.Env := [s.trees_here, s.hand, s.first, s.step, s.calls, s.tick]
@[simp] theorem S_looks.g0 (s : S_looks) : s.e[0]? = Option.some s.trees_here := rfl
@[simp] theorem S_looks.w0 (s : S_looks) (u : Sl) : List.set s.e 0 u = S_looks.e { s with trees_here := u } := rfl
@[simp] theorem S_looks.g1 (s : S_looks) : s.e[1]? = Option.some s.hand := rfl
@[simp] theorem S_looks.w1 (s : S_looks) (u : Sl) : List.set s.e 1 u = S_looks.e { s with hand := u } := rfl
@[simp] theorem S_looks.g2 (s : S_looks) : s.e[2]? = Option.some s.first := rfl
@[simp] theorem S_looks.w2 (s : S_looks) (u : Sl) : List.set s.e 2 u = S_looks.e { s with first := u } := rfl
@[simp] theorem S_looks.g3 (s : S_looks) : s.e[3]? = Option.some s.step := rfl
@[simp] theorem S_looks.w3 (s : S_looks) (u : Sl) : List.set s.e 3 u = S_looks.e { s with step := u } := rfl
@[simp] theorem S_looks.g4 (s : S_looks) : s.e[4]? = Option.some s.calls := rfl
@[simp] theorem S_looks.w4 (s : S_looks) (u : Sl) : List.set s.e 4 u = S_looks.e { s with calls := u } := rfl
@[simp] theorem S_looks.g5 (s : S_looks) : s.e[5]? = Option.some s.tick := rfl
@[simp] theorem S_looks.w5 (s : S_looks) (u : Sl) : List.set s.e 5 u = S_looks.e { s with tick := u } := rfl
theorem S_looks.st (d0 d1 d2 d3 : D) : startE 6 [d0, d1, d2, d3] = S_looks.e { trees_here := .im d0, hand := .im d1, first := .im d2, step := .im d3, calls := .un, tick := .un } := rfl
def b_looks : VS.Env → Out :=
 (seqO (fun ρ => ofR ((geA F_look (gaCons (geV 0) (gaCons (geV 1) (gaCons (geV 2) (gaCons (geV 3) gaNil))))) ρ) fun _ => .nx ρ)
 (seqO (fun ρ => ofR ((geOp ixD (geV 0) (geV 1)) ρ) fun d => .nx (ρ.set 4 (.im d)))
 (fun ρ => ofR (C_looks_1 ρ) .rt)))
def F_looks : List D → R D := runDef 6 b_looks
structure S_ticks_in where
  (first step low high : Sl)
def S_ticks_in.e (s : S_ticks_in) : VS.Env := [s.first, s.step, s.low, s.high]
@[simp] theorem S_ticks_in.g0 (s : S_ticks_in) : s.e[0]? = Option.some s.first := rfl
@[simp] theorem S_ticks_in.w0 (s : S_ticks_in) (u : Sl) : List.set s.e 0 u = S_ticks_in.e { s with first := u } := rfl
@[simp] theorem S_ticks_in.g1 (s : S_ticks_in) : s.e[1]? = Option.some s.step := rfl
@[simp] theorem S_ticks_in.w1 (s : S_ticks_in) (u : Sl) : List.set s.e 1 u = S_ticks_in.e { s with step := u } := rfl
@[simp] theorem S_ticks_in.g2 (s : S_ticks_in) : s.e[2]? = Option.some s.low := rfl
@[simp] theorem S_ticks_in.w2 (s : S_ticks_in) (u : Sl) : List.set s.e 2 u = S_ticks_in.e { s with low := u } := rfl
@[simp] theorem S_ticks_in.g3 (s : S_ticks_in) : s.e[3]? = Option.some s.high := rfl
@[simp] theorem S_ticks_in.w3 (s : S_ticks_in) (u : Sl) : List.set s.e 3 u = S_ticks_in.e { s with high := u } := rfl
theorem S_ticks_in.st (d0 d1 d2 d3 : D) : startE 4 [d0, d1, d2, d3] = S_ticks_in.e { first := .im d0, step := .im d1, low := .im d2, high := .im d3 } := rfl
def b_ticks_in : VS.Env → Out :=
 (seqO (ifO (geB (geOp (cmI fun i j => decide (i ≤ j)) (geV 3) (geV 0)))
  (fun ρ => ofR ((gI 0) ρ) .rt)
  .nx)
 (seqO (fun ρ => ofR ((geA max2 (gaCons (geV 2) (gaCons (geV 0) gaNil))) ρ) fun d => .nx (ρ.set 2 (.im d)))
 (fun ρ => ofR ((geOp subI (geOp fdivI (geOp subI (geOp addI (geOp subI (geV 3) (geV 0)) (geV 1)) (gI 1)) (geV 1)) (geOp fdivI (geOp subI (geOp addI (geOp subI (geV 2) (geV 0)) (geV 1)) (gI 1)) (geV 1))) ρ) .rt)))
def F_ticks_in : List D → R D := runDef 4 b_ticks_in
def C_seen_in_1 (self : LF) : VS.Env → R D :=
 (compE (.nm 9) [9] (gSeq itT (geV 7)) (fun _ => .ok true) (geA F_ticks_in (gaCons (geV 1) (gaCons (geV 2) (gaCons (geOp ixT (geV 9) (gI 1)) (gaCons (geOp ixT (geV 9) (gI 2)) gaNil))))))
def L_seen_in_1 (self : LF) : VS.Env → Out :=
 (seqO (fun ρ => ofR ((geOp subI (geA F_ticks_in (gaCons (geV 1) (gaCons (geV 2) (gaCons (geV 5) (gaCons (geV 6) gaNil))))) (geA sumD (gaCons (C_seen_in_1 self) gaNil))) ρ) fun d => .nx (ρ.set 8 (.im d)))
  (seqO (putO 3 (geOp addI (geGet (geT 3) (geV 4) (gI 0)) (geV 8)) (geV 4))
  (lendO 3 self (gaCons (geV 7) (gaCons (geV 1) (gaCons (geV 2) gaNil))))))
structure S_seen_in where
  (calls first step found name low high inner own one : Sl)
def S_seen_in.e (s : S_seen_in) : VS.Env := [s.calls, s.first, s.step, s.found, s.name, s.low, s.high, s.inner, s.own, s.one]
@[simp] theorem S_seen_in.g0 (s : S_seen_in) : s.e[0]? = Option.some s.calls := rfl
@[simp] theorem S_seen_in.w0 (s : S_seen_in) (u : Sl) : List.set s.e 0 u = S_seen_in.e { s with calls := u } := rfl
@[simp] theorem S_seen_in.g1 (s : S_seen_in) : s.e[1]? = Option.some s.first := rfl
@[simp] theorem S_seen_in.w1 (s : S_seen_in) (u : Sl) : List.set s.e 1 u = S_seen_in.e { s with first := u } := rfl
@[simp] theorem S_seen_in.g2 (s : S_seen_in) : s.e[2]? = Option.some s.step := rfl
@[simp] theorem S_seen_in.w2 (s : S_seen_in) (u : Sl) : List.set s.e 2 u = S_seen_in.e { s with step := u } := rfl
@[simp] theorem S_seen_in.g3 (s : S_seen_in) : s.e[3]? = Option.some s.found := rfl
@[simp] theorem S_seen_in.w3 (s : S_seen_in) (u : Sl) : List.set s.e 3 u = S_seen_in.e { s with found := u } := rfl
@[simp] theorem S_seen_in.g4 (s : S_seen_in) : s.e[4]? = Option.some s.name := rfl
@[simp] theorem S_seen_in.w4 (s : S_seen_in) (u : Sl) : List.set s.e 4 u = S_seen_in.e { s with name := u } := rfl
@[simp] theorem S_seen_in.g5 (s : S_seen_in) : s.e[5]? = Option.some s.low := rfl
@[simp] theorem S_seen_in.w5 (s : S_seen_in) (u : Sl) : List.set s.e 5 u = S_seen_in.e { s with low := u } := rfl
@[simp] theorem S_seen_in.g6 (s : S_seen_in) : s.e[6]? = Option.some s.high := rfl
@[simp] theorem S_seen_in.w6 (s : S_seen_in) (u : Sl) : List.set s.e 6 u = S_seen_in.e { s with high := u } := rfl
@[simp] theorem S_seen_in.g7 (s : S_seen_in) : s.e[7]? = Option.some s.inner := rfl
@[simp] theorem S_seen_in.w7 (s : S_seen_in) (u : Sl) : List.set s.e 7 u = S_seen_in.e { s with inner := u } := rfl
@[simp] theorem S_seen_in.g8 (s : S_seen_in) : s.e[8]? = Option.some s.own := rfl
@[simp] theorem S_seen_in.w8 (s : S_seen_in) (u : Sl) : List.set s.e 8 u = S_seen_in.e { s with own := u } := rfl
@[simp] theorem S_seen_in.g9 (s : S_seen_in) : s.e[9]? = Option.some s.one := rfl
@[simp] theorem S_seen_in.w9 (s : S_seen_in) (u : Sl) : List.set s.e 9 u = S_seen_in.e { s with one := u } := rfl
theorem S_seen_in.st (d0 d1 d2 : D) (a : Addr) (kvs : List (Key × D)) : startB 10 [d0, d1, d2] a kvs = S_seen_in.e { calls := .im d0, first := .im d1, step := .im d2, found := .bK a kvs, name := .un, low := .un, high := .un, inner := .un, own := .un, one := .un } := rfl
def b_seen_in (self : LF) : VS.Env → Out :=
 (forO (.tp (.cons (.nm 4) (.cons (.nm 5) (.cons (.nm 6) (.cons (.nm 7) .nil))))) (gSeq itT (geV 0))
  (L_seen_in_1 self))
def F_seen_in : Nat → LF
  | 0 => noB
  | j + 1 => runDefB 10 (b_seen_in (F_seen_in j))
def C_seen_1 : VS.Env → R D :=
 (compE (.nm 5) [5] (gSeq itL (geA sortDct (gaCons (geT 4) gaNil))) (fun _ => .ok true) (geA tupD (gaCons (geV 5) (gaCons (geOp ixD (geT 4) (geV 5)) gaNil))))
structure S_seen where
  (trees_here hand first step found name : Sl)
def S_seen.e (s : S_seen) : VS.Env := [s.trees_here, s.hand, s.first, s.step, s.found, s.name]
@[simp] theorem S_seen.g0 (s : S_seen) : s.e[0]? = Option.some s.trees_here := rfl
@[simp] theorem S_seen.w0 (s : S_seen) (u : Sl) : List.set s.e 0 u = S_seen.e { s with trees_here := u } := rfl
@[simp] theorem S_seen.g1 (s : S_seen) : s.e[1]? = Option.some s.hand := rfl
@[simp] theorem S_seen.w1 (s : S_seen) (u : Sl) : List.set s.e 1 u = S_seen.e { s with hand := u } := rfl
@[simp] theorem S_seen.g2 (s : S_seen) : s.e[2]? = Option.some s.first := rfl
@[simp] theorem S_seen.w2 (s : S_seen) (u : Sl) : List.set s.e 2 u = S_seen.e { s with first := u } := rfl
@[simp] theorem S_seen.g3 (s : S_seen) : s.e[3]? = Option.some s.step := rfl
@[simp] theorem S_seen.w3 (s : S_seen) (u : Sl) : List.set s.e 3 u = S_seen.e { s with step := u } := rfl
@[simp] theorem S_seen.g4 (s : S_seen) : s.e[4]? = Option.some s.found := rfl
@[simp] theorem S_seen.w4 (s : S_seen) (u : Sl) : List.set s.e 4 u = S_seen.e { s with found := u } := rfl
@[simp] theorem S_seen.g5 (s : S_seen) : s.e[5]? = Option.some s.name := rfl
@[simp] theorem S_seen.w5 (s : S_seen) (u : Sl) : List.set s.e 5 u = S_seen.e { s with name := u } := rfl
theorem S_seen.st (d0 d1 d2 d3 : D) : startE 6 [d0, d1, d2, d3] = S_seen.e { trees_here := .im d0, hand := .im d1, first := .im d2, step := .im d3, found := .un, name := .un } := rfl
def b_seen : VS.Env → Out :=
 (seqO (fun ρ => ofR ((geA F_look (gaCons (geV 0) (gaCons (geV 1) (gaCons (geV 2) (gaCons (geV 3) gaNil))))) ρ) fun _ => .nx ρ)
 (seqO (ownO 4 (fun _ => .ok (.dK [])))
 (seqO (lendO 4 (F_seen_in 8) (gaCons (geOp ixD (geV 0) (geV 1)) (gaCons (geV 2) (gaCons (geV 3) gaNil))))
 (fun ρ => ofR (C_seen_1 ρ) .rt))))
def F_seen : List D → R D := runDef 6 b_seen
end
end VP

set_option Elab.async false
set_option linter.all false
set_option maxRecDepth 100000
namespace VP
open PySem PySem.Spec PyProof.Rows L2 LamX VS
noncomputable section
def C_law_1 : VS.Env → R D :=
 (compE (.tp (.cons (.nm 15) (.cons (.nm 16) (.cons (.nm 18) (.cons (.nm 19) .nil))))) [15, 16, 18, 19] (gSeq itL (geA F_table (gaCons (geV 5) gaNil))) (fun _ => .ok true) (geA tupD (gaCons (geV 15) (gaCons (geV 19) gaNil))))
def L_law_1 : VS.Env → Out :=
 (putO 7 (geOp addI (geGet (geT 7) (geV 15) (gI 0)) (gI 1)) (geV 15))
def L_law_2 : VS.Env → Out :=
 (forO (.nm 15) (gSeq itT (geSl slT (geV 14) (goSome (ge1 (subI (.int 0)) (gI 1))) goNone))
     L_law_1)
def C_law_2 : VS.Env → R D :=
 (compE (.nm 17) [17] (gSeq itL (geA F_seen (gaCons (geV 5) (gaCons (geV 4) (gaCons (geV 9) (gaCons (geV 10) gaNil)))))) (geB (geOp (cmI fun i j => decide (j < i)) (geOp ixT (geV 17) (gI 1)) (gI 0))) (geV 17))
def L_law_3 : VS.Env → Out :=
 (putO 8 (geOp addI (geOp ixD (geT 8) (geV 15)) (geV 16)) (geV 15))
def L_law_4 : VS.Env → Out :=
 (seqO (fun ρ => ofR ((geOp disp1 (geV 4) (geOp ixD (geV 3) (geV 4))) ρ) fun d => .nx (ρ.set 5 (.im d)))
   (seqO (ifO (geB (geOp cmNe (geA F_seen (gaCons (geV 5) (gaCons (geV 4) (gaCons (gI 0) (gaCons (gI 1) gaNil))))) C_law_1))
    (fun ρ => ofR ((gB false) ρ) .rt)
    .nx)
   (seqO (parO2 9 10 .c .c (geOp modI (geV 2) (gI 7)) (geOp addI (gI 1) (geOp modI (geOp fdivI (geV 2) (gI 8)) (gI 40))))
   (seqO (fun ρ => ofR ((geA F_looks (gaCons (geV 5) (gaCons (geV 4) (gaCons (geV 9) (gaCons (geV 10) gaNil))))) ρ) fun d => .nx (ρ.set 6 (.im d)))
   (seqO (parO2 11 12 .c .c (geA F_looks (gaCons (geV 5) (gaCons (geV 4) (gaCons (geV 9) (gaCons (geOp mulI (gI 2) (geV 10)) gaNil))))) (geA F_looks (gaCons (geV 5) (gaCons (geV 4) (gaCons (geOp addI (geV 9) (geV 10)) (gaCons (geOp mulI (gI 2) (geV 10)) gaNil))))))
   (seqO (ifO (geB (geOp cmNe (geA sortD (gaCons (geOp catL (geV 11) (geV 12)) gaNil)) (geV 6)))
    (fun ρ => ofR ((gB false) ρ) .rt)
    .nx)
   (seqO (ownO 7 (fun _ => .ok (.dK [])))
   (seqO (forO (.tp (.cons (.nm 13) (.cons (.nm 14) .nil))) (gSeq itL (geV 6))
    L_law_2)
   (seqO (ifO (geB (geOp cmNe C_law_2 (sItO 7)))
    (fun ρ => ofR ((gB false) ρ) .rt)
    .nx)
   (seqO (ownO 8 (geA dictP (gaCons (geA F_seen (gaCons (geV 5) (gaCons (geV 4) (gaCons (geV 9) (gaCons (geOp mulI (gI 2) (geV 10)) gaNil))))) gaNil)))
   (seqO (forO (.tp (.cons (.nm 15) (.cons (.nm 16) .nil))) (gSeq itL (geA F_seen (gaCons (geV 5) (gaCons (geV 4) (gaCons (geOp addI (geV 9) (geV 10)) (gaCons (geOp mulI (gI 2) (geV 10)) gaNil))))))
    L_law_3)
   (ifO (geB (geOp cmNe (sItO 8) (geA F_seen (gaCons (geV 5) (gaCons (geV 4) (gaCons (geV 9) (gaCons (geV 10) gaNil)))))))
    (fun ρ => ofR ((gB false) ρ) .rt)
    .nx))))))))))))
def L_law_5 : VS.Env → Out :=
 (seqO (fun ρ => ofR ((geA F__law_drawn (gaCons (geA F__law_cell (gaCons (geV 0) (gaCons (geV 1) gaNil))) (gaCons (geV 1) gaNil))) ρ) fun d => .nx (ρ.set 2 (.im d)))
  (seqO (fun ρ => ofR ((geA F__law_trees (gaCons (geOp fdivI (geV 2) (gI 64)) gaNil)) ρ) fun d => .nx (ρ.set 3 (.im d)))
  (forDO (.nm 4) 3
   L_law_4)))
structure S_law where
  (script k more some_ hand alone whole_row counts both first step half rest tick path name_here count pair long time : Sl)
def S_law.e (s : S_law) : VS.Env := [s.script, s.k, s.more, s.some_, s.hand, s.alone, s.whole_row, s.counts, s.both, s.first, s.step, s.half, s.rest, s.tick, s.path, s.name_here, s.count, s.pair, s.long, s.time]
@[simp] theorem S_law.g0 (s : S_law) : s.e[0]? = Option.some s.script := rfl
@[simp] theorem S_law.w0 (s : S_law) (u : Sl) : List.set s.e 0 u = S_law.e { s with script := u } := rfl
@[simp] theorem S_law.g1 (s : S_law) : s.e[1]? = Option.some s.k := rfl
@[simp] theorem S_law.w1 (s : S_law) (u : Sl) : List.set s.e 1 u = S_law.e { s with k := u } := rfl
@[simp] theorem S_law.g2 (s : S_law) : s.e[2]? = Option.some s.more := rfl
@[simp] theorem S_law.w2 (s : S_law) (u : Sl) : List.set s.e 2 u = S_law.e { s with more := u } := rfl
@[simp] theorem S_law.g3 (s : S_law) : s.e[3]? = Option.some s.some_ := rfl
@[simp] theorem S_law.w3 (s : S_law) (u : Sl) : List.set s.e 3 u = S_law.e { s with some_ := u } := rfl
@[simp] theorem S_law.g4 (s : S_law) : s.e[4]? = Option.some s.hand := rfl
@[simp] theorem S_law.w4 (s : S_law) (u : Sl) : List.set s.e 4 u = S_law.e { s with hand := u } := rfl
@[simp] theorem S_law.g5 (s : S_law) : s.e[5]? = Option.some s.alone := rfl
@[simp] theorem S_law.w5 (s : S_law) (u : Sl) : List.set s.e 5 u = S_law.e { s with alone := u } := rfl
@[simp] theorem S_law.g6 (s : S_law) : s.e[6]? = Option.some s.whole_row := rfl
@[simp] theorem S_law.w6 (s : S_law) (u : Sl) : List.set s.e 6 u = S_law.e { s with whole_row := u } := rfl
@[simp] theorem S_law.g7 (s : S_law) : s.e[7]? = Option.some s.counts := rfl
@[simp] theorem S_law.w7 (s : S_law) (u : Sl) : List.set s.e 7 u = S_law.e { s with counts := u } := rfl
@[simp] theorem S_law.g8 (s : S_law) : s.e[8]? = Option.some s.both := rfl
@[simp] theorem S_law.w8 (s : S_law) (u : Sl) : List.set s.e 8 u = S_law.e { s with both := u } := rfl
@[simp] theorem S_law.g9 (s : S_law) : s.e[9]? = Option.some s.first := rfl
@[simp] theorem S_law.w9 (s : S_law) (u : Sl) : List.set s.e 9 u = S_law.e { s with first := u } := rfl
@[simp] theorem S_law.g10 (s : S_law) : s.e[10]? = Option.some s.step := rfl
@[simp] theorem S_law.w10 (s : S_law) (u : Sl) : List.set s.e 10 u = S_law.e { s with step := u } := rfl
@[simp] theorem S_law.g11 (s : S_law) : s.e[11]? = Option.some s.half := rfl
@[simp] theorem S_law.w11 (s : S_law) (u : Sl) : List.set s.e 11 u = S_law.e { s with half := u } := rfl
@[simp] theorem S_law.g12 (s : S_law) : s.e[12]? = Option.some s.rest := rfl
@[simp] theorem S_law.w12 (s : S_law) (u : Sl) : List.set s.e 12 u = S_law.e { s with rest := u } := rfl
@[simp] theorem S_law.g13 (s : S_law) : s.e[13]? = Option.some s.tick := rfl
@[simp] theorem S_law.w13 (s : S_law) (u : Sl) : List.set s.e 13 u = S_law.e { s with tick := u } := rfl
@[simp] theorem S_law.g14 (s : S_law) : s.e[14]? = Option.some s.path := rfl
@[simp] theorem S_law.w14 (s : S_law) (u : Sl) : List.set s.e 14 u = S_law.e { s with path := u } := rfl
@[simp] theorem S_law.g15 (s : S_law) : s.e[15]? = Option.some s.name_here := rfl
@[simp] theorem S_law.w15 (s : S_law) (u : Sl) : List.set s.e 15 u = S_law.e { s with name_here := u } := rfl
@[simp] theorem S_law.g16 (s : S_law) : s.e[16]? = Option.some s.count := rfl
@[simp] theorem S_law.w16 (s : S_law) (u : Sl) : List.set s.e 16 u = S_law.e { s with count := u } := rfl
@[simp] theorem S_law.g17 (s : S_law) : s.e[17]? = Option.some s.pair := rfl
@[simp] theorem S_law.w17 (s : S_law) (u : Sl) : List.set s.e 17 u = S_law.e { s with pair := u } := rfl
@[simp] theorem S_law.g18 (s : S_law) : s.e[18]? = Option.some s.long := rfl
@[simp] theorem S_law.w18 (s : S_law) (u : Sl) : List.set s.e 18 u = S_law.e { s with long := u } := rfl
@[simp] theorem S_law.g19 (s : S_law) : s.e[19]? = Option.some s.time := rfl
@[simp] theorem S_law.w19 (s : S_law) (u : Sl) : List.set s.e 19 u = S_law.e { s with time := u } := rfl
theorem S_law.st (d0 : D) : startE 20 [d0] = S_law.e { script := .im d0, k := .un, more := .un, some_ := .un, hand := .un, alone := .un, whole_row := .un, counts := .un, both := .un, first := .un, step := .un, half := .un, rest := .un, tick := .un, path := .un, name_here := .un, count := .un, pair := .un, long := .un, time := .un } := rfl
def b_law : VS.Env → Out :=
 (seqO (forO (.nm 1) (gSeqA rng1 (gaCons (geA max2 (gaCons (gI 1) (gaCons (geA min2 (gaCons (gI 3) (gaCons (geA lenD (gaCons (geV 0) gaNil)) gaNil))) gaNil))) gaNil))
  L_law_5)
 (fun ρ => ofR ((gB true) ρ) .rt))
def F_law : List D → R D := runDef 20 b_law
end
end VP

set_option Elab.async false
set_option linter.all false
set_option maxRecDepth 100000
set_option maxHeartbeats 4000000
namespace K51
open PySem PySem.Spec PyProof.Rows L2 LamX VS VP
def top (i : Nat) : Stmt := PySem.Challenge.pw_calltimes_k51_whole_looks_and_times.main.body.getD i (.Pass ⟨0, 0, 0, 0⟩)
structure Fx (K : PySem.W.Frag) (mg : Str → Option Value) (cl : Str → Addr) where
  f__law_drawn : Addr
  d__law_drawn : FuncData
  p__law_drawn : FnP K "_law_drawn" (top 34) f__law_drawn d__law_drawn
  m__law_drawn : mg "_law_drawn" = some (.ref f__law_drawn)
  f__law_name : Addr
  d__law_name : FuncData
  p__law_name : FnP K "_law_name" (top 35) f__law_name d__law_name
  m__law_name : mg "_law_name" = some (.ref f__law_name)
  f__law_calls : Addr
  d__law_calls : FuncData
  p__law_calls : FnP K "_law_calls" (top 36) f__law_calls d__law_calls
  m__law_calls : mg "_law_calls" = some (.ref f__law_calls)
  f__law_trees : Addr
  d__law_trees : FuncData
  p__law_trees : FnP K "_law_trees" (top 37) f__law_trees d__law_trees
  m__law_trees : mg "_law_trees" = some (.ref f__law_trees)
  f__law_cell : Addr
  d__law_cell : FuncData
  p__law_cell : FnP K "_law_cell" (top 33) f__law_cell d__law_cell
  m__law_cell : mg "_law_cell" = some (.ref f__law_cell)
  f_is_name : Addr
  d_is_name : FuncData
  p_is_name : FnP K "is_name" (top 11) f_is_name d_is_name
  m_is_name : mg "is_name" = some (.ref f_is_name)
  f_is_count : Addr
  d_is_count : FuncData
  p_is_count : FnP K "is_count" (top 10) f_is_count d_is_count
  m_is_count : mg "is_count" = some (.ref f_is_count)
  f_are_calls : Addr
  d_are_calls : FuncData
  p_are_calls : FnP K "are_calls" (top 13) f_are_calls d_are_calls
  m_are_calls : mg "are_calls" = some (.ref f_are_calls)
  f_need_trees : Addr
  d_need_trees : FuncData
  p_need_trees : FnP K "need_trees" (top 14) f_need_trees d_need_trees
  m_need_trees : mg "need_trees" = some (.ref f_need_trees)
  f_need_hand : Addr
  d_need_hand : FuncData
  p_need_hand : FnP K "need_hand" (top 18) f_need_hand d_need_hand
  m_need_hand : mg "need_hand" = some (.ref f_need_hand)
  f_last_of : Addr
  d_last_of : FuncData
  p_last_of : FnP K "last_of" (top 22) f_last_of d_last_of
  m_last_of : mg "last_of" = some (.ref f_last_of)
  f_look : Addr
  d_look : FuncData
  p_look : FnP K "look" (top 23) f_look d_look
  m_look : mg "look" = some (.ref f_look)
  f_stack_in : Addr
  d_stack_in : FuncData
  p_stack_in : FnP K "stack_in" (top 19) f_stack_in d_stack_in
  m_stack_in : mg "stack_in" = some (.ref f_stack_in)
  f_looks : Addr
  d_looks : FuncData
  p_looks : FnP K "looks" (top 24) f_looks d_looks
  m_looks : mg "looks" = some (.ref f_looks)
  f_ticks_in : Addr
  d_ticks_in : FuncData
  p_ticks_in : FnP K "ticks_in" (top 25) f_ticks_in d_ticks_in
  m_ticks_in : mg "ticks_in" = some (.ref f_ticks_in)
  f_seen_in : Addr
  d_seen_in : FuncData
  p_seen_in : FnP K "seen_in" (top 26) f_seen_in d_seen_in
  m_seen_in : mg "seen_in" = some (.ref f_seen_in)
  f_seen : Addr
  d_seen : FuncData
  p_seen : FnP K "seen" (top 27) f_seen d_seen
  m_seen : mg "seen" = some (.ref f_seen)
  f_all_calls : Addr
  d_all_calls : FuncData
  p_all_calls : FnP K "all_calls" (top 17) f_all_calls d_all_calls
  m_all_calls : mg "all_calls" = some (.ref f_all_calls)
  f_every : Addr
  d_every : FuncData
  p_every : FnP K "every" (top 30) f_every d_every
  m_every : mg "every" = some (.ref f_every)
  f_whole : Addr
  d_whole : FuncData
  p_whole : FnP K "whole" (top 15) f_whole d_whole
  m_whole : mg "whole" = some (.ref f_whole)
  f_outer : Addr
  d_outer : FuncData
  p_outer : FnP K "outer" (top 29) f_outer d_outer
  m_outer : mg "outer" = some (.ref f_outer)
  f_own : Addr
  d_own : FuncData
  p_own : FnP K "own" (top 16) f_own d_own
  m_own : mg "own" = some (.ref f_own)
  f_table : Addr
  d_table : FuncData
  p_table : FnP K "table" (top 31) f_table d_table
  m_table : mg "table" = some (.ref f_table)
  f_law : Addr
  d_law : FuncData
  p_law : FnP K "law" (top 38) f_law d_law
  m_law : mg "law" = some (.ref f_law)
  e_BadTick : ExF K mg cl "BadTick"
  e_BadTrees : ExF K mg cl "BadTrees"
  e_NoHand : ExF K mg cl "NoHand"
  n_all : mg "all" = none
  n_bool : mg "bool" = none
  n_dict : mg "dict" = none
  n_int : mg "int" = none
  n_isinstance : mg "isinstance" = none
  n_len : mg "len" = none
  n_max : mg "max" = none
  n_min : mg "min" = none
  n_range : mg "range" = none
  n_sorted : mg "sorted" = none
  n_str : mg "str" = none
  n_sum : mg "sum" = none
  n_tuple : mg "tuple" = none
  c_MOST_TICK : ∃ t, mg "MOST_TICK" = some (.int 1000000 t)
  c_MOST_HAND : ∃ t, mg "MOST_HAND" = some (.int 4 t)
  c_MOST_NAME : ∃ t, mg "MOST_NAME" = some (.int 8 t)
  c_SMALL : ∃ t, mg "SMALL" = some (.str "abcdefghijklmnopqrstuvwxyz" t)
  c_MOST_LOOKS : ∃ t, mg "MOST_LOOKS" = some (.int 2000 t)
section
variable {w : World} {K : PySem.W.Frag} {mg : Str → Option Value} {base : Heap} {T : List (Addr × Str)} {cl : Str → Addr} {P : Program}
noncomputable section
theorem bi__law_drawn (fx : Fx K mg cl) : Binds K fx.d__law_drawn ["_law_cell_here", "_law_k"] [] := fx.p__law_drawn.bindsN fun _ _ _ _ _ _ us hl => match us, hl with | [_, _], _ => rfl
theorem ok__law_drawn (fx : Fx K mg cl) : FnOk P w K mg base (L2N.CX P w) 1 fx.f__law_drawn fx.d__law_drawn ["_law_cell_here", "_law_k"] (spD K T cl 2 F__law_drawn) :=
  def_okD (N := ["_law_cell_here", "_law_k", "_law_more"]) (k := 0) fx.p__law_drawn ⟨rfl, rfl, rfl, by decide +kernel, rfl, by decide +kernel, by decide +kernel⟩ (by decide) fun cdv A outer s H E hr => by
    have u2 := room2 hr
    have u1 := room1 hr
    unfold b__law_drawn
    exact (denb_cons (ss (modi (addi (muli v dI) (muli (addi v dI) dI)) dI))
 (denb_cons (ss (modi (muli v v) dI))
 (denb_cons (ss (muli (muli (addi (modi v dI) dI) (addi (fdivi v dI) dI)) v))
 (denb_one (dens_ret (modi v dI))))))
theorem bi__law_name (fx : Fx K mg cl) : Binds K fx.d__law_name ["_law_more"] [] := fx.p__law_name.bindsN fun _ _ _ _ _ _ us hl => match us, hl with | [_], _ => rfl
theorem ok__law_name (fx : Fx K mg cl) : FnOk P w K mg base (L2N.CX P w) 1 fx.f__law_name fx.d__law_name ["_law_more"] (spD K T cl 1 F__law_name) :=
  def_okD (N := ["_law_more"]) (k := 0) fx.p__law_name ⟨rfl, rfl, rfl, by decide +kernel, rfl, by decide +kernel, by decide +kernel⟩ (by decide) fun cdv A outer s H E hr => by
    have u2 := room2 hr
    have u1 := room1 hr
    unfold b__law_name
    exact (denb_one (dens_ret (ixl (den_lst (a1 dS (a1 dS (a1 dS (a1 dS (a1 dS (a1 dS a0))))))) (modi (fdivi v dI) dI))))
theorem bi__law_calls (fx : Fx K mg cl) : Binds K fx.d__law_calls ["_law_more", "_law_low", "_law_high", "_law_deep"] [] := fx.p__law_calls.bindsN fun _ _ _ _ _ _ us hl => match us, hl with | [_, _, _, _], _ => rfl
theorem ok__law_calls (fx : Fx K mg cl) : ∀ j, FnOk P w K mg base (L2N.CX P w) (2 + j) fx.f__law_calls fx.d__law_calls ["_law_more", "_law_low", "_law_high", "_law_deep"] (spD K T cl 4 (F__law_calls j))
  | 0 => def_no (k := 1) (N := ["_law_more", "_law_low", "_law_high", "_law_deep", "_law_j", "_law_found", "_law_here", "_law_one", "_law_first", "_law_last"]) fx.p__law_calls ⟨rfl, rfl, rfl, by decide +kernel, rfl, by decide +kernel, by decide +kernel⟩
  | j + 1 => def_okD (N := ["_law_more", "_law_low", "_law_high", "_law_deep", "_law_j", "_law_found", "_law_here", "_law_one", "_law_first", "_law_last"]) (k := 2 + j) fx.p__law_calls ⟨rfl, rfl, rfl, by decide +kernel, rfl, by decide +kernel, by decide +kernel⟩ (by decide) fun cdv A outer s H E hr => by
    have u2 := room2 hr
    have u1 := room1 hr
    have okS := ok__law_calls fx j
    unfold b__law_calls
    exact (denb_cons (sp2 (den_lst a0) v)
 (denb_cons (sfor body_own (r1 (a1 (den_if (tgti v dI) (modi v dI) dI) a0) fx.n_range) tn
  (denb_cons (ss (cf ((ok__law_drawn fx).mono (k := (2 + j)) (by omega)) fx.m__law_drawn fx.p__law_drawn.kp (bi__law_drawn fx) (a1 v (a1 v a0)) (l1 (l1 l0)) (hx := by exact body_pass)))
  (denb_cons (ss (addi v (modi (fdivi v dI) (ixl (den_lst (a1 dI (a1 dI (a1 dI a0)))) (modi v dI)))))
  (denb_cons (ss (addi v (modi (fdivi v dI) (ixl (den_lst (a1 dI (a1 dI (a1 dI (a1 dI a0))))) (modi (fdivi v dI) dI)))))
  (denb_one (dens_if (tlei v v)
   (denb_cons (sapp (den_tup (a1 (cf ((ok__law_name fx).mono (k := (2 + j)) (by omega)) fx.m__law_name fx.p__law_name.kp (bi__law_name fx) (a1 (fdivi v dI) a0) (l1 l0) (hx := by exact body_pass)) (a1 v (a1 v (a1 (cf (okS) fx.m__law_calls fx.p__law_calls.kp (bi__law_calls fx) (a1 (cf ((ok__law_drawn fx).mono (k := (2 + j)) (by omega)) fx.m__law_drawn fx.p__law_drawn.kp (bi__law_drawn fx) (a1 v (a1 dI a0)) (l1 (l1 l0)) (hx := by exact body_pass)) (a1 v (a1 v (a1 (subi v dI) a0)))) (l1 (l1 (l1 (l1 l0)))) (hx := by exact body_pass)) a0))))))
   (denb_one (ss v)))
   denb_nil))))))
 (denb_one (dens_ret (cy call_tuple_of ad_tuple (at1 vt a0) fx.n_tuple)))))
theorem bi__law_trees (fx : Fx K mg cl) : Binds K fx.d__law_trees ["_law_more"] [] := fx.p__law_trees.bindsN fun _ _ _ _ _ _ us hl => match us, hl with | [_], _ => rfl
theorem ok__law_trees (fx : Fx K mg cl) : FnOk P w K mg base (L2N.CX P w) 11 fx.f__law_trees fx.d__law_trees ["_law_more"] (spD K T cl 1 F__law_trees) :=
  def_okD (N := ["_law_more", "_law_found", "_law_hand", "_law_here", "_law_calls_here"]) (k := 10) fx.p__law_trees ⟨rfl, rfl, rfl, by decide +kernel, rfl, by decide +kernel, by decide +kernel⟩ (by decide) fun cdv A outer s H E hr => by
    have u2 := room2 hr
    have u1 := room1 hr
    unfold b__law_trees
    exact (denb_cons (so den_newK)
 (denb_cons (sfor body_own (r2 (a1 dI (a1 dI a0)) fx.n_range) tn
  (denb_cons (ss (cf ((ok__law_drawn fx).mono (k := 10) (by omega)) fx.m__law_drawn fx.p__law_drawn.kp (bi__law_drawn fx) (a1 v (a1 (addi dI v) a0)) (l1 (l1 l0)) (hx := by exact body_pass)))
  (denb_cons (ss (cf ((ok__law_calls fx 8).mono (k := 10) (by omega)) fx.m__law_calls fx.p__law_calls.kp (bi__law_calls fx) (a1 (fdivi v dI) (a1 (modi v dI) (a1 (addi dI (modi (fdivi v dI) dI)) (a1 dI a0)))) (l1 (l1 (l1 (l1 l0)))) (hx := by exact body_pass)))
  (denb_one (dens_if (DenW.t (denw_and (tnea v (den_tup a0) u2) (denw_one (tgti (modi v dI) dI))))
   (denb_one (sput u1 v v))
   denb_nil)))))
 (denb_one (dens_frz (dens_ret v)))))
theorem bi__law_cell (fx : Fx K mg cl) : Binds K fx.d__law_cell ["_law_script", "_law_k"] [] := fx.p__law_cell.bindsN fun _ _ _ _ _ _ us hl => match us, hl with | [_, _], _ => rfl
theorem ok__law_cell (fx : Fx K mg cl) : FnOk P w K mg base (L2N.CX P w) 1 fx.f__law_cell fx.d__law_cell ["_law_script", "_law_k"] (spD K T cl 2 F__law_cell) :=
  def_okD (N := ["_law_script", "_law_k"]) (k := 0) fx.p__law_cell ⟨rfl, rfl, rfl, by decide +kernel, rfl, by decide +kernel, by decide +kernel⟩ (by decide) fun cdv A outer s H E hr => by
    have u2 := room2 hr
    have u1 := room1 hr
    unfold b__law_cell
    exact (denb_cons (dens_if (teqa v (den_lst a0) u2)
  (denb_one (dens_ret (muli v dI)))
  denb_nil)
 (denb_one (dens_ret (addi (ixc v (modi v (cb call_len ad_len (at1 (Den.now v) a0) fx.n_len))) (muli (fdivi v (cb call_len ad_len (at1 (Den.now v) a0) fx.n_len)) dI)))))
theorem bi_is_name (fx : Fx K mg cl) : Binds K fx.d_is_name ["thing"] [] := fx.p_is_name.bindsN fun _ _ _ _ _ _ us hl => match us, hl with | [_], _ => rfl
theorem ok_is_name (fx : Fx K mg cl) : FnOk P w K mg base (L2N.CX P w) 1 fx.f_is_name fx.d_is_name ["thing"] (spD K T cl 1 F_is_name) :=
  def_okD (N := ["thing", "sign"]) (k := 0) fx.p_is_name ⟨rfl, rfl, rfl, by decide +kernel, rfl, by decide +kernel, by decide +kernel⟩ (by decide) fun cdv A outer s H E hr => by
    have u2 := room2 hr
    have u1 := room1 hr
    unfold b_is_name
    exact (denb_one (dens_ret (den_andV (fun q => by cases q) (isi (c := .str) v fx.n_isinstance fx.n_str) (den_andV (fun q => by cases q) (chle dI (cb call_len ad_len (at1 (Den.now v) a0) fx.n_len) (cI fx.c_MOST_NAME)) (den_one (cb (cr_all (by rfl)) ad_all (at1 (Den.now (comp (deni_str v) (fun _ _ _ _ _ => tn) (fun _ _ _ _ _ => dents_nil) (fun _ _ _ _ _ => (ins v (cS fx.c_SMALL))) [(("sign" : Str), 1)])) a0) fx.n_all))))))
theorem bi_is_count (fx : Fx K mg cl) : Binds K fx.d_is_count ["thing", "low", "high"] [] := fx.p_is_count.bindsN fun _ _ _ _ _ _ us hl => match us, hl with | [_, _, _], _ => rfl
theorem ok_is_count (fx : Fx K mg cl) : FnOk P w K mg base (L2N.CX P w) 1 fx.f_is_count fx.d_is_count ["thing", "low", "high"] (spD K T cl 3 F_is_count) :=
  def_okD (N := ["thing", "low", "high"]) (k := 0) fx.p_is_count ⟨rfl, rfl, rfl, by decide +kernel, rfl, by decide +kernel, by decide +kernel⟩ (by decide) fun cdv A outer s H E hr => by
    have u2 := room2 hr
    have u1 := room1 hr
    unfold b_is_count
    exact (denb_one (dens_ret (den_andV (fun q => by cases q) (isi (c := .int) v fx.n_isinstance fx.n_int) (den_andV (fun q => by cases q) (den_notV (isi (c := .bool) v fx.n_isinstance fx.n_bool)) (den_one (chle v v v))))))
theorem bi_are_calls (fx : Fx K mg cl) : Binds K fx.d_are_calls ["thing", "low", "high"] [] := fx.p_are_calls.bindsN fun _ _ _ _ _ _ us hl => match us, hl with | [_, _, _], _ => rfl
theorem ok_are_calls (fx : Fx K mg cl) : ∀ j, FnOk P w K mg base (L2N.CX P w) (2 + j) fx.f_are_calls fx.d_are_calls ["thing", "low", "high"] (spD K T cl 3 (F_are_calls j))
  | 0 => def_no (k := 1) (N := ["thing", "low", "high", "one"]) fx.p_are_calls ⟨rfl, rfl, rfl, by decide +kernel, rfl, by decide +kernel, by decide +kernel⟩
  | j + 1 => def_okD (N := ["thing", "low", "high", "one"]) (k := 2 + j) fx.p_are_calls ⟨rfl, rfl, rfl, by decide +kernel, rfl, by decide +kernel, by decide +kernel⟩ (by decide) fun cdv A outer s H E hr => by
    have u2 := room2 hr
    have u1 := room1 hr
    have okS := ok_are_calls fx j
    unfold b_are_calls
    exact (denb_cons (dens_if (dent_not (tv (isi (c := .tuple) v fx.n_isinstance fx.n_tuple)))
  (denb_one (dens_ret dB))
  denb_nil)
 (denb_cons (sfor body_own (deni_tup v) tn
  (denb_cons (dens_if (DenW.t (denw_or (dent_not (tv (isi (c := .tuple) v fx.n_isinstance fx.n_tuple))) (denw_or (tnea (cb call_len ad_len (at1 (Den.now v) a0) fx.n_len) dI u2) (denw_or (dent_not (tv (cf ((ok_is_name fx).mono (k := (2 + j)) (by omega)) fx.m_is_name fx.p_is_name.kp (bi_is_name fx) (a1 (ixt v dI) a0) (l1 l0) (hx := by exact body_pass)))) (denw_one (dent_not (tv (cf ((ok_is_count fx).mono (k := (2 + j)) (by omega)) fx.m_is_count fx.p_is_count.kp (bi_is_count fx) (a1 (ixt v dI) (a1 v (a1 v a0))) (l1 (l1 (l1 l0))) (hx := by exact body_pass)))))))))
   (denb_one (dens_ret dB))
   denb_nil)
  (denb_cons (dens_if (DenW.t (denw_or (dent_not (tv (cf ((ok_is_count fx).mono (k := (2 + j)) (by omega)) fx.m_is_count fx.p_is_count.kp (bi_is_count fx) (a1 (ixt v dI) (a1 (ixt v dI) (a1 v a0))) (l1 (l1 (l1 l0))) (hx := by exact body_pass)))) (denw_one (dent_not (tv (cf (okS) fx.m_are_calls fx.p_are_calls.kp (bi_are_calls fx) (a1 (ixt v dI) (a1 (ixt v dI) (a1 (ixt v dI) a0))) (l1 (l1 (l1 l0))) (hx := by exact body_pass)))))))
   (denb_one (dens_ret dB))
   denb_nil)
  (denb_one (ss (ixt v dI))))))
 (denb_one (dens_ret dB))))
theorem bi_need_trees (fx : Fx K mg cl) : Binds K fx.d_need_trees ["trees_here"] [] := fx.p_need_trees.bindsN fun _ _ _ _ _ _ us hl => match us, hl with | [_], _ => rfl
theorem ok_need_trees (fx : Fx K mg cl) : FnOk P w K mg base (L2N.CX P w) 11 fx.f_need_trees fx.d_need_trees ["trees_here"] (spD K T cl 1 F_need_trees) :=
  def_okD (N := ["trees_here", "hand"]) (k := 10) fx.p_need_trees ⟨rfl, rfl, rfl, by decide +kernel, rfl, by decide +kernel, by decide +kernel⟩ (by decide) fun cdv A outer s H E hr => by
    have u2 := room2 hr
    have u1 := room1 hr
    unfold b_need_trees
    exact (denb_cons (dens_if (DenW.t (denw_or (dent_not (tv (isi (c := .dict) v fx.n_isinstance fx.n_dict))) (denw_one (dent_not (tv (cb (cr_all (by rfl)) ad_all (at1 (Den.now (compd (fun _ _ _ _ _ => tn) (fun _ _ _ _ _ => dents_nil) (fun _ _ _ _ _ => (cf ((ok_is_count fx).mono (k := 10) (by omega)) fx.m_is_count fx.p_is_count.kp (bi_is_count fx) (a1 v (a1 dI (a1 (cI fx.c_MOST_HAND) a0))) (l1 (l1 (l1 l0))) (hx := by exact passLN))) [(("hand" : Str), 1)])) a0) fx.n_all))))))
  (denb_one (sraise fx.e_BadTrees body_takes))
  denb_nil)
 (denb_one (dens_if (dent_not (tv (cb (cr_all (by rfl)) ad_all (at1 (Den.now (compd (fun _ _ _ _ _ => tn) (fun _ _ _ _ _ => dents_nil) (fun _ _ _ _ _ => (cf ((ok_are_calls fx 8).mono (k := 10) (by omega)) fx.m_are_calls fx.p_are_calls.kp (bi_are_calls fx) (a1 (ixd v v u1) (a1 dI (a1 (cI fx.c_MOST_TICK) a0))) (l1 (l1 (l1 l0))) (hx := by exact passLN))) [(("hand" : Str), 1)])) a0) fx.n_all)))
  (denb_one (sraise fx.e_BadTrees body_takes))
  denb_nil)))
theorem bi_need_hand (fx : Fx K mg cl) : Binds K fx.d_need_hand ["trees_here", "hand"] [] := fx.p_need_hand.bindsN fun _ _ _ _ _ _ us hl => match us, hl with | [_, _], _ => rfl
theorem ok_need_hand (fx : Fx K mg cl) : FnOk P w K mg base (L2N.CX P w) 12 fx.f_need_hand fx.d_need_hand ["trees_here", "hand"] (spD K T cl 2 F_need_hand) :=
  def_okD (N := ["trees_here", "hand"]) (k := 11) fx.p_need_hand ⟨rfl, rfl, rfl, by decide +kernel, rfl, by decide +kernel, by decide +kernel⟩ (by decide) fun cdv A outer s H E hr => by
    have u2 := room2 hr
    have u1 := room1 hr
    unfold b_need_hand
    exact (denb_cons (sx (cf ((ok_need_trees fx).mono (k := 11) (by omega)) fx.m_need_trees fx.p_need_trees.kp (bi_need_trees fx) (a1 v a0) (l1 l0) (hx := by exact body_pass)))
 (denb_one (dens_if (DenW.t (denw_or (dent_not (tv (cf ((ok_is_count fx).mono (k := 11) (by omega)) fx.m_is_count fx.p_is_count.kp (bi_is_count fx) (a1 v (a1 dI (a1 (cI fx.c_MOST_HAND) a0))) (l1 (l1 (l1 l0))) (hx := by exact body_pass)))) (denw_one (tnid v v u1))))
  (denb_one (sraise fx.e_NoHand body_takes))
  denb_nil)))
theorem bi_last_of (fx : Fx K mg cl) : Binds K fx.d_last_of ["calls"] [] := fx.p_last_of.bindsN fun _ _ _ _ _ _ us hl => match us, hl with | [_], _ => rfl
theorem ok_last_of (fx : Fx K mg cl) : FnOk P w K mg base (L2N.CX P w) 1 fx.f_last_of fx.d_last_of ["calls"] (spD K T cl 1 F_last_of) :=
  def_okD (N := ["calls"]) (k := 0) fx.p_last_of ⟨rfl, rfl, rfl, by decide +kernel, rfl, by decide +kernel, by decide +kernel⟩ (by decide) fun cdv A outer s H E hr => by
    have u2 := room2 hr
    have u1 := room1 hr
    unfold b_last_of
    exact (denb_one (dens_ret (den_if (tnea v (den_tup a0) u2) (ixt (ixt v (den_neg dI)) dI) dI)))
theorem bi_look (fx : Fx K mg cl) : Binds K fx.d_look ["trees_here", "hand", "first", "step"] [] := fx.p_look.bindsN fun _ _ _ _ _ _ us hl => match us, hl with | [_, _, _, _], _ => rfl
theorem ok_look (fx : Fx K mg cl) : FnOk P w K mg base (L2N.CX P w) 13 fx.f_look fx.d_look ["trees_here", "hand", "first", "step"] (spD K T cl 4 F_look) :=
  def_okD (N := ["trees_here", "hand", "first", "step"]) (k := 12) fx.p_look ⟨rfl, rfl, rfl, by decide +kernel, rfl, by decide +kernel, by decide +kernel⟩ (by decide) fun cdv A outer s H E hr => by
    have u2 := room2 hr
    have u1 := room1 hr
    unfold b_look
    exact (denb_cons (sx (cf ((ok_need_hand fx).mono (k := 12) (by omega)) fx.m_need_hand fx.p_need_hand.kp (bi_need_hand fx) (a1 v (a1 v a0)) (l1 (l1 l0)) (hx := by exact body_pass)))
 (denb_cons (dens_if (DenW.t (denw_or (dent_not (tv (cf ((ok_is_count fx).mono (k := 12) (by omega)) fx.m_is_count fx.p_is_count.kp (bi_is_count fx) (a1 v (a1 dI (a1 (cI fx.c_MOST_TICK) a0))) (l1 (l1 (l1 l0))) (hx := by exact body_pass)))) (denw_one (dent_not (tv (cf ((ok_is_count fx).mono (k := 12) (by omega)) fx.m_is_count fx.p_is_count.kp (bi_is_count fx) (a1 v (a1 dI (a1 (cI fx.c_MOST_TICK) a0))) (l1 (l1 (l1 l0))) (hx := by exact body_pass)))))))
  (denb_one (sraise fx.e_BadTick body_takes))
  denb_nil)
 (denb_one (dens_if (tgti (addi (fdivi (subi (cf ((ok_last_of fx).mono (k := 12) (by omega)) fx.m_last_of fx.p_last_of.kp (bi_last_of fx) (a1 (ixd v v u1) a0) (l1 l0) (hx := by exact body_pass)) v) v) dI) (cI fx.c_MOST_LOOKS))
  (denb_one (sraise fx.e_BadTick body_takes))
  denb_nil))))
theorem bi_stack_in (fx : Fx K mg cl) : Binds K fx.d_stack_in ["calls", "tick"] [] := fx.p_stack_in.bindsN fun _ _ _ _ _ _ us hl => match us, hl with | [_, _], _ => rfl
theorem ok_stack_in (fx : Fx K mg cl) : ∀ j, FnOk P w K mg base (L2N.CX P w) (1 + j) fx.f_stack_in fx.d_stack_in ["calls", "tick"] (spD K T cl 2 (F_stack_in j))
  | 0 => def_no (k := 0) (N := ["calls", "tick", "name", "first", "last", "inner"]) fx.p_stack_in ⟨rfl, rfl, rfl, by decide +kernel, rfl, by decide +kernel, by decide +kernel⟩
  | j + 1 => def_okD (N := ["calls", "tick", "name", "first", "last", "inner"]) (k := 1 + j) fx.p_stack_in ⟨rfl, rfl, rfl, by decide +kernel, rfl, by decide +kernel, by decide +kernel⟩ (by decide) fun cdv A outer s H E hr => by
    have u2 := room2 hr
    have u1 := room1 hr
    have okS := ok_stack_in fx j
    unfold b_stack_in
    exact (denb_cons (sfor body_own (deni_tup v) (tt (t1 tn (t1 tn (t1 tn (t1 tn t0)))))
  (denb_one (dens_if (tchlt v v v)
   (denb_one (dens_ret (Den.frz (m := .f) (fun q => by cases q) (catl (den_lst (a1 v a0)) (cf (okS) fx.m_stack_in fx.p_stack_in.kp (bi_stack_in fx) (a1 v (a1 v a0)) (l1 (l1 l0)) (hx := by exact body_pass))))))
   denb_nil)))
 (denb_one (dens_ret (Den.frz (m := .f) (fun q => by cases q) (den_lst a0)))))
theorem bi_looks (fx : Fx K mg cl) : Binds K fx.d_looks ["trees_here", "hand", "first", "step"] [] := fx.p_looks.bindsN fun _ _ _ _ _ _ us hl => match us, hl with | [_, _, _, _], _ => rfl
theorem ok_looks (fx : Fx K mg cl) : FnOk P w K mg base (L2N.CX P w) 14 fx.f_looks fx.d_looks ["trees_here", "hand", "first", "step"] (spD K T cl 4 F_looks) :=
  def_okD (N := ["trees_here", "hand", "first", "step", "calls", "tick"]) (k := 13) fx.p_looks ⟨rfl, rfl, rfl, by decide +kernel, rfl, by decide +kernel, by decide +kernel⟩ (by decide) fun cdv A outer s H E hr => by
    have u2 := room2 hr
    have u1 := room1 hr
    unfold b_looks
    exact (denb_cons (sx (cf ((ok_look fx).mono (k := 13) (by omega)) fx.m_look fx.p_look.kp (bi_look fx) (a1 v (a1 v (a1 v (a1 v a0)))) (l1 (l1 (l1 (l1 l0)))) (hx := by exact body_pass)))
 (denb_cons (ss (ixd v v u1))
 (denb_one (dens_ret (Den.frz (m := .f) (fun q => by cases q) (comp (r3 (a1 v (a1 (cf ((ok_last_of fx).mono (k := 13) (by omega)) fx.m_last_of fx.p_last_of.kp (bi_last_of fx) (a1 v a0) (l1 l0) (hx := by exact body_pass)) (a1 v a0))) fx.n_range) (fun _ _ _ _ _ => tn) (fun _ _ _ _ _ => dents_nil) (fun _ _ _ _ _ => (den_tup (a1 v (a1 (cy call_tuple_of ad_tuple (at1 (Den.now (cf ((ok_stack_in fx 8).mono (k := 13) (by omega)) fx.m_stack_in fx.p_stack_in.kp (bi_stack_in fx) (a1 v (a1 v a0)) (l1 (l1 l0)) (hx := by exact passLN))) a0) fx.n_tuple) a0)))) [(("tick" : Str), 5)]))))))
theorem bi_ticks_in (fx : Fx K mg cl) : Binds K fx.d_ticks_in ["first", "step", "low", "high"] [] := fx.p_ticks_in.bindsN fun _ _ _ _ _ _ us hl => match us, hl with | [_, _, _, _], _ => rfl
theorem ok_ticks_in (fx : Fx K mg cl) : FnOk P w K mg base (L2N.CX P w) 1 fx.f_ticks_in fx.d_ticks_in ["first", "step", "low", "high"] (spD K T cl 4 F_ticks_in) :=
  def_okD (N := ["first", "step", "low", "high"]) (k := 0) fx.p_ticks_in ⟨rfl, rfl, rfl, by decide +kernel, rfl, by decide +kernel, by decide +kernel⟩ (by decide) fun cdv A outer s H E hr => by
    have u2 := room2 hr
    have u1 := room1 hr
    unfold b_ticks_in
    exact (denb_cons (dens_if (tlei v v)
  (denb_one (dens_ret dI))
  denb_nil)
 (denb_cons (ss (cb (call_max2 (by rfl)) ad_max2 (at1 (Den.now v) (at1 (Den.now v) a0)) fx.n_max))
 (denb_one (dens_ret (subi (fdivi (subi (addi (subi v v) v) dI) v) (fdivi (subi (addi (subi v v) v) dI) v))))))
theorem bi_seen_in (fx : Fx K mg cl) : Binds K fx.d_seen_in ["calls", "first", "step", "found"] [] := fx.p_seen_in.bindsN fun _ _ _ _ _ _ us hl => match us, hl with | [_, _, _, _], _ => rfl
theorem ok_seen_in (fx : Fx K mg cl) : ∀ j, FnOk P w K mg base (L2N.CX P w) (2 + j) fx.f_seen_in fx.d_seen_in ["calls", "first", "step", "found"] (spB K T cl 3 (F_seen_in j))
  | 0 => def_noB (n := 3) (k := 1) (N := ["calls", "first", "step", "found", "name", "low", "high", "inner", "own", "one"]) fx.p_seen_in ⟨rfl, rfl, rfl, by decide +kernel, rfl, by decide +kernel, by decide +kernel⟩
  | j + 1 => def_okB (n := 3) (N := ["calls", "first", "step", "found", "name", "low", "high", "inner", "own", "one"]) (k := 2 + j) fx.p_seen_in ⟨rfl, rfl, rfl, by decide +kernel, rfl, by decide +kernel, by decide +kernel⟩ (by rfl) (by decide) fun cdv A outer s H E hr => by
    have u2 := room2 hr
    have u1 := room1 hr
    have okS := ok_seen_in fx j
    unfold b_seen_in
    exact (denb_one (sfor body_own (deni_tup v) (tt (t1 tn (t1 tn (t1 tn (t1 tn t0)))))
  (denb_cons (ss (subi (cf ((ok_ticks_in fx).mono (k := (2 + j)) (by omega)) fx.m_ticks_in fx.p_ticks_in.kp (bi_ticks_in fx) (a1 v (a1 v (a1 v (a1 v a0)))) (l1 (l1 (l1 (l1 l0)))) (hx := by exact body_pass)) (cb (cr_sum (by rfl)) ad_sum (at1 (Den.now (comp (deni_tup v) (fun _ _ _ _ _ => tn) (fun _ _ _ _ _ => dents_nil) (fun _ _ _ _ _ => (cf ((ok_ticks_in fx).mono (k := (2 + j)) (by omega)) fx.m_ticks_in fx.p_ticks_in.kp (bi_ticks_in fx) (a1 v (a1 v (a1 (ixt v dI) (a1 (ixt v dI) a0)))) (l1 (l1 (l1 (l1 l0)))) (hx := by exact passLN))) [(("one" : Str), 9)])) a0) fx.n_sum)))
  (denb_cons (sput u1 (addi (m_get u1 vt v dI) v) v)
  (denb_one (slend (okS) fx.m_seen_in fx.p_seen_in.kp (bi_seen_in fx) (b1 v (b1 v (b1 v b0))) (l1 (l1 (l1 l0))) (hx := by exact body_pass)))))))
theorem bi_seen (fx : Fx K mg cl) : Binds K fx.d_seen ["trees_here", "hand", "first", "step"] [] := fx.p_seen.bindsN fun _ _ _ _ _ _ us hl => match us, hl with | [_, _, _, _], _ => rfl
theorem ok_seen (fx : Fx K mg cl) : FnOk P w K mg base (L2N.CX P w) 14 fx.f_seen fx.d_seen ["trees_here", "hand", "first", "step"] (spD K T cl 4 F_seen) :=
  def_okD (N := ["trees_here", "hand", "first", "step", "found", "name"]) (k := 13) fx.p_seen ⟨rfl, rfl, rfl, by decide +kernel, rfl, by decide +kernel, by decide +kernel⟩ (by decide) fun cdv A outer s H E hr => by
    have u2 := room2 hr
    have u1 := room1 hr
    unfold b_seen
    exact (denb_cons (sx (cf ((ok_look fx).mono (k := 13) (by omega)) fx.m_look fx.p_look.kp (bi_look fx) (a1 v (a1 v (a1 v (a1 v a0)))) (l1 (l1 (l1 (l1 l0)))) (hx := by exact body_pass)))
 (denb_cons (so den_newK)
 (denb_cons (slend ((ok_seen_in fx 8).mono (k := 13) (by omega)) fx.m_seen_in fx.p_seen_in.kp (bi_seen_in fx) (b1 (ixd v v u1) (b1 v (b1 v b0))) (l1 (l1 (l1 l0))) (hx := by exact body_pass))
 (denb_one (dens_ret (Den.frz (m := .f) (fun q => by cases q) (comp (deni_list (Den.frz (m := .f) (fun q => by cases q) (cb (cr_sortDct (by rfl)) ad_sortDct (at1 vt a0) fx.n_sorted))) (fun _ _ _ _ _ => tn) (fun _ _ _ _ _ => dents_nil) (fun _ _ _ _ _ => (den_tup (a1 v (a1 (ixd vt v u1) a0)))) [(("name" : Str), 5)])))))))
theorem bi_all_calls (fx : Fx K mg cl) : Binds K fx.d_all_calls ["calls"] [] := fx.p_all_calls.bindsN fun _ _ _ _ _ _ us hl => match us, hl with | [_], _ => rfl
theorem ok_all_calls (fx : Fx K mg cl) : ∀ j, FnOk P w K mg base (L2N.CX P w) (1 + j) fx.f_all_calls fx.d_all_calls ["calls"] (spD K T cl 1 (F_all_calls j))
  | 0 => def_no (k := 0) (N := ["calls", "found", "one"]) fx.p_all_calls ⟨rfl, rfl, rfl, by decide +kernel, rfl, by decide +kernel, by decide +kernel⟩
  | j + 1 => def_okD (N := ["calls", "found", "one"]) (k := 1 + j) fx.p_all_calls ⟨rfl, rfl, rfl, by decide +kernel, rfl, by decide +kernel, by decide +kernel⟩ (by decide) fun cdv A outer s H E hr => by
    have u2 := room2 hr
    have u1 := room1 hr
    have okS := ok_all_calls fx j
    unfold b_all_calls
    exact (denb_cons (so (den_lst a0))
 (denb_cons (sfor body_own (deni_tup v) tn
  (denb_cons (sapp v)
  (denb_one (sext (cf (okS) fx.m_all_calls fx.p_all_calls.kp (bi_all_calls fx) (a1 (ixt v dI) a0) (l1 l0) (hx := by exact body_pass))))))
 (denb_one (dens_frz (dens_ret v)))))
theorem bi_every (fx : Fx K mg cl) : Binds K fx.d_every ["trees_here"] [] := fx.p_every.bindsN fun _ _ _ _ _ _ us hl => match us, hl with | [_], _ => rfl
theorem ok_every (fx : Fx K mg cl) : FnOk P w K mg base (L2N.CX P w) 10 fx.f_every fx.d_every ["trees_here"] (spD K T cl 1 F_every) :=
  def_okD (N := ["trees_here", "found", "hand"]) (k := 9) fx.p_every ⟨rfl, rfl, rfl, by decide +kernel, rfl, by decide +kernel, by decide +kernel⟩ (by decide) fun cdv A outer s H E hr => by
    have u2 := room2 hr
    have u1 := room1 hr
    unfold b_every
    exact (denb_cons (so (den_lst a0))
 (denb_cons (sfor body_own (deni_list (Den.frz (m := .f) (fun q => by cases q) (cb (cr_sortDct (by rfl)) ad_sortDct (at1 (Den.now v) a0) fx.n_sorted))) tn
  (denb_one (sext (cf ((ok_all_calls fx 8).mono (k := 9) (by omega)) fx.m_all_calls fx.p_all_calls.kp (bi_all_calls fx) (a1 (ixd v v u1) a0) (l1 l0) (hx := by exact body_pass)))))
 (denb_one (dens_frz (dens_ret v)))))
theorem bi_whole (fx : Fx K mg cl) : Binds K fx.d_whole ["call"] [] := fx.p_whole.bindsN fun _ _ _ _ _ _ us hl => match us, hl with | [_], _ => rfl
theorem ok_whole (fx : Fx K mg cl) : FnOk P w K mg base (L2N.CX P w) 1 fx.f_whole fx.d_whole ["call"] (spD K T cl 1 F_whole) :=
  def_okD (N := ["call"]) (k := 0) fx.p_whole ⟨rfl, rfl, rfl, by decide +kernel, rfl, by decide +kernel, by decide +kernel⟩ (by decide) fun cdv A outer s H E hr => by
    have u2 := room2 hr
    have u1 := room1 hr
    unfold b_whole
    exact (denb_one (dens_ret (subi (ixt v dI) (ixt v dI))))
theorem bi_outer (fx : Fx K mg cl) : Binds K fx.d_outer ["calls", "around"] [] := fx.p_outer.bindsN fun _ _ _ _ _ _ us hl => match us, hl with | [_, _], _ => rfl
theorem ok_outer (fx : Fx K mg cl) : ∀ j, FnOk P w K mg base (L2N.CX P w) (2 + j) fx.f_outer fx.d_outer ["calls", "around"] (spD K T cl 2 (F_outer j))
  | 0 => def_no (k := 1) (N := ["calls", "around", "found", "one"]) fx.p_outer ⟨rfl, rfl, rfl, by decide +kernel, rfl, by decide +kernel, by decide +kernel⟩
  | j + 1 => def_okD (N := ["calls", "around", "found", "one"]) (k := 2 + j) fx.p_outer ⟨rfl, rfl, rfl, by decide +kernel, rfl, by decide +kernel, by decide +kernel⟩ (by decide) fun cdv A outer s H E hr => by
    have u2 := room2 hr
    have u1 := room1 hr
    have okS := ok_outer fx j
    unfold b_outer
    exact (denb_cons (so (den_lst a0))
 (denb_cons (sfor body_own (deni_tup v) tn
  (denb_cons (dens_if (tnif (ixt v dI) v)
   (denb_one (sapp (den_tup (a1 (ixt v dI) (a1 (cf ((ok_whole fx).mono (k := (2 + j)) (by omega)) fx.m_whole fx.p_whole.kp (bi_whole fx) (a1 v a0) (l1 l0) (hx := by exact body_pass)) a0)))))
   denb_nil)
  (denb_one (sext (cf (okS) fx.m_outer fx.p_outer.kp (bi_outer fx) (a1 (ixt v dI) (a1 (Den.frz (m := .f) (fun q => by cases q) (catl v (den_lst (a1 (ixt v dI) a0)))) a0)) (l1 (l1 l0)) (hx := by exact body_pass))))))
 (denb_one (dens_frz (dens_ret v)))))
theorem bi_own (fx : Fx K mg cl) : Binds K fx.d_own ["call"] [] := fx.p_own.bindsN fun _ _ _ _ _ _ us hl => match us, hl with | [_], _ => rfl
theorem ok_own (fx : Fx K mg cl) : FnOk P w K mg base (L2N.CX P w) 2 fx.f_own fx.d_own ["call"] (spD K T cl 1 F_own) :=
  def_okD (N := ["call", "one"]) (k := 1) fx.p_own ⟨rfl, rfl, rfl, by decide +kernel, rfl, by decide +kernel, by decide +kernel⟩ (by decide) fun cdv A outer s H E hr => by
    have u2 := room2 hr
    have u1 := room1 hr
    unfold b_own
    exact (denb_one (dens_ret (subi (cf ((ok_whole fx).mono (k := 1) (by omega)) fx.m_whole fx.p_whole.kp (bi_whole fx) (a1 v a0) (l1 l0) (hx := by exact body_pass)) (cb (cr_sum (by rfl)) ad_sum (at1 (Den.now (comp (deni_tup (ixt v dI)) (fun _ _ _ _ _ => tn) (fun _ _ _ _ _ => dents_nil) (fun _ _ _ _ _ => (cf ((ok_whole fx).mono (k := 1) (by omega)) fx.m_whole fx.p_whole.kp (bi_whole fx) (a1 v a0) (l1 l0) (hx := by exact passLN))) [(("one" : Str), 1)])) a0) fx.n_sum))))
theorem bi_table (fx : Fx K mg cl) : Binds K fx.d_table ["trees_here"] [] := fx.p_table.bindsN fun _ _ _ _ _ _ us hl => match us, hl with | [_], _ => rfl
theorem ok_table (fx : Fx K mg cl) : FnOk P w K mg base (L2N.CX P w) 12 fx.f_table fx.d_table ["trees_here"] (spD K T cl 1 F_table) :=
  def_okD (N := ["trees_here", "one", "hand", "counts", "wholes", "owns", "name", "time"]) (k := 11) fx.p_table ⟨rfl, rfl, rfl, by decide +kernel, rfl, by decide +kernel, by decide +kernel⟩ (by decide) fun cdv A outer s H E hr => by
    have u2 := room2 hr
    have u1 := room1 hr
    unfold b_table
    exact (denb_cons (sx (cf ((ok_need_trees fx).mono (k := 11) (by omega)) fx.m_need_trees fx.p_need_trees.kp (bi_need_trees fx) (a1 v a0) (l1 l0) (hx := by exact body_pass)))
 (denb_cons (sq3 den_newK den_newK den_newK)
 (denb_cons (sfor body_own (deni_list (cf ((ok_every fx).mono (k := 11) (by omega)) fx.m_every fx.p_every.kp (bi_every fx) (a1 v a0) (l1 l0) (hx := by exact body_pass))) tn
  (denb_cons (sput u1 (addi (m_get u1 vt (ixt v dI) dI) dI) (ixt v dI))
  (denb_one (sput u1 (addi (m_get u1 vt (ixt v dI) dI) (cf ((ok_own fx).mono (k := 11) (by omega)) fx.m_own fx.p_own.kp (bi_own fx) (a1 v a0) (l1 l0) (hx := by exact body_pass))) (ixt v dI)))))
 (denb_cons (sford body_own tn
  (denb_one (sfor body_own (deni_list (cf ((ok_outer fx 8).mono (k := 11) (by omega)) fx.m_outer fx.p_outer.kp (bi_outer fx) (a1 (ixd v v u1) (a1 (Den.frz (m := .f) (fun q => by cases q) (den_lst a0)) a0)) (l1 (l1 l0)) (hx := by exact body_pass))) (tt (t1 tn (t1 tn t0)))
   (denb_one (sput u1 (addi (m_get u1 vt v dI) v) v)))))
 (denb_one (dens_ret (Den.frz (m := .f) (fun q => by cases q) (comp (deni_list (Den.frz (m := .f) (fun q => by cases q) (cb (cr_sortDct (by rfl)) ad_sortDct (at1 vt a0) fx.n_sorted))) (fun _ _ _ _ _ => tn) (fun _ _ _ _ _ => dents_nil) (fun _ _ _ _ _ => (den_tup (a1 v (a1 (ixd vt v u1) (a1 (ixd vt v u1) (a1 (ixd vt v u1) a0)))))) [(("name" : Str), 6)]))))))))
theorem bi_law (fx : Fx K mg cl) : Binds K fx.d_law ["_law_script"] [] := fx.p_law.bindsN fun _ _ _ _ _ _ us hl => match us, hl with | [_], _ => rfl
theorem ok_law (fx : Fx K mg cl) : FnOk P w K mg base (L2N.CX P w) 15 fx.f_law fx.d_law ["_law_script"] (spD K T cl 1 F_law) :=
  def_okD (N := ["_law_script", "_law_k", "_law_more", "_law_some", "_law_hand", "_law_alone", "_law_whole_row", "_law_counts", "_law_both", "_law_first", "_law_step", "_law_half", "_law_rest", "_law_tick", "_law_path", "_law_name_here", "_law_count", "_law_pair", "_law_long", "_law_time"]) (k := 14) fx.p_law ⟨rfl, rfl, rfl, by decide +kernel, rfl, by decide +kernel, by decide +kernel⟩ (by decide) fun cdv A outer s H E hr => by
    have u2 := room2 hr
    have u1 := room1 hr
    unfold b_law
    exact (denb_cons (sfor body_own (r1 (a1 (cb (call_max2 (by rfl)) ad_max2 (at1 (Den.now dI) (at1 (Den.now (cb (call_min2 (by rfl)) ad_min2 (at1 (Den.now dI) (at1 (Den.now (cb call_len ad_len (at1 (Den.now v) a0) fx.n_len)) a0)) fx.n_min)) a0)) fx.n_max) a0) fx.n_range) tn
  (denb_cons (ss (cf ((ok__law_drawn fx).mono (k := 14) (by omega)) fx.m__law_drawn fx.p__law_drawn.kp (bi__law_drawn fx) (a1 (cf ((ok__law_cell fx).mono (k := 14) (by omega)) fx.m__law_cell fx.p__law_cell.kp (bi__law_cell fx) (a1 v (a1 v a0)) (l1 (l1 l0)) (hx := by exact body_pass)) (a1 v a0)) (l1 (l1 l0)) (hx := by exact body_pass)))
  (denb_cons (ss (cf ((ok__law_trees fx).mono (k := 14) (by omega)) fx.m__law_trees fx.p__law_trees.kp (bi__law_trees fx) (a1 (fdivi v dI) a0) (l1 l0) (hx := by exact body_pass)))
  (denb_one (sford body_own tn
   (denb_cons (ss (Den.frz (m := .f) (fun q => by cases q) (disp v (ixd v v u1))))
   (denb_cons (dens_if (tnea (cf ((ok_seen fx).mono (k := 14) (by omega)) fx.m_seen fx.p_seen.kp (bi_seen fx) (a1 v (a1 v (a1 dI (a1 dI a0)))) (l1 (l1 (l1 (l1 l0)))) (hx := by exact body_pass)) (comp (deni_list (cf ((ok_table fx).mono (k := 14) (by omega)) fx.m_table fx.p_table.kp (bi_table fx) (a1 v a0) (l1 l0) (hx := by exact body_pass))) (fun _ _ _ _ _ => (tt (t1 tn (t1 tn (t1 tn (t1 tn t0)))))) (fun _ _ _ _ _ => dents_nil) (fun _ _ _ _ _ => (den_tup (a1 v (a1 v a0)))) [(("_law_name_here" : Str), 15), (("_law_count" : Str), 16), (("_law_long" : Str), 18), (("_law_time" : Str), 19)]) u2)
    (denb_one (dens_ret dB))
    denb_nil)
   (denb_cons (sp2 (modi v dI) (addi dI (modi (fdivi v dI) dI)))
   (denb_cons (ss (cf ((ok_looks fx).mono (k := 14) (by omega)) fx.m_looks fx.p_looks.kp (bi_looks fx) (a1 v (a1 v (a1 v (a1 v a0)))) (l1 (l1 (l1 (l1 l0)))) (hx := by exact body_pass)))
   (denb_cons (sp2 (cf ((ok_looks fx).mono (k := 14) (by omega)) fx.m_looks fx.p_looks.kp (bi_looks fx) (a1 v (a1 v (a1 v (a1 (muli dI v) a0)))) (l1 (l1 (l1 (l1 l0)))) (hx := by exact body_pass)) (cf ((ok_looks fx).mono (k := 14) (by omega)) fx.m_looks fx.p_looks.kp (bi_looks fx) (a1 v (a1 v (a1 (addi v v) (a1 (muli dI v) a0)))) (l1 (l1 (l1 (l1 l0)))) (hx := by exact body_pass)))
   (denb_cons (dens_if (tnea (cb (cr_sortD u2) ad_sort (at1 (Den.now (catl v v)) a0) fx.n_sorted) v u2)
    (denb_one (dens_ret dB))
    denb_nil)
   (denb_cons (so den_newK)
   (denb_cons (sfor body_own (deni_list v) (tt (t1 tn (t1 tn t0)))
    (denb_one (sfor body_own (deni_tup (slt v (deno_some (den_neg dI)) deno_none)) tn
     (denb_one (sput u1 (addi (m_get u1 vt v dI) dI) v)))))
   (denb_cons (dens_if (tnea (comp (deni_list (cf ((ok_seen fx).mono (k := 14) (by omega)) fx.m_seen fx.p_seen.kp (bi_seen fx) (a1 v (a1 v (a1 v (a1 v a0)))) (l1 (l1 (l1 (l1 l0)))) (hx := by exact body_pass))) (fun _ _ _ _ _ => tn) (fun _ _ _ _ _ => (dents_one (tgti (ixt v dI) dI))) (fun _ _ _ _ _ => v) [(("_law_pair" : Str), 17)]) (srit u2 fx.n_sorted) u2)
    (denb_one (dens_ret dB))
    denb_nil)
   (denb_cons (so (cy (call_dictP (by rfl)) ad_dictP (at1 (Den.now (cf ((ok_seen fx).mono (k := 14) (by omega)) fx.m_seen fx.p_seen.kp (bi_seen fx) (a1 v (a1 v (a1 v (a1 (muli dI v) a0)))) (l1 (l1 (l1 (l1 l0)))) (hx := by exact body_pass))) a0) fx.n_dict))
   (denb_cons (sfor body_own (deni_list (cf ((ok_seen fx).mono (k := 14) (by omega)) fx.m_seen fx.p_seen.kp (bi_seen fx) (a1 v (a1 v (a1 (addi v v) (a1 (muli dI v) a0)))) (l1 (l1 (l1 (l1 l0)))) (hx := by exact body_pass))) (tt (t1 tn (t1 tn t0)))
    (denb_one (sput u1 (addi (ixd vt v u1) v) v)))
   (denb_one (dens_if (tnea (srit u2 fx.n_sorted) (cf ((ok_seen fx).mono (k := 14) (by omega)) fx.m_seen fx.p_seen.kp (bi_seen fx) (a1 v (a1 v (a1 v (a1 v a0)))) (l1 (l1 (l1 (l1 l0)))) (hx := by exact body_pass)) u2)
    (denb_one (dens_ret dB))
    denb_nil))))))))))))))))))
 (denb_one (dens_ret dB)))
end
end
end K51

set_option Elab.async false
set_option linter.all false
set_option maxRecDepth 100000
set_option maxHeartbeats 0
namespace K51
open PySem PySem.Spec PyProof.Rows L2 VS
/-! ### the head -/
def dd__law_drawn : He.DefD := ⟨("_law_drawn", none), "_law_drawn", "_law_drawn", defArgs (top 34), defBody (top 34), defScope (top 34), [], []⟩
def dd__law_name : He.DefD := ⟨("_law_name", none), "_law_name", "_law_name", defArgs (top 35), defBody (top 35), defScope (top 35), [], []⟩
def dd__law_calls : He.DefD := ⟨("_law_calls", none), "_law_calls", "_law_calls", defArgs (top 36), defBody (top 36), defScope (top 36), [], []⟩
def dd__law_trees : He.DefD := ⟨("_law_trees", none), "_law_trees", "_law_trees", defArgs (top 37), defBody (top 37), defScope (top 37), [], []⟩
def dd__law_cell : He.DefD := ⟨("_law_cell", none), "_law_cell", "_law_cell", defArgs (top 33), defBody (top 33), defScope (top 33), [], []⟩
def dd_is_name : He.DefD := ⟨("is_name", none), "is_name", "is_name", defArgs (top 11), defBody (top 11), defScope (top 11), [], []⟩
def dd_is_count : He.DefD := ⟨("is_count", none), "is_count", "is_count", defArgs (top 10), defBody (top 10), defScope (top 10), [], []⟩
def dd_are_calls : He.DefD := ⟨("are_calls", none), "are_calls", "are_calls", defArgs (top 13), defBody (top 13), defScope (top 13), [], []⟩
def dd_need_trees : He.DefD := ⟨("need_trees", none), "need_trees", "need_trees", defArgs (top 14), defBody (top 14), defScope (top 14), [], []⟩
def dd_need_hand : He.DefD := ⟨("need_hand", none), "need_hand", "need_hand", defArgs (top 18), defBody (top 18), defScope (top 18), [], []⟩
def dd_last_of : He.DefD := ⟨("last_of", none), "last_of", "last_of", defArgs (top 22), defBody (top 22), defScope (top 22), [], []⟩
def dd_look : He.DefD := ⟨("look", none), "look", "look", defArgs (top 23), defBody (top 23), defScope (top 23), [], []⟩
def dd_stack_in : He.DefD := ⟨("stack_in", none), "stack_in", "stack_in", defArgs (top 19), defBody (top 19), defScope (top 19), [], []⟩
def dd_looks : He.DefD := ⟨("looks", none), "looks", "looks", defArgs (top 24), defBody (top 24), defScope (top 24), [], []⟩
def dd_ticks_in : He.DefD := ⟨("ticks_in", none), "ticks_in", "ticks_in", defArgs (top 25), defBody (top 25), defScope (top 25), [], []⟩
def dd_seen_in : He.DefD := ⟨("seen_in", none), "seen_in", "seen_in", defArgs (top 26), defBody (top 26), defScope (top 26), [], []⟩
def dd_seen : He.DefD := ⟨("seen", none), "seen", "seen", defArgs (top 27), defBody (top 27), defScope (top 27), [], []⟩
def dd_all_calls : He.DefD := ⟨("all_calls", none), "all_calls", "all_calls", defArgs (top 17), defBody (top 17), defScope (top 17), [], []⟩
def dd_every : He.DefD := ⟨("every", none), "every", "every", defArgs (top 30), defBody (top 30), defScope (top 30), [], []⟩
def dd_whole : He.DefD := ⟨("whole", none), "whole", "whole", defArgs (top 15), defBody (top 15), defScope (top 15), [], []⟩
def dd_outer : He.DefD := ⟨("outer", none), "outer", "outer", defArgs (top 29), defBody (top 29), defScope (top 29), [], []⟩
def dd_own : He.DefD := ⟨("own", none), "own", "own", defArgs (top 16), defBody (top 16), defScope (top 16), [], []⟩
def dd_table : He.DefD := ⟨("table", none), "table", "table", defArgs (top 31), defBody (top 31), defScope (top 31), [], []⟩
def dd_law : He.DefD := ⟨("law", none), "law", "law", defArgs (top 38), defBody (top 38), defScope (top 38), [], []⟩
def fn : List He.DefD := [dd__law_drawn, dd__law_name, dd__law_calls, dd__law_trees, dd__law_cell, dd_is_name, dd_is_count, dd_are_calls, dd_need_trees, dd_need_hand, dd_last_of, dd_look, dd_stack_in, dd_looks, dd_ticks_in, dd_seen_in, dd_seen, dd_all_calls, dd_every, dd_whole, dd_outer, dd_own, dd_table, dd_law]
def fa : List He.Fa := [.glo "_law_drawn", .glo "_law_name", .glo "_law_calls", .glo "_law_trees", .glo "_law_cell", .glo "is_name", .glo "is_count", .glo "are_calls", .glo "need_trees", .glo "need_hand", .glo "last_of", .glo "look", .glo "stack_in", .glo "looks", .glo "ticks_in", .glo "seen_in", .glo "seen", .glo "all_calls", .glo "every", .glo "whole", .glo "outer", .glo "own", .glo "table", .glo "law", .free "all", .free "bool", .free "dict", .free "int", .free "isinstance", .free "len", .free "max", .free "min", .free "range", .free "sorted", .free "str", .free "sum", .free "tuple", .int "MOST_TICK" 1000000, .int "MOST_HAND" 4, .int "MOST_NAME" 8, .str "SMALL" "abcdefghijklmnopqrstuvwxyz", .int "MOST_LOOKS" 2000, .glo "BadTick", .exc "BadTick", .glo "BadTrees", .exc "BadTrees", .glo "NoHand", .exc "NoHand"]
abbrev RR : PySem.W.OpenRow := PySem.W.OpenLaw.row PySem.Challenge.rw_calltimes_k51_whole_looks_and_times
abbrev hk : PySem.W.Hook := He.hookD 4 fa fn
def ob (s : PySem.W.SharedT) : He.AlD := He.obsDG 4 fa fn (HandSHeadRun.getT s)
theorem ob_eq (s : PySem.W.SharedT) : ob s = hk.obs s.abs := He.obsDG_eq (HandSHeadRun.getT_eq s)
def loose : List Str := [("CallError" : Str), ("BadTrees" : Str), ("BadTick" : Str), ("NoHand" : Str), ("MOST_TICK" : Str), ("MOST_HAND" : Str), ("MOST_NAME" : Str), ("SMALL" : Str), ("is_count" : Str), ("is_name" : Str), ("are_calls" : Str), ("need_trees" : Str), ("whole" : Str), ("own" : Str), ("all_calls" : Str), ("need_hand" : Str), ("stack_in" : Str), ("MOST_LOOKS" : Str), ("last_of" : Str), ("look" : Str), ("looks" : Str), ("ticks_in" : Str), ("seen_in" : Str), ("seen" : Str), ("outer" : Str), ("every" : Str), ("table" : Str), ("_law_cell" : Str), ("_law_drawn" : Str), ("_law_name" : Str), ("_law_calls" : Str), ("_law_trees" : Str)]
theorem run (w : World) : HandSHeadRun.RunEq RR (PySem.W.view RR.prog [38]) hk ob 4000 loose w := by
  intro os
  kernel_rfl
theorem facts {K : PySem.W.Frag} {h : Heap} {mg : Str → Option Value} {f : Addr} (X : K.In h) (G : h.Ns mainGlobals mg) (hfa : mg ("law" : Str) = some (.ref f)) (c : He.SaysD fa fn K) : ∃ fx : Fx K mg (He.ga K), fx.f_law = f := by
  obtain ⟨d__law_drawn, p__law_drawn⟩ := c.def_ 0 (d := dd__law_drawn) rfl
  obtain ⟨d__law_name, p__law_name⟩ := c.def_ 1 (d := dd__law_name) rfl
  obtain ⟨d__law_calls, p__law_calls⟩ := c.def_ 2 (d := dd__law_calls) rfl
  obtain ⟨d__law_trees, p__law_trees⟩ := c.def_ 3 (d := dd__law_trees) rfl
  obtain ⟨d__law_cell, p__law_cell⟩ := c.def_ 4 (d := dd__law_cell) rfl
  obtain ⟨d_is_name, p_is_name⟩ := c.def_ 5 (d := dd_is_name) rfl
  obtain ⟨d_is_count, p_is_count⟩ := c.def_ 6 (d := dd_is_count) rfl
  obtain ⟨d_are_calls, p_are_calls⟩ := c.def_ 7 (d := dd_are_calls) rfl
  obtain ⟨d_need_trees, p_need_trees⟩ := c.def_ 8 (d := dd_need_trees) rfl
  obtain ⟨d_need_hand, p_need_hand⟩ := c.def_ 9 (d := dd_need_hand) rfl
  obtain ⟨d_last_of, p_last_of⟩ := c.def_ 10 (d := dd_last_of) rfl
  obtain ⟨d_look, p_look⟩ := c.def_ 11 (d := dd_look) rfl
  obtain ⟨d_stack_in, p_stack_in⟩ := c.def_ 12 (d := dd_stack_in) rfl
  obtain ⟨d_looks, p_looks⟩ := c.def_ 13 (d := dd_looks) rfl
  obtain ⟨d_ticks_in, p_ticks_in⟩ := c.def_ 14 (d := dd_ticks_in) rfl
  obtain ⟨d_seen_in, p_seen_in⟩ := c.def_ 15 (d := dd_seen_in) rfl
  obtain ⟨d_seen, p_seen⟩ := c.def_ 16 (d := dd_seen) rfl
  obtain ⟨d_all_calls, p_all_calls⟩ := c.def_ 17 (d := dd_all_calls) rfl
  obtain ⟨d_every, p_every⟩ := c.def_ 18 (d := dd_every) rfl
  obtain ⟨d_whole, p_whole⟩ := c.def_ 19 (d := dd_whole) rfl
  obtain ⟨d_outer, p_outer⟩ := c.def_ 20 (d := dd_outer) rfl
  obtain ⟨d_own, p_own⟩ := c.def_ 21 (d := dd_own) rfl
  obtain ⟨d_table, p_table⟩ := c.def_ 22 (d := dd_table) rfl
  obtain ⟨d_law, p_law⟩ := c.def_ 23 (d := dd_law) rfl
  have e := hfa.symm.trans (He.glo_ok X G (c.fact 23 (f := .glo "law") rfl))
  have e2 := Option.some.inj e
  exact ⟨{ f__law_drawn := _, d__law_drawn := d__law_drawn, p__law_drawn := p__law_drawn, m__law_drawn := He.glo_ok X G (c.fact 0 (f := .glo "_law_drawn") rfl),
           f__law_name := _, d__law_name := d__law_name, p__law_name := p__law_name, m__law_name := He.glo_ok X G (c.fact 1 (f := .glo "_law_name") rfl),
           f__law_calls := _, d__law_calls := d__law_calls, p__law_calls := p__law_calls, m__law_calls := He.glo_ok X G (c.fact 2 (f := .glo "_law_calls") rfl),
           f__law_trees := _, d__law_trees := d__law_trees, p__law_trees := p__law_trees, m__law_trees := He.glo_ok X G (c.fact 3 (f := .glo "_law_trees") rfl),
           f__law_cell := _, d__law_cell := d__law_cell, p__law_cell := p__law_cell, m__law_cell := He.glo_ok X G (c.fact 4 (f := .glo "_law_cell") rfl),
           f_is_name := _, d_is_name := d_is_name, p_is_name := p_is_name, m_is_name := He.glo_ok X G (c.fact 5 (f := .glo "is_name") rfl),
           f_is_count := _, d_is_count := d_is_count, p_is_count := p_is_count, m_is_count := He.glo_ok X G (c.fact 6 (f := .glo "is_count") rfl),
           f_are_calls := _, d_are_calls := d_are_calls, p_are_calls := p_are_calls, m_are_calls := He.glo_ok X G (c.fact 7 (f := .glo "are_calls") rfl),
           f_need_trees := _, d_need_trees := d_need_trees, p_need_trees := p_need_trees, m_need_trees := He.glo_ok X G (c.fact 8 (f := .glo "need_trees") rfl),
           f_need_hand := _, d_need_hand := d_need_hand, p_need_hand := p_need_hand, m_need_hand := He.glo_ok X G (c.fact 9 (f := .glo "need_hand") rfl),
           f_last_of := _, d_last_of := d_last_of, p_last_of := p_last_of, m_last_of := He.glo_ok X G (c.fact 10 (f := .glo "last_of") rfl),
           f_look := _, d_look := d_look, p_look := p_look, m_look := He.glo_ok X G (c.fact 11 (f := .glo "look") rfl),
           f_stack_in := _, d_stack_in := d_stack_in, p_stack_in := p_stack_in, m_stack_in := He.glo_ok X G (c.fact 12 (f := .glo "stack_in") rfl),
           f_looks := _, d_looks := d_looks, p_looks := p_looks, m_looks := He.glo_ok X G (c.fact 13 (f := .glo "looks") rfl),
           f_ticks_in := _, d_ticks_in := d_ticks_in, p_ticks_in := p_ticks_in, m_ticks_in := He.glo_ok X G (c.fact 14 (f := .glo "ticks_in") rfl),
           f_seen_in := _, d_seen_in := d_seen_in, p_seen_in := p_seen_in, m_seen_in := He.glo_ok X G (c.fact 15 (f := .glo "seen_in") rfl),
           f_seen := _, d_seen := d_seen, p_seen := p_seen, m_seen := He.glo_ok X G (c.fact 16 (f := .glo "seen") rfl),
           f_all_calls := _, d_all_calls := d_all_calls, p_all_calls := p_all_calls, m_all_calls := He.glo_ok X G (c.fact 17 (f := .glo "all_calls") rfl),
           f_every := _, d_every := d_every, p_every := p_every, m_every := He.glo_ok X G (c.fact 18 (f := .glo "every") rfl),
           f_whole := _, d_whole := d_whole, p_whole := p_whole, m_whole := He.glo_ok X G (c.fact 19 (f := .glo "whole") rfl),
           f_outer := _, d_outer := d_outer, p_outer := p_outer, m_outer := He.glo_ok X G (c.fact 20 (f := .glo "outer") rfl),
           f_own := _, d_own := d_own, p_own := p_own, m_own := He.glo_ok X G (c.fact 21 (f := .glo "own") rfl),
           f_table := _, d_table := d_table, p_table := p_table, m_table := He.glo_ok X G (c.fact 22 (f := .glo "table") rfl),
           f_law := _, d_law := d_law, p_law := p_law, m_law := He.glo_ok X G (c.fact 23 (f := .glo "law") rfl),
           n_all := He.free_ok X G (c.fact 24 (f := .free "all") rfl),
           n_bool := He.free_ok X G (c.fact 25 (f := .free "bool") rfl),
           n_dict := He.free_ok X G (c.fact 26 (f := .free "dict") rfl),
           n_int := He.free_ok X G (c.fact 27 (f := .free "int") rfl),
           n_isinstance := He.free_ok X G (c.fact 28 (f := .free "isinstance") rfl),
           n_len := He.free_ok X G (c.fact 29 (f := .free "len") rfl),
           n_max := He.free_ok X G (c.fact 30 (f := .free "max") rfl),
           n_min := He.free_ok X G (c.fact 31 (f := .free "min") rfl),
           n_range := He.free_ok X G (c.fact 32 (f := .free "range") rfl),
           n_sorted := He.free_ok X G (c.fact 33 (f := .free "sorted") rfl),
           n_str := He.free_ok X G (c.fact 34 (f := .free "str") rfl),
           n_sum := He.free_ok X G (c.fact 35 (f := .free "sum") rfl),
           n_tuple := He.free_ok X G (c.fact 36 (f := .free "tuple") rfl),
           c_MOST_TICK := He.int_ok X G (c.fact 37 (f := .int "MOST_TICK" 1000000) rfl),
           c_MOST_HAND := He.int_ok X G (c.fact 38 (f := .int "MOST_HAND" 4) rfl),
           c_MOST_NAME := He.int_ok X G (c.fact 39 (f := .int "MOST_NAME" 8) rfl),
           c_SMALL := He.str_ok X G (c.fact 40 (f := .str "SMALL" "abcdefghijklmnopqrstuvwxyz") rfl),
           c_MOST_LOOKS := He.int_ok X G (c.fact 41 (f := .int "MOST_LOOKS" 2000) rfl),
           e_BadTick := ⟨He.glo_ok X G (c.fact 42 (f := .glo "BadTick") rfl), (He.exc_ok (c.fact 43 (f := .exc "BadTick") rfl)).1, (He.exc_ok (c.fact 43 (f := .exc "BadTick") rfl)).2.1, (He.exc_ok (c.fact 43 (f := .exc "BadTick") rfl)).2.2.1, (He.exc_ok (c.fact 43 (f := .exc "BadTick") rfl)).2.2.2⟩,
           e_BadTrees := ⟨He.glo_ok X G (c.fact 44 (f := .glo "BadTrees") rfl), (He.exc_ok (c.fact 45 (f := .exc "BadTrees") rfl)).1, (He.exc_ok (c.fact 45 (f := .exc "BadTrees") rfl)).2.1, (He.exc_ok (c.fact 45 (f := .exc "BadTrees") rfl)).2.2.1, (He.exc_ok (c.fact 45 (f := .exc "BadTrees") rfl)).2.2.2⟩,
           e_NoHand := ⟨He.glo_ok X G (c.fact 46 (f := .glo "NoHand") rfl), (He.exc_ok (c.fact 47 (f := .exc "NoHand") rfl)).1, (He.exc_ok (c.fact 47 (f := .exc "NoHand") rfl)).2.1, (He.exc_ok (c.fact 47 (f := .exc "NoHand") rfl)).2.2.1, (He.exc_ok (c.fact 47 (f := .exc "NoHand") rfl)).2.2.2⟩ }, (Value.ref.inj e2).symm⟩
end K51
open PySem PySem.W PySem.Calls PyProof.Rows in
theorem K51.holds_of (plain : ∀ ns : List Int, ns.length ≤ 63 → VP.F_law [.scr ns] = .ok (.bl true)) : PySem.Challenge.rw_calltimes_k51_whole_looks_and_times.Holds := by
  w_on; o_law
  refine HandSHeadRun.head_any (r := OpenLaw.row PySem.Challenge.rw_calltimes_k51_whole_looks_and_times) (q := view (OpenLaw.row PySem.Challenge.rw_calltimes_k51_whole_looks_and_times).prog [38]) (H := K51.hk) (ob := K51.ob) (M := 4000) (loose := K51.loose) (d := HandSHeadRun.topDef (OpenLaw.row PySem.Challenge.rw_calltimes_k51_whole_looks_and_times).prog 38) (kwd := []) K51.ob_eq
    (by kernel_rfl) (fun s => by kernel_rfl) K51.run (by kernel_rfl) (by kernel_rfl) (by kernel_rfl) (by rfl) (by first | assumption | decide +kernel) (by decide +kernel) ⟨rfl, rfl, rfl, rfl, rfl, by decide +kernel⟩ ?hw ?hc
  case hw => w_witness2
  case hc =>
    refine L2.walk_ofE (l := PySem.Challenge.rw_calltimes_k51_whole_looks_and_times) (n := 63) (k := 15) (x := "_law_script") (CX := L2.CX0) rfl (by decide) (by kernel_rfl) ⟨rfl, by decide, by decide⟩ ?F (fun _ _ _ _ z => z)
    intro w mg fa h Y G hmg0
    obtain ⟨K, KX, c⟩ := Y
    have hmg : mg ("law" : PySem.Str) = some (.ref fa) := by
      have e : (HandSHeadRun.topDef (OpenLaw.row PySem.Challenge.rw_calltimes_k51_whole_looks_and_times).prog 38).name = ("law" : PySem.Str) := by kernel_rfl
      rw [← e]
      exact hmg0
    obtain ⟨fx, rfl⟩ := K51.facts KX G hmg c
    exact ⟨K, fx.d_law, (fun vs H Q _ => VS.spD K [] (He.ga K) 1 VP.F_law vs H Q L2.E0), KX, fun s v => L2.FunD.bindsA (ps := ["_law_script"]) fx.p_law (fun _ _ _ _ _ _ us hl => match us, hl with | [_], _ => rfl) s [v] rfl, fun H a ns hl ho hS => VS.law_sp ho hS (plain ns hl), fun base _ _ => VS.fnOk0 (K51.ok_law (T := []) (cl := He.ga K) fx)⟩

set_option Elab.async false
set_option linter.all false
set_option maxRecDepth 100000
set_option maxHeartbeats 1000000
namespace VP
open PySem PySem.Spec PyProof.Rows L2 LamX VS
/-! the plain side: calls as a forest -/
inductive Cals where
  | nil | cons (n : Str) (a b : Int) (i r : Cals)
def toDs : Cals → List D
  | .nil => [] | .cons n a b i r => .tup [.str n, .int a, .int b, .tup (toDs i)] :: toDs r
abbrev cD (c : Cals) : D := .tup (toDs c)
abbrev one (n : Str) (a b : Int) (i : Cals) : D := .tup [.str n, .int a, .int b, .tup (toDs i)]
theorem toDs_cons (n : Str) (a b : Int) (i r : Cals) : toDs (.cons n a b i r) = one n a b i :: toDs r := rfl
theorem toDs_nil : toDs .nil = [] := rfl
/-! evaluation -/
section
variable {ρ : VS.Env} {f f' : D → D → R D} {g h k : VS.Env → R D} {fa : List D → R D} {ga : VS.Env → R (List D)} {c c' : VS.Env → R Bool} {o o' : VS.Env → Out}
@[simp] theorem e_op : geOp f g h ρ = (g ρ >>= fun x => h ρ >>= fun y => f x y) := rfl
@[simp] theorem e_A : geA fa ga ρ = (ga ρ >>= fa) := rfl
@[simp] theorem e_1 {f1 : D → R D} : ge1 f1 g ρ = (g ρ >>= f1) := rfl
@[simp] theorem e_nil : gaNil ρ = .ok [] := rfl
@[simp] theorem e_cons : gaCons g ga ρ = (g ρ >>= fun d => ga ρ >>= fun ds => .ok (d :: ds)) := rfl
@[simp] theorem e_I (i : Int) : gI i ρ = .ok (.int i) := rfl
@[simp] theorem e_S (i : Str) : gS i ρ = .ok (.str i) := rfl
@[simp] theorem e_B (i : Bool) : gB i ρ = .ok (.bl i) := rfl
@[simp] theorem e_N : gN ρ = .ok .non := rfl
@[simp] theorem e_gB : geB g ρ = (g ρ >>= boolOf) := rfl
@[simp] theorem e_gO : geOfB c ρ = (c ρ >>= fun b => .ok (.bl b)) := rfl
@[simp] theorem e_bl (b : Bool) : boolOf (.bl b) = .ok b := rfl
@[simp] theorem e_not : gNot c ρ = (c ρ >>= fun b => .ok (!b)) := rfl
@[simp] theorem e_and : gAnd c c' ρ = (c ρ >>= fun b => if b then c' ρ else .ok false) := rfl
@[simp] theorem e_or : gOr c c' ρ = (c ρ >>= fun b => if b then .ok true else c' ρ) := rfl
@[simp] theorem e_andV : gAndV g h ρ = (g ρ >>= boolOf >>= fun b => if b then h ρ else .ok (.bl false)) := rfl
@[simp] theorem e_orV : gOrV g h ρ = (g ρ >>= boolOf >>= fun b => if b then .ok (.bl true) else h ρ) := rfl
@[simp] theorem e_if : geIf c g h ρ = (c ρ >>= fun b => if b then g ρ else h ρ) := rfl
@[simp] theorem e_chain : geChain f f' g h k ρ = (g ρ >>= fun x => h ρ >>= fun y => (f x y >>= boolOf) >>= fun b => if b then (k ρ >>= fun z => f' y z) else .ok (.bl false)) := rfl
@[simp] theorem e_seq : seqO o o' ρ = (match o ρ with | .nx ρ' => o' ρ' | .rt d => .rt d | .bk ρ' => .bk ρ' | .ct ρ' => .ct ρ' | .ex c => .ex c | .no => .no) := rfl
@[simp] theorem e_ifO : ifO c o o' ρ = (match c ρ with | .ok b => if b then o ρ else o' ρ | .ex c => .ex c | .no => .no) := rfl
@[simp] theorem e_ofR (d : D) (q : D → Out) : ofR (.ok d) q = q d := rfl
@[simp] theorem e_run (n : Nat) (ds : List D) : runDef n o ds = (match o (startE n ds) with | .nx _ => .ok .non | .rt d => .ok d | .ex c => .ex c | _ => .no) := rfl
@[simp] theorem e_V (i : Nat) : geV i ρ = (match ρ[i]? with | some (.im d) => .ok d | _ => .no) := rfl
@[simp] theorem e_T (i : Nat) : geT i ρ = (match ρ[i]? with | some (.im d) => .ok d | some (.ow ds) => .ok (.lst ds) | some (.oK kvs) => .ok (.dK kvs) | some (.oT kvs) => .ok (.dT kvs) | some (.bK _ kvs) => .ok (.dK kvs) | _ => .no) := rfl
@[simp] theorem e_addI (i j : Int) : addI (.int i) (.int j) = .ok (.int (i + j)) := rfl
@[simp] theorem e_subI (i j : Int) : subI (.int i) (.int j) = .ok (.int (i - j)) := rfl
@[simp] theorem e_cmI (p : Int → Int → Bool) (i j : Int) : cmI p (.int i) (.int j) = .ok (.bl (p i j)) := rfl
@[simp] theorem e_tupD (ds : List D) (h : ds.length ≤ sizeLine) : tupD ds = .ok (.tup ds) := by unfold tupD; rw [if_pos h]
@[simp] theorem e_own (i : Nat) : ownO i g ρ = ofR (g ρ) fun d => match slOf d with | some sl => .nx (ρ.set i sl) | none => .no := rfl
@[simp] theorem e_app (i : Nat) : appO i g ρ = (match ρ[i]? with | some (.ow ds) => ofR (g ρ) fun d => if ds.length < sizeLine then .nx (ρ.set i (.ow (ds ++ [d]))) else .no | _ => .no) := rfl
@[simp] theorem e_for {t : Tg} {gi : VS.Env → R (List D)} : forO t gi o ρ = (match gi ρ with | .ok ds => runFor (bindT t) o ds ρ | .ex c => .ex c | .no => .no) := rfl
@[simp] theorem e_itL (ds : List D) : itL (.lst ds) = .ok ds := rfl
@[simp] theorem e_itT (ds : List D) : itT (.tup ds) = .ok ds := rfl
@[simp] theorem e_gSeq {q : D → R (List D)} : gSeq q g ρ = (g ρ >>= q) := rfl
@[simp] theorem e_gSeqA {q : List D → R (List D)} : gSeqA q ga ρ = (ga ρ >>= q) := rfl
end
theorem lstD_ok {ds : List D} (h : ds.length ≤ sizeLine) : lstD ds = .ok (.lst ds) := by unfold lstD; rw [if_pos h]
theorem catL_ok {ds es : List D} (h : ds.length + es.length ≤ sizeLine) : catL (.lst ds) (.lst es) = .ok (.lst (ds ++ es)) := by unfold catL; dsimp only; rw [if_pos h]
theorem sl0 : 0 ≤ sizeLine := Nat.zero_le _
theorem sl_ge {n : Nat} (h : n ≤ 16777216) : n ≤ sizeLine := by rw [sizeLine_eq]; exact h

theorem whole_eq (n : Str) (a b : Int) (i : Cals) : F_whole [one n a b i] = .ok (.int (b - a)) := rfl
theorem is_count_eq (i lo hi : Int) : F_is_count [.int i, .int lo, .int hi] = .ok (.bl (decide (lo ≤ i) && decide (i ≤ hi))) := by
  by_cases h : lo ≤ i <;> simp [F_is_count, b_is_count, startE, isiD, isTy, tyD, h]
/-! stack_in -/
def stk : Cals → Int → List Str
  | .nil, _ => [] | .cons n a b i r, t => if a ≤ t ∧ t < b then n :: stk i t else stk r t
def dep : Cals → Nat
  | .nil => 0 | .cons _ _ _ i r => max (dep i + 1) (dep r)
theorem stk_cons (n : Str) (a b : Int) (i r : Cals) (t : Int) : stk (.cons n a b i r) t = if a ≤ t ∧ t < b then n :: stk i t else stk r t := rfl
theorem dep_cons (n : Str) (a b : Int) (i r : Cals) : dep (.cons n a b i r) = max (dep i + 1) (dep r) := rfl
theorem stk_len (c : Cals) (t : Int) : (stk c t).length ≤ dep c := by
  induction c with
  | nil => simp [stk, dep]
  | cons n a b i r hi hr =>
    unfold stk dep
    split
    · rw [List.length_cons]; omega
    · omega
def b_stk (self : List D → R D) : VS.Env → Out := ifO (geB (geChain (cmI fun i j => decide (i ≤ j)) (cmI fun i j => decide (i < j)) (geV 3) (geV 1) (geV 4)))
   (fun ρ => ofR ((geOp catL (geA lstD (gaCons (geV 2) gaNil)) (geA self (gaCons (geV 5) (gaCons (geV 1) gaNil)))) ρ) .rt)
   .nx
def t_4 : Tg := .tp (.cons (.nm 2) (.cons (.nm 3) (.cons (.nm 4) (.cons (.nm 5) .nil))))
theorem bind4 (n : Str) (a b : Int) (i : Cals) (x0 x1 s2 s3 s4 s5 : Sl) : bindT t_4 (one n a b i) [x0, x1, s2, s3, s4, s5] = .ok [x0, x1, .im (.str n), .im (.int a), .im (.int b), .im (cD i)] := rfl
theorem b_stk_no {self : List D → R D} {t a b : Int} {x0 x2 x5 : Sl} (h : ¬ (a ≤ t ∧ t < b)) : b_stk self [x0, .im (.int t), x2, .im (.int a), .im (.int b), x5] = .nx [x0, .im (.int t), x2, .im (.int a), .im (.int b), x5] := by
  by_cases h1 : a ≤ t
  · have h2 : ¬ t < b := fun q => h ⟨h1, q⟩
    simp [b_stk, h1, h2]
  · simp [b_stk, h1]
theorem b_stk_yes {self : List D → R D} {t a b : Int} {n : Str} {i : Cals} {x0 : Sl} {l : List D} (h : a ≤ t ∧ t < b) (hs : self [cD i, .int t] = .ok (.lst l)) (hl : 1 + l.length ≤ sizeLine) :
    b_stk self [x0, .im (.int t), .im (.str n), .im (.int a), .im (.int b), .im (cD i)] = .rt (.lst (.str n :: l)) := by
  have h1 : lstD [D.str n] = .ok (.lst [.str n]) := lstD_ok (sl_ge (by show 1 ≤ _; omega))
  have h2 : catL (.lst [D.str n]) (.lst l) = .ok (.lst (.str n :: l)) := catL_ok hl
  simp [b_stk, h.1, h.2, h1, h2, hs]
theorem stk_for {self : List D → R D} {t : Int} : ∀ (c : Cals), (∀ i : Cals, dep i < dep c → self [cD i, .int t] = .ok (.lst ((stk i t).map .str))) → dep c ≤ 1000 → ∀ (x0 s2 s3 s4 s5 : Sl),
    runFor (bindT t_4) (b_stk self) (toDs c) [x0, .im (.int t), s2, s3, s4, s5] = .rt (.lst ((stk c t).map .str)) ∨ (stk c t = [] ∧ ∃ u2 u3 u4 u5, runFor (bindT t_4) (b_stk self) (toDs c) [x0, .im (.int t), s2, s3, s4, s5] = .nx [x0, .im (.int t), u2, u3, u4, u5])
  | .nil, _, _, x0, s2, s3, s4, s5 => .inr ⟨rfl, s2, s3, s4, s5, rfl⟩
  | .cons n a b i r, hs, hd, x0, s2, s3, s4, s5 => by
    have d1 : dep i < dep (.cons n a b i r) := by rw [dep_cons]; omega
    have d2 : dep r ≤ dep (.cons n a b i r) := by rw [dep_cons]; omega
    rw [toDs_cons]
    unfold runFor
    rw [bind4]
    dsimp only
    by_cases h : a ≤ t ∧ t < b
    · left
      have hl := stk_len i t
      rw [b_stk_yes h (hs i d1) (by rw [List.length_map]; exact sl_ge (by omega))]
      rw [stk_cons, if_pos h]; rfl
    · rw [b_stk_no h]
      have ih := stk_for (self := self) (t := t) r (fun j hj => hs j (by omega)) (by omega) x0 (.im (.str n)) (.im (.int a)) (.im (.int b)) (.im (cD i))
      have e : stk (.cons n a b i r) t = stk r t := by rw [stk_cons, if_neg h]
      rw [e]
      exact ih
theorem stack_in_eq : ∀ (j : Nat) (c : Cals) (t : Int), dep c < j → dep c ≤ 1000 → F_stack_in j [cD c, .int t] = .ok (.lst ((stk c t).map .str))
  | 0, c, t, h, _ => by omega
  | j + 1, c, t, h, h2 => by
    have key := stk_for (self := F_stack_in j) (t := t) c (fun i hi => stack_in_eq j i t (by omega) (by omega)) h2 (.im (cD c)) .un .un .un .un
    have l0 : lstD [] = .ok (.lst []) := lstD_ok sl0
    have e : F_stack_in (j + 1) [cD c, .int t] = (match (match runFor (bindT t_4) (b_stk (F_stack_in j)) (toDs c) [.im (cD c), .im (.int t), .un, .un, .un, .un] with | .nx ρ' => ofR (lstD []) .rt | .rt d => .rt d | .bk ρ' => .bk ρ' | .ct ρ' => .ct ρ' | .ex c => .ex c | .no => .no) with | .nx _ => .ok .non | .rt d => .ok d | .ex c => .ex c | _ => .no) := rfl
    rw [e]
    rcases key with k | ⟨k1, u2, u3, u4, u5, k⟩
    · rw [k]
    · rw [k, l0, k1]; rfl
end VP

set_option Elab.async false
set_option linter.all false
set_option maxRecDepth 100000
set_option maxHeartbeats 1000000
namespace VP
open PySem PySem.Spec PyProof.Rows L2 LamX VS
def NM : List Str := ["a", "b", "c", "ab", "work", "abcdefgh"]
theorem is_name_eq : ∀ n ∈ NM, F_is_name [.str n] = .ok (.bl true) := by
  intro n hn
  unfold NM at hn
  rcases List.mem_cons.mp hn with rfl | hn; · rfl
  rcases List.mem_cons.mp hn with rfl | hn; · rfl
  rcases List.mem_cons.mp hn with rfl | hn; · rfl
  rcases List.mem_cons.mp hn with rfl | hn; · rfl
  rcases List.mem_cons.mp hn with rfl | hn; · rfl
  rcases List.mem_cons.mp hn with rfl | hn; · rfl
  cases hn
theorem comp_map {α : Type} {b : D → VS.Env → R VS.Env} {tt : VS.Env → R Bool} {g : VS.Env → R D} {ρ : VS.Env} {u : α → D} {p : α → Bool} {h : α → D} : ∀ l : List α, (∀ x ∈ l, ∃ ρ1, b (u x) ρ = .ok ρ1 ∧ tt ρ1 = .ok (p x) ∧ (p x = true → g ρ1 = .ok (h x))) →
    runComp b tt g ρ (l.map u) = .ok ((l.filter p).map h)
  | [], _ => rfl
  | x :: l, H => by
    obtain ⟨ρ1, h1, h2, h3⟩ := H x List.mem_cons_self
    have ih := comp_map l fun y hy => H y (List.mem_cons_of_mem _ hy)
    rw [List.map_cons]
    unfold runComp
    rw [h1]; dsimp only
    rw [h2]
    cases e : p x with
    | true => dsimp only; rw [h3 e, ih, List.filter_cons_of_pos e, List.map_cons]
    | false => dsimp only; rw [ih, List.filter_cons_of_neg (by rw [e]; decide)]
theorem comp_all {α : Type} {b : D → VS.Env → R VS.Env} {g : VS.Env → R D} {ρ : VS.Env} {u : α → D} {h : α → D} (l : List α) (H : ∀ x ∈ l, ∃ ρ1, b (u x) ρ = .ok ρ1 ∧ g ρ1 = .ok (h x)) :
    runComp b (fun _ => .ok true) g ρ (l.map u) = .ok (l.map h) := by
  have := comp_map (b := b) (tt := fun _ => .ok true) (g := g) (ρ := ρ) (u := u) (p := fun _ => true) (h := h) l fun x hx => by
    obtain ⟨ρ1, h1, h2⟩ := H x hx
    exact ⟨ρ1, h1, rfl, fun _ => h2⟩
  rw [this, List.filter_eq_self.mpr (fun _ _ => rfl)]
theorem compE_all {α : Type} {t : Tg} {vs : List Nat} {gi : VS.Env → R (List D)} {g : VS.Env → R D} {ρ : VS.Env} {u : α → D} {h : α → D} (l : List α) (hi : gi ρ = .ok (l.map u)) (hl : l.length ≤ sizeLine) (H : ∀ x ∈ l, ∃ ρ1, bindT t (u x) (wipeE ρ vs) = .ok ρ1 ∧ g ρ1 = .ok (h x)) :
    compE t vs gi (fun _ => .ok true) g ρ = .ok (.lst (l.map h)) := by
  unfold compE
  rw [hi]; dsimp only
  rw [if_pos (by rw [List.length_map]; exact hl), comp_all l H]
theorem compE_filter {α : Type} {t : Tg} {vs : List Nat} {gi : VS.Env → R (List D)} {g : VS.Env → R D} {tt : VS.Env → R Bool} {p : α → Bool} {ρ : VS.Env} {u : α → D} {h : α → D} (l : List α) (hi : gi ρ = .ok (l.map u)) (hl : l.length ≤ sizeLine)
    (H : ∀ x ∈ l, ∃ ρ1, bindT t (u x) (wipeE ρ vs) = .ok ρ1 ∧ tt ρ1 = .ok (p x) ∧ (p x = true → g ρ1 = .ok (h x))) : compE t vs gi tt g ρ = .ok (.lst ((l.filter p).map h)) := by
  unfold compE
  rw [hi]; dsimp only
  rw [if_pos (by rw [List.length_map]; exact hl), comp_map l H]
/-- a loop that ends: its invariant by what is done -/
theorem for_inv {α : Type} {b : D → VS.Env → R VS.Env} {f : VS.Env → Out} {u : α → D} (Inv : List α → VS.Env → Prop) : ∀ (rest done : List α) (ρ : VS.Env), Inv done ρ →
    (∀ dn x rs ρ, dn ++ x :: rs = done ++ rest → Inv dn ρ → ∃ ρ1 ρ2, b (u x) ρ = .ok ρ1 ∧ (f ρ1 = .nx ρ2 ∨ f ρ1 = .ct ρ2) ∧ Inv (dn ++ [x]) ρ2) → ∃ ρ', runFor b f (rest.map u) ρ = .nx ρ' ∧ Inv (done ++ rest) ρ'
  | [], done, ρ, h0, _ => ⟨ρ, rfl, by rw [List.append_nil]; exact h0⟩
  | x :: rest, done, ρ, h0, H => by
    obtain ⟨ρ1, ρ2, h1, h2, h3⟩ := H done x rest ρ rfl h0
    obtain ⟨ρ', h4, h5⟩ := for_inv Inv rest (done ++ [x]) ρ2 h3 fun dn y rs ρ e hi => H dn y rs ρ (by rw [e, List.append_assoc]; rfl) hi
    refine ⟨ρ', ?_, by rw [List.append_assoc] at h5; exact h5⟩
    rw [List.map_cons]
    unfold runFor
    rw [h1]; dsimp only
    rcases h2 with h2 | h2 <;> rw [h2] <;> exact h4
theorem for_all {α : Type} {b : D → VS.Env → R VS.Env} {f : VS.Env → Out} {u : α → D} (Inv : List α → VS.Env → Prop) (l : List α) (ρ : VS.Env) (h0 : Inv [] ρ)
    (H : ∀ dn x rs ρ, dn ++ x :: rs = l → Inv dn ρ → ∃ ρ1 ρ2, b (u x) ρ = .ok ρ1 ∧ (f ρ1 = .nx ρ2 ∨ f ρ1 = .ct ρ2) ∧ Inv (dn ++ [x]) ρ2) : ∃ ρ', runFor b f (l.map u) ρ = .nx ρ' ∧ Inv l ρ' := by
  have := for_inv Inv l [] ρ h0 H
  simpa using this
/-! tops -/
structure Nd where
  n : Str
  a : Int
  b : Int
  i : Cals
def tops : Cals → List Nd
  | .nil => [] | .cons n a b i r => ⟨n, a, b, i⟩ :: tops r
def ndD (q : Nd) : D := one q.n q.a q.b q.i
theorem toDs_tops : ∀ c, toDs c = (tops c).map ndD
  | .nil => rfl
  | .cons n a b i r => by rw [toDs_cons, toDs_tops r]; rfl
theorem dep_tops {c : Cals} {q : Nd} (h : q ∈ tops c) : dep q.i < dep c := by
  induction c with
  | nil => cases h
  | cons n a b i r hi hr =>
    rw [dep_cons]
    rcases List.mem_cons.mp h with rfl | h
    · show dep i < _; omega
    · have := hr h; omega
/-- how many calls -/
def cnt : Cals → Nat
  | .nil => 0 | .cons _ _ _ i r => 1 + cnt i + cnt r
theorem cnt_cons (n : Str) (a b : Int) (i r : Cals) : cnt (.cons n a b i r) = 1 + cnt i + cnt r := rfl
theorem tops_len (c : Cals) : (tops c).length ≤ cnt c := by
  induction c with
  | nil => exact Nat.le_refl _
  | cons n a b i r hi hr => rw [cnt_cons]; show (tops r).length + 1 ≤ _; omega
theorem cnt_tops {c : Cals} {q : Nd} (h : q ∈ tops c) : cnt q.i < cnt c := by
  induction c with
  | nil => cases h
  | cons n a b i r hi hr =>
    rw [cnt_cons]
    rcases List.mem_cons.mp h with rfl | h
    · show cnt i < _; omega
    · have := hr h; omega
theorem dep_cnt (c : Cals) : dep c ≤ cnt c := by
  induction c with
  | nil => exact Nat.le_refl _
  | cons n a b i r hi hr => rw [cnt_cons, dep_cons]; omega
/-! depth_of -/
theorem maxI_eq {ns : List Int} {m : Int} (h1 : m ∈ ns) (h2 : ∀ y ∈ ns, y ≤ m) : maxI ns = m := by
  have := maxI_is ns (fun e => by rw [e] at h1; cases h1)
  have a := this.2 m h1
  have b := h2 _ this.1
  omega
theorem intsD_map : ∀ ns : List Int, intsD (ns.map .int) = some ns
  | [] => rfl
  | n :: ns => by rw [List.map_cons, intsD, intsD_map ns]; rfl
end VP

set_option Elab.async false
set_option linter.all false
set_option maxRecDepth 100000
set_option maxHeartbeats 1000000
namespace VP
open PySem PySem.Spec PyProof.Rows L2 LamX VS
theorem dep_max (c : Cals) : maxI (0 :: (tops c).map fun q => (1 + dep q.i : Int)) = dep c := by
  refine maxI_eq ?_ ?_
  · induction c with
    | nil => exact List.mem_cons_self
    | cons n a b i r hi hr =>
      rw [dep_cons]
      show _ ∈ (0 : Int) :: (1 + dep i : Int) :: _
      by_cases h : dep r ≤ dep i + 1
      · rw [Nat.max_eq_left h]; exact List.mem_cons_of_mem _ (by rw [List.mem_cons]; left; push_cast; omega)
      · rw [Nat.max_eq_right (by omega)]
        rcases List.mem_cons.mp hr with e | e
        · omega
        · exact List.mem_cons_of_mem _ (List.mem_cons_of_mem _ e)
  · intro y hy
    rcases List.mem_cons.mp hy with rfl | hy
    · omega
    · obtain ⟨q, hq, rfl⟩ := List.mem_map.mp hy
      have := dep_tops hq
      omega
theorem depth_of_eq : ∀ (j : Nat) (c : Cals), dep c < j → cnt c ≤ 10000 → F_depth_of j [cD c] = .ok (.int (dep c))
  | 0, c, h, _ => by omega
  | j + 1, c, h, hc => by
    have hl := tops_len c
    have hcomp : compE (.nm 1) [1] (gSeq itT (geV 0)) (fun _ => .ok true) (geOp addI (gI 1) (geA (F_depth_of j) (gaCons (geOp ixT (geV 1) (gI 3)) gaNil))) [.im (cD c), .un] = .ok (.lst ((tops c).map fun q => .int (1 + dep q.i))) := by
      refine compE_all (u := ndD) (h := fun q : Nd => .int (1 + dep q.i)) (tops c) ?_ (sl_ge (by omega)) fun q hq => ⟨[.im (cD c), .im (ndD q)], rfl, ?_⟩
      · show R.ok (toDs c) = _; rw [toDs_tops]
      · have h1 := dep_tops hq
        have h2 := cnt_tops hq
        have ih := depth_of_eq j q.i (by omega) (by omega)
        have e : geOp ixT (geV 1) (gI 3) [.im (cD c), .im (ndD q)] = .ok (cD q.i) := rfl
        simp only [e_op, e_A, e_cons, e_nil, e_I, R.ok_bind] at e ⊢
        rw [e]
        simp only [R.ok_bind]
        rw [ih]; rfl
    have h0 : lstD [D.int 0] = .ok (.lst [.int 0]) := lstD_ok (sl_ge (by show 1 ≤ _; omega))
    have h1 : catL (.lst [D.int 0]) (.lst ((tops c).map fun q => .int (1 + dep q.i))) = .ok (.lst ((0 :: (tops c).map fun q => (1 + dep q.i : Int)).map .int)) := by
      rw [catL_ok (sl_ge (by rw [List.length_map]; show 1 + _ ≤ _; omega)), List.map_cons, List.map_map]; rfl
    have h2 : maxL [.lst ((0 :: (tops c).map fun q => (1 + dep q.i : Int)).map .int)] = .ok (.int (dep c)) := by
      unfold maxL
      dsimp only
      rw [intsD_map]
      dsimp only
      rw [dep_max]
    have st : startE 2 [cD c] = [.im (cD c), .un] := rfl
    simp [F_depth_of, b_depth_of, C_depth_of_1, st, hcomp, h0, h1, h2, -List.map_cons, -List.map_map]

/-! are_calls: drawn calls are calls -/
def val : Cals → Int → Int → Prop
  | .nil, _, _ => True | .cons n a b i r, lo, hi => n ∈ NM ∧ lo ≤ a ∧ a ≤ b ∧ b ≤ hi ∧ val i a b ∧ val r b hi
theorem val_cons {n : Str} {a b : Int} {i r : Cals} {lo hi : Int} : val (.cons n a b i r) lo hi = (n ∈ NM ∧ lo ≤ a ∧ a ≤ b ∧ b ≤ hi ∧ val i a b ∧ val r b hi) := rfl
theorem val_up : ∀ {c : Cals} {lo hi hi' : Int}, val c lo hi → hi ≤ hi' → val c lo hi'
  | .nil, _, _, _, _, _ => trivial
  | .cons n a b i r, lo, hi, hi', h, k => by
    rw [val_cons] at h ⊢
    exact ⟨h.1, h.2.1, h.2.2.1, by omega, h.2.2.2.2.1, val_up h.2.2.2.2.2 k⟩
def b_are (self : List D → R D) : VS.Env → Out := (seqO (ifO (gOr (gNot (geB (ge1 (isiD .tuple) (geV 3)))) (gOr (geB (geOp cmNe (geA lenD (gaCons (geV 3) gaNil)) (gI 4))) (gOr (gNot (geB (geA F_is_name (gaCons (geOp ixT (geV 3) (gI 0)) gaNil)))) (gNot (geB (geA F_is_count (gaCons (geOp ixT (geV 3) (gI 1)) (gaCons (geV 1) (gaCons (geV 2) gaNil)))))))))
   (fun ρ => ofR ((gB false) ρ) .rt)
   .nx)
  (seqO (ifO (gOr (gNot (geB (geA F_is_count (gaCons (geOp ixT (geV 3) (gI 2)) (gaCons (geOp ixT (geV 3) (gI 1)) (gaCons (geV 2) gaNil)))))) (gNot (geB (geA self (gaCons (geOp ixT (geV 3) (gI 3)) (gaCons (geOp ixT (geV 3) (gI 1)) (gaCons (geOp ixT (geV 3) (gI 2)) gaNil)))))))
   (fun ρ => ofR ((gB false) ρ) .rt)
   .nx)
  (fun ρ => ofR ((geOp ixT (geV 3) (gI 2)) ρ) fun d => .nx (ρ.set 1 (.im d)))))
theorem b_are_step {self : List D → R D} {x0 : Sl} {lo hi : Int} {n : Str} {a b : Int} {i : Cals} (hn : n ∈ NM) (h1 : lo ≤ a) (h2 : a ≤ b) (h3 : b ≤ hi) (hs : self [cD i, .int a, .int b] = .ok (.bl true)) :
    b_are self [x0, .im (.int lo), .im (.int hi), .im (one n a b i)] = .nx [x0, .im (.int b), .im (.int hi), .im (one n a b i)] := by
  have e0 : geOp ixT (geV 3) (gI 0) [x0, .im (.int lo), .im (.int hi), .im (one n a b i)] = .ok (.str n) := rfl
  have e1 : geOp ixT (geV 3) (gI 1) [x0, .im (.int lo), .im (.int hi), .im (one n a b i)] = .ok (.int a) := rfl
  have e2 : geOp ixT (geV 3) (gI 2) [x0, .im (.int lo), .im (.int hi), .im (one n a b i)] = .ok (.int b) := rfl
  have e3 : geOp ixT (geV 3) (gI 3) [x0, .im (.int lo), .im (.int hi), .im (one n a b i)] = .ok (cD i) := rfl
  have e4 : geB (ge1 (isiD .tuple) (geV 3)) [x0, .im (.int lo), .im (.int hi), .im (one n a b i)] = .ok true := rfl
  have e5 : geB (geOp cmNe (geA lenD (gaCons (geV 3) gaNil)) (gI 4)) [x0, .im (.int lo), .im (.int hi), .im (one n a b i)] = .ok false := rfl
  have e6 : F_is_count [.int a, .int lo, .int hi] = .ok (.bl true) := by rw [is_count_eq, decide_eq_true h1, decide_eq_true (by omega : a ≤ hi)]; rfl
  have e7 : F_is_count [.int b, .int a, .int hi] = .ok (.bl true) := by rw [is_count_eq, decide_eq_true h2, decide_eq_true h3]; rfl
  have e8 := is_name_eq n hn
  have v1 : geV 1 [x0, .im (.int lo), .im (.int hi), .im (one n a b i)] = .ok (.int lo) := rfl
  have v2 : geV 2 [x0, .im (.int lo), .im (.int hi), .im (one n a b i)] = .ok (.int hi) := rfl
  simp only [b_are, e_seq, e_ifO, e_or, e_not, e4, e5, R.ok_bind]
  simp only [e_gB, e_A, e_cons, e_nil, e0, e1, e2, e3, v1, v2, R.ok_bind, e6, e7, e8, hs, e_bl, Bool.not_true, Bool.false_eq_true, if_false, e_ofR]
  rfl
theorem are_for {self : List D → R D} {hi : Int} : ∀ (c : Cals) (lo : Int), val c lo hi → (∀ (i : Cals) (a b : Int), dep i < dep c → val i a b → self [cD i, .int a, .int b] = .ok (.bl true)) → ∀ (x0 s3 : Sl),
    ∃ lo' u3, runFor (bindT (.nm 3)) (b_are self) (toDs c) [x0, .im (.int lo), .im (.int hi), s3] = .nx [x0, .im (.int lo'), .im (.int hi), u3]
  | .nil, lo, _, _, x0, s3 => ⟨lo, s3, rfl⟩
  | .cons n a b i r, lo, v, hs, x0, s3 => by
    rw [val_cons] at v
    have d1 : dep i < dep (.cons n a b i r) := by rw [dep_cons]; omega
    have d2 : dep r ≤ dep (.cons n a b i r) := by rw [dep_cons]; omega
    obtain ⟨lo', u3, e⟩ := are_for (self := self) r b v.2.2.2.2.2 (fun j a b hj => hs j a b (by omega)) x0 (.im (one n a b i))
    refine ⟨lo', u3, ?_⟩
    rw [toDs_cons]
    unfold runFor
    have e1 : bindT (.nm 3) (one n a b i) [x0, .im (.int lo), .im (.int hi), s3] = .ok [x0, .im (.int lo), .im (.int hi), .im (one n a b i)] := rfl
    rw [e1]; dsimp only
    rw [b_are_step v.1 v.2.1 v.2.2.1 v.2.2.2.1 (hs i a b d1 v.2.2.2.2.1)]
    exact e
theorem are_calls_eq : ∀ (j : Nat) (c : Cals) (lo hi : Int), dep c < j → val c lo hi → F_are_calls j [cD c, .int lo, .int hi] = .ok (.bl true)
  | 0, c, lo, hi, h, _ => by omega
  | j + 1, c, lo, hi, h, v => by
    obtain ⟨lo', u3, e⟩ := are_for (self := F_are_calls j) c lo v (fun i a b hi v => are_calls_eq j i a b (by omega) v) (.im (cD c)) .un
    have e1 : geB (ge1 (isiD .tuple) (geV 0)) [.im (cD c), .im (.int lo), .im (.int hi), .un] = .ok true := rfl
    have e2 : gSeq itT (geV 0) [.im (cD c), .im (.int lo), .im (.int hi), .un] = .ok (toDs c) := rfl
    have st : startE 4 [cD c, .int lo, .int hi] = [.im (cD c), .im (.int lo), .im (.int hi), .un] := rfl
    show runDef 4 (b_are_calls (F_are_calls j)) _ = _
    unfold b_are_calls L_are_calls_1
    simp only [e_run, st, e_seq, e_ifO, e_not, e1, R.ok_bind, Bool.not_true, Bool.false_eq_true, if_false, e_for, e2]
    unfold b_are at e
    rw [e]
    rfl
end VP

set_option Elab.async false
set_option linter.all false
set_option maxRecDepth 100000
set_option maxHeartbeats 1000000
namespace VP
open PySem PySem.Spec PyProof.Rows L2 LamX VS
/-! all calls -/
def allq : Cals → List Nd
  | .nil => [] | .cons n a b i r => ⟨n, a, b, i⟩ :: (allq i ++ allq r)
theorem allq_len (c : Cals) : (allq c).length = cnt c := by
  induction c with
  | nil => rfl
  | cons n a b i r hi hr => show (_ :: (allq i ++ allq r)).length = _; rw [List.length_cons, List.length_append, hi, hr, cnt_cons]; omega
def b_all (self : List D → R D) : VS.Env → Out := (seqO (appO 1 (geV 2)) (extO 1 (geA self (gaCons (geOp ixT (geV 2) (gI 3)) gaNil))))
theorem b_all_step {self : List D → R D} {x0 : Sl} {acc : List D} {q : Nd} {l : List D} (hs : self [cD q.i] = .ok (.lst l)) (hl : acc.length + 1 + l.length ≤ sizeLine) :
    b_all self [x0, .ow acc, .im (ndD q)] = .nx [x0, .ow (acc ++ ndD q :: l), .im (ndD q)] := by
  have h1 : appO 1 (geV 2) [x0, .ow acc, .im (ndD q)] = .nx [x0, .ow (acc ++ [ndD q]), .im (ndD q)] := by
    simp [show acc.length < sizeLine by omega]
  have e3 : geOp ixT (geV 2) (gI 3) [x0, .ow (acc ++ [ndD q]), .im (ndD q)] = .ok (cD q.i) := rfl
  have e4 : geA self (gaCons (geOp ixT (geV 2) (gI 3)) gaNil) [x0, .ow (acc ++ [ndD q]), .im (ndD q)] = .ok (.lst l) := by
    simp only [e_A, e_cons, e_nil, e3, R.ok_bind, hs]
  simp only [b_all, e_seq, h1]
  unfold extO
  simp only [List.getElem?_cons_succ, List.getElem?_cons_zero, e4, e_ofR, itemsD]
  rw [if_pos (by rw [List.length_append, List.length_cons, List.length_nil]; omega)]
  simp
theorem all_for {self : List D → R D} : ∀ (c : Cals), (∀ q ∈ tops c, self [cD q.i] = .ok (.lst ((allq q.i).map ndD))) → ∀ (x0 s2 : Sl) (acc : List D), acc.length + cnt c ≤ sizeLine →
    ∃ u2, runFor (bindT (.nm 2)) (b_all self) (toDs c) [x0, .ow acc, s2] = .nx [x0, .ow (acc ++ (allq c).map ndD), u2]
  | .nil, _, x0, s2, acc, _ => ⟨s2, by rw [toDs_nil]; show Out.nx _ = _; simp [allq]⟩
  | .cons n a b i r, hs, x0, s2, acc, hl => by
    rw [cnt_cons] at hl
    have hl2 : ((allq i).map ndD).length = cnt i := by rw [List.length_map, allq_len]
    obtain ⟨u2, e⟩ := all_for (self := self) r (fun q hq => hs q (List.mem_cons_of_mem _ hq)) x0 (.im (one n a b i)) (acc ++ one n a b i :: (allq i).map ndD) (by rw [List.length_append, List.length_cons, hl2]; omega)
    refine ⟨u2, ?_⟩
    rw [toDs_cons]
    unfold runFor
    have e1 : bindT (.nm 2) (one n a b i) [x0, .ow acc, s2] = .ok [x0, .ow acc, .im (one n a b i)] := rfl
    rw [e1]; dsimp only
    have e2 := b_all_step (self := self) (x0 := x0) (acc := acc) (q := ⟨n, a, b, i⟩) (hs ⟨n, a, b, i⟩ List.mem_cons_self) (by rw [hl2]; omega)
    have e2' : b_all self [x0, .ow acc, .im (one n a b i)] = .nx [x0, .ow (acc ++ one n a b i :: (allq i).map ndD), .im (one n a b i)] := e2
    rw [e2']; dsimp only
    rw [e]
    have e3 : acc ++ one n a b i :: (allq i).map ndD ++ (allq r).map ndD = acc ++ (allq (.cons n a b i r)).map ndD := by
      show _ = acc ++ (one n a b i :: ((allq i ++ allq r).map ndD))
      rw [List.map_append, List.append_assoc]; rfl
    rw [e3]
theorem all_calls_eq : ∀ (j : Nat) (c : Cals), dep c < j → cnt c ≤ 100000 → F_all_calls j [cD c] = .ok (.lst ((allq c).map ndD))
  | 0, c, h, _ => by omega
  | j + 1, c, h, hc => by
    obtain ⟨u2, e⟩ := all_for (self := F_all_calls j) c (fun q hq => all_calls_eq j q.i (by have := dep_tops hq; omega) (by have := cnt_tops hq; omega)) (.im (cD c)) .un [] (sl_ge (by show 0 + _ ≤ _; omega))
    have st : startE 3 [cD c] = [.im (cD c), .un, .un] := rfl
    have e0 : lstD [] = .ok (.lst []) := lstD_ok sl0
    have e1 : ownO 1 (geA lstD gaNil) [.im (cD c), .un, .un] = .nx [.im (cD c), .ow [], .un] := by simp [e0, slOf]
    have e2 : gSeq itT (geV 0) [.im (cD c), .ow [], .un] = .ok (toDs c) := rfl
    show runDef 3 (b_all_calls (F_all_calls j)) _ = _
    unfold b_all_calls L_all_calls_1
    unfold b_all at e
    simp only [e_run, st, e_seq, e1, e_for, e2, e]
    simp [frzO, frzSl, frozen]
/-! outer -/
def outq : Cals → List Str → List (Str × Int)
  | .nil, _ => [] | .cons n a b i r, ar => (if n ∈ ar then [] else [(n, b - a)]) ++ (outq i (ar ++ [n]) ++ outq r ar)
theorem outq_cons (n : Str) (a b : Int) (i r : Cals) (ar : List Str) : outq (.cons n a b i r) ar = (if n ∈ ar then [] else [(n, b - a)]) ++ (outq i (ar ++ [n]) ++ outq r ar) := rfl
theorem outq_len (c : Cals) : ∀ ar, (outq c ar).length ≤ cnt c := by
  induction c with
  | nil => intro ar; exact Nat.le_refl _
  | cons n a b i r hi hr =>
    intro ar
    have h1 := hi (ar ++ [n])
    have h2 := hr ar
    rw [outq_cons, cnt_cons, List.length_append, List.length_append]
    split <;> simp <;> omega
def pD (p : Str × Int) : D := .tup [.str p.1, .int p.2]
theorem eqD_str (x y : Str) : eqD (.str x) (.str y) = decide (x = y) := by
  unfold eqD toPy
  by_cases h : x = y
  · subst h; simp [PyData.eqv]
  · simp [PyData.eqv, h]
theorem inF_str {neg : Bool} (n : Str) (ar : List Str) : inF neg (.str n) (.lst (ar.map .str)) = .ok (.bl (if neg then !decide (n ∈ ar) else decide (n ∈ ar))) := by
  unfold inF
  have h1 : ((ar.map D.str).all flatD) = true := by rw [List.all_map]; exact List.all_eq_true.mpr fun _ _ => rfl
  have h2 : ((ar.map D.str).any fun d => eqD d (.str n)) = decide (n ∈ ar) := by
    rw [List.any_map, Bool.eq_iff_iff, List.any_eq_true, decide_eq_true_eq]
    constructor
    · rintro ⟨x, hx, e⟩
      have := eqD_str x n
      have e' : eqD (.str x) (.str n) = true := e
      rw [this, decide_eq_true_eq] at e'
      exact e' ▸ hx
    · intro h; exact ⟨n, h, by show eqD (.str n) (.str n) = true; rw [eqD_str]; simp⟩
  simp only [itemsD, flatD, h1, h2, Bool.and_self, if_true]
end VP

set_option Elab.async false
set_option linter.all false
set_option maxRecDepth 100000
set_option maxHeartbeats 1000000
namespace VP
open PySem PySem.Spec PyProof.Rows L2 LamX VS
abbrev sL (ar : List Str) : D := .lst (ar.map .str)
def b_out (self : List D → R D) : VS.Env → Out := (seqO (ifO (geB (geOp (inF true) (geOp ixT (geV 3) (gI 0)) (geV 1)))
   (appO 2 (geA tupD (gaCons (geOp ixT (geV 3) (gI 0)) (gaCons (geA F_whole (gaCons (geV 3) gaNil)) gaNil))))
   .nx)
  (extO 2 (geA self (gaCons (geOp ixT (geV 3) (gI 3)) (gaCons (geOp catL (geV 1) (geA lstD (gaCons (geOp ixT (geV 3) (gI 0)) gaNil))) gaNil)))))
theorem b_out_step {self : List D → R D} {x0 : Sl} {acc : List D} {ar : List Str} {q : Nd} {l : List D} (hs : self [cD q.i, sL (ar ++ [q.n])] = .ok (.lst l)) (ha : ar.length + 1 ≤ sizeLine) (hl : acc.length + 1 + l.length ≤ sizeLine) :
    b_out self [x0, .im (sL ar), .ow acc, .im (ndD q)] = .nx [x0, .im (sL ar), .ow (acc ++ (if q.n ∈ ar then [] else [pD (q.n, q.b - q.a)]) ++ l), .im (ndD q)] := by
  have e0 : ∀ acc, geOp ixT (geV 3) (gI 0) [x0, .im (sL ar), .ow acc, .im (ndD q)] = .ok (.str q.n) := fun _ => rfl
  have e3 : ∀ acc, geOp ixT (geV 3) (gI 3) [x0, .im (sL ar), .ow acc, .im (ndD q)] = .ok (cD q.i) := fun _ => rfl
  have v1 : ∀ acc, geV 1 [x0, .im (sL ar), .ow acc, .im (ndD q)] = .ok (sL ar) := fun _ => rfl
  have v3 : ∀ acc, geV 3 [x0, .im (sL ar), .ow acc, .im (ndD q)] = .ok (ndD q) := fun _ => rfl
  have w : F_whole [ndD q] = .ok (.int (q.b - q.a)) := whole_eq q.n q.a q.b q.i
  have l1 : lstD [D.str q.n] = .ok (.lst [.str q.n]) := lstD_ok (sl_ge (by show 1 ≤ _; omega))
  have c1 : catL (sL ar) (.lst [D.str q.n]) = .ok (sL (ar ++ [q.n])) := by
    rw [catL_ok (by rw [List.length_map]; exact ha)]
    simp
  have ext : ∀ acc', acc'.length + l.length ≤ sizeLine → extO 2 (geA self (gaCons (geOp ixT (geV 3) (gI 3)) (gaCons (geOp catL (geV 1) (geA lstD (gaCons (geOp ixT (geV 3) (gI 0)) gaNil))) gaNil))) [x0, .im (sL ar), .ow acc', .im (ndD q)] = .nx [x0, .im (sL ar), .ow (acc' ++ l), .im (ndD q)] := by
    intro acc' h
    have e4 : geA self (gaCons (geOp ixT (geV 3) (gI 3)) (gaCons (geOp catL (geV 1) (geA lstD (gaCons (geOp ixT (geV 3) (gI 0)) gaNil))) gaNil)) [x0, .im (sL ar), .ow acc', .im (ndD q)] = .ok (.lst l) := by
      have e5 : geOp catL (geV 1) (geA lstD (gaCons (geOp ixT (geV 3) (gI 0)) gaNil)) [x0, .im (sL ar), .ow acc', .im (ndD q)] = .ok (sL (ar ++ [q.n])) := by
        rw [e_op, v1, R.ok_bind, e_A, e_cons, e0, R.ok_bind, e_nil, R.ok_bind, R.ok_bind, l1, R.ok_bind, c1]
      rw [e_A, e_cons, e3, R.ok_bind, e_cons, e5, R.ok_bind, e_nil, R.ok_bind, R.ok_bind, R.ok_bind, hs]
    unfold extO
    simp only [List.getElem?_cons_succ, List.getElem?_cons_zero, e4, e_ofR, itemsD]
    rw [if_pos h]
    rfl
  have t0 : geB (geOp (inF true) (geOp ixT (geV 3) (gI 0)) (geV 1)) [x0, .im (sL ar), .ow acc, .im (ndD q)] = .ok (!decide (q.n ∈ ar)) := by
    rw [e_gB, e_op, e0, R.ok_bind, v1, R.ok_bind, inF_str]; rfl
  unfold b_out
  rw [e_seq, e_ifO, t0]
  by_cases h : q.n ∈ ar
  · rw [decide_eq_true h, if_pos h, List.append_nil]
    exact ext acc (by omega)
  · rw [decide_eq_false h, if_neg h]
    have a1 : appO 2 (geA tupD (gaCons (geOp ixT (geV 3) (gI 0)) (gaCons (geA F_whole (gaCons (geV 3) gaNil)) gaNil))) [x0, .im (sL ar), .ow acc, .im (ndD q)] = .nx [x0, .im (sL ar), .ow (acc ++ [pD (q.n, q.b - q.a)]), .im (ndD q)] := by
      have e6 : geA tupD (gaCons (geOp ixT (geV 3) (gI 0)) (gaCons (geA F_whole (gaCons (geV 3) gaNil)) gaNil)) [x0, .im (sL ar), .ow acc, .im (ndD q)] = .ok (pD (q.n, q.b - q.a)) := by
        rw [e_A, e_cons, e0, R.ok_bind, e_cons, e_A, e_cons, v3, R.ok_bind, e_nil, R.ok_bind, R.ok_bind, w, R.ok_bind, R.ok_bind, R.ok_bind, R.ok_bind]
        exact e_tupD _ (sl_ge (by show 2 ≤ _; omega))
      rw [e_app]
      simp only [List.getElem?_cons_succ, List.getElem?_cons_zero, e6, e_ofR]
      rw [if_pos (by omega)]
      rfl
    simp only [Bool.not_false, if_true, a1]
    exact ext _ (by rw [List.length_append, List.length_cons, List.length_nil]; omega)
theorem out_for {self : List D → R D} {ar : List Str} : ∀ (c : Cals), (∀ q ∈ tops c, self [cD q.i, sL (ar ++ [q.n])] = .ok (.lst ((outq q.i (ar ++ [q.n])).map pD))) → ar.length ≤ 1000 → ∀ (x0 s2 : Sl) (acc : List D), acc.length + cnt c ≤ sizeLine →
    ∃ u2, runFor (bindT (.nm 3)) (b_out self) (toDs c) [x0, .im (sL ar), .ow acc, s2] = .nx [x0, .im (sL ar), .ow (acc ++ (outq c ar).map pD), u2]
  | .nil, _, _, x0, s2, acc, _ => ⟨s2, by rw [toDs_nil]; show Out.nx _ = _; simp [outq]⟩
  | .cons n a b i r, hs, ha, x0, s2, acc, hl => by
    rw [cnt_cons] at hl
    have hl2 := outq_len i (ar ++ [n])
    have e2 := b_out_step (self := self) (x0 := x0) (acc := acc) (ar := ar) (q := ⟨n, a, b, i⟩) (hs ⟨n, a, b, i⟩ List.mem_cons_self) (sl_ge (by omega)) (by rw [List.length_map]; show acc.length + 1 + (outq i (ar ++ [n])).length ≤ _; omega)
    have e2' : b_out self [x0, .im (sL ar), .ow acc, .im (one n a b i)] = .nx [x0, .im (sL ar), .ow (acc ++ (if n ∈ ar then [] else [pD (n, b - a)]) ++ (outq i (ar ++ [n])).map pD), .im (one n a b i)] := e2
    obtain ⟨u2, e⟩ := out_for (self := self) r (fun q hq => hs q (List.mem_cons_of_mem _ hq)) ha x0 (.im (one n a b i)) (acc ++ (if n ∈ ar then [] else [pD (n, b - a)]) ++ (outq i (ar ++ [n])).map pD) (by
      rw [List.length_append, List.length_append, List.length_map]
      split <;> simp <;> omega)
    refine ⟨u2, ?_⟩
    rw [toDs_cons]
    unfold runFor
    have e1 : bindT (.nm 3) (one n a b i) [x0, .im (sL ar), .ow acc, s2] = .ok [x0, .im (sL ar), .ow acc, .im (one n a b i)] := rfl
    rw [e1]; dsimp only
    rw [e2']; dsimp only
    rw [e]
    have e3 : acc ++ (if n ∈ ar then [] else [pD (n, b - a)]) ++ (outq i (ar ++ [n])).map pD ++ (outq r ar).map pD = acc ++ (outq (.cons n a b i r) ar).map pD := by
      rw [outq_cons, List.map_append, List.map_append, List.append_assoc, List.append_assoc]
      congr 1
      split <;> rfl
    rw [e3]
theorem outer_eq : ∀ (j : Nat) (c : Cals) (ar : List Str), dep c < j → cnt c ≤ 100000 → ar.length + dep c ≤ 1000 → F_outer j [cD c, sL ar] = .ok (.lst ((outq c ar).map pD))
  | 0, c, ar, h, _, _ => by omega
  | j + 1, c, ar, h, hc, ha => by
    obtain ⟨u2, e⟩ := out_for (self := F_outer j) (ar := ar) c (fun q hq => outer_eq j q.i _ (by have := dep_tops hq; omega) (by have := cnt_tops hq; omega) (by have := dep_tops hq; rw [List.length_append, List.length_cons, List.length_nil]; omega)) (by omega) (.im (cD c)) .un [] (sl_ge (by show 0 + _ ≤ _; omega))
    have st : startE 4 [cD c, sL ar] = [.im (cD c), .im (sL ar), .un, .un] := rfl
    have e0 : lstD [] = .ok (.lst []) := lstD_ok sl0
    have e1 : ownO 2 (geA lstD gaNil) [.im (cD c), .im (sL ar), .un, .un] = .nx [.im (cD c), .im (sL ar), .ow [], .un] := by simp [e0, slOf]
    have e2 : gSeq itT (geV 0) [.im (cD c), .im (sL ar), .ow [], .un] = .ok (toDs c) := rfl
    show runDef 4 (b_outer (F_outer j)) _ = _
    unfold b_outer L_outer_1
    unfold b_out at e
    simp only [e_run, st, e_seq, e1, e_for, e2, e]
    simp [frzO, frzSl, frozen]
/-! own -/
def tsum (c : Cals) : Int := ((tops c).map fun q => q.b - q.a).sum
theorem own_eq (q : Nd) (hc : cnt q.i ≤ 100000) : F_own [ndD q] = .ok (.int (q.b - q.a - tsum q.i)) := by
  have hl := tops_len q.i
  have w : F_whole [ndD q] = .ok (.int (q.b - q.a)) := whole_eq q.n q.a q.b q.i
  have hcomp : compE (.nm 1) [1] (gSeq itT (geOp ixT (geV 0) (gI 3))) (fun _ => .ok true) (geA F_whole (gaCons (geV 1) gaNil)) [.im (ndD q), .un] = .ok (.lst ((tops q.i).map fun q => .int (q.b - q.a))) := by
    refine compE_all (u := ndD) (h := fun q : Nd => .int (q.b - q.a)) (tops q.i) ?_ (sl_ge (by omega)) fun p hp => ⟨[.im (ndD q), .im (ndD p)], rfl, ?_⟩
    · show R.ok (toDs q.i) = _; rw [toDs_tops]
    · exact whole_eq p.n p.a p.b p.i
  have s1 : sumD [.lst ((tops q.i).map fun q => D.int (q.b - q.a))] = .ok (.int (tsum q.i)) := by
    have : ((tops q.i).map fun q => D.int (q.b - q.a)) = ((tops q.i).map fun q => q.b - q.a).map .int := by rw [List.map_map]; rfl
    rw [this]
    unfold sumD
    dsimp only
    rw [intsD_map]; rfl
  have st : startE 2 [ndD q] = [.im (ndD q), .un] := rfl
  have v0 : geV 0 [.im (ndD q), .un] = .ok (ndD q) := rfl
  unfold F_own b_own C_own_1
  simp only [e_run, st, e_op, e_A, e_cons, e_nil, v0, R.ok_bind, w, hcomp, s1, e_subI, e_ofR]
end VP

set_option Elab.async false
set_option linter.all false
set_option maxRecDepth 100000
set_option maxHeartbeats 1000000
namespace VP
open PySem PySem.Spec PyProof.Rows L2 LamX VS
abbrev Trs := List (Int × Cals)
def tK (ts : Trs) : List (Key × D) := ts.map fun p => ((Sum.inl p.1 : Key), cD p.2)
abbrev tD (ts : Trs) : D := .dK (tK ts)
structure TV (ts : Trs) : Prop where
  pw : (ts.map (·.1)).Pairwise (· < ·)
  ok : ∀ p ∈ ts, 1 ≤ p.1 ∧ p.1 ≤ 4 ∧ val p.2 0 1000000 ∧ dep p.2 ≤ 4 ∧ cnt p.2 ≤ 1000
theorem TV.nd {ts : Trs} (t : TV ts) : (ts.map (·.1)).Nodup := t.pw.imp fun h e => by omega
theorem pw_len {l : List Int} (h : l.Pairwise (· < ·)) : ∀ {lo hi : Int}, (∀ x ∈ l, lo ≤ x ∧ x ≤ hi) → l.length ≤ (hi + 1 - lo).toNat := by
  induction l with
  | nil => intro lo hi _; simp
  | cons a l ih =>
    intro lo hi k
    obtain ⟨h1, h2⟩ := List.pairwise_cons.mp h
    have h3 := k a List.mem_cons_self
    have := ih h2 (lo := a + 1) (hi := hi) fun x hx => by
      have := h1 x hx
      have := k x (List.mem_cons_of_mem _ hx)
      omega
    rw [List.length_cons]
    omega
theorem TV.len {ts : Trs} (t : TV ts) : ts.length ≤ 4 := by
  have := pw_len t.pw (lo := 1) (hi := 4) fun x hx => by
    obtain ⟨p, hp, rfl⟩ := List.mem_map.mp hx
    have := t.ok p hp
    exact ⟨this.1, this.2.1⟩
  simpa using this
theorem lk_tK {ts : Trs} (nd : (ts.map (·.1)).Nodup) {p : Int × Cals} (hp : p ∈ ts) : lk (tK ts) (.inl p.1) = some (cD p.2) := by
  induction ts with
  | nil => cases hp
  | cons q ts ih =>
    rw [List.map_cons, List.nodup_cons] at nd
    unfold lk tK
    rw [List.map_cons, List.find?_cons]
    rcases List.mem_cons.mp hp with rfl | hp
    · simp
    · have : ¬ q.1 = p.1 := fun e => nd.1 (e ▸ List.mem_map.mpr ⟨p, hp, rfl⟩)
      have e : decide ((Sum.inl q.1 : Key) = Sum.inl p.1) = false := decide_eq_false fun z => this (Sum.inl.inj z)
      simp only [e]
      exact ih nd.2 hp
theorem look_tD {ts : Trs} (nd : (ts.map (·.1)).Nodup) {p : Int × Cals} (hp : p ∈ ts) : look (tD ts) (.int p.1) = some (some (cD p.2)) := by
  show (some (.inl p.1 : Key)).map _ = _
  rw [Option.map_some, lk_tK nd hp]
theorem ix_tD {ts : Trs} (nd : (ts.map (·.1)).Nodup) {p : Int × Cals} (hp : p ∈ ts) : ixD (tD ts) (.int p.1) = .ok (cD p.2) := by
  unfold ixD; rw [look_tD nd hp]
theorem keys_tD (ts : Trs) : keysOf (tD ts) = some (ts.map fun p => .int p.1) := by
  show some ((tK ts).map fun kd => keyV kd.1) = _
  unfold tK
  rw [List.map_map]; rfl
theorem compDE_all {ts : Trs} {t : Tg} {vs : List Nat} {i : Nat} {g : VS.Env → R D} {ρ : VS.Env} {h : Int × Cals → D} (hi : ρ[i]? = some (.im (tD ts))) (hl : ts.length ≤ sizeLine) (H : ∀ p ∈ ts, ∃ ρ1, bindT t (.int p.1) (wipeE ρ vs) = .ok ρ1 ∧ g ρ1 = .ok (h p)) :
    compDE t vs i (fun _ => .ok true) g ρ = .ok (.lst (ts.map h)) := by
  unfold compDE
  rw [hi]
  dsimp only
  rw [keys_tD]
  exact compE_all (u := fun p : Int × Cals => D.int p.1) ts rfl hl H
theorem blsD_true : ∀ {α : Type} (l : List α), blsD (l.map fun _ => .bl true) = some (l.map fun _ => true)
  | _, [] => rfl
  | _, x :: l => by rw [List.map_cons, blsD, blsD_true l]; rfl
theorem allD_true {α : Type} (l : List α) : allD [.lst (l.map fun _ => D.bl true)] = .ok (.bl true) := by
  unfold allD
  dsimp only
  rw [blsD_true]
  dsimp only
  congr 2
  rw [List.all_map]
  exact List.all_eq_true.mpr fun _ _ => rfl
theorem need_trees_eq {ts : Trs} (t : TV ts) : F_need_trees [tD ts] = .ok .non := by
  have hl := t.len
  have st : startE 2 [tD ts] = [.im (tD ts), .un] := rfl
  have e1 : geB (ge1 (isiD .dict) (geV 0)) [.im (tD ts), .un] = .ok true := rfl
  have c1 : compDE (.nm 1) [1] 0 (fun _ => .ok true) (geA F_is_count (gaCons (geV 1) (gaCons (gI 1) (gaCons (gI 4) gaNil)))) [.im (tD ts), .un] = .ok (.lst (ts.map fun _ => .bl true)) := by
    refine compDE_all (h := fun _ => .bl true) rfl (sl_ge (by omega)) fun p hp => ⟨[.im (tD ts), .im (.int p.1)], rfl, ?_⟩
    have v1 : geV 1 [.im (tD ts), .im (.int p.1)] = .ok (.int p.1) := rfl
    have := t.ok p hp
    rw [e_A, e_cons, v1, R.ok_bind, e_cons, e_I, R.ok_bind, e_cons, e_I, R.ok_bind, e_nil, R.ok_bind, R.ok_bind, R.ok_bind, R.ok_bind, is_count_eq, decide_eq_true this.1, decide_eq_true this.2.1]; rfl
  have c2 : compDE (.nm 1) [1] 0 (fun _ => .ok true) (geA (F_are_calls 8) (gaCons (geOp ixD (geV 0) (geV 1)) (gaCons (gI 0) (gaCons (gI 1000000) gaNil)))) [.im (tD ts), .un] = .ok (.lst (ts.map fun _ => .bl true)) := by
    refine compDE_all (h := fun _ => .bl true) rfl (sl_ge (by omega)) fun p hp => ⟨[.im (tD ts), .im (.int p.1)], rfl, ?_⟩
    have v0 : geV 0 [.im (tD ts), .im (.int p.1)] = .ok (tD ts) := rfl
    have v1 : geV 1 [.im (tD ts), .im (.int p.1)] = .ok (.int p.1) := rfl
    have := t.ok p hp
    rw [e_A, e_cons, e_op, v0, R.ok_bind, v1, R.ok_bind, ix_tD t.nd hp, R.ok_bind, e_cons, e_I, R.ok_bind, e_cons, e_I, R.ok_bind, e_nil, R.ok_bind, R.ok_bind, R.ok_bind, R.ok_bind, are_calls_eq 8 p.2 0 1000000 (by omega) this.2.2.1]
  have a1 := allD_true ts
  unfold F_need_trees b_need_trees C_need_trees_2 C_need_trees_1
  simp only [e_run, st, e_seq, e_ifO, e_or, e_not, e1, e_gB, e_A, e_cons, e_nil, c1, c2, a1, R.ok_bind, e_bl, Bool.not_true, Bool.false_eq_true, if_false]
/-! the module's small checks -/
theorem need_tick_eq {t : Int} (h1 : 0 ≤ t) (h2 : t ≤ 1000000) : F_need_tick [.int t] = .ok .non := by
  have st : startE 1 [D.int t] = [.im (.int t)] := rfl
  have v0 : geV 0 [.im (.int t)] = .ok (.int t) := rfl
  have c : F_is_count [.int t, .int 0, .int 1000000] = .ok (.bl true) := by rw [is_count_eq, decide_eq_true h1, decide_eq_true h2]; rfl
  unfold F_need_tick b_need_tick
  simp only [e_run, st, e_ifO, e_not, e_gB, e_A, e_cons, e_nil, v0, e_I, R.ok_bind, c, e_bl, Bool.not_true, Bool.false_eq_true, if_false]
theorem need_hand_eq {ts : Trs} (t : TV ts) {p : Int × Cals} (hp : p ∈ ts) : F_need_hand [tD ts, .int p.1] = .ok .non := by
  have st : startE 2 [tD ts, .int p.1] = [.im (tD ts), .im (.int p.1)] := rfl
  have v0 : geV 0 [.im (tD ts), .im (.int p.1)] = .ok (tD ts) := rfl
  have v1 : geV 1 [.im (tD ts), .im (.int p.1)] = .ok (.int p.1) := rfl
  have := t.ok p hp
  have c : F_is_count [.int p.1, .int 1, .int 4] = .ok (.bl true) := by rw [is_count_eq, decide_eq_true this.1, decide_eq_true this.2.1]; rfl
  have i : inD true (.int p.1) (tD ts) = .ok (.bl false) := by unfold inD; rw [look_tD t.nd hp]; rfl
  have n := need_trees_eq t
  unfold F_need_hand b_need_hand
  simp only [e_run, st, e_seq, e_ifO, e_or, e_not, e_gB, e_op, e_A, e_cons, e_nil, v0, v1, e_I, R.ok_bind, n, e_ofR, c, i, e_bl, Bool.not_true, Bool.false_eq_true, if_false]
theorem stack_at_eq {ts : Trs} (t : TV ts) {p : Int × Cals} (hp : p ∈ ts) {k : Int} (h1 : 0 ≤ k) (h2 : k ≤ 1000000) : F_stack_at [tD ts, .int p.1, .int k] = .ok (sL (stk p.2 k)) := by
  have st : startE 3 [tD ts, .int p.1, .int k] = [.im (tD ts), .im (.int p.1), .im (.int k)] := rfl
  have v0 : geV 0 [.im (tD ts), .im (.int p.1), .im (.int k)] = .ok (tD ts) := rfl
  have v1 : geV 1 [.im (tD ts), .im (.int p.1), .im (.int k)] = .ok (.int p.1) := rfl
  have v2 : geV 2 [.im (tD ts), .im (.int p.1), .im (.int k)] = .ok (.int k) := rfl
  have := t.ok p hp
  have c := stack_in_eq 8 p.2 k (by omega) (by omega)
  have n1 := need_hand_eq t hp
  have n2 := need_tick_eq h1 h2
  unfold F_stack_at b_stack_at
  simp only [e_run, st, e_seq, e_op, e_A, e_cons, e_nil, v0, v1, v2, R.ok_bind, n1, n2, e_ofR, ix_tD t.nd hp, c]
theorem deepest_eq {ts : Trs} (t : TV ts) : ∃ m : Int, F_deepest [tD ts] = .ok (.int m) ∧ 0 ≤ m ∧ ∀ p ∈ ts, (dep p.2 : Int) ≤ m := by
  have hl := t.len
  have st : startE 2 [tD ts] = [.im (tD ts), .un] := rfl
  have v0 : geV 0 [.im (tD ts), .un] = .ok (tD ts) := rfl
  have c1 : compDE (.nm 1) [1] 0 (fun _ => .ok true) (geA (F_depth_of 8) (gaCons (geOp ixD (geV 0) (geV 1)) gaNil)) [.im (tD ts), .un] = .ok (.lst (ts.map fun p => .int (dep p.2))) := by
    refine compDE_all (h := fun p => .int (dep p.2)) rfl (sl_ge (by omega)) fun p hp => ⟨[.im (tD ts), .im (.int p.1)], rfl, ?_⟩
    have w0 : geV 0 [.im (tD ts), .im (.int p.1)] = .ok (tD ts) := rfl
    have w1 : geV 1 [.im (tD ts), .im (.int p.1)] = .ok (.int p.1) := rfl
    have := t.ok p hp
    rw [e_A, e_cons, e_op, w0, R.ok_bind, w1, R.ok_bind, ix_tD t.nd hp, R.ok_bind, e_nil, R.ok_bind, R.ok_bind, depth_of_eq 8 p.2 (by omega) (by omega)]
  have l0 : lstD [D.int 0] = .ok (.lst [.int 0]) := lstD_ok (sl_ge (by show 1 ≤ _; omega))
  have c2 : catL (.lst [D.int 0]) (.lst (ts.map fun p => .int (dep p.2))) = .ok (.lst ((0 :: ts.map fun p => (dep p.2 : Int)).map .int)) := by
    rw [catL_ok (sl_ge (by rw [List.length_map]; show 1 + _ ≤ _; omega)), List.map_cons, List.map_map]; rfl
  have m1 : maxL [.lst ((0 :: ts.map fun p => (dep p.2 : Int)).map .int)] = .ok (.int (maxI (0 :: ts.map fun p => (dep p.2 : Int)))) := by
    unfold maxL
    dsimp only
    rw [intsD_map]
  have n := need_trees_eq t
  have mx := maxI_is (0 :: ts.map fun p => (dep p.2 : Int)) (by simp)
  refine ⟨_, ?_, mx.2 0 List.mem_cons_self, fun p hp => mx.2 _ (List.mem_cons_of_mem _ (List.mem_map.mpr ⟨p, hp, rfl⟩))⟩
  unfold F_deepest b_deepest C_deepest_1
  simp only [e_run, st, e_seq, e_op, e_A, e_cons, e_nil, v0, e_I, R.ok_bind, n, e_ofR, c1, l0, c2, m1]
end VP

set_option Elab.async false
set_option linter.all false
set_option maxRecDepth 100000
set_option maxHeartbeats 1000000
namespace VP
open PySem PySem.Spec PyProof.Rows L2 LamX VS
/-! dicts of counts by names -/
abbrev Cnt := List (Str × Int)
def kD (cs : Cnt) : List (Key × D) := cs.map fun p => ((Sum.inr p.1 : Key), D.int p.2)
def gt (cs : Cnt) (n : Str) : Int := ((cs.find? fun p => decide (p.1 = n)).map (·.2)).getD 0
def hs (cs : Cnt) (n : Str) : Bool := cs.any fun p => decide (p.1 = n)
def bump (cs : Cnt) (n : Str) (v : Int) : Cnt := if hs cs n then cs.map (fun p => if p.1 = n then (p.1, gt cs n + v) else p) else cs ++ [(n, gt cs n + v)]
theorem hs_iff {cs : Cnt} {n : Str} : hs cs n = true ↔ n ∈ cs.map (·.1) := by
  unfold hs
  rw [List.any_eq_true, List.mem_map]
  exact ⟨fun ⟨p, h, e⟩ => ⟨p, h, of_decide_eq_true e⟩, fun ⟨p, h, e⟩ => ⟨p, h, decide_eq_true e⟩⟩
theorem inr_dec (x y : Str) : decide ((Sum.inr x : Key) = Sum.inr y) = decide (x = y) := by
  by_cases h : x = y
  · subst h; simp
  · rw [decide_eq_false h]; exact decide_eq_false fun e => h (Sum.inr.inj e)
theorem lk_kD (cs : Cnt) (n : Str) : lk (kD cs) (.inr n) = if hs cs n then some (.int (gt cs n)) else none := by
  induction cs with
  | nil => rfl
  | cons p cs ih =>
    unfold lk kD gt hs at *
    rw [List.map_cons, List.find?_cons, List.find?_cons, List.any_cons]
    dsimp only
    rw [inr_dec]
    by_cases h : p.1 = n
    · simp [h]
    · simp only [h, decide_false, Bool.false_or]
      exact ih
theorem pk_kD (cs : Cnt) (n : Str) (v : Int) : pk (kD cs) (.inr n) (.int (gt cs n + v)) = kD (bump cs n v) := by
  unfold pk bump
  have h1 : ((kD cs).any fun kv => decide (kv.1 = Sum.inr n)) = hs cs n := by
    unfold kD hs
    rw [List.any_map]
    congr 1
    funext p
    exact inr_dec _ _
  rw [h1]
  split
  · unfold kD
    rw [List.map_map, List.map_map]
    apply List.map_congr_left
    intro p _
    show (if (Sum.inr p.1 : Key) = Sum.inr n then _ else _) = _
    by_cases h : p.1 = n
    · simp [h]
    · have : ¬ (Sum.inr p.1 : Key) = Sum.inr n := fun e => h (Sum.inr.inj e)
      simp [h, this]
  · unfold kD; simp
theorem gt_map (x : Int) (n m : Str) : ∀ cs : Cnt, gt (cs.map fun p => if p.1 = n then (p.1, x) else p) m = if m = n ∧ hs cs n = true then x else gt cs m
  | [] => by simp [gt, hs]
  | p :: cs => by
    have ih := gt_map x n m cs
    unfold gt hs at *
    rw [List.map_cons, List.find?_cons, List.find?_cons, List.any_cons]
    by_cases h : p.1 = n
    · by_cases h2 : n = m
      · subst h2; simp [h]
      · have h3 : ¬ m = n := fun e => h2 e.symm
        simp [h, h2, h3] at ih ⊢
        exact ih
    · by_cases h2 : p.1 = m
      · have h3 : ¬ m = n := fun e => h (h2.trans e)
        simp [h, h2, h3]
      · have hd : decide (p.1 = n) = false := decide_eq_false h
        have hd2 : decide (p.1 = m) = false := decide_eq_false h2
        rw [if_neg h, hd2, hd, Bool.false_or]
        exact ih
theorem gt_none {cs : Cnt} {n : Str} (h : hs cs n = false) : gt cs n = 0 := by
  unfold hs at h
  unfold gt
  have : (cs.find? fun p => decide (p.1 = n)) = none := by
    rw [List.find?_eq_none]
    intro p hp e
    rw [List.any_eq_false] at h
    exact h p hp e
  rw [this]; rfl
theorem gt_app {cs ds : Cnt} {n : Str} : gt (cs ++ ds) n = if hs cs n then gt cs n else gt ds n := by
  unfold gt hs
  rw [List.find?_append]
  by_cases h : (cs.any fun p => decide (p.1 = n)) = true
  · rw [if_pos h]
    obtain ⟨p, hp, e⟩ := List.any_eq_true.mp h
    cases hf : cs.find? fun p => decide (p.1 = n) with
    | none => rw [List.find?_eq_none] at hf; exact absurd e (hf p hp)
    | some q => rfl
  · rw [if_neg h]
    have : (cs.find? fun p => decide (p.1 = n)) = none := by
      rw [List.find?_eq_none]
      intro p hp e
      exact h (List.any_eq_true.mpr ⟨p, hp, e⟩)
    rw [this]; rfl
theorem gt_bump (cs : Cnt) (n m : Str) (v : Int) : gt (bump cs n v) m = gt cs m + if n = m then v else 0 := by
  unfold bump
  by_cases h : hs cs n = true
  · rw [if_pos h, gt_map]
    by_cases e : n = m
    · subst e; simp [h]
    · have : ¬ m = n := fun z => e z.symm
      simp [e, this]
  · rw [if_neg h, gt_app]
    have h' : hs cs n = false := by simpa using h
    have g0 := gt_none h'
    by_cases e : n = m
    · subst e; simp [h', g0, gt]
    · by_cases k : hs cs m = true
      · simp [k, e]
      · have k' : hs cs m = false := by simpa using k
        rw [if_neg k, gt_none k']; simp [gt, e]
theorem keys_bump (cs : Cnt) (n : Str) (v : Int) : (bump cs n v).map (·.1) = if hs cs n then cs.map (·.1) else cs.map (·.1) ++ [n] := by
  unfold bump
  split
  · rw [List.map_map]
    apply List.map_congr_left
    intro p _
    show (if p.1 = n then _ else _ : Str × Int).1 = p.1
    split <;> rfl
  · simp
def bumps (cs : Cnt) (l : Cnt) : Cnt := l.foldl (fun c p => bump c p.1 p.2) cs
def tot (l : Cnt) (m : Str) : Int := (l.map fun p => if p.1 = m then p.2 else 0).sum
theorem tot_nil (m : Str) : tot [] m = 0 := rfl
theorem tot_cons (p : Str × Int) (l : Cnt) (m : Str) : tot (p :: l) m = (if p.1 = m then p.2 else 0) + tot l m := by unfold tot; rw [List.map_cons, List.sum_cons]
theorem tot_app (l k : Cnt) (m : Str) : tot (l ++ k) m = tot l m + tot k m := by unfold tot; rw [List.map_append, List.sum_append]
theorem gt_bumps (m : Str) : ∀ (l cs : Cnt), gt (bumps cs l) m = gt cs m + tot l m
  | [], cs => by show gt cs m = _; rw [tot_nil, Int.add_zero]
  | p :: l, cs => by
    show gt (bumps (bump cs p.1 p.2) l) m = _
    rw [gt_bumps m l, gt_bump, tot_cons]; omega
theorem keys_bumps (m : Str) : ∀ (l cs : Cnt), m ∈ (bumps cs l).map (·.1) ↔ m ∈ cs.map (·.1) ∨ m ∈ l.map (·.1)
  | [], cs => by show _ ∈ cs.map _ ↔ _; simp
  | p :: l, cs => by
    show m ∈ (bumps (bump cs p.1 p.2) l).map _ ↔ _
    rw [keys_bumps m l, keys_bump, List.map_cons, List.mem_cons]
    split
    · rename_i h
      rw [hs_iff] at h
      constructor
      · rintro (a | a)
        · exact .inl a
        · exact .inr (.inr a)
      · rintro (a | a | a)
        · exact .inl a
        · exact .inl (a ▸ h)
        · exact .inr a
    · rw [List.mem_append, List.mem_singleton, or_assoc]
theorem nd_bumps : ∀ (l cs : Cnt), (cs.map (·.1)).Nodup → ((bumps cs l).map (·.1)).Nodup
  | [], cs, h => h
  | p :: l, cs, h => by
    show ((bumps (bump cs p.1 p.2) l).map _).Nodup
    refine nd_bumps l _ ?_
    rw [keys_bump]
    split
    · exact h
    · rename_i k
      rw [List.nodup_append]
      refine ⟨h, by simp, fun a ha b hb => ?_⟩
      rw [List.mem_singleton] at hb
      subst hb
      exact fun e => k (hs_iff.mpr (e ▸ ha))
theorem len_bump (cs : Cnt) (n : Str) (v : Int) : (bump cs n v).length ≤ cs.length + 1 := by
  unfold bump; split <;> simp
theorem len_bumps : ∀ (l cs : Cnt), (bumps cs l).length ≤ cs.length + l.length
  | [], cs => Nat.le_refl _
  | p :: l, cs => by
    have h1 := len_bumps l (bump cs p.1 p.2)
    have h2 := len_bump cs p.1 p.2
    show (bumps (bump cs p.1 p.2) l).length ≤ _
    rw [List.length_cons]; omega
theorem bumps_app (cs l k : Cnt) : bumps cs (l ++ k) = bumps (bumps cs l) k := List.foldl_append
theorem bumps_one (cs : Cnt) (p : Str × Int) : bumps cs [p] = bump cs p.1 p.2 := rfl
/-- d[k] = d.get(k, 0) + v -/
theorem put_bump {i : Nat} {gk gv : VS.Env → R D} {ρ : VS.Env} {cs : Cnt} {n : Str} {v : Int} (hi : ρ[i]? = some (.oK (kD cs))) (hk : gk ρ = .ok (.str n)) (hv : gv ρ = .ok (.int v)) (hl : cs.length < sizeLine) :
    putO i (geOp addI (geGet (geT i) gk (gI 0)) gv) gk ρ = .nx (ρ.set i (.oK (kD (bump cs n v)))) := by
  have e1 : geGet (geT i) gk (gI 0) ρ = .ok (.int (gt cs n)) := by
    unfold geGet geT
    rw [hi]
    show (do let y ← gk ρ; let z ← gI 0 ρ; getD2 (.dK (kD cs)) y z) = _
    rw [hk, R.ok_bind, e_I, R.ok_bind]
    unfold getD2
    show (match (some (.inr n : Key)).map fun k => lk (kD cs) k with | some o => R.ok (o.getD (.int 0)) | _ => .no) = _
    rw [Option.map_some, lk_kD]
    by_cases h : hs cs n = true
    · rw [if_pos h]; rfl
    · rw [if_neg h]
      have h' : hs cs n = false := by simpa using h
      rw [gt_none h']; rfl
  have hl2 : (kD cs).length < sizeLine := by unfold kD; rw [List.length_map]; exact hl
  unfold putO
  rw [e_op, e1, R.ok_bind, hv, R.ok_bind, e_addI, e_ofR, hi]
  dsimp only
  rw [if_pos (show isOwn (Sl.oK (kD cs)) = true from rfl), hk, e_ofR]
  unfold putS
  show (match (some (.inr n : Key)).bind fun k => if (kD cs).length < sizeLine then some (Sl.oK (pk (kD cs) k (.int (gt cs n + v)))) else none with | some sl' => Out.nx (ρ.set i sl') | none => .no) = _
  rw [Option.bind_some, if_pos hl2, pk_kD]
end VP

set_option Elab.async false
set_option linter.all false
set_option maxRecDepth 100000
set_option maxHeartbeats 1000000
namespace VP
open PySem PySem.Spec PyProof.Rows L2 LamX VS
theorem srtK_id {ks : List Key} (h : ks.Pairwise fun a b => leK a b = true) : srtK ks = ks :=
  List.Perm.eq_of_pairwise (fun a b _ _ h q => leK_anti a b h q) (srtK_pw ks) h (srtK_perm ks)
theorem srt_tD {ts : Trs} (t : TV ts) : sortDct [tD ts] = .ok (.lst (ts.map fun p => .int p.1)) := by
  have hl := t.len
  have e : (tK ts).map (·.1) = ts.map fun p => (Sum.inl p.1 : Key) := by unfold tK; rw [List.map_map]; rfl
  have h1 : (tK ts).length < 64 := by unfold tK; rw [List.length_map]; omega
  have h2 : sameK ((tK ts).map (·.1)) = true := by
    rw [e]
    unfold sameK
    rw [Bool.or_eq_true]; left
    rw [List.all_map]
    exact List.all_eq_true.mpr fun _ _ => rfl
  have h3 : srtK ((tK ts).map (·.1)) = (tK ts).map (·.1) := by
    rw [e]
    refine srtK_id ?_
    have := t.pw
    rw [List.pairwise_map] at this ⊢
    exact this.imp fun {a b} h => by unfold leK; exact decide_eq_true (by omega)
  unfold sortDct
  dsimp only
  rw [if_pos ⟨h1, h2⟩, h3, e, List.map_map]; rfl
def evq (ts : Trs) : List Nd := ts.flatMap fun p => allq p.2
theorem evq_len {ts : Trs} (t : ∀ p ∈ ts, cnt p.2 ≤ 1000) : (evq ts).length ≤ 1000 * ts.length := by
  induction ts with
  | nil => exact Nat.le_refl _
  | cons p ts ih =>
    unfold evq at *
    rw [List.flatMap_cons, List.length_append, allq_len, List.length_cons]
    have h1 := t p List.mem_cons_self
    have h2 := ih fun q hq => t q (List.mem_cons_of_mem _ hq)
    omega
theorem evq_app (a b : Trs) : evq (a ++ b) = evq a ++ evq b := by unfold evq; rw [List.flatMap_append]
theorem evq_one (p : Int × Cals) : evq [p] = allq p.2 := by unfold evq; simp
theorem every_eq {ts : Trs} (t : TV ts) : F_every [tD ts] = .ok (.lst ((evq ts).map ndD)) := by
  have hl := t.len
  have st : startE 3 [tD ts] = [.im (tD ts), .un, .un] := rfl
  have e0 : lstD [] = .ok (.lst []) := lstD_ok sl0
  have e1 : ownO 1 (geA lstD gaNil) [.im (tD ts), .un, .un] = .nx [.im (tD ts), .ow [], .un] := by simp [e0, slOf]
  have e2 : gSeq itL (geA sortDct (gaCons (geV 0) gaNil)) [.im (tD ts), .ow [], .un] = .ok (ts.map fun p => .int p.1) := by
    have v0 : geV 0 [.im (tD ts), .ow [], .un] = .ok (tD ts) := rfl
    rw [e_gSeq, e_A, e_cons, v0, R.ok_bind, e_nil, R.ok_bind, R.ok_bind, srt_tD t]; rfl
  obtain ⟨ρ', e3, u2, rfl⟩ := for_all (b := bindT (.nm 2)) (f := extO 1 (geA (F_all_calls 8) (gaCons (geOp ixD (geV 0) (geV 2)) gaNil))) (u := fun p : Int × Cals => D.int p.1)
    (fun dn ρ => ∃ u2, ρ = [.im (tD ts), .ow ((evq dn).map ndD), u2]) ts [.im (tD ts), .ow [], .un] ⟨.un, rfl⟩ (by
      rintro dn p rs ρ e ⟨u2, rfl⟩
      have hp : p ∈ ts := by rw [← e]; simp
      refine ⟨[.im (tD ts), .ow ((evq dn).map ndD), .im (.int p.1)], _, rfl, .inl ?_, ⟨.im (.int p.1), rfl⟩⟩
      have w0 : geV 0 [.im (tD ts), .ow ((evq dn).map ndD), .im (.int p.1)] = .ok (tD ts) := rfl
      have w2 : geV 2 [.im (tD ts), .ow ((evq dn).map ndD), .im (.int p.1)] = .ok (.int p.1) := rfl
      have o := t.ok p hp
      have a := all_calls_eq 8 p.2 (by omega) (by omega)
      unfold extO
      have g : geA (F_all_calls 8) (gaCons (geOp ixD (geV 0) (geV 2)) gaNil) [.im (tD ts), .ow ((evq dn).map ndD), .im (.int p.1)] = .ok (.lst ((allq p.2).map ndD)) := by
        rw [e_A, e_cons, e_op, w0, R.ok_bind, w2, R.ok_bind, ix_tD t.nd hp, R.ok_bind, e_nil, R.ok_bind, R.ok_bind, a]
      simp only [List.getElem?_cons_succ, List.getElem?_cons_zero, g, e_ofR, itemsD]
      have hd : (evq dn).length ≤ 4000 := by
        have h1 := evq_len (ts := dn) fun q hq => (t.ok q (by rw [← e]; simp [hq])).2.2.2.2
        have h2 : dn.length ≤ ts.length := by rw [← e]; simp
        omega
      rw [if_pos (by rw [List.length_map, List.length_map, allq_len]; exact sl_ge (by omega)), evq_app, evq_one, List.map_append]
      rfl)
  unfold F_every b_every L_every_1
  simp only [e_run, st, e_seq, e1, e_for, e2, e3]
  simp [frzO, frzSl, frozen]
/-! the table -/
def cI1 (q : Nd) : Str × Int := (q.n, 1)
def oI1 (q : Nd) : Str × Int := (q.n, q.b - q.a - tsum q.i)
def outs (ts : Trs) : Cnt := ts.flatMap fun p => outq p.2 []
def tC (ts : Trs) : Cnt := bumps [] ((evq ts).map cI1)
def tO (ts : Trs) : Cnt := bumps [] ((evq ts).map oI1)
def tW (ts : Trs) : Cnt := bumps [] (outs ts)
theorem outs_len {ts : Trs} (t : ∀ p ∈ ts, cnt p.2 ≤ 1000) : (outs ts).length ≤ 1000 * ts.length := by
  induction ts with
  | nil => exact Nat.le_refl _
  | cons p ts ih =>
    unfold outs at *
    rw [List.flatMap_cons, List.length_append, List.length_cons]
    have h1 := t p List.mem_cons_self
    have h2 := ih fun q hq => t q (List.mem_cons_of_mem _ hq)
    have h3 := outq_len p.2 []
    omega
theorem allq_cnt {c : Cals} {q : Nd} (h : q ∈ allq c) : cnt q.i < cnt c := by
  induction c with
  | nil => cases h
  | cons n a b i r hi hr =>
    rw [cnt_cons]
    rcases List.mem_cons.mp h with rfl | h
    · show cnt i < _; omega
    · rcases List.mem_append.mp h with h | h
      · have := hi h; omega
      · have := hr h; omega
theorem evq_cnt {ts : Trs} (t : ∀ p ∈ ts, cnt p.2 ≤ 1000) {q : Nd} (h : q ∈ evq ts) : cnt q.i ≤ 1000 := by
  unfold evq at h
  obtain ⟨p, hp, hq⟩ := List.mem_flatMap.mp h
  have := allq_cnt hq
  have := t p hp
  omega
theorem table_loop1 {ts : Trs} (hc : ∀ p ∈ ts, cnt p.2 ≤ 1000) (hl : ts.length ≤ 4) (x0 x2 x4 x6 x7 : Sl) : ∃ u1, runFor (bindT (.nm 1)) (seqO (putO 3 (geOp addI (geGet (geT 3) (geOp ixT (geV 1) (gI 0)) (gI 0)) (gI 1)) (geOp ixT (geV 1) (gI 0)))
      (putO 5 (geOp addI (geGet (geT 5) (geOp ixT (geV 1) (gI 0)) (gI 0)) (geA F_own (gaCons (geV 1) gaNil))) (geOp ixT (geV 1) (gI 0)))) ((evq ts).map ndD) [x0, .un, x2, .oK [], x4, .oK [], x6, x7] =
    .nx [x0, u1, x2, .oK (kD (tC ts)), x4, .oK (kD (tO ts)), x6, x7] := by
  obtain ⟨ρ', e, u1, rfl⟩ := for_all (b := bindT (.nm 1)) (f := seqO (putO 3 (geOp addI (geGet (geT 3) (geOp ixT (geV 1) (gI 0)) (gI 0)) (gI 1)) (geOp ixT (geV 1) (gI 0)))
      (putO 5 (geOp addI (geGet (geT 5) (geOp ixT (geV 1) (gI 0)) (gI 0)) (geA F_own (gaCons (geV 1) gaNil))) (geOp ixT (geV 1) (gI 0)))) (u := ndD)
    (fun dn ρ => ∃ u1, ρ = [x0, u1, x2, .oK (kD (bumps [] (dn.map cI1))), x4, .oK (kD (bumps [] (dn.map oI1))), x6, x7]) (evq ts) [x0, .un, x2, .oK [], x4, .oK [], x6, x7] ⟨.un, rfl⟩ (by
      rintro dn q rs ρ e ⟨u1, rfl⟩
      have hq : q ∈ evq ts := by rw [← e]; simp
      have hd : dn.length ≤ 4000 := by
        have h1 := evq_len hc
        have h2 : dn.length ≤ (evq ts).length := by rw [← e]; simp
        omega
      have k1 := len_bumps (dn.map cI1) []
      have k2 := len_bumps (dn.map oI1) []
      rw [List.length_map] at k1 k2
      refine ⟨[x0, .im (ndD q), x2, .oK (kD (bumps [] (dn.map cI1))), x4, .oK (kD (bumps [] (dn.map oI1))), x6, x7], _, rfl, .inl ?_, ⟨.im (ndD q), rfl⟩⟩
      have p1 := put_bump (i := 3) (gk := geOp ixT (geV 1) (gI 0)) (gv := gI 1) (ρ := [x0, .im (ndD q), x2, .oK (kD (bumps [] (dn.map cI1))), x4, .oK (kD (bumps [] (dn.map oI1))), x6, x7]) (cs := bumps [] (dn.map cI1)) (n := q.n) (v := 1) rfl rfl rfl (by rw [sizeLine_eq]; simp at k1; omega)
      have p2 := put_bump (i := 5) (gk := geOp ixT (geV 1) (gI 0)) (gv := geA F_own (gaCons (geV 1) gaNil)) (ρ := [x0, .im (ndD q), x2, .oK (kD (bump (bumps [] (dn.map cI1)) q.n 1)), x4, .oK (kD (bumps [] (dn.map oI1))), x6, x7]) (cs := bumps [] (dn.map oI1)) (n := q.n) (v := q.b - q.a - tsum q.i) rfl rfl (own_eq q (by have := evq_cnt hc hq; omega)) (by rw [sizeLine_eq]; simp at k2; omega)
      rw [e_seq, p1]
      dsimp only [List.set]
      rw [p2, List.map_append, List.map_append, bumps_app, bumps_app]
      rfl)
  exact ⟨u1, e⟩
def f_tab2 : VS.Env → Out := putO 4 (geOp addI (geGet (geT 4) (geV 6) (gI 0)) (geV 7)) (geV 6)
theorem table_loop2 {l : Cnt} {cs : Cnt} (hl : cs.length + l.length ≤ 100000) (x0 x1 x2 x3 x5 x6 x7 : Sl) : ∃ u6 u7, runFor (bindT (.tp (.cons (.nm 6) (.cons (.nm 7) .nil)))) f_tab2 (l.map pD) [x0, x1, x2, x3, .oK (kD cs), x5, x6, x7] = .nx [x0, x1, x2, x3, .oK (kD (bumps cs l)), x5, u6, u7] := by
  obtain ⟨ρ', e, u6, u7, rfl⟩ := for_all (b := bindT (.tp (.cons (.nm 6) (.cons (.nm 7) .nil)))) (f := f_tab2) (u := pD) (fun dn ρ => ∃ u6 u7, ρ = [x0, x1, x2, x3, .oK (kD (bumps cs dn)), x5, u6, u7]) l [x0, x1, x2, x3, .oK (kD cs), x5, x6, x7] ⟨x6, x7, rfl⟩ (by
      rintro dn q rs ρ e ⟨u6, u7, rfl⟩
      have hd : dn.length ≤ l.length := by rw [← e]; simp
      have k1 := len_bumps dn cs
      refine ⟨[x0, x1, x2, x3, .oK (kD (bumps cs dn)), x5, .im (.str q.1), .im (.int q.2)], _, rfl, .inl ?_, ⟨.im (.str q.1), .im (.int q.2), rfl⟩⟩
      have p1 := put_bump (i := 4) (gk := geV 6) (gv := geV 7) (ρ := [x0, x1, x2, x3, .oK (kD (bumps cs dn)), x5, .im (.str q.1), .im (.int q.2)]) (cs := bumps cs dn) (n := q.1) (v := q.2) rfl rfl rfl (by rw [sizeLine_eq]; omega)
      unfold f_tab2
      rw [p1, bumps_app]
      rfl)
  exact ⟨u6, u7, e⟩
end VP

set_option Elab.async false
set_option linter.all false
set_option maxRecDepth 100000
set_option maxHeartbeats 1000000
namespace VP
open PySem PySem.Spec PyProof.Rows L2 LamX VS
theorem nd_len : ∀ (l m : List Str), l.Nodup → (∀ x ∈ l, x ∈ m) → l.length ≤ m.length
  | [], m, _, _ => Nat.zero_le _
  | x :: l, m, nd, h => by
    obtain ⟨n1, n2⟩ := List.nodup_cons.mp nd
    have hx := h x List.mem_cons_self
    have := nd_len l (m.erase x) n2 fun y hy => by
      have hy2 := h y (List.mem_cons_of_mem _ hy)
      have : y ≠ x := fun e => n1 (e ▸ hy)
      exact (List.mem_erase_of_ne this).mpr hy2
    rw [List.length_erase_of_mem hx] at this
    have hp : 0 < m.length := List.length_pos_of_mem hx
    rw [List.length_cons]; omega
theorem val_names {c : Cals} : ∀ {lo hi : Int}, val c lo hi → ∀ q ∈ allq c, q.n ∈ NM := by
  induction c with
  | nil => intro lo hi _ q h; cases h
  | cons n a b i r ihi ihr =>
    intro lo hi v q h
    rw [val_cons] at v
    rcases List.mem_cons.mp h with rfl | h
    · exact v.1
    · rcases List.mem_append.mp h with h | h
      · exact ihi v.2.2.2.2.1 q h
      · exact ihr v.2.2.2.2.2 q h
theorem evq_names {ts : Trs} (t : TV ts) : ∀ q ∈ evq ts, q.n ∈ NM := fun q h => by
  unfold evq at h
  obtain ⟨p, hp, hq⟩ := List.mem_flatMap.mp h
  exact val_names (t.ok p hp).2.2.1 q hq
theorem mem_tC {ts : Trs} {n : Str} : n ∈ (tC ts).map (·.1) ↔ n ∈ (evq ts).map (·.n) := by
  unfold tC
  rw [keys_bumps, List.map_map]
  constructor
  · rintro (h | h)
    · cases h
    · exact h
  · exact .inr
theorem mem_tO {ts : Trs} {n : Str} : n ∈ (tO ts).map (·.1) ↔ n ∈ (evq ts).map (·.n) := by
  unfold tO
  rw [keys_bumps, List.map_map]
  constructor
  · rintro (h | h)
    · cases h
    · exact h
  · exact .inr
theorem outq_has {c : Cals} : ∀ {ar : List Str} {n : Str}, n ∈ (allq c).map (·.n) → n ∉ ar → n ∈ (outq c ar).map (·.1) := by
  induction c with
  | nil => intro ar n h; cases h
  | cons m a b i r hi hr =>
    intro ar n h hn
    rw [outq_cons, List.map_append, List.map_append, List.mem_append, List.mem_append]
    by_cases e : n = m
    · subst e; left; rw [if_neg hn]; simp
    · right
      have h' : n = m ∨ n ∈ ((allq i ++ allq r).map (·.n)) := List.mem_cons.mp h
      rcases h' with h' | h'
      · exact absurd h' e
      · rw [List.map_append, List.mem_append] at h'
        rcases h' with h' | h'
        · left; exact hi h' (by rw [List.mem_append, not_or]; exact ⟨hn, by simpa using e⟩)
        · right; exact hr h' hn
theorem mem_tW {ts : Trs} {n : Str} (h : n ∈ (evq ts).map (·.n)) : n ∈ (tW ts).map (·.1) := by
  unfold tW
  rw [keys_bumps]
  right
  obtain ⟨q, hq, rfl⟩ := List.mem_map.mp h
  unfold evq at hq
  obtain ⟨p, hp, hq⟩ := List.mem_flatMap.mp hq
  have := outq_has (c := p.2) (ar := []) (n := q.n) (List.mem_map.mpr ⟨q, hq, rfl⟩) (by simp)
  unfold outs
  rw [List.map_flatMap]
  exact List.mem_flatMap.mpr ⟨p, hp, this⟩
def ksI (cs : Cnt) : List Key := cs.map fun p => Sum.inr p.1
theorem kD_keys (cs : Cnt) : (kD cs).map (·.1) = ksI cs := by unfold kD ksI; rw [List.map_map]; rfl
theorem ksI_inr (cs : Cnt) : (ksI cs).all (fun k => !isL k) = true := by unfold ksI; rw [List.all_map]; exact List.all_eq_true.mpr fun _ _ => rfl
def nmsC (cs : Cnt) : List Str := (srtK (ksI cs)).map keyT
theorem srt_inr (cs : Cnt) : (srtK (ksI cs)).all (fun k => !isL k) = true := by
  rw [List.all_eq_true]
  intro k hk
  exact List.all_eq_true.mp (ksI_inr cs) k ((srtK_perm _).mem_iff.mp hk)
theorem nms_inr (cs : Cnt) : srtK (ksI cs) = (nmsC cs).map Sum.inr := all_inr (srt_inr cs)
theorem mem_nms {cs : Cnt} {n : Str} : n ∈ nmsC cs ↔ n ∈ cs.map (·.1) := by
  constructor
  · intro h
    have : (Sum.inr n : Key) ∈ srtK (ksI cs) := by rw [nms_inr]; exact List.mem_map.mpr ⟨n, h, rfl⟩
    have := (srtK_perm _).mem_iff.mp this
    unfold ksI at this
    obtain ⟨p, hp, e⟩ := List.mem_map.mp this
    exact List.mem_map.mpr ⟨p, hp, Sum.inr.inj e⟩
  · intro h
    obtain ⟨p, hp, rfl⟩ := List.mem_map.mp h
    have : (Sum.inr p.1 : Key) ∈ srtK (ksI cs) := (srtK_perm _).mem_iff.mpr (List.mem_map.mpr ⟨p, hp, rfl⟩)
    rw [nms_inr] at this
    obtain ⟨x, hx, e⟩ := List.mem_map.mp this
    exact (Sum.inr.inj e) ▸ hx
theorem sort_kD {cs : Cnt} (h : cs.length < 64) : sortDct [.dK (kD cs)] = .ok (.lst ((nmsC cs).map .str)) := by
  have h1 : (kD cs).length < 64 := by unfold kD; rw [List.length_map]; exact h
  have h2 : sameK ((kD cs).map (·.1)) = true := by
    rw [kD_keys]; unfold sameK; rw [ksI_inr, Bool.or_true]
  unfold sortDct
  dsimp only
  rw [if_pos ⟨h1, h2⟩, kD_keys, nms_inr, List.map_map]; rfl
theorem ix_kD {cs : Cnt} {n : Str} (h : n ∈ cs.map (·.1)) : ixD (.dK (kD cs)) (.str n) = .ok (.int (gt cs n)) := by
  unfold ixD
  show (match (some (.inr n : Key)).map fun k => lk (kD cs) k with | some (some v) => R.ok v | _ => .no) = _
  rw [Option.map_some, lk_kD, if_pos (hs_iff.mpr h)]
theorem tC_len {ts : Trs} (t : TV ts) : (tC ts).length ≤ 6 := by
  have nd : ((tC ts).map (·.1)).Nodup := nd_bumps _ _ (by simp)
  have := nd_len _ NM nd fun x hx => by
    obtain ⟨q, hq, rfl⟩ := List.mem_map.mp (mem_tC.mp hx)
    exact evq_names t q hq
  rw [List.length_map] at this
  exact this
def rowD (ts : Trs) (n : Str) : D := .tup [.str n, .int (gt (tC ts) n), .int (gt (tW ts) n), .int (gt (tO ts) n)]
def nms (ts : Trs) : List Str := nmsC (tC ts)
theorem forD_eq {ts : Trs} {t : Tg} {i : Nat} {f : VS.Env → Out} {ρ ρ' : VS.Env} (hi : ρ[i]? = some (.im (tD ts))) (h : runFor (bindT t) f (ts.map fun p => .int p.1) ρ = .nx ρ') : forDO t i f ρ = .nx ρ' := by
  unfold forDO
  rw [hi]
  dsimp only
  rw [keys_tD]
  dsimp only
  rw [h]; rfl
theorem table_eq {ts : Trs} (t : TV ts) : F_table [tD ts] = .ok (.lst ((nms ts).map (rowD ts))) := by
  have hl := t.len
  have hc : ∀ p ∈ ts, cnt p.2 ≤ 1000 := fun p hp => (t.ok p hp).2.2.2.2
  have st : startE 8 [tD ts] = [.im (tD ts), .un, .un, .un, .un, .un, .un, .un] := rfl
  have n1 := need_trees_eq t
  have v0 : geV 0 [.im (tD ts), .un, .un, .un, .un, .un, .un, .un] = .ok (tD ts) := rfl
  have p3 : parO3 3 4 5 .f .f .f (fun _ => .ok (.dK [])) (fun _ => .ok (.dK [])) (fun _ => .ok (.dK [])) [.im (tD ts), .un, .un, .un, .un, .un, .un, .un] = .nx [.im (tD ts), .un, .un, .oK [], .oK [], .oK [], .un, .un] := rfl
  have i1 : gSeq itL (geA F_every (gaCons (geV 0) gaNil)) [.im (tD ts), .un, .un, .oK [], .oK [], .oK [], .un, .un] = .ok ((evq ts).map ndD) := by
    have w0 : geV 0 [.im (tD ts), .un, .un, .oK [], .oK [], .oK [], .un, .un] = .ok (tD ts) := rfl
    rw [e_gSeq, e_A, e_cons, w0, R.ok_bind, e_nil, R.ok_bind, R.ok_bind, every_eq t]; rfl
  obtain ⟨u1, l1⟩ := table_loop1 hc hl (.im (tD ts)) .un (.oK []) .un .un
  obtain ⟨ρ', l2, u2, u6, u7, rfl⟩ := for_all (b := bindT (.nm 2)) (f := forO (.tp (.cons (.nm 6) (.cons (.nm 7) .nil))) (gSeq itL (geA (F_outer 8) (gaCons (geOp ixD (geV 0) (geV 2)) (gaCons (geA lstD gaNil) gaNil)))) f_tab2) (u := fun p : Int × Cals => D.int p.1)
    (fun dn ρ => ∃ u2 u6 u7, ρ = [.im (tD ts), u1, u2, .oK (kD (tC ts)), .oK (kD (bumps [] (outs dn))), .oK (kD (tO ts)), u6, u7]) ts [.im (tD ts), u1, .un, .oK (kD (tC ts)), .oK [], .oK (kD (tO ts)), .un, .un] ⟨.un, .un, .un, rfl⟩ (by
      rintro dn p rs ρ e ⟨u2, u6, u7, rfl⟩
      have hp : p ∈ ts := by rw [← e]; simp
      have o := t.ok p hp
      have hd : (outs dn).length ≤ 4000 := by
        have h1 := outs_len (ts := dn) fun q hq => hc q (by rw [← e]; simp [hq])
        have h2 : dn.length ≤ ts.length := by rw [← e]; simp
        omega
      have k1 := len_bumps (outs dn) []
      have k2 := outq_len p.2 []
      simp at k1
      obtain ⟨w6, w7, l3⟩ := table_loop2 (l := outq p.2 []) (cs := bumps [] (outs dn)) (by omega) (.im (tD ts)) u1 (.im (.int p.1)) (.oK (kD (tC ts))) (.oK (kD (tO ts))) u6 u7
      refine ⟨[.im (tD ts), u1, .im (.int p.1), .oK (kD (tC ts)), .oK (kD (bumps [] (outs dn))), .oK (kD (tO ts)), u6, u7], _, rfl, .inl ?_, ⟨.im (.int p.1), w6, w7, rfl⟩⟩
      have w0 : geV 0 [.im (tD ts), u1, .im (.int p.1), .oK (kD (tC ts)), .oK (kD (bumps [] (outs dn))), .oK (kD (tO ts)), u6, u7] = .ok (tD ts) := rfl
      have w2 : geV 2 [.im (tD ts), u1, .im (.int p.1), .oK (kD (tC ts)), .oK (kD (bumps [] (outs dn))), .oK (kD (tO ts)), u6, u7] = .ok (.int p.1) := rfl
      have g : gSeq itL (geA (F_outer 8) (gaCons (geOp ixD (geV 0) (geV 2)) (gaCons (geA lstD gaNil) gaNil))) [.im (tD ts), u1, .im (.int p.1), .oK (kD (tC ts)), .oK (kD (bumps [] (outs dn))), .oK (kD (tO ts)), u6, u7] = .ok ((outq p.2 []).map pD) := by
        have e0 : lstD [] = .ok (sL []) := lstD_ok sl0
        rw [e_gSeq, e_A, e_cons, e_op, w0, R.ok_bind, w2, R.ok_bind, ix_tD t.nd hp, R.ok_bind, e_cons, e_A, e_nil, R.ok_bind, e0]
        simp only [R.ok_bind]
        rw [outer_eq 8 p.2 [] (by omega) (by omega) (by show 0 + _ ≤ _; omega)]; rfl
      rw [e_for, g]
      dsimp only
      rw [l3]
      have : outs (dn ++ [p]) = outs dn ++ outq p.2 [] := by unfold outs; rw [List.flatMap_append]; simp
      rw [this, bumps_app])
  have f1 : forDO (.nm 2) 0 (forO (.tp (.cons (.nm 6) (.cons (.nm 7) .nil))) (gSeq itL (geA (F_outer 8) (gaCons (geOp ixD (geV 0) (geV 2)) (gaCons (geA lstD gaNil) gaNil)))) f_tab2) [.im (tD ts), u1, .un, .oK (kD (tC ts)), .oK [], .oK (kD (tO ts)), .un, .un] =
      .nx [.im (tD ts), u1, u2, .oK (kD (tC ts)), .oK (kD (tW ts)), .oK (kD (tO ts)), u6, u7] := forD_eq rfl l2
  have hn : (nms ts).length ≤ 6 := by
    have := tC_len t
    unfold nms nmsC
    rw [List.length_map, (srtK_perm _).length_eq]
    unfold ksI
    rw [List.length_map]; exact this
  have c1 : compE (.nm 6) [6] (gSeq itL (geA sortDct (gaCons (geT 3) gaNil))) (fun _ => .ok true) (geA tupD (gaCons (geV 6) (gaCons (geOp ixD (geT 3) (geV 6)) (gaCons (geOp ixD (geT 4) (geV 6)) (gaCons (geOp ixD (geT 5) (geV 6)) gaNil)))))
      [.im (tD ts), u1, u2, .oK (kD (tC ts)), .oK (kD (tW ts)), .oK (kD (tO ts)), u6, u7] = .ok (.lst ((nms ts).map (rowD ts))) := by
    refine compE_all (u := D.str) (h := rowD ts) (nms ts) ?_ (sl_ge (by omega)) fun n hn => ⟨[.im (tD ts), u1, u2, .oK (kD (tC ts)), .oK (kD (tW ts)), .oK (kD (tO ts)), .im (.str n), u7], rfl, ?_⟩
    · have w3 : geT 3 [.im (tD ts), u1, u2, .oK (kD (tC ts)), .oK (kD (tW ts)), .oK (kD (tO ts)), u6, u7] = .ok (.dK (kD (tC ts))) := rfl
      rw [e_gSeq, e_A, e_cons, w3, R.ok_bind, e_nil, R.ok_bind, R.ok_bind, sort_kD (by have := tC_len t; omega)]; rfl
    · have m1 : n ∈ (tC ts).map (·.1) := mem_nms.mp hn
      have m2 := mem_tW (mem_tC.mp m1)
      have m3 : n ∈ (tO ts).map (·.1) := mem_tO.mpr (mem_tC.mp m1)
      have w3 : geT 3 [.im (tD ts), u1, u2, .oK (kD (tC ts)), .oK (kD (tW ts)), .oK (kD (tO ts)), .im (.str n), u7] = .ok (.dK (kD (tC ts))) := rfl
      have w4 : geT 4 [.im (tD ts), u1, u2, .oK (kD (tC ts)), .oK (kD (tW ts)), .oK (kD (tO ts)), .im (.str n), u7] = .ok (.dK (kD (tW ts))) := rfl
      have w5 : geT 5 [.im (tD ts), u1, u2, .oK (kD (tC ts)), .oK (kD (tW ts)), .oK (kD (tO ts)), .im (.str n), u7] = .ok (.dK (kD (tO ts))) := rfl
      have w6 : geV 6 [.im (tD ts), u1, u2, .oK (kD (tC ts)), .oK (kD (tW ts)), .oK (kD (tO ts)), .im (.str n), u7] = .ok (.str n) := rfl
      simp only [e_A, e_cons, e_nil, e_op, w3, w4, w5, w6, R.ok_bind, ix_kD m1, ix_kD m2, ix_kD m3]
      exact e_tupD _ (sl_ge (by show 4 ≤ _; omega))
  unfold F_table b_table C_table_1 L_table_3 L_table_2 L_table_1
  unfold f_tab2 at f1
  simp only [e_run, st, e_seq, e_A, e_cons, e_nil, v0, R.ok_bind, n1, e_ofR, p3, e_for, i1, l1, f1]
  rw [c1]
  rfl
end VP

set_option Elab.async false
set_option linter.all false
set_option maxRecDepth 100000
set_option maxHeartbeats 1000000
namespace VP
open PySem PySem.Spec PyProof.Rows L2 LamX VS
theorem mulI_ok {i j : Int} (h : okMul i j) : mulI (.int i) (.int j) = .ok (.int (i * j)) := by unfold mulI; dsimp only; rw [if_pos h]
theorem fdivI_ok {i j : Int} (h : CDivW i j) : fdivI (.int i) (.int j) = .ok (.int (i / j)) := by unfold fdivI; dsimp only; rw [if_pos h]
theorem modI_ok {i j : Int} (h : 0 < j) : modI (.int i) (.int j) = .ok (.int (i % j)) := by unfold modI; dsimp only; rw [if_pos h]
theorem log_lt {x : Int} {n : Nat} (h0 : 0 ≤ x) (h : x < 2 ^ n) : x.natAbs.log2 ≤ n := by
  have : x.natAbs < 2 ^ n := by
    have e : (x.natAbs : Int) = x := Int.natAbs_of_nonneg h0
    have : ((x.natAbs : Nat) : Int) < ((2 ^ n : Nat) : Int) := by rw [e]; push_cast; exact h
    exact Int.ofNat_lt.mp this
  by_cases hz : x.natAbs = 0
  · rw [hz]; simp
  · exact Nat.le_of_lt ((Nat.log2_lt hz).mpr this)
theorem mul_wide {i j : Int} {n m : Nat} (hi : 0 ≤ i) (hi2 : i < 2 ^ n) (hj : 0 ≤ j) (hj2 : j < 2 ^ m) (h : n + m < 1000000) : okMul i j := .inr (by
  have a := log_lt hi hi2
  have b := log_lt hj hj2
  unfold CMulW; omega)
def p1 : Int := 340282366920938463463374607431768211507
def p2 : Int := 340282366920938463463374607431768211297
def p3 : Int := 18446744073709551557
def dr (c k : Int) : Int :=
  let m := (c * 6364136223846793005 + (k + 1) * 1442695040888963407) % p1
  let m := m * m % p2
  let m := (m % p3 + 1) * (m / p3 + 1) * m
  m % p1
theorem dr_pos (c k : Int) : 0 ≤ dr c k := Int.emod_nonneg _ (by decide)
theorem drawn_eq (c k : Int) : F__law_drawn [.int c, .int k] = .ok (.int (dr c k)) := by
  have st : startE 3 [D.int c, D.int k] = [.im (.int c), .im (.int k), .un] := rfl
  generalize hm : (c * 6364136223846793005 + (k + 1) * 1442695040888963407) % p1 = m
  have m0 : 0 ≤ m := hm ▸ Int.emod_nonneg _ (by decide)
  have m1 : m < 2 ^ 129 := Int.lt_trans (hm ▸ Int.emod_lt_of_pos _ (by decide)) (by decide)
  generalize hn : m * m % p2 = n
  have n0 : 0 ≤ n := hn ▸ Int.emod_nonneg _ (by decide)
  have n1 : n < 2 ^ 129 := Int.lt_trans (hn ▸ Int.emod_lt_of_pos _ (by decide)) (by decide)
  have a0 : 0 ≤ n % p3 := Int.emod_nonneg _ (by decide)
  have a1 : n % p3 < 2 ^ 64 := Int.lt_trans (Int.emod_lt_of_pos _ (by decide)) (by decide)
  have b0 : 0 ≤ n / p3 := Int.ediv_nonneg n0 (by decide)
  have b1 : n / p3 < 2 ^ 129 := Int.lt_of_le_of_lt (Int.ediv_le_self _ n0) n1
  have c0 : 0 ≤ (n % p3 + 1) * (n / p3 + 1) := Int.mul_nonneg (by omega) (by omega)
  have c1 : (n % p3 + 1) * (n / p3 + 1) < 2 ^ 200 := by
    have h1 : n % p3 + 1 ≤ 2 ^ 64 := by omega
    have h2 : n / p3 + 1 ≤ 2 ^ 129 := by omega
    have h3 : (n % p3 + 1) * (n / p3 + 1) ≤ 2 ^ 64 * 2 ^ 129 := Int.mul_le_mul h1 h2 (by omega) (by decide)
    exact Int.lt_of_le_of_lt h3 (by decide)
  have e : dr c k = (n % p3 + 1) * (n / p3 + 1) * n % p1 := by unfold dr; simp only [hm, hn]
  have k1 : okMul c 6364136223846793005 := .inl (.inr ⟨by decide, by decide⟩)
  have k2 : okMul (k + 1) 1442695040888963407 := .inl (.inr ⟨by decide, by decide⟩)
  have k3 : okMul m m := mul_wide m0 m1 m0 m1 (by decide)
  have k4 : okMul (n % p3 + 1) (n / p3 + 1) := mul_wide (n := 65) (m := 130) (by omega) (by omega) (by omega) (by omega) (by decide)
  have k5 : okMul ((n % p3 + 1) * (n / p3 + 1)) n := mul_wide c0 c1 n0 n1 (by decide)
  have d1 : CDivW n 18446744073709551557 := ⟨by decide, by decide +kernel⟩
  rw [e]
  unfold F__law_drawn b__law_drawn
  have hm' : (c * 6364136223846793005 + (k + 1) * 1442695040888963407) % 340282366920938463463374607431768211507 = m := hm
  have hn' : m * m % 340282366920938463463374607431768211297 = n := hn
  simp [st, mulI_ok k1, mulI_ok k2, modI_ok, hm', mulI_ok k3, hn', fdivI_ok d1]
  have k4' : mulI (.int (n % 18446744073709551557 + 1)) (.int (n / 18446744073709551557 + 1)) = .ok (.int ((n % p3 + 1) * (n / p3 + 1))) := mulI_ok k4
  have k5' := mulI_ok k5
  rw [k4', R.ok_bind, k5', e_ofR]
  simp [modI_ok]
  rfl
theorem name_eq (m : Int) : ∃ n ∈ NM, F__law_name [.int m] = .ok (.str n) := by
  have h0 := Int.emod_nonneg (m / 8) (by decide : (6 : Int) ≠ 0)
  have h1 := Int.emod_lt_of_pos (m / 8) (by decide : (0 : Int) < 6)
  generalize hx : m / 8 % 6 = x at h0 h1
  have st : startE 1 [D.int m] = [.im (.int m)] := rfl
  have v0 : geV 0 [.im (.int m)] = .ok (.int m) := rfl
  have l0 : lstD [D.str "a", .str "b", .str "c", .str "ab", .str "work", .str "abcdefgh"] = .ok (.lst [.str "a", .str "b", .str "c", .str "ab", .str "work", .str "abcdefgh"]) := lstD_ok (sl_ge (by show 6 ≤ _; omega))
  have key : F__law_name [.int m] = (match ixL (.lst [.str "a", .str "b", .str "c", .str "ab", .str "work", .str "abcdefgh"]) (.int x) with | .ok d => .ok d | .ex c => .ex c | .no => .no) := by
    unfold F__law_name b__law_name
    simp only [e_run, st, e_op, e_A, e_cons, e_nil, e_S, e_I, v0, R.ok_bind, l0, fdivI_ok (show CDivW m 8 from ⟨by decide, by decide +kernel⟩), modI_ok (show (0 : Int) < 6 by decide), hx]
    cases ixL (.lst [.str "a", .str "b", .str "c", .str "ab", .str "work", .str "abcdefgh"]) (.int x) <;> rfl
  have : x = 0 ∨ x = 1 ∨ x = 2 ∨ x = 3 ∨ x = 4 ∨ x = 5 := by omega
  rw [key]
  rcases this with rfl | rfl | rfl | rfl | rfl | rfl
  · exact ⟨"a", by decide, rfl⟩
  · exact ⟨"b", by decide, rfl⟩
  · exact ⟨"c", by decide, rfl⟩
  · exact ⟨"ab", by decide, rfl⟩
  · exact ⟨"work", by decide, rfl⟩
  · exact ⟨"abcdefgh", by decide, rfl⟩
end VP

set_option Elab.async false
set_option linter.all false
set_option maxRecDepth 100000
set_option maxHeartbeats 1000000
namespace VP
open PySem PySem.Spec PyProof.Rows L2 LamX VS
/-! a call more at the end -/
def capp : Cals → Str → Int → Int → Cals → Cals
  | .nil, n, a, b, i => .cons n a b i .nil
  | .cons m x y j r, n, a, b, i => .cons m x y j (capp r n a b i)
theorem toDs_capp (n : Str) (a b : Int) (i : Cals) : ∀ c, toDs (capp c n a b i) = toDs c ++ [one n a b i]
  | .nil => rfl
  | .cons m x y j r => by show _ :: toDs (capp r n a b i) = _; rw [toDs_capp n a b i r]; rfl
theorem cnt_capp (n : Str) (a b : Int) (i : Cals) : ∀ c, cnt (capp c n a b i) = cnt c + (1 + cnt i)
  | .nil => by show 1 + cnt i + 0 = 0 + _; omega
  | .cons m x y j r => by show 1 + cnt j + cnt (capp r n a b i) = 1 + cnt j + cnt r + _; rw [cnt_capp n a b i r]; omega
theorem dep_capp (n : Str) (a b : Int) (i : Cals) {d : Nat} : ∀ c, dep c ≤ d → dep i + 1 ≤ d → dep (capp c n a b i) ≤ d
  | .nil, _, h => by show max (dep i + 1) 0 ≤ d; omega
  | .cons m x y j r, h, h2 => by
    rw [dep_cons] at h
    show max (dep j + 1) (dep (capp r n a b i)) ≤ d
    have := dep_capp n a b i r (d := d) (by omega) h2
    omega
theorem val_capp {n : Str} {a b : Int} {i : Cals} (hn : n ∈ NM) (hab : a ≤ b) (vi : val i a b) : ∀ {c : Cals} {lo h : Int}, val c lo h → lo ≤ h → h ≤ a → val (capp c n a b i) lo b
  | .nil, lo, h, _, h1, h2 => ⟨hn, by omega, hab, Int.le_refl _, vi, trivial⟩
  | .cons m x y j r, lo, h, v, h1, h2 => by
    rw [val_cons] at v
    exact ⟨v.1, v.2.1, v.2.2.1, by omega, v.2.2.2.2.1, val_capp hn hab vi v.2.2.2.2.2 v.2.2.2.1 h2⟩
theorem capp_ne (n : Str) (a b : Int) (i : Cals) : ∀ c, capp c n a b i ≠ .nil
  | .nil => fun e => by cases e
  | .cons m x y j r => fun e => by cases e
def KK : Nat → Nat
  | 0 => 0 | d + 1 => 3 * (1 + KK d)
theorem ix3 {x : Int} (h0 : 0 ≤ x) (h1 : x < 3) : ∃ v : Int, 0 < v ∧ ixL (.lst [.int 1, .int 4, .int 9]) (.int x) = .ok (.int v) := by
  have : x = 0 ∨ x = 1 ∨ x = 2 := by omega
  rcases this with rfl | rfl | rfl
  · exact ⟨1, by decide, rfl⟩
  · exact ⟨4, by decide, rfl⟩
  · exact ⟨9, by decide, rfl⟩
theorem ix4 {x : Int} (h0 : 0 ≤ x) (h1 : x < 4) : ∃ v : Int, 0 < v ∧ ixL (.lst [.int 1, .int 7, .int 40, .int 300]) (.int x) = .ok (.int v) := by
  have : x = 0 ∨ x = 1 ∨ x = 2 ∨ x = 3 := by omega
  rcases this with rfl | rfl | rfl | rfl
  · exact ⟨1, by decide, rfl⟩
  · exact ⟨7, by decide, rfl⟩
  · exact ⟨40, by decide, rfl⟩
  · exact ⟨300, by decide, rfl⟩
theorem dv (i : Int) {j : Int} (h : 0 < j) (h2 : j.natAbs.log2 < 9000) : fdivI (.int i) (.int j) = .ok (.int (i / j)) := fdivI_ok ⟨h, h2⟩
noncomputable def f_calls (self : List D → R D) : VS.Env → Out := (seqO (fun ρ => ofR ((geA F__law_drawn (gaCons (geV 0) (gaCons (geV 4) gaNil))) ρ) fun d => .nx (ρ.set 7 (.im d)))
  (seqO (fun ρ => ofR ((geOp addI (geV 6) (geOp modI (geOp fdivI (geV 7) (gI 8)) (geOp ixL (geA lstD (gaCons (gI 1) (gaCons (gI 4) (gaCons (gI 9) gaNil)))) (geOp modI (geV 7) (gI 3))))) ρ) fun d => .nx (ρ.set 8 (.im d)))
  (seqO (fun ρ => ofR ((geOp addI (geV 8) (geOp modI (geOp fdivI (geV 7) (gI 512)) (geOp ixL (geA lstD (gaCons (gI 1) (gaCons (gI 7) (gaCons (gI 40) (gaCons (gI 300) gaNil))))) (geOp modI (geOp fdivI (geV 7) (gI 64)) (gI 4))))) ρ) fun d => .nx (ρ.set 9 (.im d)))
  (ifO (geB (geOp (cmI fun i j => decide (i ≤ j)) (geV 9) (geV 2)))
   (seqO (appO 5 (geA tupD (gaCons (geA F__law_name (gaCons (geOp fdivI (geV 7) (gI 16)) gaNil)) (gaCons (geV 8) (gaCons (geV 9) (gaCons (geA self (gaCons (geA F__law_drawn (gaCons (geV 7) (gaCons (gI 1) gaNil))) (gaCons (geV 8) (gaCons (geV 9) (gaCons (geOp subI (geV 3) (gI 1)) gaNil))))) gaNil))))))
   (fun ρ => ofR ((geV 9) ρ) fun d => .nx (ρ.set 6 (.im d))))
   .nx))))
/-- what is drawn: calls within two ticks -/
def Drawn (F : List D → R D) (d : Nat) : Prop := ∀ (m lo hi : Int), ∃ c, F [.int m, .int lo, .int hi, .int d] = .ok (cD c) ∧ val c lo hi ∧ dep c ≤ d ∧ cnt c ≤ KK d
theorem calls_step {self : List D → R D} {d : Nat} (hs : Drawn self d) {m lo hi h : Int} {c : Cals} {x : Int} {u7 u8 u9 : Sl} (v : val c lo h) (h1 : lo ≤ h) (hc : cnt c ≤ 1000) :
    ∃ c' h' w7 w8 w9, f_calls self [.im (.int m), .im (.int lo), .im (.int hi), .im (.int (d + 1 : Nat)), .im (.int x), .ow (toDs c), .im (.int h), u7, u8, u9] = .nx [.im (.int m), .im (.int lo), .im (.int hi), .im (.int (d + 1 : Nat)), .im (.int x), .ow (toDs c'), .im (.int h'), w7, w8, w9] ∧
      val c' lo h' ∧ lo ≤ h' ∧ (c' = c ∧ h' = h ∨ h' ≤ hi ∧ cnt c' ≤ cnt c + (1 + KK d) ∧ (dep c ≤ d + 1 → dep c' ≤ d + 1)) := by
  generalize hone : dr m x = o
  have e1 : F__law_drawn [.int m, .int x] = .ok (.int o) := by rw [drawn_eq, hone]
  obtain ⟨v3, v3p, ev3⟩ := ix3 (Int.emod_nonneg o (by decide : (3 : Int) ≠ 0)) (Int.emod_lt_of_pos o (by decide))
  obtain ⟨v4, v4p, ev4⟩ := ix4 (Int.emod_nonneg (o / 64) (by decide : (4 : Int) ≠ 0)) (Int.emod_lt_of_pos (o / 64) (by decide))
  have q1 : 0 ≤ o / 8 % v3 := Int.emod_nonneg _ (by omega)
  have q2 : 0 ≤ o / 512 % v4 := Int.emod_nonneg _ (by omega)
  generalize hf : h + o / 8 % v3 = fi
  generalize hg : fi + o / 512 % v4 = la
  have l3 : lstD [D.int 1, .int 4, .int 9] = .ok (.lst [.int 1, .int 4, .int 9]) := lstD_ok (sl_ge (by show 3 ≤ _; omega))
  have l4 : lstD [D.int 1, .int 7, .int 40, .int 300] = .ok (.lst [.int 1, .int 7, .int 40, .int 300]) := lstD_ok (sl_ge (by show 4 ≤ _; omega))
  have s1 : f_calls self [.im (.int m), .im (.int lo), .im (.int hi), .im (.int (d + 1 : Nat)), .im (.int x), .ow (toDs c), .im (.int h), u7, u8, u9] =
      (ifO (geB (geOp (cmI fun i j => decide (i ≤ j)) (geV 9) (geV 2)))
        (seqO (appO 5 (geA tupD (gaCons (geA F__law_name (gaCons (geOp fdivI (geV 7) (gI 16)) gaNil)) (gaCons (geV 8) (gaCons (geV 9) (gaCons (geA self (gaCons (geA F__law_drawn (gaCons (geV 7) (gaCons (gI 1) gaNil))) (gaCons (geV 8) (gaCons (geV 9) (gaCons (geOp subI (geV 3) (gI 1)) gaNil))))) gaNil))))))
          (fun ρ => ofR ((geV 9) ρ) fun d => .nx (ρ.set 6 (.im d)))) .nx) [.im (.int m), .im (.int lo), .im (.int hi), .im (.int (d + 1 : Nat)), .im (.int x), .ow (toDs c), .im (.int h), .im (.int o), .im (.int fi), .im (.int la)] := by
    unfold f_calls
    have a1 : (geA F__law_drawn (gaCons (geV 0) (gaCons (geV 4) gaNil))) [.im (.int m), .im (.int lo), .im (.int hi), .im (.int (d + 1 : Nat)), .im (.int x), .ow (toDs c), .im (.int h), u7, u8, u9] = .ok (.int o) := e1
    have a2 : (geOp addI (geV 6) (geOp modI (geOp fdivI (geV 7) (gI 8)) (geOp ixL (geA lstD (gaCons (gI 1) (gaCons (gI 4) (gaCons (gI 9) gaNil)))) (geOp modI (geV 7) (gI 3))))) [.im (.int m), .im (.int lo), .im (.int hi), .im (.int (d + 1 : Nat)), .im (.int x), .ow (toDs c), .im (.int h), .im (.int o), u8, u9] = .ok (.int fi) := by
      have w7 : geV 7 [.im (.int m), .im (.int lo), .im (.int hi), .im (.int (d + 1 : Nat)), .im (.int x), .ow (toDs c), .im (.int h), .im (.int o), u8, u9] = .ok (.int o) := rfl
      have w6 : geV 6 [.im (.int m), .im (.int lo), .im (.int hi), .im (.int (d + 1 : Nat)), .im (.int x), .ow (toDs c), .im (.int h), .im (.int o), u8, u9] = .ok (.int h) := rfl
      simp only [e_op, e_A, e_cons, e_nil, e_I, w6, w7, R.ok_bind, l3, dv o (show (0 : Int) < 8 by decide) (by decide +kernel), modI_ok (show (0 : Int) < 3 by decide), ev3, modI_ok v3p, e_addI, hf]
    have a3 : (geOp addI (geV 8) (geOp modI (geOp fdivI (geV 7) (gI 512)) (geOp ixL (geA lstD (gaCons (gI 1) (gaCons (gI 7) (gaCons (gI 40) (gaCons (gI 300) gaNil))))) (geOp modI (geOp fdivI (geV 7) (gI 64)) (gI 4))))) [.im (.int m), .im (.int lo), .im (.int hi), .im (.int (d + 1 : Nat)), .im (.int x), .ow (toDs c), .im (.int h), .im (.int o), .im (.int fi), u9] = .ok (.int la) := by
      have w7 : geV 7 [.im (.int m), .im (.int lo), .im (.int hi), .im (.int (d + 1 : Nat)), .im (.int x), .ow (toDs c), .im (.int h), .im (.int o), .im (.int fi), u9] = .ok (.int o) := rfl
      have w8 : geV 8 [.im (.int m), .im (.int lo), .im (.int hi), .im (.int (d + 1 : Nat)), .im (.int x), .ow (toDs c), .im (.int h), .im (.int o), .im (.int fi), u9] = .ok (.int fi) := rfl
      simp only [e_op, e_A, e_cons, e_nil, e_I, w7, w8, R.ok_bind, l4, dv o (show (0 : Int) < 512 by decide) (by decide +kernel), dv o (show (0 : Int) < 64 by decide) (by decide +kernel), modI_ok (show (0 : Int) < 4 by decide), ev4, modI_ok v4p, e_addI, hg]
    rw [e_seq, a1, e_ofR]
    dsimp only [List.set]
    rw [e_seq, a2, e_ofR]
    dsimp only [List.set]
    rw [e_seq, a3, e_ofR]
    rfl
  rw [s1, e_ifO]
  have w : geB (geOp (cmI fun i j => decide (i ≤ j)) (geV 9) (geV 2)) [.im (.int m), .im (.int lo), .im (.int hi), .im (.int (d + 1 : Nat)), .im (.int x), .ow (toDs c), .im (.int h), .im (.int o), .im (.int fi), .im (.int la)] = .ok (decide (la ≤ hi)) := rfl
  rw [w]
  dsimp only
  by_cases hl : la ≤ hi
  · rw [if_pos (decide_eq_true hl)]
    obtain ⟨nm, hnm, en⟩ := name_eq (o / 16)
    obtain ⟨ci, eci, vci, dci, cci⟩ := hs (dr o 1) fi la
    have hfa : h ≤ fi := by omega
    have hab : fi ≤ la := by omega
    have a4 : geA tupD (gaCons (geA F__law_name (gaCons (geOp fdivI (geV 7) (gI 16)) gaNil)) (gaCons (geV 8) (gaCons (geV 9) (gaCons (geA self (gaCons (geA F__law_drawn (gaCons (geV 7) (gaCons (gI 1) gaNil))) (gaCons (geV 8) (gaCons (geV 9) (gaCons (geOp subI (geV 3) (gI 1)) gaNil))))) gaNil)))) [.im (.int m), .im (.int lo), .im (.int hi), .im (.int (d + 1 : Nat)), .im (.int x), .ow (toDs c), .im (.int h), .im (.int o), .im (.int fi), .im (.int la)] = .ok (one nm fi la ci) := by
      have w7 : geV 7 [.im (.int m), .im (.int lo), .im (.int hi), .im (.int (d + 1 : Nat)), .im (.int x), .ow (toDs c), .im (.int h), .im (.int o), .im (.int fi), .im (.int la)] = .ok (.int o) := rfl
      have w8 : geV 8 [.im (.int m), .im (.int lo), .im (.int hi), .im (.int (d + 1 : Nat)), .im (.int x), .ow (toDs c), .im (.int h), .im (.int o), .im (.int fi), .im (.int la)] = .ok (.int fi) := rfl
      have w9 : geV 9 [.im (.int m), .im (.int lo), .im (.int hi), .im (.int (d + 1 : Nat)), .im (.int x), .ow (toDs c), .im (.int h), .im (.int o), .im (.int fi), .im (.int la)] = .ok (.int la) := rfl
      have w3 : geV 3 [.im (.int m), .im (.int lo), .im (.int hi), .im (.int (d + 1 : Nat)), .im (.int x), .ow (toDs c), .im (.int h), .im (.int o), .im (.int fi), .im (.int la)] = .ok (.int (d + 1 : Nat)) := rfl
      have ed : ((d + 1 : Nat) : Int) - 1 = (d : Int) := by omega
      simp only [e_A, e_cons, e_nil, e_op, e_I, w3, w7, w8, w9, R.ok_bind, dv o (show (0 : Int) < 16 by decide) (by decide +kernel), en, drawn_eq, e_subI, ed, eci]
      exact e_tupD _ (sl_ge (by show 4 ≤ _; omega))
    have hlen : (toDs c).length < sizeLine := by
      have := tops_len c
      rw [toDs_tops, List.length_map, sizeLine_eq]; omega
    refine ⟨capp c nm fi la ci, la, .im (.int o), .im (.int fi), .im (.int la), ?_, val_capp hnm hab vci v h1 hfa, by omega, .inr ⟨hl, ?_, fun hd => dep_capp nm fi la ci c hd (by omega)⟩⟩
    · rw [e_seq, e_app]
      simp only [List.getElem?_cons_succ, List.getElem?_cons_zero, a4, e_ofR]
      rw [if_pos hlen, ← toDs_capp]
      rfl
    · rw [cnt_capp]; omega
  · rw [if_neg (by rw [decide_eq_false hl]; decide)]
    exact ⟨c, h, .im (.int o), .im (.int fi), .im (.int la), rfl, v, h1, .inl ⟨rfl, rfl⟩⟩

theorem calls_loop {self : List D → R D} {d : Nat} (hs : Drawn self d) (hk : KK (d + 1) ≤ 900) {m lo hi : Int} (n : Nat) (hn : n ≤ 3) : ∃ c h u4 u7 u8 u9, runFor (bindT (.nm 4)) (f_calls self) (upto 0 n) [.im (.int m), .im (.int lo), .im (.int hi), .im (.int (d + 1 : Nat)), .un, .ow [], .im (.int lo), .un, .un, .un] =
      .nx [.im (.int m), .im (.int lo), .im (.int hi), .im (.int (d + 1 : Nat)), u4, .ow (toDs c), .im (.int h), u7, u8, u9] ∧ val c lo hi ∧ dep c ≤ d + 1 ∧ cnt c ≤ KK (d + 1) := by
  obtain ⟨ρ', e, c, h, u4, u7, u8, u9, rfl, v, hl, hh, hc, hd⟩ := for_all (b := bindT (.nm 4)) (f := f_calls self) (u := fun i : Nat => D.int (0 + (i : Int)))
    (fun dn ρ => ∃ c h u4 u7 u8 u9, ρ = [.im (.int m), .im (.int lo), .im (.int hi), .im (.int (d + 1 : Nat)), u4, .ow (toDs c), .im (.int h), u7, u8, u9] ∧ val c lo h ∧ lo ≤ h ∧ (c = .nil ∨ h ≤ hi) ∧ cnt c ≤ dn.length * (1 + KK d) ∧ dep c ≤ d + 1)
    (List.range n) [.im (.int m), .im (.int lo), .im (.int hi), .im (.int (d + 1 : Nat)), .un, .ow [], .im (.int lo), .un, .un, .un] ⟨.nil, lo, .un, .un, .un, .un, rfl, trivial, Int.le_refl _, .inl rfl, Nat.zero_le _, Nat.zero_le _⟩ (by
      rintro dn x rs ρ e ⟨c, h, u4, u7, u8, u9, rfl, v, hl, hh, hc, hd⟩
      have hlen : dn.length + 1 ≤ 3 := by
        have := congrArg List.length e
        rw [List.length_append, List.length_cons, List.length_range] at this
        omega
      have hk' : KK (d + 1) = 3 * (1 + KK d) := rfl
      have hm : dn.length * (1 + KK d) ≤ 2 * (1 + KK d) := Nat.mul_le_mul_right _ (by omega)
      obtain ⟨c', h', w7, w8, w9, e1, v', hl', hor⟩ := calls_step (self := self) (d := d) hs (m := m) (lo := lo) (hi := hi) (h := h) (c := c) (x := 0 + (x : Int)) (u7 := u7) (u8 := u8) (u9 := u9) v hl (by omega)
      refine ⟨[.im (.int m), .im (.int lo), .im (.int hi), .im (.int (d + 1 : Nat)), .im (.int (0 + (x : Int))), .ow (toDs c), .im (.int h), u7, u8, u9], _, rfl, .inl e1, c', h', .im (.int (0 + (x : Int))), w7, w8, w9, rfl, v', hl', ?_, ?_, ?_⟩
      · rcases hor with ⟨rfl, rfl⟩ | ⟨h1, _⟩
        · exact hh
        · exact .inr h1
      · rw [List.length_append, List.length_cons, List.length_nil, Nat.zero_add, Nat.add_mul, Nat.one_mul]
        rcases hor with ⟨rfl, rfl⟩ | ⟨_, h2, _⟩ <;> omega
      · rcases hor with ⟨rfl, rfl⟩ | ⟨_, _, h3⟩
        · exact hd
        · exact h3 hd)
  refine ⟨c, h, u4, u7, u8, u9, e, ?_, hd, ?_⟩
  · rcases hh with rfl | hh
    · trivial
    · exact val_up v hh
  · rw [List.length_range] at hc
    have hk' : KK (d + 1) = 3 * (1 + KK d) := rfl
    have : n * (1 + KK d) ≤ 3 * (1 + KK d) := Nat.mul_le_mul_right _ hn
    omega
theorem KK_le {a b : Nat} (h : a ≤ b) : KK a ≤ KK b := by
  induction b with
  | zero => rw [Nat.le_zero.mp h]; exact Nat.le_refl _
  | succ b ih =>
    rcases Nat.lt_or_ge b a with h1 | h1
    · have : a = b + 1 := by omega
      rw [this]; exact Nat.le_refl _
    · have := ih h1
      have e : KK (b + 1) = 3 * (1 + KK b) := rfl
      omega
theorem calls_eq : ∀ (j d : Nat), d < j → KK d ≤ 900 → Drawn (F__law_calls j) d
  | 0, d, h, _ => by omega
  | j + 1, d, hj, hk => fun m lo hi => by
    have st : startE 10 [D.int m, .int lo, .int hi, .int d] = [.im (.int m), .im (.int lo), .im (.int hi), .im (.int d), .un, .un, .un, .un, .un, .un] := rfl
    have l0 : lstD [] = .ok (.lst []) := lstD_ok sl0
    have p2 : parO2 5 6 .f .c (geA lstD gaNil) (geV 1) [.im (.int m), .im (.int lo), .im (.int hi), .im (.int d), .un, .un, .un, .un, .un, .un] = .nx [.im (.int m), .im (.int lo), .im (.int hi), .im (.int d), .un, .ow [], .im (.int lo), .un, .un, .un] := by
      unfold parO2
      rw [e_A, e_nil, R.ok_bind, l0, e_ofR]
      rfl
    have fin : ∀ (c : Cals) (h : Int) (u4 u7 u8 u9 : Sl), geA tupOf (gaCons (geT 5) gaNil) [.im (.int m), .im (.int lo), .im (.int hi), .im (.int d), u4, .ow (toDs c), .im (.int h), u7, u8, u9] = .ok (cD c) := fun _ _ _ _ _ _ => rfl
    have v0 : geV 0 [.im (.int m), .im (.int lo), .im (.int hi), .im (.int d), .un, .ow [], .im (.int lo), .un, .un, .un] = .ok (.int m) := rfl
    have v3 : geV 3 [.im (.int m), .im (.int lo), .im (.int hi), .im (.int d), .un, .ow [], .im (.int lo), .un, .un, .un] = .ok (.int d) := rfl
    cases d with
    | zero =>
      refine ⟨.nil, ?_, trivial, Nat.le_refl _, Nat.zero_le _⟩
      have g : gSeqA rng1 (gaCons (geIf (geB (geOp (cmI fun i j => decide (j < i)) (geV 3) (gI 0))) (geOp modI (geV 0) (gI 4)) (gI 0)) gaNil) [.im (.int m), .im (.int lo), .im (.int hi), .im (.int (0 : Nat)), .un, .ow [], .im (.int lo), .un, .un, .un] = .ok [] := rfl
      show runDef 10 (b__law_calls (F__law_calls j)) _ = _
      unfold b__law_calls L__law_calls_1
      simp only [e_run, st, e_seq, p2, e_for, g]
      rfl
    | succ d =>
      have ih := calls_eq j d (by omega) (Nat.le_trans (KK_le (Nat.le_succ d)) hk)
      have n0 : 0 ≤ m % 4 := Int.emod_nonneg _ (by decide)
      have n1 : m % 4 < 4 := Int.emod_lt_of_pos _ (by decide)
      obtain ⟨c, h, u4, u7, u8, u9, e, v, hd, hc⟩ := calls_loop (self := F__law_calls j) (d := d) ih hk (m := m) (lo := lo) (hi := hi) (m % 4).toNat (by omega)
      refine ⟨c, ?_, v, hd, hc⟩
      have hd0 : decide ((0 : Int) < ((d + 1 : Nat) : Int)) = true := decide_eq_true (by omega)
      have g : gSeqA rng1 (gaCons (geIf (geB (geOp (cmI fun i j => decide (j < i)) (geV 3) (gI 0))) (geOp modI (geV 0) (gI 4)) (gI 0)) gaNil) [.im (.int m), .im (.int lo), .im (.int hi), .im (.int (d + 1 : Nat)), .un, .ow [], .im (.int lo), .un, .un, .un] = .ok (upto 0 (m % 4).toNat) := by
        rw [e_gSeqA, e_cons, e_if, e_gB, e_op, v3, R.ok_bind, e_I, R.ok_bind, e_cmI, R.ok_bind, e_bl, R.ok_bind, if_pos hd0, e_op, v0, R.ok_bind, e_I, R.ok_bind, modI_ok (by decide), R.ok_bind, e_nil, R.ok_bind, R.ok_bind]
        unfold rng1
        dsimp only
        rw [if_pos ⟨by omega, by omega⟩]
      show runDef 10 (b__law_calls (F__law_calls j)) _ = _
      unfold b__law_calls L__law_calls_1
      unfold f_calls at e
      simp only [e_run, st, e_seq, p2, e_for, g, e, fin, e_ofR]
end VP

set_option Elab.async false
set_option linter.all false
set_option maxRecDepth 100000
set_option maxHeartbeats 1000000
namespace VP
open PySem PySem.Spec PyProof.Rows L2 LamX VS
theorem toPy_one (n : Str) (a b : Int) (i : Cals) : toPy (one n a b i) = .tuple [.str n, .int a, .int b, .tuple (toPys (toDs i))] := rfl
theorem NM_ok : ∀ n ∈ NM, PyData.strOk n = true := by
  intro n hn
  unfold NM at hn
  rcases List.mem_cons.mp hn with rfl | hn; · decide +kernel
  rcases List.mem_cons.mp hn with rfl | hn; · decide +kernel
  rcases List.mem_cons.mp hn with rfl | hn; · decide +kernel
  rcases List.mem_cons.mp hn with rfl | hn; · decide +kernel
  rcases List.mem_cons.mp hn with rfl | hn; · decide +kernel
  rcases List.mem_cons.mp hn with rfl | hn; · decide +kernel
  cases hn
theorem lay_calls : ∀ {c : Cals} {lo hi : Int}, val c lo hi → PyData.canLayAll0 (toPys (toDs c)) = true
  | .nil, _, _, _ => rfl
  | .cons n a b i r, lo, hi, v => by
    rw [val_cons] at v
    rw [toDs_cons, toPys, toPy_one, PyData.canLayAll0, lay_calls v.2.2.2.2.2, Bool.and_true]
    simp [PyData.canLay0, PyData.canLayAll0, lay_calls v.2.2.2.2.1, NM_ok n v.1]
def isC : Cals → Bool | .nil => false | .cons .. => true
theorem depth_calls : ∀ c : Cals, PyData.depthAll (toPys (toDs c)) ≤ 2 * dep c
  | .nil => Nat.le_refl _
  | .cons n a b i r => by
    have h1 := depth_calls i
    have h2 := depth_calls r
    rw [toDs_cons, toPys, toPy_one, PyData.depthAll, dep_cons]
    simp only [PyData.depth, PyData.depthAll]
    omega
theorem shp_calls {c : Cals} {lo hi : Int} (v : val c lo hi) (h : dep c ≤ 90) : shp (cD c) = true := by
  have h1 := depth_calls c
  unfold shp
  rw [Bool.and_eq_true, decide_eq_true_eq]
  refine ⟨?_, ?_⟩
  · show PyData.canLay0 (.tuple _) = true
    rw [PyData.canLay0]; exact lay_calls v
  · show PyData.depth (.tuple _) ≤ 200
    rw [PyData.depth]; omega
theorem ne_nil {c : Cals} {lo hi : Int} (v : val c lo hi) (h : dep c ≤ 90) : cmNe (cD c) (.tup []) = .ok (.bl (isC c)) := by
  have s1 := shp_calls v h
  have s2 : shp (.tup []) = true := rfl
  unfold cmNe
  rw [s1, s2]
  cases c with
  | nil => rfl
  | cons n a b i r => rfl
/-! the trees that are drawn -/
structure TG (ts : Trs) : Prop where
  pw : (ts.map (·.1)).Pairwise (· < ·)
  ok : ∀ p ∈ ts, 1 ≤ p.1 ∧ p.1 ≤ 4 ∧ val p.2 0 904 ∧ dep p.2 ≤ 4 ∧ cnt p.2 ≤ 120 ∧ p.2 ≠ .nil
theorem TG.tv {ts : Trs} (t : TG ts) : TV ts := ⟨t.pw, fun p hp => by
  have h := t.ok p hp
  exact ⟨h.1, h.2.1, val_up h.2.2.1 (by decide), h.2.2.2.1, by omega⟩⟩
theorem val_lo {c : Cals} {lo lo' hi : Int} (h : val c lo hi) (k : lo' ≤ lo) : val c lo' hi := by
  cases c with
  | nil => trivial
  | cons n a b i r => rw [val_cons] at h ⊢; exact ⟨h.1, by omega, h.2.2⟩
noncomputable def f_trees : VS.Env → Out := (seqO (fun ρ => ofR ((geA F__law_drawn (gaCons (geV 0) (gaCons (geOp addI (gI 10) (geV 2)) gaNil))) ρ) fun d => .nx (ρ.set 3 (.im d)))
  (seqO (fun ρ => ofR ((geA (F__law_calls 8) (gaCons (geOp fdivI (geV 3) (gI 8)) (gaCons (geOp modI (geV 3) (gI 5)) (gaCons (geOp addI (gI 5) (geOp modI (geOp fdivI (geV 3) (gI 64)) (gI 900))) (gaCons (gI 4) gaNil))))) ρ) fun d => .nx (ρ.set 4 (.im d)))
  (ifO (gAnd (geB (geOp cmNe (geV 4) (geA tupD gaNil))) (geB (geOp (cmI fun i j => decide (j < i)) (geOp modI (geV 3) (gI 3)) (gI 0))))
   (putO 1 (geV 4) (geV 2))
   .nx)))
theorem pk_new {ts : Trs} {x : Int} {c : Cals} (h : ∀ p ∈ ts, p.1 ≠ x) : pk (tK ts) (.inl x) (cD c) = tK (ts ++ [(x, c)]) := by
  unfold pk
  have : ((tK ts).any fun kv => decide (kv.1 = (Sum.inl x : Key))) = false := by
    unfold tK
    rw [List.any_map, List.any_eq_false]
    intro p hp e
    exact h p hp (Sum.inl.inj (of_decide_eq_true e))
  rw [this]
  unfold tK
  simp
theorem trees_step {m x : Int} {ts : Trs} {u3 u4 : Sl} (hx : ∀ p ∈ ts, p.1 < x) (h1 : 1 ≤ x) (h4 : x ≤ 4) (t : TG ts) : ∃ ts' w3 w4, f_trees [.im (.int m), .oK (tK ts), .im (.int x), u3, u4] = .nx [.im (.int m), .oK (tK ts'), .im (.int x), w3, w4] ∧ TG ts' ∧ ∀ p ∈ ts', p.1 ≤ x := by
  generalize hone : dr m (10 + x) = o
  have e1 : F__law_drawn [.int m, .int (10 + x)] = .ok (.int o) := by rw [drawn_eq, hone]
  have q0 : 0 ≤ o % 5 := Int.emod_nonneg _ (by decide)
  have q1 : o / 64 % 900 < 900 := Int.emod_lt_of_pos _ (by decide)
  obtain ⟨c, ec, vc, dc, cc⟩ := calls_eq 8 4 (by decide) (by decide) (o / 8) (o % 5) (5 + o / 64 % 900)
  have kk : KK 4 = 120 := rfl
  rw [kk] at cc
  have v' : val c 0 904 := val_lo (val_up vc (by omega)) q0
  have s1 : f_trees [.im (.int m), .oK (tK ts), .im (.int x), u3, u4] = (ifO (gAnd (geB (geOp cmNe (geV 4) (geA tupD gaNil))) (geB (geOp (cmI fun i j => decide (j < i)) (geOp modI (geV 3) (gI 3)) (gI 0))))
   (putO 1 (geV 4) (geV 2)) .nx) [.im (.int m), .oK (tK ts), .im (.int x), .im (.int o), .im (cD c)] := by
    unfold f_trees
    have a1 : geA F__law_drawn (gaCons (geV 0) (gaCons (geOp addI (gI 10) (geV 2)) gaNil)) [.im (.int m), .oK (tK ts), .im (.int x), u3, u4] = .ok (.int o) := e1
    have a2 : geA (F__law_calls 8) (gaCons (geOp fdivI (geV 3) (gI 8)) (gaCons (geOp modI (geV 3) (gI 5)) (gaCons (geOp addI (gI 5) (geOp modI (geOp fdivI (geV 3) (gI 64)) (gI 900))) (gaCons (gI 4) gaNil)))) [.im (.int m), .oK (tK ts), .im (.int x), .im (.int o), u4] = .ok (cD c) := by
      have w3 : geV 3 [.im (.int m), .oK (tK ts), .im (.int x), .im (.int o), u4] = .ok (.int o) := rfl
      simp only [e_op, e_A, e_cons, e_nil, e_I, w3, R.ok_bind, dv o (show (0 : Int) < 8 by decide) (by decide +kernel), dv o (show (0 : Int) < 64 by decide) (by decide +kernel), modI_ok (show (0 : Int) < 5 by decide), modI_ok (show (0 : Int) < 900 by decide), e_addI]
      exact ec
    rw [e_seq, a1, e_ofR]
    dsimp only [List.set]
    rw [e_seq, a2, e_ofR]
    rfl
  have w : gAnd (geB (geOp cmNe (geV 4) (geA tupD gaNil))) (geB (geOp (cmI fun i j => decide (j < i)) (geOp modI (geV 3) (gI 3)) (gI 0))) [.im (.int m), .oK (tK ts), .im (.int x), .im (.int o), .im (cD c)] = .ok ((isC c) && decide (0 < o % 3)) := by
    have w3 : geV 3 [.im (.int m), .oK (tK ts), .im (.int x), .im (.int o), .im (cD c)] = .ok (.int o) := rfl
    have w4 : geV 4 [.im (.int m), .oK (tK ts), .im (.int x), .im (.int o), .im (cD c)] = .ok (cD c) := rfl
    have t0 : tupD [] = .ok (.tup []) := e_tupD _ sl0
    rw [e_and, e_gB, e_op, w4, R.ok_bind, e_A, e_nil, R.ok_bind, t0, R.ok_bind, ne_nil vc (by omega), R.ok_bind, e_bl, R.ok_bind, e_gB, e_op, e_op, w3, R.ok_bind, e_I, R.ok_bind, modI_ok (by decide), R.ok_bind, e_I, R.ok_bind, e_cmI, R.ok_bind, e_bl]
    cases c <;> rfl
  rw [s1, e_ifO, w]
  dsimp only
  by_cases hc : ((isC c) && decide (0 < o % 3)) = true
  · rw [if_pos hc]
    have hcn : c ≠ .nil := fun e => by rw [e] at hc; cases hc
    have hl := t.tv.len
    refine ⟨ts ++ [(x, c)], .im (.int o), .im (cD c), ?_, ⟨?_, ?_⟩, ?_⟩
    · have hkl : (tK ts).length < sizeLine := by unfold tK; rw [List.length_map, sizeLine_eq]; omega
      have e : putO 1 (geV 4) (geV 2) [.im (.int m), .oK (tK ts), .im (.int x), .im (.int o), .im (cD c)] = (match putS (.oK (tK ts)) (.int x) (cD c) with | some sl' => .nx [.im (.int m), sl', .im (.int x), .im (.int o), .im (cD c)] | none => .no) := rfl
      rw [e]
      unfold putS
      show (match (some (.inl x : Key)).bind fun k => if (tK ts).length < sizeLine then some (Sl.oK (pk (tK ts) k (cD c))) else none with | some sl' => _ | none => _) = _
      rw [Option.bind_some, if_pos hkl, pk_new (fun p hp => by have := hx p hp; omega)]
    · rw [List.map_append, List.pairwise_append]
      refine ⟨t.pw, List.pairwise_singleton _ _, fun a ha b hb => ?_⟩
      obtain ⟨p, hp, rfl⟩ := List.mem_map.mp ha
      rw [List.map_cons, List.map_nil, List.mem_singleton] at hb
      subst hb
      exact hx p hp
    · intro p hp
      rcases List.mem_append.mp hp with hp | hp
      · exact t.ok p hp
      · rw [List.mem_singleton] at hp
        subst hp
        exact ⟨h1, h4, v', dc, cc, hcn⟩
    · intro p hp
      rcases List.mem_append.mp hp with hp | hp
      · have := hx p hp; omega
      · rw [List.mem_singleton] at hp; subst hp; exact Int.le_refl _
  · rw [if_neg hc]
    exact ⟨ts, .im (.int o), .im (cD c), rfl, t, fun p hp => by have := hx p hp; omega⟩
theorem trees_eq (m : Int) : ∃ ts, F__law_trees [.int m] = .ok (tD ts) ∧ TG ts := by
  obtain ⟨ρ', e, ts, u2, u3, u4, rfl, t, _⟩ := for_all (b := bindT (.nm 2)) (f := f_trees) (u := fun i : Nat => D.int (1 + (i : Int)))
    (fun dn ρ => ∃ ts u2 u3 u4, ρ = [.im (.int m), .oK (tK ts), u2, u3, u4] ∧ TG ts ∧ ∀ p ∈ ts, p.1 ≤ dn.length) (List.range 4) [.im (.int m), .oK (tK []), .un, .un, .un] ⟨[], .un, .un, .un, rfl, ⟨List.Pairwise.nil, fun p hp => by cases hp⟩, fun p hp => by cases hp⟩ (by
      rintro dn x rs ρ e ⟨ts, u2, u3, u4, rfl, t, hp⟩
      have hlen : dn.length < 4 := by
        have := congrArg List.length e
        rw [List.length_append, List.length_cons, List.length_range] at this
        omega
      have hx : x = dn.length := by
        have : (List.range 4)[dn.length]? = some x := by rw [← e, List.getElem?_append_right (Nat.le_refl _)]; simp
        rw [List.getElem?_range hlen] at this
        exact (Option.some.inj this).symm
      obtain ⟨ts', w3, w4, e1, t', hp'⟩ := trees_step (m := m) (x := 1 + (x : Int)) (ts := ts) (u3 := u3) (u4 := u4) (fun p h => by have := hp p h; omega) (by omega) (by omega) t
      refine ⟨[.im (.int m), .oK (tK ts), .im (.int (1 + (x : Int))), u3, u4], _, rfl, .inl e1, ts', .im (.int (1 + (x : Int))), w3, w4, rfl, t', fun p h => ?_⟩
      have := hp' p h
      rw [List.length_append, List.length_cons, List.length_nil]
      push_cast
      omega)
  refine ⟨ts, ?_, t⟩
  have st : startE 5 [D.int m] = [.im (.int m), .un, .un, .un, .un] := rfl
  have e1 : ownO 1 (fun _ => .ok (.dK [])) [.im (.int m), .un, .un, .un, .un] = .nx [.im (.int m), .oK (tK []), .un, .un, .un] := rfl
  have g : gSeqA rng2 (gaCons (gI 1) (gaCons (gI 5) gaNil)) [.im (.int m), .oK (tK []), .un, .un, .un] = .ok (upto 1 4) := rfl
  have e' : runFor (bindT (.nm 2)) f_trees (upto 1 4) [.im (.int m), .oK (tK []), .un, .un, .un] = .nx [.im (.int m), .oK (tK ts), u2, u3, u4] := e
  unfold F__law_trees b__law_trees L__law_trees_1
  unfold f_trees at e'
  simp only [e_run, st, e_seq, e1, e_for, g, e']
  simp [frzO, frzSl, frozen]
/-! a cell -/
theorem at_in {α : Type} {xs : List α} {i : Int} (h0 : 0 ≤ i) (h1 : i < xs.length) : ∃ v, atI xs i = some v := by
  unfold atI ixN
  rw [if_pos h0, if_pos h1]
  exact ⟨xs[i.toNat], List.getElem?_eq_getElem (by omega)⟩
theorem cell_eq (ns : List Int) (hl : ns.length ≤ 63) (k : Nat) : ∃ c : Int, F__law_cell [.scr ns, .int k] = .ok (.int c) := by
  have st : startE 2 [D.scr ns, .int k] = [.im (.scr ns), .im (.int k)] := rfl
  have v0 : geV 0 [.im (.scr ns), .im (.int k)] = .ok (.scr ns) := rfl
  have v1 : geV 1 [.im (.scr ns), .im (.int k)] = .ok (.int k) := rfl
  have l0 : lstD [] = .ok (.lst []) := lstD_ok sl0
  have lay : ∀ ns : List Int, PyData.canLayAll0 (ns.map .int) = true := fun ns => by
    induction ns with
    | nil => rfl
    | cons n ns ih => rw [List.map_cons, PyData.canLayAll0, ih]; rfl
  have s1 : shp (.scr ns) = true := by
    unfold shp
    rw [Bool.and_eq_true, decide_eq_true_eq]
    refine ⟨?_, ?_⟩
    · show PyData.canLay0 (.list _) = true
      rw [PyData.canLay0]; exact lay ns
    · show PyData.depth (.list _) ≤ 200
      rw [PyData.depth, PySem.W.depth_ints]; omega
  have e0 : cmEq (.scr ns) (.lst []) = .ok (.bl (eqD (.scr ns) (.lst []))) := by
    unfold cmEq
    rw [s1]; rfl
  cases ns with
  | nil =>
    refine ⟨k * 7919, ?_⟩
    have e1 : eqD (.scr []) (.lst []) = true := rfl
    unfold F__law_cell b__law_cell
    simp only [e_run, st, e_seq, e_ifO, e_gB, e_op, e_A, e_nil, v0, v1, e_I, R.ok_bind, l0, e0, e1, e_bl, if_true, mulI_ok (show okMul (k : Int) 7919 from .inl (.inr ⟨by decide, by decide⟩)), e_ofR]
  | cons n ns =>
    have e1 : eqD (.scr (n :: ns)) (.lst []) = false := rfl
    have hp : (0 : Int) < ((n :: ns).length : Nat) := by rw [List.length_cons]; omega
    have r0 : 0 ≤ (k : Int) % ((n :: ns).length : Nat) := Int.emod_nonneg _ (by omega)
    have r1 : (k : Int) % ((n :: ns).length : Nat) < ((n :: ns).length : Nat) := Int.emod_lt_of_pos _ hp
    obtain ⟨v, ev⟩ := at_in (xs := n :: ns) r0 r1
    have ic : ixC (.scr (n :: ns)) (.int ((k : Int) % ((n :: ns).length : Nat))) = .ok (.int v) := by unfold ixC; dsimp only; rw [ev]
    have dl : fdivI (.int (k : Int)) (.int ((n :: ns).length : Nat)) = .ok (.int ((k : Int) / ((n :: ns).length : Nat))) := fdivI_ok ⟨hp, by
      have h2 : (((n :: ns).length : Nat) : Int).natAbs = (n :: ns).length := Int.natAbs_natCast _
      rw [h2]
      have : (n :: ns).length.log2 ≤ (n :: ns).length := Nat.log2_le_self _
      omega⟩
    have ln : lenD [.scr (n :: ns)] = .ok (.int ((n :: ns).length : Nat)) := rfl
    refine ⟨v + (k : Int) / ((n :: ns).length : Nat) * 104729, ?_⟩
    unfold F__law_cell b__law_cell
    simp only [e_run, st, e_seq, e_ifO, e_gB, e_op, e_A, e_nil, e_cons, v0, v1, e_I, R.ok_bind, l0, e0, e1, e_bl, Bool.false_eq_true, if_false, ln, modI_ok hp, ic, dl, mulI_ok (show okMul ((k : Int) / ((n :: ns).length : Nat)) 104729 from .inl (.inr ⟨by decide, by decide⟩)), e_addI, e_ofR]
end VP

set_option Elab.async false
set_option linter.all false
set_option maxRecDepth 100000
set_option maxHeartbeats 1000000
namespace VP
open PySem PySem.Spec PyProof.Rows L2 LamX VS
/-! sums over ticks -/
def sumR (f : Int → Int) (lo : Int) : Nat → Int
  | 0 => 0 | k + 1 => f lo + sumR f (lo + 1) k
theorem sumR_split (f : Int → Int) : ∀ (m k : Nat) (lo : Int), sumR f lo (m + k) = sumR f lo m + sumR f (lo + m) k
  | 0, k, lo => by rw [Nat.zero_add]; show sumR f lo k = 0 + sumR f (lo + 0) k; rw [Int.add_zero, Int.zero_add]
  | m + 1, k, lo => by
    have e : m + 1 + k = (m + k) + 1 := by omega
    rw [e]
    show f lo + sumR f (lo + 1) (m + k) = f lo + sumR f (lo + 1) m + sumR f (lo + ((m + 1 : Nat) : Int)) k
    rw [sumR_split f m k (lo + 1)]
    have : lo + 1 + (m : Int) = lo + ((m + 1 : Nat) : Int) := by omega
    rw [this]; omega
theorem sumR_end (f : Int → Int) (k : Nat) (lo : Int) : sumR f lo (k + 1) = sumR f lo k + f (lo + k) := by
  rw [sumR_split f k 1 lo]
  show _ + (f (lo + k) + 0) = _
  omega
theorem sumR_congr {f g : Int → Int} : ∀ (k : Nat) (lo : Int), (∀ t, lo ≤ t → t < lo + k → f t = g t) → sumR f lo k = sumR g lo k
  | 0, _, _ => rfl
  | k + 1, lo, h => by
    show f lo + sumR f (lo + 1) k = g lo + sumR g (lo + 1) k
    rw [h lo (Int.le_refl _) (by omega), sumR_congr k (lo + 1) fun t h1 h2 => h t (by omega) (by omega)]
theorem sumR_const (x : Int) : ∀ (k : Nat) (lo : Int), sumR (fun _ => x) lo k = x * k
  | 0, _ => by show 0 = x * 0; omega
  | k + 1, lo => by
    show x + sumR (fun _ => x) (lo + 1) k = _
    rw [sumR_const x k (lo + 1)]
    push_cast
    rw [Int.mul_add, Int.mul_one]; omega
theorem sumR_add (f g : Int → Int) : ∀ (k : Nat) (lo : Int), sumR (fun t => f t + g t) lo k = sumR f lo k + sumR g lo k
  | 0, _ => rfl
  | k + 1, lo => by
    show f lo + g lo + sumR (fun t => f t + g t) (lo + 1) k = f lo + sumR f (lo + 1) k + (g lo + sumR g (lo + 1) k)
    rw [sumR_add f g k (lo + 1)]; omega
theorem sumR_neg (f : Int → Int) : ∀ (k : Nat) (lo : Int), sumR (fun t => 1 - f t) lo k = k - sumR f lo k
  | 0, _ => rfl
  | k + 1, lo => by
    show 1 - f lo + sumR (fun t => 1 - f t) (lo + 1) k = _ - (f lo + sumR f (lo + 1) k)
    rw [sumR_neg f k (lo + 1)]; push_cast; omega
/-- from one tick to another -/
def sumI (f : Int → Int) (lo hi : Int) : Int := sumR f lo (hi - lo).toNat
theorem sumI_split (f : Int → Int) {lo mid hi : Int} (h1 : lo ≤ mid) (h2 : mid ≤ hi) : sumI f lo hi = sumI f lo mid + sumI f mid hi := by
  unfold sumI
  have e : (hi - lo).toNat = (mid - lo).toNat + (hi - mid).toNat := by omega
  rw [e, sumR_split]
  have : lo + ((mid - lo).toNat : Int) = mid := by omega
  rw [this]
theorem sumI_congr {f g : Int → Int} {lo hi : Int} (h : ∀ t, lo ≤ t → t < hi → f t = g t) : sumI f lo hi = sumI g lo hi := by
  unfold sumI
  exact sumR_congr _ _ fun t h1 h2 => h t h1 (by omega)
theorem sumI_zero {f : Int → Int} {lo hi : Int} (h : ∀ t, lo ≤ t → t < hi → f t = 0) : sumI f lo hi = 0 := by
  rw [sumI_congr (g := fun _ => 0) h]; unfold sumI; rw [sumR_const]; omega
theorem sumI_one {f : Int → Int} {lo hi : Int} (hl : lo ≤ hi) (h : ∀ t, lo ≤ t → t < hi → f t = 1) : sumI f lo hi = hi - lo := by
  rw [sumI_congr (g := fun _ => 1) h]; unfold sumI; rw [sumR_const]; omega
/-! what runs, tick by tick -/
theorem stk_before {c : Cals} : ∀ {lo hi t : Int}, val c lo hi → t < lo → stk c t = [] := by
  induction c with
  | nil => intro lo hi t _ _; rfl
  | cons n a b i r hi hr =>
    intro lo h t v ht
    rw [val_cons] at v
    rw [stk_cons, if_neg (by omega)]
    exact hr v.2.2.2.2.2 (by omega)
theorem stk_mid {n : Str} {a b : Int} {i r : Cals} {t : Int} (h1 : a ≤ t) (h2 : t < b) : stk (.cons n a b i r) t = n :: stk i t := by rw [stk_cons, if_pos ⟨h1, h2⟩]
theorem stk_pre {n : Str} {a b : Int} {i r : Cals} {lo hi t : Int} (v : val (.cons n a b i r) lo hi) (h : t < a) : stk (.cons n a b i r) t = [] := by
  rw [val_cons] at v
  rw [stk_cons, if_neg (by omega)]
  exact stk_before v.2.2.2.2.2 (by omega)
theorem stk_post {n : Str} {a b : Int} {i r : Cals} {t : Int} (h : b ≤ t) : stk (.cons n a b i r) t = stk r t := by rw [stk_cons, if_neg (by omega)]
theorem sum3 (f : List Str → Int) (f0 : f [] = 0) {n : Str} {a b : Int} {i r : Cals} {lo hi : Int} (v : val (.cons n a b i r) lo hi) :
    sumI (fun t => f (stk (.cons n a b i r) t)) lo hi = sumI (fun t => f (n :: stk i t)) a b + sumI (fun t => f (stk r t)) b hi := by
  have v' := v
  rw [val_cons] at v'
  rw [sumI_split _ v'.2.1 (by omega : a ≤ hi), sumI_split _ v'.2.2.1 v'.2.2.2.1]
  rw [sumI_zero (f := fun t => f (stk (.cons n a b i r) t)) fun t h1 h2 => by rw [stk_pre v h2, f0]]
  rw [Int.zero_add]
  congr 1
  · exact sumI_congr fun t h1 h2 => by rw [stk_mid h1 h2]
  · exact sumI_congr fun t h1 h2 => by rw [stk_post h1]
def run1 (l : List Str) : Int := if l = [] then 0 else 1
def last1 (n : Str) (l : List Str) : Int := if l.getLast? = some n then 1 else 0
def in1 (n : Str) (l : List Str) : Int := if n ∈ l then 1 else 0
theorem tsum_cons (n : Str) (a b : Int) (i r : Cals) : tsum (.cons n a b i r) = (b - a) + tsum r := by
  unfold tsum
  show ((b - a) :: ((tops r).map fun q => q.b - q.a)).sum = _
  rw [List.sum_cons]
theorem claimB {c : Cals} : ∀ {lo hi : Int}, val c lo hi → sumI (fun t => run1 (stk c t)) lo hi = tsum c := by
  induction c with
  | nil => intro lo hi _; exact sumI_zero fun t _ _ => rfl
  | cons n a b i r _ ihr =>
    intro lo hi v
    have v' := v
    rw [val_cons] at v'
    rw [sum3 run1 rfl v, ihr v'.2.2.2.2.2, sumI_one (f := fun t => run1 (n :: stk i t)) v'.2.2.1 fun t _ _ => rfl, tsum_cons]
theorem last_cons (n m : Str) (l : List Str) : last1 n (m :: l) = last1 n l + if m = n then 1 - run1 l else 0 := by
  unfold last1 run1
  cases l with
  | nil =>
    by_cases e : m = n
    · subst e; simp
    · simp [e]
  | cons x l =>
    rw [List.getLast?_cons_cons]
    simp
theorem tot_all_cons (n m : Str) (a b : Int) (i r : Cals) : tot ((allq (.cons m a b i r)).map oI1) n = (if m = n then b - a - tsum i else 0) + tot ((allq i).map oI1) n + tot ((allq r).map oI1) n := by
  show tot ((oI1 ⟨m, a, b, i⟩) :: ((allq i ++ allq r).map oI1)) n = _
  rw [tot_cons, List.map_append, tot_app]
  show (if m = n then b - a - tsum i else 0) + _ = _
  omega
theorem claimA {n : Str} {c : Cals} : ∀ {lo hi : Int}, val c lo hi → sumI (fun t => last1 n (stk c t)) lo hi = tot ((allq c).map oI1) n := by
  induction c with
  | nil => intro lo hi _; exact sumI_zero fun t _ _ => rfl
  | cons m a b i r ihi ihr =>
    intro lo hi v
    have v' := v
    rw [val_cons] at v'
    rw [sum3 (last1 n) rfl v, ihr v'.2.2.2.2.2, tot_all_cons]
    have e : sumI (fun t => last1 n (m :: stk i t)) a b = (if m = n then b - a - tsum i else 0) + tot ((allq i).map oI1) n := by
      rw [sumI_congr (g := fun t => last1 n (stk i t) + if m = n then 1 - run1 (stk i t) else 0) fun t _ _ => last_cons n m _]
      have : sumI (fun t => last1 n (stk i t) + if m = n then 1 - run1 (stk i t) else 0) a b = sumI (fun t => last1 n (stk i t)) a b + sumI (fun t => if m = n then 1 - run1 (stk i t) else 0) a b := sumR_add _ _ _ _
      rw [this, ihi v'.2.2.2.2.1]
      by_cases h : m = n
      · simp only [h, if_true]
        have : sumI (fun t => 1 - run1 (stk i t)) a b = ((b - a).toNat : Int) - sumI (fun t => run1 (stk i t)) a b := sumR_neg _ _ _
        rw [this, claimB v'.2.2.2.2.1]
        have := v'.2.2.1
        omega
      · simp only [h, if_false]
        rw [sumI_zero fun _ _ _ => rfl]; omega
    rw [e]
def ou (n : Str) : Cals → Int
  | .nil => 0 | .cons m a b i r => (if m = n then b - a else ou n i) + ou n r
theorem claimC {n : Str} {c : Cals} : ∀ {lo hi : Int}, val c lo hi → sumI (fun t => in1 n (stk c t)) lo hi = ou n c := by
  induction c with
  | nil => intro lo hi _; exact sumI_zero fun t _ _ => rfl
  | cons m a b i r ihi ihr =>
    intro lo hi v
    have v' := v
    rw [val_cons] at v'
    rw [sum3 (in1 n) rfl v, ihr v'.2.2.2.2.2]
    show _ = (if m = n then b - a else ou n i) + ou n r
    by_cases h : m = n
    · rw [if_pos h, sumI_one (f := fun t => in1 n (m :: stk i t)) v'.2.2.1 fun t _ _ => by unfold in1; rw [if_pos (by rw [h]; exact List.mem_cons_self)]]
    · rw [if_neg h, ← ihi v'.2.2.2.2.1]
      congr 1
      refine sumI_congr fun t _ _ => ?_
      unfold in1
      have : (n ∈ m :: stk i t) ↔ n ∈ stk i t := by rw [List.mem_cons]; exact ⟨fun q => q.elim (fun e => absurd e.symm h) id, .inr⟩
      by_cases k : n ∈ stk i t
      · rw [if_pos k, if_pos (this.mpr k)]
      · rw [if_neg k, if_neg (fun q => k (this.mp q))]
theorem tot_out {n : Str} {c : Cals} : ∀ ar : List Str, tot (outq c ar) n = if n ∈ ar then 0 else ou n c := by
  induction c with
  | nil => intro ar; show (0 : Int) = _; split <;> rfl
  | cons m a b i r ihi ihr =>
    intro ar
    rw [outq_cons, tot_app, tot_app, ihi, ihr]
    show _ = if n ∈ ar then 0 else (if m = n then b - a else ou n i) + ou n r
    by_cases h : n ∈ ar
    · rw [if_pos h, if_pos (List.mem_append_left _ h), if_pos h]
      by_cases k : m ∈ ar
      · rw [if_pos k]; rfl
      · rw [if_neg k, tot_cons, if_neg (fun e => k (by have e' : m = n := e; rw [e']; exact h))]; rfl
    · rw [if_neg h, if_neg h]
      by_cases e : m = n
      · subst e
        rw [if_neg h, if_pos (List.mem_append_right _ List.mem_cons_self), if_pos rfl, tot_cons, if_pos rfl, tot_nil]; omega
      · rw [if_neg e]
        have hn : n ∉ ar ++ [m] := by
          rw [List.mem_append, not_or]
          exact ⟨h, by simpa using fun q => e q.symm⟩
        rw [if_neg hn]
        by_cases k : m ∈ ar
        · rw [if_pos k, tot_nil]; omega
        · rw [if_neg k, tot_cons, if_neg e, tot_nil]; omega
/-! the last tick -/
def lastb : Cals → Int
  | .nil => 0 | .cons _ _ b _ .nil => b | .cons _ _ _ _ (.cons m a b i r) => lastb (.cons m a b i r)
theorem lastb_ge {c : Cals} : ∀ {lo hi : Int}, val c lo hi → c ≠ .nil → lo ≤ lastb c ∧ lastb c ≤ hi := by
  induction c with
  | nil => intro lo hi _ h; exact absurd rfl h
  | cons n a b i r _ ihr =>
    intro lo hi v _
    rw [val_cons] at v
    cases r with
    | nil => show lo ≤ b ∧ b ≤ hi; omega
    | cons m x y j r =>
      have := ihr v.2.2.2.2.2 (fun e => by cases e)
      show lo ≤ lastb (.cons m x y j r) ∧ lastb (.cons m x y j r) ≤ hi
      omega
theorem val_lastb {c : Cals} : ∀ {lo hi : Int}, val c lo hi → c ≠ .nil → val c lo (lastb c) := by
  induction c with
  | nil => intro lo hi _ _; trivial
  | cons n a b i r _ ihr =>
    intro lo hi v _
    rw [val_cons] at v
    cases r with
    | nil => exact ⟨v.1, v.2.1, v.2.2.1, Int.le_refl _, v.2.2.2.2.1, trivial⟩
    | cons m x y j r =>
      have h1 := ihr v.2.2.2.2.2 (fun e => by cases e)
      have h2 := lastb_ge v.2.2.2.2.2 (fun e => by cases e)
      exact ⟨v.1, v.2.1, v.2.2.1, h2.1, v.2.2.2.2.1, h1⟩
theorem ix_last : ∀ {c : Cals}, c ≠ .nil → ∃ q : Nd, ixT (cD c) (.int (0 - 1)) = .ok (ndD q) ∧ q.b = lastb c := by
  intro c h
  have key : ∀ c : Cals, c ≠ .nil → ∃ q : Nd, (tops c).getLast? = some q ∧ q.b = lastb c := by
    intro c
    induction c with
    | nil => exact fun h => absurd rfl h
    | cons n a b i r _ ihr =>
      intro _
      cases r with
      | nil => exact ⟨⟨n, a, b, i⟩, rfl, rfl⟩
      | cons m x y j r =>
        obtain ⟨q, h1, h2⟩ := ihr (fun e => by cases e)
        exact ⟨q, by show (_ :: tops (.cons m x y j r)).getLast? = _; rw [show tops (.cons m x y j r) = ⟨m, x, y, j⟩ :: tops r from rfl, List.getLast?_cons_cons]; exact h1, h2⟩
  obtain ⟨q, h1, h2⟩ := key c h
  refine ⟨q, ?_, h2⟩
  have hp : 0 < (tops c).length := by
    cases c with
    | nil => exact absurd rfl h
    | cons n a b i r => show 0 < (tops r).length + 1; omega
  unfold ixT
  dsimp only
  have : atI (toDs c) (0 - 1) = some (ndD q) := by
    unfold atI ixN
    rw [if_neg (by decide), toDs_tops, List.length_map, if_pos (by omega), Option.bind_some, List.getElem?_map]
    have e : (0 - 1 + ((tops c).length : Int)).toNat = (tops c).length - 1 := by omega
    rw [e, ← List.getLast?_eq_getElem?, h1]; rfl
  rw [this]
theorem stk_names {c : Cals} {t : Int} {n : Str} (h : n ∈ stk c t) : n ∈ (allq c).map (·.n) := by
  induction c with
  | nil => cases h
  | cons m a b i r hi hr =>
    rw [stk_cons] at h
    show n ∈ m :: ((allq i ++ allq r).map (·.n))
    rw [List.map_append, List.mem_cons, List.mem_append]
    split at h
    · rcases List.mem_cons.mp h with h | h
      · exact .inl h
      · exact .inr (.inl (hi h))
    · exact .inr (.inr (hr h))
end VP

set_option Elab.async false
set_option linter.all false
set_option maxRecDepth 100000
set_option maxHeartbeats 1000000
/-! PX: evaluation by simp; loops by what holds of the live slots. -/
namespace VP
open PySem PySem.Spec PyProof.Rows L2 LamX VS
section
variable {ρ : VS.Env} {g gk gv gl gh : VS.Env → R D} {o : VS.Env → Out} {t : Tg}
@[simp] theorem e_pop0 (i : Nat) : pop0O i t ρ = (match ρ[i]? with
  | some (.ow (d :: ds)) => (match bindT t d (List.set ρ i (.ow ds)) with | .ok ρ' => .nx ρ' | _ => .no)
  | _ => .no) := rfl
@[simp] theorem e_ext (i : Nat) : extO i g ρ = (match ρ[i]? with
  | some (.ow ds) => ofR (g ρ) fun d => (match itemsD d with
    | some es => if ds.length + es.length ≤ sizeLine then .nx (List.set ρ i (.ow (ds ++ es))) else .no
    | none => .no)
  | _ => .no) := rfl
@[simp] theorem e_popO (i : Nat) (j : Option Nat) : popO i j ρ = (match ρ[i]? with
  | some (.ow ds) => (match ds[ds.length - 1]? with
    | some d => (match j with | some j => if i = j then .no else .nx (List.set (List.set ρ i (.ow ds.dropLast)) j (.im d)) | none => .nx (List.set ρ i (.ow ds.dropLast)))
    | none => .no)
  | _ => .no) := rfl
@[simp] theorem e_put (i : Nat) : putO i gv gk ρ = ofR (gv ρ) fun d => (match ρ[i]? with
  | some sl => if isOwn sl then ofR (gk ρ) fun k => (match putS sl k d with | some sl' => .nx (List.set ρ i sl') | none => .no) else .no
  | _ => .no) := rfl
@[simp] theorem e_setO (i : Nat) : setO i gv gk ρ = ofR (gv ρ) fun d => (match ρ[i]? with
  | some (.ow ds) => ofR (gk ρ) fun k => (match k with
    | .int k => (match ixN ds.length k with | some j => .nx (List.set ρ i (.ow (ds.set j d))) | none => .no)
    | _ => .no)
  | _ => .no) := rfl
@[simp] theorem e_get : geGet g gk gv ρ = (g ρ >>= fun x => if isDct x then (gk ρ >>= fun y => gv ρ >>= fun z => getD2 x y z) else .no) := rfl
@[simp] theorem e_frz (i : Nat) : frzO i o ρ = (match ρ[i]? with
  | some sl => (match frozen sl with | some d => o (List.set ρ i (.im d)) | none => .no)
  | none => .no) := by
  unfold frzO frzSl
  cases e : ρ[i]? with
  | none => rfl
  | some sl => dsimp only; cases e2 : frozen sl <;> rfl
@[simp] theorem e_fd (i : Nat) : forDO t i o ρ = (match ρ[i]? with
  | some (.im d) => (match keysOf d with | some ks => noEx (runFor (bindT t) o ks ρ) | none => .no)
  | _ => .no) := rfl
@[simp] theorem e_cd (vs : List Nat) (i : Nat) (tt : VS.Env → R Bool) : compDE t vs i tt g ρ = (match ρ[i]? with
  | some (.im d) => (match keysOf d with | some ks => compE t vs (fun _ => .ok ks) tt g ρ | none => .no)
  | _ => .no) := rfl
@[simp] theorem e_p2 (i j : Nat) (m1 m2 : Md) {ga gb : VS.Env → R D} : parO2 i j m1 m2 ga gb ρ = ofR (ga ρ) fun a => ofR (gb ρ) fun b =>
  (match slM m1 a, slM m2 b with | some s1, some s2 => .nx (List.set (List.set ρ i s1) j s2) | _, _ => .no) := rfl
@[simp] theorem e_p3 (i j l : Nat) (m1 m2 m3 : Md) {ga gb gc : VS.Env → R D} : parO3 i j l m1 m2 m3 ga gb gc ρ = ofR (ga ρ) fun a => ofR (gb ρ) fun b => ofR (gc ρ) fun c =>
  (match slM m1 a, slM m2 b, slM m3 c with | some s1, some s2, some s3 => .nx (List.set (List.set (List.set ρ i s1) j s2) l s3) | _, _, _ => .no) := rfl
@[simp] theorem e_slMc (d : D) : slM .c d = some (.im d) := rfl
@[simp] theorem e_slMfl (ds : List D) : slM .f (.lst ds) = some (.ow ds) := rfl
@[simp] theorem e_slMfk (ds : List (Key × D)) : slM .f (.dK ds) = some (.oK ds) := rfl
@[simp] theorem e_slMft (ds : List (List Key × D)) : slM .f (.dT ds) = some (.oT ds) := rfl
@[simp] theorem e_slOl (ds : List D) : slOf (.lst ds) = some (.ow ds) := rfl
@[simp] theorem e_slOk (ds : List (Key × D)) : slOf (.dK ds) = some (.oK ds) := rfl
@[simp] theorem e_slOt (ds : List (List Key × D)) : slOf (.dT ds) = some (.oT ds) := rfl
@[simp] theorem e_fzl (ds : List D) : frozen (.ow ds) = some (.lst ds) := rfl
@[simp] theorem e_fzk (ds : List (Key × D)) : frozen (.oK ds) = some (.dK ds) := rfl
@[simp] theorem e_fzt (ds : List (List Key × D)) : frozen (.oT ds) = some (.dT ds) := rfl
@[simp] theorem e_isOl (ds : List D) : isOwn (.ow ds) = true := rfl
@[simp] theorem e_isOk (ds : List (Key × D)) : isOwn (.oK ds) = true := rfl
@[simp] theorem e_isOt (ds : List (List Key × D)) : isOwn (.oT ds) = true := rfl
@[simp] theorem e_itl (ds : List D) : itemsD (.lst ds) = some ds := rfl
@[simp] theorem e_itt (ds : List D) : itemsD (.tup ds) = some ds := rfl
@[simp] theorem e_isDk (ds : List (Key × D)) : isDct (.dK ds) = true := rfl
@[simp] theorem e_isDt (ds : List (List Key × D)) : isDct (.dT ds) = true := rfl
@[simp] theorem e_bnm (i : Nat) (d : D) : bindT (.nm i) d ρ = .ok (List.set ρ i (.im d)) := rfl
@[simp] theorem e_btp (ts : Tgs) (ds : List D) : bindT (.tp ts) (.tup ds) ρ = bindTs ts ds ρ := rfl
@[simp] theorem e_bsn : bindTs .nil [] ρ = .ok ρ := rfl
@[simp] theorem e_bsc (u : Tg) (ts : Tgs) (d : D) (ds : List D) : bindTs (.cons u ts) (d :: ds) ρ = (bindT u d ρ >>= bindTs ts ds) := rfl
@[simp] theorem e_wn : wipeE ρ [] = ρ := rfl
@[simp] theorem e_wc (v : Nat) (vs : List Nat) : wipeE ρ (v :: vs) = List.set (wipeE ρ vs) v .un := rfl
@[simp] theorem e_gon : goNone ρ = .ok none := rfl
@[simp] theorem e_gos : goSome g ρ = (g ρ >>= fun d => match d with | .int i => .ok (some i) | _ => .no) := rfl
@[simp] theorem e_sl (f : D → Option Int → Option Int → R D) {gl gh : VS.Env → R (Option Int)} : geSl f g gl gh ρ = (g ρ >>= fun x => gl ρ >>= fun lo => gh ρ >>= fun hi => f x lo hi) := rfl
end
section
@[simp] theorem v_listt (ds : List D) : listD [.tup ds] = .ok (.lst ds) := rfl
@[simp] theorem v_listl (ds : List D) : listD [.lst ds] = .ok (.lst ds) := rfl
@[simp] theorem v_tupl (ds : List D) : tupOf [.lst ds] = .ok (.tup ds) := rfl
@[simp] theorem v_tupt (ds : List D) : tupOf [.tup ds] = .ok (.tup ds) := rfl
@[simp] theorem v_cat (i j : List D) : catL (.lst i) (.lst j) = if i.length + j.length ≤ sizeLine then .ok (.lst (i ++ j)) else .no := rfl
@[simp] theorem v_addT (i j : List D) : addT (.tup i) (.tup j) = if i.length + j.length ≤ sizeLine then .ok (.tup (i ++ j)) else .no := rfl
@[simp] theorem v_rev (i : List D) : revL (.lst i) = .ok (.lst i.reverse) := rfl
@[simp] theorem v_max2 (i j : Int) : max2 [.int i, .int j] = .ok (.int (if j > i then j else i)) := rfl
@[simp] theorem v_min2 (i j : Int) : min2 [.int i, .int j] = .ok (.int (if j < i then j else i)) := rfl
@[simp] theorem v_slL (ds : List D) (lo hi : Option Int) : slL (.lst ds) lo hi = .ok (.lst (cut ds lo hi)) := rfl
@[simp] theorem v_slT (ds : List D) (lo hi : Option Int) : slT (.tup ds) lo hi = .ok (.tup (cut ds lo hi)) := rfl
@[simp] theorem v_lenL (ds : List D) : lenD [.lst ds] = .ok (.int ds.length) := rfl
@[simp] theorem v_lenT (ds : List D) : lenD [.tup ds] = .ok (.int ds.length) := rfl
@[simp] theorem v_tupD (ds : List D) (h : ds.length ≤ 1000) : tupD ds = .ok (.tup ds) := by unfold tupD; rw [if_pos (sl_ge (by omega))]
@[simp] theorem v_lstD (ds : List D) (h : ds.length ≤ 1000) : lstD ds = .ok (.lst ds) := lstD_ok (sl_ge (by omega))
@[simp] theorem v_ix0 (a : D) (l : List D) : ixT (.tup (a :: l)) (.int 0) = .ok a := by
  have : ixN (l.length + 1) 0 = some 0 := by unfold ixN; rw [if_pos (by omega), if_pos (by omega)]; rfl
  simp [ixT, atI, this]
@[simp] theorem v_ix1 (a b : D) (l : List D) : ixT (.tup (a :: b :: l)) (.int 1) = .ok b := by
  have : ixN (l.length + 1 + 1) 1 = some 1 := by unfold ixN; rw [if_pos (by omega), if_pos (by omega)]; rfl
  simp [ixT, atI, this]
@[simp] theorem v_ix2 (a b c : D) (l : List D) : ixT (.tup (a :: b :: c :: l)) (.int 2) = .ok c := by
  have : ixN (l.length + 1 + 1 + 1) 2 = some 2 := by unfold ixN; rw [if_pos (by omega), if_pos (by omega)]; rfl
  simp [ixT, atI, this]
@[simp] theorem v_ix3 (a b c d : D) (l : List D) : ixT (.tup (a :: b :: c :: d :: l)) (.int 3) = .ok d := by
  have : ixN (l.length + 1 + 1 + 1 + 1) 3 = some 3 := by unfold ixN; rw [if_pos (by omega), if_pos (by omega)]; rfl
  simp [ixT, atI, this]
theorem eqv_refl' {d : D} (h : shp d = true) : eqD d d = true := SeqAt.eqv_refl _ (shp_iff h).1
theorem cmNe_refl {d : D} (h : shp d = true) : cmNe d d = .ok (.bl false) := by unfold cmNe; rw [h, eqv_refl' h]; rfl
theorem cmEq_refl {d : D} (h : shp d = true) : cmEq d d = .ok (.bl true) := by unfold cmEq; rw [h, eqv_refl' h]; rfl
@[simp] theorem eqD_int (i j : Int) : eqD (.int i) (.int j) = decide (i = j) := by
  unfold eqD toPy
  simp [PyData.eqv]
  rw [Bool.eq_iff_iff]; simp
@[simp] theorem eqD_str' (x y : Str) : eqD (.str x) (.str y) = decide (x = y) := eqD_str x y
theorem shp_int (i : Int) : shp (.int i) = true := rfl
@[simp] theorem v_nei (i j : Int) : cmNe (.int i) (.int j) = .ok (.bl (!decide (i = j))) := by unfold cmNe; rw [shp_int, shp_int, eqD_int]; rfl
@[simp] theorem v_eqi (i j : Int) : cmEq (.int i) (.int j) = .ok (.bl (decide (i = j))) := by unfold cmEq; rw [shp_int, shp_int, eqD_int]; rfl
/-- while: a measure -/
theorem while_inv {c : VS.Env → R Bool} {f : VS.Env → Out} (Inv : Nat → VS.Env → Prop) (h0 : ∀ ρ, Inv 0 ρ → c ρ = .ok false) (hs : ∀ n ρ, Inv (n + 1) ρ → c ρ = .ok true ∧ ∃ ρ' m, (f ρ = .nx ρ' ∨ f ρ = .ct ρ') ∧ m ≤ n ∧ Inv m ρ') :
    ∀ (fuel n : Nat) (ρ : VS.Env), n < fuel → Inv n ρ → ∃ ρ', runWhile c f fuel ρ = .nx ρ' ∧ Inv 0 ρ'
  | 0, n, _, h, _ => absurd h (Nat.not_lt_zero n)
  | fuel + 1, 0, ρ, _, i => ⟨ρ, by unfold runWhile; rw [h0 ρ i], i⟩
  | fuel + 1, n + 1, ρ, h, i => by
    obtain ⟨e1, ρ', m, e2, hm, i2⟩ := hs n ρ i
    obtain ⟨ρ2, e3, i3⟩ := while_inv Inv h0 hs fuel m ρ' (by omega) i2
    refine ⟨ρ2, ?_, i3⟩
    unfold runWhile
    rw [e1]; dsimp only
    rcases e2 with e2 | e2 <;> rw [e2] <;> exact e3
@[simp] theorem noEx_nx (ρ : VS.Env) : noEx (.nx ρ) = .nx ρ := rfl
end
/-- the outcome o goes on with a state of which P holds -/
def To {S : Type} (e : S → VS.Env) (P : S → Prop) (o : Out) : Prop := ∃ s, (o = .nx (e s) ∨ o = .ct (e s)) ∧ P s
theorem to_nx {S : Type} {e : S → VS.Env} {P : S → Prop} {s : S} (h : P s) : To e P (.nx (e s)) := ⟨s, .inl rfl, h⟩
theorem to_ct {S : Type} {e : S → VS.Env} {P : S → Prop} {s : S} (h : P s) : To e P (.ct (e s)) := ⟨s, .inr rfl, h⟩
/-- what a turn does -/
def Bd {S : Type} (e : S → VS.Env) (P : S → Prop) (f : VS.Env → Out) : R VS.Env → Prop
  | .ok ρ => To e P (f ρ) | _ => False
@[simp] theorem bd_ok {S : Type} {e : S → VS.Env} {P : S → Prop} {f : VS.Env → Out} {ρ : VS.Env} : Bd e P f (.ok ρ) = To e P (f ρ) := rfl
theorem for_to {α S : Type} {e : S → VS.Env} {b : D → VS.Env → R VS.Env} {f : VS.Env → Out} {u : α → D} (P : List α → S → Prop) (l : List α)
    (H : ∀ dn x rs s, dn ++ x :: rs = l → P dn s → ∀ Q : S → Prop, (∀ s', P (dn ++ [x]) s' → Q s') → Bd e Q f (b (u x) (e s))) (s : S) (h0 : P [] s) : ∃ s', runFor b f (l.map u) (e s) = .nx (e s') ∧ P l s' := by
  obtain ⟨ρ', h, s', rfl, hp⟩ := for_all (b := b) (f := f) (u := u) (fun dn ρ => ∃ s, ρ = e s ∧ P dn s) l (e s) ⟨s, rfl, h0⟩ (by
    rintro dn x rs ρ h ⟨s, rfl, hp⟩
    have := H dn x rs s h hp _ (fun _ z => z)
    cases eb : b (u x) (e s) with
    | ok ρ1 =>
      rw [eb] at this
      obtain ⟨s', h2, h3⟩ := this
      exact ⟨ρ1, e s', rfl, h2, s', rfl, h3⟩
    | ex c => rw [eb] at this; exact this.elim
    | no => rw [eb] at this; exact this.elim)
  exact ⟨s', h, hp⟩
theorem while_to {S : Type} {e : S → VS.Env} {c : VS.Env → R Bool} {f : VS.Env → Out} (P : Nat → S → Prop) (h0 : ∀ s, P 0 s → c (e s) = .ok false) (hs : ∀ n s, P (n + 1) s → c (e s) = .ok true ∧ ∀ Q : S → Prop, (∀ s' m, m ≤ n → P m s' → Q s') → To e Q (f (e s)))
    (fuel n : Nat) (s : S) (hf : n < fuel) (hp : P n s) : ∃ s', runWhile c f fuel (e s) = .nx (e s') ∧ P 0 s' := by
  obtain ⟨ρ', h, s', rfl, hp⟩ := while_inv (c := c) (f := f) (fun n ρ => ∃ s, ρ = e s ∧ P n s) (by rintro ρ ⟨s, rfl, hp⟩; exact h0 s hp) (by
    rintro n ρ ⟨s, rfl, hp⟩
    obtain ⟨h1, h2⟩ := hs n s hp
    obtain ⟨s', h2, m, hm, h3⟩ := h2 (fun s' => ∃ m, m ≤ n ∧ P m s') (fun s' m h k => ⟨m, h, k⟩)
    exact ⟨h1, e s', m, h2, hm, s', rfl, h3⟩) fuel n (e s) hf ⟨s, rfl, hp⟩
  exact ⟨s', h, hp⟩
/-- texts of names alone -/
theorem lay_names : ∀ {c : Cals}, (∀ q ∈ allq c, q.n ∈ NM) → PyData.canLayAll0 (toPys (toDs c)) = true
  | .nil, _ => rfl
  | .cons n a b i r, v => by
    have h1 : ∀ q ∈ allq i, q.n ∈ NM := fun q hq => v q (List.mem_cons_of_mem _ (List.mem_append_left _ hq))
    have h2 : ∀ q ∈ allq r, q.n ∈ NM := fun q hq => v q (List.mem_cons_of_mem _ (List.mem_append_right _ hq))
    rw [toDs_cons, toPys, toPy_one, PyData.canLayAll0, lay_names h2, Bool.and_true]
    have h0 := NM_ok n (v ⟨n, a, b, i⟩ List.mem_cons_self)
    simp [PyData.canLay0, PyData.canLayAll0, lay_names h1, h0]
theorem ne_list {c : Cals} (v : ∀ q ∈ allq c, q.n ∈ NM) (h : dep c ≤ 90) : cmNe (.lst (toDs c)) (.lst []) = .ok (.bl (isC c)) := by
  have h1 : shp (.lst (toDs c)) = true := by
    have := lay_names v
    have d := depth_calls c
    unfold shp
    rw [Bool.and_eq_true]
    refine ⟨by simp [toPy, PyData.canLay0, this], decide_eq_true ?_⟩
    show (PyData.list (toPys (toDs c))).depth ≤ 200
    unfold PyData.depth
    omega
  have h2 : shp (.lst []) = true := rfl
  unfold cmNe
  rw [h1, h2]
  cases c with
  | nil => rfl
  | cons n a b i r => rfl
theorem shp_nm {n : Str} (h : n ∈ NM) : shp (.str n) = true := by
  have := NM_ok n h
  unfold shp
  rw [Bool.and_eq_true]
  exact ⟨by simp [toPy, PyData.canLay0, this], decide_eq_true (by simp [toPy, PyData.depth])⟩
theorem eq_nm {x y : Str} (hx : x ∈ NM) (hy : y ∈ NM) : cmEq (.str x) (.str y) = .ok (.bl (decide (x = y))) := by
  unfold cmEq
  rw [shp_nm hx, shp_nm hy, eqD_str]; rfl
theorem ne_nm {x y : Str} (hx : x ∈ NM) (hy : y ∈ NM) : cmNe (.str x) (.str y) = .ok (.bl (!decide (x = y))) := by
  unfold cmNe
  rw [shp_nm hx, shp_nm hy, eqD_str]; rfl
theorem nm_tops {c : Cals} {q : Nd} (v : ∀ q ∈ allq c, q.n ∈ NM) (h : q ∈ tops c) : q.n ∈ NM ∧ ∀ p ∈ allq q.i, p.n ∈ NM := by
  induction c with
  | nil => cases h
  | cons n a b i r _ ih =>
    rcases List.mem_cons.mp h with rfl | h
    · exact ⟨v ⟨n, a, b, i⟩ List.mem_cons_self, fun p hp => v p (List.mem_cons_of_mem _ (List.mem_append_left _ hp))⟩
    · exact ih (fun p hp => v p (List.mem_cons_of_mem _ (List.mem_append_right _ hp))) h
theorem rng2_ok {i j : Int} (h1 : -1000000000 ≤ i) (h2 : i ≤ 1000000000) (h3 : -1000000000 ≤ j) (h4 : j ≤ 1000000000) : rng2 [.int i, .int j] = .ok (upto i (j - i).toNat) := by
  unfold rng2
  dsimp only
  rw [if_pos ⟨by omega, by omega, by omega, by omega⟩]
theorem rng1_ok {j : Int} (h3 : -1000000000 ≤ j) (h4 : j ≤ 1000000000) : rng1 [.int j] = .ok (upto 0 j.toNat) := by
  unfold rng1
  dsimp only
  rw [if_pos ⟨by omega, by omega⟩]
theorem upto0 (n : Nat) : upto 0 n = (List.range n).map fun i : Nat => D.int (i : Int) := by
  unfold upto
  refine List.map_congr_left fun i _ => ?_
  rw [Int.zero_add]
theorem rng1_nat {n : Nat} (h : n ≤ 1000000000) : rng1 [.int (n : Int)] = .ok ((List.range n).map fun i : Nat => D.int (i : Int)) := by
  rw [rng1_ok (by omega) (by omega), Int.toNat_natCast, upto0]
theorem to_seq {S : Type} {e : S → VS.Env} {Q : S → Prop} {o o' : VS.Env → Out} {s : S} (s1 : S) (h : o (e s) = .nx (e s1)) (k : To e Q (o' (e s1))) : To e Q (seqO o o' (e s)) := by
  rw [e_seq, h]; exact k
theorem to_seqL {S : Type} {e : S → VS.Env} {P Q : S → Prop} {o o' : VS.Env → Out} {s : S} (h : ∃ s1, o (e s) = .nx (e s1) ∧ P s1) (k : ∀ s1, P s1 → To e Q (o' (e s1))) : To e Q (seqO o o' (e s)) := by
  obtain ⟨s1, h1, h2⟩ := h
  exact to_seq s1 h1 (k s1 h2)
theorem to_o {S : Type} {e : S → VS.Env} {P Q : S → Prop} {o : VS.Env → Out} {s : S} (h : ∃ s1, o (e s) = .nx (e s1) ∧ P s1) (k : ∀ s1, P s1 → Q s1) : To e Q (o (e s)) := by
  obtain ⟨s1, h1, h2⟩ := h
  rw [h1]; exact to_nx (k s1 h2)
/-- data that may be held against other data -/
def okR (d : D) : Bool := (toPy d).canLay0 && decide ((toPy d).depth ≤ 90)
theorem okR_str {n : Str} (h : n ∈ NM) : okR (.str n) = true := by
  have := NM_ok n h
  unfold okR
  rw [Bool.and_eq_true]
  exact ⟨by simp [toPy, PyData.canLay0, this], decide_eq_true (by simp [toPy, PyData.depth])⟩
theorem lay_all {ds : List D} (h : ∀ d ∈ ds, okR d = true) : PyData.canLayAll0 (toPys ds) = true ∧ PyData.depthAll (toPys ds) ≤ 90 := by
  induction ds with
  | nil => exact ⟨rfl, Nat.zero_le _⟩
  | cons d ds ih =>
    have h1 := h d List.mem_cons_self
    have h2 := ih fun e he => h e (List.mem_cons_of_mem _ he)
    unfold okR at h1
    rw [Bool.and_eq_true, decide_eq_true_eq] at h1
    rw [toPys, PyData.canLayAll0, PyData.depthAll, h1.1, h2.1]
    exact ⟨rfl, by omega⟩
theorem shp_lst {ds : List D} (h : ∀ d ∈ ds, okR d = true) : shp (.lst ds) = true := by
  have := lay_all h
  unfold shp
  rw [Bool.and_eq_true]
  refine ⟨by simp [toPy, PyData.canLay0, this.1], decide_eq_true ?_⟩
  show (PyData.list (toPys ds)).depth ≤ 200
  unfold PyData.depth
  omega
theorem okR_row {h a b : Int} {n : Str} (hn : n ∈ NM) : okR (.tup [.int h, .int a, .str n, .int b]) = true := by
  have := NM_ok n hn
  unfold okR
  rw [Bool.and_eq_true]
  exact ⟨by simp [toPy, toPys, PyData.canLay0, PyData.canLayAll0, this], decide_eq_true (by simp [toPy, toPys, PyData.depth, PyData.depthAll])⟩
/-- dict(pairs) of names told once -/
theorem pk_app {κ α : Type} [DecidableEq κ] {kvs : List (κ × α)} {k : κ} {v : α} (h : k ∉ kvs.map (·.1)) : pk kvs k v = kvs ++ [(k, v)] := by
  unfold pk
  rw [if_neg]
  intro z
  rw [List.any_eq_true] at z
  obtain ⟨p, hp, e⟩ := z
  exact h (List.mem_map.mpr ⟨p, hp, of_decide_eq_true e⟩)
theorem mg_nd {κ α : Type} [DecidableEq κ] : ∀ {more kvs : List (κ × α)}, ((kvs ++ more).map (·.1)).Nodup → VS.mg kvs more = kvs ++ more
  | [], kvs, _ => by rw [List.append_nil]; rfl
  | p :: more, kvs, h => by
    have e : VS.mg kvs (p :: more) = VS.mg (pk kvs p.1 p.2) more := rfl
    have hp : p.1 ∉ kvs.map (·.1) := fun z => by
      rw [List.map_append, List.nodup_append] at h
      exact h.2.2 p.1 z p.1 (by simp) rfl
    rw [e, pk_app hp, mg_nd (by rw [List.append_assoc]; exact h), List.append_assoc]; rfl
theorem pairs_pD : ∀ l : Cnt, pairsD (l.map pD) = some (kD l)
  | [] => rfl
  | p :: l => by rw [List.map_cons, pairsD, pairs_pD l]; rfl
theorem dictP_pD {l : Cnt} (nd : (l.map (·.1)).Nodup) : dictP [.lst (l.map pD)] = .ok (.dK (kD l)) := by
  show (match pairsD (l.map pD) with | some kvs => R.ok (D.dK (VS.mg [] kvs)) | none => .no) = _
  rw [pairs_pD]
  dsimp only
  rw [mg_nd (kvs := []) (by
    rw [List.nil_append]
    unfold kD
    rw [List.map_map]
    have e : (l.map ((fun x : Key × D => x.1) ∘ fun p => ((Sum.inr p.1 : Key), D.int p.2))) = (l.map (·.1)).map (Sum.inr : Str → Key) := by rw [List.map_map]; rfl
    rw [e, List.nodup_iff_pairwise_ne, List.pairwise_map]
    rw [List.nodup_iff_pairwise_ne] at nd
    exact nd.imp fun h e => h (Sum.inr.inj e))]
  rfl
end VP

set_option Elab.async false
set_option linter.all false
set_option maxRecDepth 100000
set_option maxHeartbeats 1000000
/-! lists: last, first, all but the last; displays. -/
namespace VP
open PySem PySem.Spec PyProof.Rows L2 LamX VS
@[simp] theorem v_neg1 : subI (.int 0) (.int 1) = .ok (.int (-1)) := rfl
@[simp] theorem zsub1 : (0 : Int) - 1 = -1 := rfl
theorem cut_init {α : Type} (l : List α) : cut l none (some (-1)) = l.dropLast := by
  unfold cut
  rw [HT.sIx_none, List.drop_zero, List.dropLast_eq_take]
  congr 1
  unfold HT.sIx
  dsimp only
  rw [if_pos (by decide)]; omega
theorem cut_tail {α : Type} (l : List α) : cut l (some 1) none = l.tail := by
  unfold cut
  rw [HT.sIx_none]
  have : HT.sIx l.length 0 (some 1) = min 1 l.length := HT.sIx_nat l.length 0 1
  rw [this]
  cases l with
  | nil => rfl
  | cons a l =>
    have e : min 1 (a :: l).length = 1 := by rw [List.length_cons]; omega
    rw [e, List.drop_one, List.tail_cons, List.length_cons, List.take_of_length_le (by omega)]
theorem cut_take {α : Type} (l : List α) (n : Nat) : cut l none (some (n : Int)) = l.take n := by
  unfold cut
  rw [HT.sIx_none, List.drop_zero, HT.sIx_nat, Nat.sub_zero]
  rcases Nat.le_total n l.length with h | h
  · rw [Nat.min_eq_left h]
  · rw [Nat.min_eq_right h, List.take_of_length_le (Nat.le_refl _), List.take_of_length_le h]
theorem ixN_last {n : Nat} (h : 0 < n) : ixN n (-1) = some (n - 1) := by
  unfold ixN
  rw [if_neg (by decide), if_pos (by omega)]
  congr 1; omega
theorem ixN_nat {n k : Nat} (h : k < n) : ixN n (k : Int) = some k := by
  unfold ixN
  rw [if_pos (by omega), if_pos (by omega), Int.toNat_natCast]
theorem ixL_last {init : List D} {d : D} : ixL (.lst (init ++ [d])) (.int (-1)) = .ok d := by
  unfold ixL atI
  dsimp only
  rw [ixN_last (by simp)]
  simp
theorem ixL_nat {l : List D} {k : Nat} {d : D} (h : l[k]? = some d) : ixL (.lst l) (.int (k : Int)) = .ok d := by
  unfold ixL atI
  dsimp only
  rw [ixN_nat (List.getElem?_eq_some_iff.mp h).1]
  simp [h]
theorem ixL_int {l : List D} {i : Int} {d : D} (h0 : 0 ≤ i) (h : l[i.toNat]? = some d) : ixL (.lst l) (.int i) = .ok d := by
  have := ixL_nat h
  rwa [Int.toNat_of_nonneg h0] at this
theorem set_last {α : Type} (init : List α) (d e : α) : (init ++ [d]).set init.length e = init ++ [e] := by simp
theorem ne_nilR {ds : List D} (h : ∀ d ∈ ds, okR d = true) : cmNe (.lst ds) (.lst []) = .ok (.bl (!ds.isEmpty)) := by
  have h1 := shp_lst h
  have h2 : shp (.lst []) = true := rfl
  unfold cmNe
  rw [h1, h2]
  cases ds <;> rfl
theorem ne_tupnil {c : Cals} : isC c = !(toDs c).isEmpty := by cases c <;> rfl
@[simp] theorem e_ofRx (c : Str) (q : D → Out) : ofR (.ex c) q = .ex c := rfl
@[simp] theorem r_bindx {α β : Type} (c : Str) (f : α → R β) : (R.ex c >>= f) = .ex c := rfl
end VP

set_option Elab.async false
set_option linter.all false
set_option maxRecDepth 100000
set_option maxHeartbeats 1000000
/-! dicts of counts by name (from k70's PK2). -/
namespace VP
open PySem PySem.Spec PyProof.Rows L2 LamX VS
theorem look_kD (cs : Cnt) (n : Str) : look (.dK (kD cs)) (.str n) = some (if hs cs n then some (.int (gt cs n)) else none) := by
  show (some (.inr n : Key)).map (fun k => lk (kD cs) k) = _
  rw [← lk_kD]; rfl
theorem in_kD (neg : Bool) (cs : Cnt) (n : Str) : inD neg (.str n) (.dK (kD cs)) = .ok (.bl (if neg then !hs cs n else hs cs n)) := by
  unfold inD
  rw [look_kD]
  cases neg <;> cases hs cs n <;> rfl
theorem get_kD0 (cs : Cnt) (n : Str) : getD2 (.dK (kD cs)) (.str n) (.int 0) = .ok (.int (gt cs n)) := by
  unfold getD2
  rw [look_kD]
  cases h : hs cs n with
  | true => rfl
  | false => rw [gt_none h]; rfl
theorem ix_kD' {cs : Cnt} {n : Str} (h : hs cs n = true) : ixD (.dK (kD cs)) (.str n) = .ok (.int (gt cs n)) := ix_kD (hs_iff.mp h)
theorem putS_kD (cs : Cnt) (n : Str) (x : Int) (hl : cs.length < sizeLine) : putS (.oK (kD cs)) (.str n) (.int x) = some (.oK (kD (bump cs n (x - gt cs n)))) := by
  have e : x = gt cs n + (x - gt cs n) := by omega
  have h : (kD cs).length < sizeLine := by unfold kD; rw [List.length_map]; exact hl
  show (some (.inr n : Key)).bind (fun k => if (kD cs).length < sizeLine then some (Sl.oK (pk (kD cs) k (.int x))) else none) = _
  rw [Option.bind_some, if_pos h]
  conv => lhs; rw [e]
  rw [pk_kD]
theorem keys_kD (cs : Cnt) : keysOf (.dK (kD cs)) = some ((cs.map (·.1)).map D.str) := by
  show some ((kD cs).map fun kd => keyV kd.1) = _
  unfold kD
  rw [List.map_map, List.map_map]; rfl
theorem compDE_kD {cs : Cnt} {vs : List Nat} {i j : Nat} {g : VS.Env → R D} {ρ : VS.Env} {h : Str → D} (hi : ρ[i]? = some (.im (.dK (kD cs)))) (hl : cs.length ≤ 10000) (H : ∀ n ∈ cs.map (·.1), g ((wipeE ρ vs).set j (.im (.str n))) = .ok (h n)) :
    compDE (.nm j) vs i (fun _ => .ok true) g ρ = .ok (.lst ((cs.map (·.1)).map h)) := by
  unfold compDE
  rw [hi]
  dsimp only
  rw [keys_kD]
  dsimp only
  exact compE_all (t := .nm j) (vs := vs) (gi := fun _ => .ok ((cs.map (·.1)).map D.str)) (ρ := ρ) (u := D.str) (h := h) (cs.map (·.1)) rfl (sl_ge (by rw [List.length_map]; omega)) fun n hn => ⟨_, rfl, H n hn⟩
theorem lk_none {ts : Trs} {h : Int} (hn : h ∉ ts.map (·.1)) : lk (tK ts) (.inl h) = none := by
  induction ts with
  | nil => rfl
  | cons q ts ih =>
    rw [List.map_cons, List.mem_cons, not_or] at hn
    unfold lk tK
    rw [List.map_cons, List.find?_cons]
    have e : decide ((Sum.inl q.1 : Key) = Sum.inl h) = false := decide_eq_false fun z => hn.1 (Sum.inl.inj z).symm
    simp only [e]
    exact ih hn.2
theorem get_tD {ts : Trs} (nd : (ts.map (·.1)).Nodup) {p : Int × Cals} (hp : p ∈ ts) (x : D) : getD2 (tD ts) (.int p.1) x = .ok (cD p.2) := by
  unfold getD2; rw [look_tD nd hp]; rfl
theorem get_none {ts : Trs} {h : Int} (hn : h ∉ ts.map (·.1)) (x : D) : getD2 (tD ts) (.int h) x = .ok x := by
  unfold getD2
  have : look (tD ts) (.int h) = some none := by
    show (some (.inl h : Key)).map _ = _
    rw [Option.map_some, lk_none hn]
  rw [this]; rfl
end VP

set_option Elab.async false
set_option linter.all false
set_option maxRecDepth 100000
set_option maxHeartbeats 1000000
/-! sorted(set(names)) (from k22's PL14); sums by name. -/
namespace VP
open PySem PySem.Spec PyProof.Rows L2 LamX VS
/-! names once each, in order -/
def sset (p : List Str) : List Str := (srtK ((p.map Sum.inr).foldl insK [])).map keyT
theorem keysD_str : ∀ p : List Str, keysD (p.map .str) = some (p.map Sum.inr)
  | [] => rfl
  | x :: p => by
    rw [List.map_cons, keysD, keysD_str p]; rfl
theorem fold_inr (p : List Str) : ((p.map (Sum.inr : Str → Key)).foldl insK []).all (fun k => !isL k) = true := by
  rw [List.all_eq_true]
  intro k hk
  rcases mem_foldK.mp hk with h | h
  · cases h
  · obtain ⟨x, _, rfl⟩ := List.mem_map.mp h; rfl
theorem sset_inr (p : List Str) : srtK ((p.map Sum.inr).foldl insK []) = (sset p).map Sum.inr := by
  refine all_inr ?_
  rw [List.all_eq_true]
  intro k hk
  exact List.all_eq_true.mp (fold_inr p) k ((srtK_perm _).mem_iff.mp hk)
theorem mem_sset {p : List Str} {n : Str} : n ∈ sset p ↔ n ∈ p := by
  have h : (Sum.inr n : Key) ∈ (sset p).map Sum.inr ↔ n ∈ sset p := by
    rw [List.mem_map]
    exact ⟨fun ⟨x, h, e⟩ => Sum.inr.inj e ▸ h, fun h => ⟨n, h, rfl⟩⟩
  rw [← h, ← sset_inr, (srtK_perm _).mem_iff, mem_foldK, List.mem_map]
  constructor
  · rintro (h | ⟨x, h, e⟩)
    · cases h
    · exact Sum.inr.inj e ▸ h
  · exact fun h => .inr ⟨n, h, rfl⟩
theorem nd_insK {ks : List Key} {k : Key} (h : ks.Nodup) : (insK ks k).Nodup := by
  unfold insK
  split
  · exact h
  · rename_i q
    exact List.nodup_cons.mpr ⟨fun z => q (hasK_iff.mpr z), h⟩
theorem nd_foldK : ∀ (l ks : List Key), ks.Nodup → (l.foldl insK ks).Nodup
  | [], _, h => h
  | k :: l, ks, h => nd_foldK l _ (nd_insK h)
theorem nd_sset (p : List Str) : (sset p).Nodup := by
  have h : ((sset p).map (Sum.inr : Str → Key)).Nodup := by
    rw [← sset_inr]
    exact (srtK_perm _).nodup_iff.mpr (nd_foldK _ _ List.nodup_nil)
  rw [List.nodup_iff_pairwise_ne, List.pairwise_map] at h
  rw [List.nodup_iff_pairwise_ne]
  exact h.imp fun h e => h (by rw [e])
theorem sortSet_eq {p : List Str} (h : p.length ≤ 1000) : sortSet (sL p) = .ok (sL (sset p)) := by
  unfold sortSet
  show (match keysD (p.map D.str) with | some ks => sortKs ks | none => .no) = _
  rw [keysD_str]
  dsimp only
  unfold sortKs
  rw [if_pos ⟨by rw [List.length_map]; unfold scanBound; omega, by unfold sameK; rw [Bool.or_eq_true]; right; rw [List.all_map]; exact List.all_eq_true.mpr fun _ _ => rfl⟩, sset_inr, List.map_map]
  rfl
/-- sums by key -/
def sk {α : Type} (k : α → Str) (f : α → Int) (l : List α) (n : Str) : Int := (l.map fun x => if k x = n then f x else 0).sum
theorem sk_sum {α : Type} (k : α → Str) (f : α → Int) : ∀ {N : List Str} {l : List α}, N.Nodup → (∀ x ∈ l, k x ∈ N) → (N.map (sk k f l)).sum = (l.map f).sum := by
  intro N l nd h
  induction l with
  | nil =>
    have : N.map (sk k f []) = N.map fun _ => 0 := rfl
    rw [this]
    clear h nd this
    induction N with
    | nil => rfl
    | cons n N ih => rw [List.map_cons, List.sum_cons, ih]; rfl
  | cons x l ih =>
    have ih := ih fun y hy => h y (List.mem_cons_of_mem _ hy)
    have hx := h x List.mem_cons_self
    have e : ∀ M : List Str, (M.map (sk k f (x :: l))).sum = (M.map fun n => if k x = n then f x else 0).sum + (M.map (sk k f l)).sum := by
      intro M
      induction M with
      | nil => rfl
      | cons n M ih =>
        have e2 : sk k f (x :: l) n = (if k x = n then f x else 0) + sk k f l n := by unfold sk; rw [List.map_cons, List.sum_cons]
        rw [List.map_cons, List.map_cons, List.map_cons, List.sum_cons, List.sum_cons, List.sum_cons, ih, e2]; omega
    have e3 : ∀ M : List Str, M.Nodup → (M.map fun n => if k x = n then f x else 0).sum = if k x ∈ M then f x else 0 := by
      intro M
      induction M with
      | nil => intro _; rfl
      | cons n M ih =>
        intro nd
        rw [List.nodup_cons] at nd
        rw [List.map_cons, List.sum_cons, ih nd.2]
        by_cases e : k x = n
        · subst e; simp [nd.1]
        · simp [e]
    rw [e, e3 N nd, if_pos hx, ih, List.map_cons, List.sum_cons]
theorem tot_sk (l : Cnt) (n : Str) : tot l n = sk (·.1) (·.2) l n := rfl
theorem gt_bumps0 (l : Cnt) (n : Str) : gt (bumps [] l) n = tot l n := by
  rw [gt_bumps]
  have : gt [] n = 0 := rfl
  omega
theorem nms_nd {cs : Cnt} (nd : (cs.map (·.1)).Nodup) : (nmsC cs).Nodup := by
  have h : ((nmsC cs).map (Sum.inr : Str → Key)).Nodup := by
    rw [← nms_inr]
    refine (srtK_perm _).nodup_iff.mpr ?_
    have e : ksI cs = (cs.map (·.1)).map Sum.inr := by unfold ksI; rw [List.map_map]; rfl
    rw [e, List.nodup_iff_pairwise_ne, List.pairwise_map]
    rw [List.nodup_iff_pairwise_ne] at nd
    exact nd.imp fun h z => h (Sum.inr.inj z)
  rw [List.nodup_iff_pairwise_ne, List.pairwise_map] at h
  rw [List.nodup_iff_pairwise_ne]
  exact h.imp fun h e => h (by rw [e])
theorem eq_of_inr {a b : List Str} (h : a.map (Sum.inr : Str → Key) = b.map Sum.inr) : a = b := by
  have := congrArg (List.map keyT) h
  rw [List.map_map, List.map_map] at this
  have e : (keyT ∘ (Sum.inr : Str → Key)) = id := rfl
  rwa [e, List.map_id, List.map_id] at this
theorem sset_nms {cs : Cnt} (nd : (cs.map (·.1)).Nodup) : sset (nmsC cs) = nmsC cs := by
  refine eq_of_inr ?_
  rw [← sset_inr, ← nms_inr]
  refine srtK_of_perm ?_
  refine (List.perm_ext_iff_of_nodup (nd_foldK _ _ List.nodup_nil) ?_).mpr fun k => ?_
  · have e : ksI cs = (cs.map (·.1)).map Sum.inr := by unfold ksI; rw [List.map_map]; rfl
    rw [e, List.nodup_iff_pairwise_ne, List.pairwise_map]
    rw [List.nodup_iff_pairwise_ne] at nd
    exact nd.imp fun h z => h (Sum.inr.inj z)
  · rw [mem_foldK, (srtK_perm _).mem_iff]
    simp
/-- sums over the sorted names -/
theorem nms_tot (l : Cnt) : ((nmsC (bumps [] l)).map (gt (bumps [] l))).sum = (l.map (·.2)).sum := by
  have e : (nmsC (bumps [] l)).map (gt (bumps [] l)) = (nmsC (bumps [] l)).map (sk (·.1) (·.2) l) := List.map_congr_left fun n _ => gt_bumps0 l n
  rw [e]
  exact sk_sum _ _ (nms_nd (nd_bumps _ _ (by simp))) fun x hx => mem_nms.mpr ((keys_bumps _ _ _).mpr (.inr (List.mem_map.mpr ⟨x, hx, rfl⟩)))
end VP

set_option Elab.async false
set_option linter.all false
set_option maxRecDepth 100000
set_option maxHeartbeats 1000000
/-! looks and what is seen: the program's functions. -/
namespace VP
open PySem PySem.Spec PyProof.Rows L2 LamX VS
@[simp] theorem e_isOb (a : Addr) (ds : List (Key × D)) : isOwn (.bK a ds) = true := rfl
/-- the last tick, 0 of none -/
def lb (c : Cals) : Int := if isC c then lastb c else 0
theorem lb_bd {c : Cals} {hi : Int} (v : val c 0 hi) (h0 : 0 ≤ hi) : 0 ≤ lb c ∧ lb c ≤ hi := by
  unfold lb
  cases c with
  | nil => exact ⟨Int.le_refl _, h0⟩
  | cons n a b i r => exact lastb_ge v (fun e => by cases e)
theorem val_lb {c : Cals} {hi : Int} (v : val c 0 hi) : val c 0 (lb c) := by
  cases c with
  | nil => trivial
  | cons n a b i r => exact val_lastb v (fun e => by cases e)
theorem last_of_eq {c : Cals} {lo hi : Int} (v : val c lo hi) (h : dep c ≤ 90) : F_last_of [cD c] = .ok (.int (lb c)) := by
  have n := ne_nil v h
  unfold F_last_of b_last_of
  rw [e_run, S_last_of.st]
  cases c with
  | nil =>
    have n' : cmNe (.tup []) (.tup []) = .ok (.bl false) := n
    simp only [e_if, e_gB, e_op, e_V, S_last_of.g0, R.ok_bind, e_A, e_nil, e_tupD [] (Nat.zero_le _), n, isC, e_bl, Bool.false_eq_true, if_false, e_I, e_ofR, lb]
  | cons m a b i r =>
    obtain ⟨q, h1, h2⟩ := ix_last (c := .cons m a b i r) (fun e => by cases e)
    have x2 : ixT (ndD q) (.int 2) = .ok (.int q.b) := by unfold ndD; simp
    have h1' : ixT (cD (.cons m a b i r)) (.int (-1)) = .ok (ndD q) := h1
    simp [n, h1', x2, h2, lb, isC]
theorem fdiv_ok {i j : Int} (h : 0 < j) (h2 : j < 10000000) : fdivI (.int i) (.int j) = .ok (.int (i / j)) := dv i h (by
  have : j.natAbs.log2 ≤ 24 := log_lt (n := 24) (by omega) (by omega)
  omega)
theorem look_eq {ts : Trs} (t : TV ts) {p : Int × Cals} (hp : p ∈ ts) {f s : Int} (f1 : 0 ≤ f) (f2 : f ≤ 1000000) (s1 : 1 ≤ s) (s2 : s ≤ 1000000) (h : (lb p.2 - f) / s + 1 ≤ 2000) : F_look [tD ts, .int p.1, .int f, .int s] = .ok .non := by
  have tp := t.ok p hp
  have n := need_hand_eq t hp
  have c1 : F_is_count [.int f, .int 0, .int 1000000] = .ok (.bl true) := by rw [is_count_eq, decide_eq_true f1, decide_eq_true f2]; rfl
  have c2 : F_is_count [.int s, .int 1, .int 1000000] = .ok (.bl true) := by rw [is_count_eq, decide_eq_true s1, decide_eq_true s2]; rfl
  have lo := last_of_eq tp.2.2.1 (by omega)
  have dv := fdiv_ok (i := lb p.2 - f) (j := s) (by omega) (by omega)
  have ix := ix_tD t.nd hp
  have hd : decide (2000 < (lb p.2 - f) / s + 1) = false := decide_eq_false (by omega)
  unfold F_look b_look
  rw [e_run, S_look.st]
  simp [n, c1, c2, ix, lo, dv, hd]
/-- how many looks lie ahead of a tick -/
def gl (f s x : Int) : Int := if x ≤ f then 0 else (x - f + s - 1) / s
theorem ticks_in_eq {f s : Int} (s1 : 1 ≤ s) (s2 : s ≤ 1000000) {lo hi : Int} (h : lo ≤ hi) : F_ticks_in [.int f, .int s, .int lo, .int hi] = .ok (.int (gl f s hi - gl f s lo)) := by
  unfold F_ticks_in b_ticks_in
  rw [e_run, S_ticks_in.st]
  by_cases hh : hi ≤ f
  · have e : gl f s hi - gl f s lo = 0 := by unfold gl; rw [if_pos hh, if_pos (by omega)]; rfl
    simp [hh, e]
  · have d1 := fdiv_ok (i := hi - f + s - 1) (j := s) (by omega) (by omega)
    by_cases hl : lo ≤ f
    · have mx : (if f > lo then f else lo) = f := by split <;> omega
      have d2 := fdiv_ok (i := f - f + s - 1) (j := s) (by omega) (by omega)
      have z : (f - f + s - 1) / s = 0 := Int.ediv_eq_zero_of_lt (by omega) (by omega)
      have e : gl f s hi - gl f s lo = (hi - f + s - 1) / s := by unfold gl; rw [if_neg hh, if_pos hl]; omega
      simp only [e_seq, e_ifO, e_gB, e_op, e_V, S_ticks_in.g0, S_ticks_in.g1, S_ticks_in.g2, S_ticks_in.g3, S_ticks_in.w2, R.ok_bind, e_cmI, e_bl, decide_eq_false hh, Bool.false_eq_true, if_false, e_A, e_cons, e_nil, v_max2, mx, e_ofR, e_subI, e_addI, e_I, d1, d2, z, e]
      simp
    · have mx : (if f > lo then f else lo) = lo := by split <;> omega
      have d2 := fdiv_ok (i := lo - f + s - 1) (j := s) (by omega) (by omega)
      have e : gl f s hi - gl f s lo = (hi - f + s - 1) / s - (lo - f + s - 1) / s := by unfold gl; rw [if_neg hh, if_neg hl]
      simp only [e_seq, e_ifO, e_gB, e_op, e_V, S_ticks_in.g0, S_ticks_in.g1, S_ticks_in.g2, S_ticks_in.g3, S_ticks_in.w2, R.ok_bind, e_cmI, e_bl, decide_eq_false hh, Bool.false_eq_true, if_false, e_A, e_cons, e_nil, v_max2, mx, e_ofR, e_subI, e_addI, e_I, d1, d2, e]
/-- the ticks looked at -/
def lks (f s x : Int) : List Int := (List.range (gl f s x).toNat).map fun i : Nat => f + (i : Int) * s
theorem rng3_ok {f s x : Int} (f1 : 0 ≤ f) (f2 : f ≤ 1000000) (s1 : 1 ≤ s) (s2 : s ≤ 1000000) (x1 : 0 ≤ x) (x2 : x ≤ 1000000) : rng3 [.int f, .int x, .int s] = .ok ((lks f s x).map .int) := by
  have sz : Builtin.Range.rangeSize f x s = gl f s x := by
    unfold Builtin.Range.rangeSize gl
    rw [if_pos (by omega)]
    by_cases h : x ≤ f
    · rw [if_neg (by omega), if_pos h]
    · rw [if_pos (by omega), if_neg h]
      have : x - f + s - 1 = (x - f - 1) + s * 1 := by omega
      rw [this, Int.add_mul_ediv_left _ _ (by omega)]
  have sb : 0 ≤ gl f s x ∧ gl f s x ≤ 1000000 := by
    unfold gl
    split
    · omega
    · have h1 : 0 ≤ (x - f + s - 1) / s := Int.ediv_nonneg (by omega) (by omega)
      have h2 : (x - f + s - 1) / s < x - f + 1 := Int.ediv_lt_of_lt_mul (by omega) (by
        have : (x - f + 1) * s ≥ (x - f) * 1 + s := by
          rw [Int.add_mul, Int.one_mul]
          have := Int.mul_le_mul_of_nonneg_left s1 (show 0 ≤ x - f by omega)
          omega
        omega)
      omega
  unfold rng3
  dsimp only
  rw [if_pos, sz]
  · unfold uptoC lks
    rw [List.map_map]; rfl
  · refine ⟨by omega, by omega, ?_⟩
    have fl : ∀ i : Int, -10000000 ≤ i → i ≤ 10000000 → Builtin.Range.rangeFitsLong i = true := fun i h1 h2 => by
      unfold Builtin.Range.rangeFitsLong
      rw [Bool.and_eq_true, decide_eq_true_iff, decide_eq_true_iff]
      omega
    unfold Builtin.Range.small
    rw [sz, fl f (by omega) (by omega), fl x (by omega) (by omega), fl s (by omega) (by omega), fl _ (by omega) (by omega), if_pos (show s > 0 by omega), fl (x + (s - 1)) (by omega) (by omega), Bool.or_true]; rfl
/-- the looks of a hand -/
def lkD (c : Cals) (t : Int) : D := .tup [.int t, .tup ((stk c t).map .str)]
theorem gl_bd {f s x : Int} (f1 : 0 ≤ f) (s1 : 1 ≤ s) (x1 : 0 ≤ x) (x2 : x ≤ 1000000) : 0 ≤ gl f s x ∧ gl f s x ≤ 1000000 := by
  unfold gl
  split
  · omega
  · have h1 : 0 ≤ (x - f + s - 1) / s := Int.ediv_nonneg (by omega) (by omega)
    have h2 : (x - f + s - 1) / s < x - f + 1 := Int.ediv_lt_of_lt_mul (by omega) (by
      have : (x - f + 1) * s ≥ (x - f) * 1 + s := by
        rw [Int.add_mul, Int.one_mul]
        have := Int.mul_le_mul_of_nonneg_left s1 (show 0 ≤ x - f by omega)
        omega
      omega)
    omega
theorem lks_len {f s x : Int} (f1 : 0 ≤ f) (s1 : 1 ≤ s) (x1 : 0 ≤ x) (x2 : x ≤ 1000000) : (lks f s x).length ≤ 1000000 := by
  have := gl_bd f1 s1 x1 x2
  unfold lks
  rw [List.length_map, List.length_range]; omega
theorem looks_eq {ts : Trs} (t : TV ts) {p : Int × Cals} (hp : p ∈ ts) {f s : Int} (f1 : 0 ≤ f) (f2 : f ≤ 1000000) (s1 : 1 ≤ s) (s2 : s ≤ 1000000) (h : (lb p.2 - f) / s + 1 ≤ 2000) :
    F_looks [tD ts, .int p.1, .int f, .int s] = .ok (.lst ((lks f s (lb p.2)).map (lkD p.2))) := by
  have tp := t.ok p hp
  have n := look_eq t hp f1 f2 s1 s2 h
  have lo := last_of_eq tp.2.2.1 (by omega)
  have bd := lb_bd tp.2.2.1 (by decide)
  have ix := ix_tD t.nd hp
  have rg := rng3_ok f1 f2 s1 s2 bd.1 bd.2
  have ll := lks_len f1 s1 bd.1 bd.2
  unfold F_looks b_looks
  rw [e_run, S_looks.st]
  have c1 : C_looks_1 (S_looks.e { trees_here := .im (tD ts), hand := .im (.int p.1), first := .im (.int f), step := .im (.int s), calls := .im (cD p.2), tick := .un }) = .ok (.lst ((lks f s (lb p.2)).map (lkD p.2))) := by
    unfold C_looks_1
    refine compE_all (u := D.int) (h := lkD p.2) (lks f s (lb p.2)) ?_ (sl_ge (by omega)) fun x hx => ⟨S_looks.e { trees_here := .im (tD ts), hand := .im (.int p.1), first := .im (.int f), step := .im (.int s), calls := .im (cD p.2), tick := .im (.int x) }, by simp, ?_⟩
    · simp only [e_gSeqA, e_cons, e_nil, e_V, e_A, S_looks.g2, S_looks.g3, S_looks.g4, R.ok_bind, lo, rg]
    · have st := stack_in_eq 8 p.2 x (by omega) (by omega)
      simp [st, lkD]
  simp only [e_seq, e_A, e_cons, e_nil, e_V, S_looks.g0, S_looks.g1, S_looks.g2, S_looks.g3, R.ok_bind, n, e_ofR, e_op, ix, S_looks.w4, c1]
/-! what is seen -/
def gsum (f s : Int) (c : Cals) : Int := ((tops c).map fun q => gl f s q.b - gl f s q.a).sum
def wq (f s : Int) (q : Nd) : Str × Int := (q.n, gl f s q.b - gl f s q.a - gsum f s q.i)
theorem allq_fl : ∀ c : Cals, allq c = (tops c).flatMap fun q => q :: allq q.i
  | .nil => rfl
  | .cons n a b i r => by
    show (⟨n, a, b, i⟩ : Nd) :: (allq i ++ allq r) = (⟨n, a, b, i⟩ :: allq i) ++ _
    rw [allq_fl r]; rfl
theorem val_tops {c : Cals} {q : Nd} : ∀ {lo hi : Int}, val c lo hi → q ∈ tops c → q.n ∈ NM ∧ lo ≤ q.a ∧ q.a ≤ q.b ∧ q.b ≤ hi ∧ val q.i q.a q.b := by
  induction c with
  | nil => intro lo hi _ h; cases h
  | cons n a b i r _ ihr =>
    intro lo hi v h
    rw [val_cons] at v
    rcases List.mem_cons.mp h with rfl | h
    · exact ⟨v.1, v.2.1, v.2.2.1, v.2.2.2.1, v.2.2.2.2.1⟩
    · have := ihr v.2.2.2.2.2 h
      exact ⟨this.1, by omega, this.2.2.1, this.2.2.2.1, this.2.2.2.2⟩
theorem putS_kB (a : Addr) (cs : Cnt) (n : Str) (v : Int) (hl : cs.length < sizeLine) : putS (.bK a (kD cs)) (.str n) (.int (gt cs n + v)) = some (.bK a (kD (bump cs n v))) := by
  have hl2 : (kD cs).length < sizeLine := by unfold kD; rw [List.length_map]; exact hl
  unfold putS
  show ((some (.inr n : Key)).bind fun k => if (kD cs).length < sizeLine then some (Sl.bK a (pk (kD cs) k (.int (gt cs n + v)))) else none) = _
  rw [Option.bind_some, if_pos hl2, pk_kD]
theorem cnt_flat {c : Cals} {dn : List Nd} {q : Nd} {rs : List Nd} (e : dn ++ q :: rs = tops c) : (dn.flatMap fun q => q :: allq q.i).length + 1 + cnt q.i ≤ cnt c := by
  have h := allq_len c
  rw [allq_fl, ← e, List.flatMap_append, List.flatMap_cons, List.length_append, List.length_append, List.length_cons, allq_len] at h
  omega
theorem seen_in_eq {f s : Int} (s1 : 1 ≤ s) (s2 : s ≤ 1000000) : ∀ (j : Nat) (c : Cals) (lo hi : Int), dep c < j → val c lo hi → cnt c ≤ 1000 → ∀ (cs : Cnt), cs.length + cnt c ≤ 10000 → ∀ a : Addr, F_seen_in j [cD c, .int f, .int s] a (kD cs) = .ok (kD (bumps cs ((allq c).map (wq f s))))
  | 0, c, lo, hi, h, _, _, _, _, _ => by omega
  | j + 1, c, lo, hi, h, v, hc, cs, hl, a => by
    have ih := seen_in_eq (f := f) s1 s2 j
    obtain ⟨s', e1, b1, b2, b3⟩ := for_to (e := S_seen_in.e) (b := bindT (.tp (.cons (.nm 4) (.cons (.nm 5) (.cons (.nm 6) (.cons (.nm 7) .nil)))))) (f := L_seen_in_1 (F_seen_in j)) (u := ndD)
      (fun dn s' => s'.first = .im (.int f) ∧ s'.step = .im (.int s) ∧ s'.found = .bK a (kD (bumps cs ((dn.flatMap fun q => q :: allq q.i).map (wq f s))))) (tops c) (by
        rintro dn q rs s' e ⟨a1, a2, a3⟩ Q hQ
        have hq : q ∈ tops c := by rw [← e]; simp
        have vq := val_tops v hq
        have dq := dep_tops hq
        have cf := cnt_flat e
        have t1 := ticks_in_eq (f := f) s1 s2 vq.2.2.1
        have lb0 := len_bumps ((dn.flatMap fun q => q :: allq q.i).map (wq f s)) cs
        rw [List.length_map] at lb0
        generalize ecs : bumps cs ((dn.flatMap fun q => q :: allq q.i).map (wq f s)) = c0 at *
        have lt := tops_len q.i
        have c1 : C_seen_in_1 (F_seen_in j) (S_seen_in.e {s' with name := .im (.str q.n), low := .im (.int q.a), high := .im (.int q.b), inner := .im (cD q.i)}) = .ok (.lst ((tops q.i).map fun r => .int (gl f s r.b - gl f s r.a))) := by
          unfold C_seen_in_1
          refine compE_all (u := ndD) (h := fun r : Nd => .int (gl f s r.b - gl f s r.a)) (tops q.i) (by simp [toDs_tops]) (sl_ge (by omega)) fun r hr => ⟨S_seen_in.e {s' with name := .im (.str q.n), low := .im (.int q.a), high := .im (.int q.b), inner := .im (cD q.i), one := .im (ndD r)}, by simp, ?_⟩
          have vr := val_tops vq.2.2.2.2 hr
          have t2 := ticks_in_eq (f := f) s1 s2 vr.2.2.1
          have x1 : ixT (ndD r) (.int 1) = .ok (.int r.a) := by unfold ndD; simp
          have x2 : ixT (ndD r) (.int 2) = .ok (.int r.b) := by unfold ndD; simp
          simp [a1, a2, x1, x2, t2]
        simp only [a1, a2] at c1
        have sm : sumD [.lst ((tops q.i).map fun r => D.int (gl f s r.b - gl f s r.a))] = .ok (.int (gsum f s q.i)) := by
          have : ((tops q.i).map fun r => D.int (gl f s r.b - gl f s r.a)) = ((tops q.i).map fun r => gl f s r.b - gl f s r.a).map .int := by rw [List.map_map]; rfl
          rw [this]
          unfold sumD
          dsimp only
          rw [intsD_map]; rfl
        have g0 := get_kD0 c0 q.n
        have p0 := putS_kB a c0 q.n (gl f s q.b - gl f s q.a - gsum f s q.i) (by rw [sizeLine_eq]; omega)
        have lk := len_bump c0 q.n (gl f s q.b - gl f s q.a - gsum f s q.i)
        have r0 := ih q.i q.a q.b (by omega) vq.2.2.2.2 (by omega) (bump c0 q.n (gl f s q.b - gl f s q.a - gsum f s q.i)) (by omega) a
        have er : bumps (bump c0 q.n (gl f s q.b - gl f s q.a - gsum f s q.i)) ((allq q.i).map (wq f s)) = bumps cs (((dn ++ [q]).flatMap fun q => q :: allq q.i).map (wq f s)) := by
          rw [List.flatMap_append, List.map_append, bumps_app, ecs]
          simp [bumps, wq]
        have bd : bindT (.tp (.cons (.nm 4) (.cons (.nm 5) (.cons (.nm 6) (.cons (.nm 7) .nil))))) (ndD q) s'.e = .ok (S_seen_in.e {s' with name := .im (.str q.n), low := .im (.int q.a), high := .im (.int q.b), inner := .im (cD q.i)}) := by unfold ndD; simp
        rw [bd]
        show To S_seen_in.e Q (L_seen_in_1 (F_seen_in j) (S_seen_in.e {s' with name := .im (.str q.n), low := .im (.int q.a), high := .im (.int q.b), inner := .im (cD q.i)}))
        unfold L_seen_in_1
        refine to_seq {s' with name := .im (.str q.n), low := .im (.int q.a), high := .im (.int q.b), inner := .im (cD q.i), own := .im (.int (gl f s q.b - gl f s q.a - gsum f s q.i))} (by simp [a1, a2, t1, c1, sm]) ?_
        refine to_seq {s' with name := .im (.str q.n), low := .im (.int q.a), high := .im (.int q.b), inner := .im (cD q.i), own := .im (.int (gl f s q.b - gl f s q.a - gsum f s q.i)), found := .bK a (kD (bump c0 q.n (gl f s q.b - gl f s q.a - gsum f s q.i)))} (by simp [a3, g0, p0]) ?_
        have le : lendO 3 (F_seen_in j) (gaCons (geV 7) (gaCons (geV 1) (gaCons (geV 2) gaNil))) (S_seen_in.e {s' with name := .im (.str q.n), low := .im (.int q.a), high := .im (.int q.b), inner := .im (cD q.i), own := .im (.int (gl f s q.b - gl f s q.a - gsum f s q.i)), found := .bK a (kD (bump c0 q.n (gl f s q.b - gl f s q.a - gsum f s q.i)))}) =
          .nx (S_seen_in.e {s' with name := .im (.str q.n), low := .im (.int q.a), high := .im (.int q.b), inner := .im (cD q.i), own := .im (.int (gl f s q.b - gl f s q.a - gsum f s q.i)), found := .bK a (kD (bumps cs (((dn ++ [q]).flatMap fun q => q :: allq q.i).map (wq f s))))}) := by
          unfold lendO
          simp [a1, a2, lendS, r0, er]
        rw [le]
        exact to_nx (hQ _ ⟨a1, a2, rfl⟩)) { calls := .im (cD c), first := .im (.int f), step := .im (.int s), found := .bK a (kD cs), name := .un, low := .un, high := .un, inner := .un, own := .un, one := .un } ⟨rfl, rfl, rfl⟩
    show runDefB 10 (b_seen_in (F_seen_in j)) [cD c, .int f, .int s] a (kD cs) = _
    unfold runDefB
    rw [S_seen_in.st]
    have e2 : b_seen_in (F_seen_in j) (S_seen_in.e { calls := .im (cD c), first := .im (.int f), step := .im (.int s), found := .bK a (kD cs), name := .un, low := .un, high := .un, inner := .un, own := .un, one := .un }) = .nx s'.e := by
      unfold b_seen_in
      simp only [e_for, e_gSeq, e_V, S_seen_in.g0, R.ok_bind, e_itT, toDs_tops]
      exact e1
    rw [e2]
    dsimp only
    rw [show ([cD c, D.int f, D.int s] : List D).length = 3 from rfl, S_seen_in.g3, b3]
    dsimp only
    rw [if_pos rfl, allq_fl]
/-- what is seen: by names -/
def sn (f s : Int) (c : Cals) : Cnt := bumps [] ((allq c).map (wq f s))
def snD (cs : Cnt) (n : Str) : D := .tup [.str n, .int (gt cs n)]
theorem sn_keys {f s : Int} {c : Cals} {n : Str} : n ∈ (sn f s c).map (·.1) ↔ n ∈ (allq c).map (·.n) := by
  unfold sn
  rw [keys_bumps, List.map_map]
  constructor
  · rintro (h | h)
    · cases h
    · exact h
  · exact fun h => .inr h
theorem sn_nd (f s : Int) (c : Cals) : ((sn f s c).map (·.1)).Nodup := nd_bumps _ _ (by simp)
theorem sn_len {f s : Int} {c : Cals} {lo hi : Int} (v : val c lo hi) : (sn f s c).length ≤ 6 := by
  have := nd_len _ NM (sn_nd f s c) fun x hx => by
    obtain ⟨q, hq, rfl⟩ := List.mem_map.mp (sn_keys.mp hx)
    exact val_names v q hq
  rw [List.length_map] at this
  exact this
theorem seen_eq {ts : Trs} (t : TV ts) {p : Int × Cals} (hp : p ∈ ts) {f s : Int} (f1 : 0 ≤ f) (f2 : f ≤ 1000000) (s1 : 1 ≤ s) (s2 : s ≤ 1000000) (h : (lb p.2 - f) / s + 1 ≤ 2000) :
    F_seen [tD ts, .int p.1, .int f, .int s] = .ok (.lst ((nmsC (sn f s p.2)).map (snD (sn f s p.2)))) := by
  have tp := t.ok p hp
  have n := look_eq t hp f1 f2 s1 s2 h
  have ix := ix_tD t.nd hp
  have sl := sn_len (f := f) (s := s) tp.2.2.1
  have se := seen_in_eq (f := f) s1 s2 8 p.2 0 1000000 (by omega) tp.2.2.1 (by omega) [] (by simp; omega)
  have lr : lentR (F_seen_in 8) [cD p.2, .int f, .int s] [] = .ok (kD (sn f s p.2)) := lentR_ok se
  have sk := sort_kD (cs := sn f s p.2) (by omega)
  have nl : (nmsC (sn f s p.2)).length ≤ 6 := by unfold nmsC; rw [List.length_map, (srtK_perm _).length_eq]; unfold ksI; rw [List.length_map]; exact sl
  unfold F_seen b_seen
  rw [e_run, S_seen.st]
  have c1 : C_seen_1 (S_seen.e { trees_here := .im (tD ts), hand := .im (.int p.1), first := .im (.int f), step := .im (.int s), found := .oK (kD (sn f s p.2)), name := .un }) = .ok (.lst ((nmsC (sn f s p.2)).map (snD (sn f s p.2)))) := by
    unfold C_seen_1
    refine compE_all (u := D.str) (h := snD (sn f s p.2)) (nmsC (sn f s p.2)) (by simp [sk]) (sl_ge (by omega)) fun x hx => ⟨S_seen.e { trees_here := .im (tD ts), hand := .im (.int p.1), first := .im (.int f), step := .im (.int s), found := .oK (kD (sn f s p.2)), name := .im (.str x) }, by simp, ?_⟩
    have ix2 := ix_kD (mem_nms.mp hx)
    simp [ix2, snD]
  have le : lendO 4 (F_seen_in 8) (gaCons (geOp ixD (geV 0) (geV 1)) (gaCons (geV 2) (gaCons (geV 3) gaNil))) (S_seen.e { trees_here := .im (tD ts), hand := .im (.int p.1), first := .im (.int f), step := .im (.int s), found := .oK [], name := .un }) =
    .nx (S_seen.e { trees_here := .im (tD ts), hand := .im (.int p.1), first := .im (.int f), step := .im (.int s), found := .oK (kD (sn f s p.2)), name := .un }) := by
    unfold lendO
    simp [ix, lendS, lr]
  simp only [e_seq, e_A, e_cons, e_nil, e_V, S_seen.g0, S_seen.g1, S_seen.g2, S_seen.g3, R.ok_bind, n, e_ofR, e_own, e_slOk, S_seen.w4, le, c1]
end VP

set_option Elab.async false
set_option linter.all false
set_option maxRecDepth 100000
namespace VP
open PySem PySem.Spec PyProof.Rows L2 LamX VS
noncomputable section
def L__law_flat_1 (self : List D → R D) : VS.Env → Out :=
 (seqO (appO 2 (geA tupD (gaCons (geV 3) (gaCons (geV 1) gaNil))))
  (ownO 2 (geOp catL (geT 2) (geA self (gaCons (geOp ixT (geV 3) (gI 3)) (gaCons (geOp addT (geV 1) (geA tupD (gaCons (geOp ixT (geV 3) (gI 0)) gaNil))) gaNil))))))
structure S__law_flat where
  (calls_here above found one : Sl)
def S__law_flat.e (s : S__law_flat) : VS.Env := [s.calls_here, s.above, s.found, s.one]
@[simp] theorem S__law_flat.g0 (s : S__law_flat) : s.e[0]? = Option.some s.calls_here := rfl
@[simp] theorem S__law_flat.w0 (s : S__law_flat) (u : Sl) : List.set s.e 0 u = S__law_flat.e { s with calls_here := u } := rfl
@[simp] theorem S__law_flat.g1 (s : S__law_flat) : s.e[1]? = Option.some s.above := rfl
@[simp] theorem S__law_flat.w1 (s : S__law_flat) (u : Sl) : List.set s.e 1 u = S__law_flat.e { s with above := u } := rfl
@[simp] theorem S__law_flat.g2 (s : S__law_flat) : s.e[2]? = Option.some s.found := rfl
@[simp] theorem S__law_flat.w2 (s : S__law_flat) (u : Sl) : List.set s.e 2 u = S__law_flat.e { s with found := u } := rfl
@[simp] theorem S__law_flat.g3 (s : S__law_flat) : s.e[3]? = Option.some s.one := rfl
@[simp] theorem S__law_flat.w3 (s : S__law_flat) (u : Sl) : List.set s.e 3 u = S__law_flat.e { s with one := u } := rfl
theorem S__law_flat.st (d0 d1 : D) : startE 4 [d0, d1] = S__law_flat.e { calls_here := .im d0, above := .im d1, found := .un, one := .un } := rfl
def b__law_flat (self : List D → R D) : VS.Env → Out :=
 (seqO (ownO 2 (geA lstD gaNil))
 (seqO (forO (.nm 3) (gSeq itT (geV 0))
  (L__law_flat_1 self))
 (frzO 2 (fun ρ => ofR ((geV 2) ρ) .rt))))
def F__law_flat : Nat → List D → R D
  | 0 => noF
  | j + 1 => runDef 4 (b__law_flat (F__law_flat j))
def L__law_all_1 : VS.Env → Out :=
 (fun ρ => ofR ((geOp catL (geV 1) (geA (F__law_flat 8) (gaCons (geOp ixD (geV 0) (geV 2)) (gaCons (geA tupD gaNil) gaNil)))) ρ) fun d => .nx (ρ.set 1 (.im d)))
structure S__law_all where
  (trees_here found hand : Sl)
def S__law_all.e (s : S__law_all) : VS.Env := [s.trees_here, s.found, s.hand]
@[simp] theorem S__law_all.g0 (s : S__law_all) : s.e[0]? = Option.some s.trees_here := rfl
@[simp] theorem S__law_all.w0 (s : S__law_all) (u : Sl) : List.set s.e 0 u = S__law_all.e { s with trees_here := u } := rfl
@[simp] theorem S__law_all.g1 (s : S__law_all) : s.e[1]? = Option.some s.found := rfl
@[simp] theorem S__law_all.w1 (s : S__law_all) (u : Sl) : List.set s.e 1 u = S__law_all.e { s with found := u } := rfl
@[simp] theorem S__law_all.g2 (s : S__law_all) : s.e[2]? = Option.some s.hand := rfl
@[simp] theorem S__law_all.w2 (s : S__law_all) (u : Sl) : List.set s.e 2 u = S__law_all.e { s with hand := u } := rfl
theorem S__law_all.st (d0 : D) : startE 3 [d0] = S__law_all.e { trees_here := .im d0, found := .un, hand := .un } := rfl
def b__law_all : VS.Env → Out :=
 (seqO (fun ρ => ofR ((geA lstD gaNil) ρ) fun d => .nx (ρ.set 1 (.im d)))
 (seqO (forO (.nm 2) (gSeq itL (geA sortDct (gaCons (geV 0) gaNil)))
  L__law_all_1)
 (fun ρ => ofR ((geV 1) ρ) .rt)))
def F__law_all : List D → R D := runDef 3 b__law_all
def C__law_own_1 : VS.Env → R D :=
 (compE (.nm 1) [1] (gSeq itT (geOp ixT (geV 0) (gI 3))) (fun _ => .ok true) (geOp subI (geOp ixT (geV 1) (gI 2)) (geOp ixT (geV 1) (gI 1))))
structure S__law_own where
  (one inner : Sl)
def S__law_own.e (s : S__law_own) : VS.Env := [s.one, s.inner]
@[simp] theorem S__law_own.g0 (s : S__law_own) : s.e[0]? = Option.some s.one := rfl
@[simp] theorem S__law_own.w0 (s : S__law_own) (u : Sl) : List.set s.e 0 u = S__law_own.e { s with one := u } := rfl
@[simp] theorem S__law_own.g1 (s : S__law_own) : s.e[1]? = Option.some s.inner := rfl
@[simp] theorem S__law_own.w1 (s : S__law_own) (u : Sl) : List.set s.e 1 u = S__law_own.e { s with inner := u } := rfl
theorem S__law_own.st (d0 : D) : startE 2 [d0] = S__law_own.e { one := .im d0, inner := .un } := rfl
def b__law_own : VS.Env → Out :=
 (fun ρ => ofR ((geOp subI (geOp subI (geOp ixT (geV 0) (gI 2)) (geOp ixT (geV 0) (gI 1))) (geA sumD (gaCons C__law_own_1 gaNil))) ρ) .rt)
def F__law_own : List D → R D := runDef 2 b__law_own
end
end VP

set_option Elab.async false
set_option linter.all false
set_option maxRecDepth 100000
set_option maxHeartbeats 1000000
/-! _law_flat, _law_all. -/
namespace VP
open PySem PySem.Spec PyProof.Rows L2 LamX VS
abbrev Fl := List (Nd × List Str)
def flq : Cals → List Str → Fl
  | .nil, _ => [] | .cons n a b i r, ab => (⟨n, a, b, i⟩, ab) :: (flq i (ab ++ [n]) ++ flq r ab)
theorem flq_cons (n : Str) (a b : Int) (i r : Cals) (ab : List Str) : flq (.cons n a b i r) ab = (⟨n, a, b, i⟩, ab) :: (flq i (ab ++ [n]) ++ flq r ab) := rfl
theorem flq_fst : ∀ (c : Cals) (ab : List Str), (flq c ab).map (·.1) = allq c
  | .nil, _ => rfl
  | .cons n a b i r, ab => by rw [flq_cons, List.map_cons, List.map_append, flq_fst i, flq_fst r]; rfl
theorem flq_len (c : Cals) (ab : List Str) : (flq c ab).length = cnt c := by
  rw [← allq_len, ← flq_fst c ab, List.length_map]
def flT (ab : List Str) (l : List Nd) : Fl := l.flatMap fun q => (q, ab) :: flq q.i (ab ++ [q.n])
theorem flq_tops (ab : List Str) : ∀ c : Cals, flq c ab = flT ab (tops c)
  | .nil => rfl
  | .cons n a b i r => by
    rw [flq_cons, flq_tops ab r]; rfl
def flD (x : Nd × List Str) : D := .tup [ndD x.1, .tup (x.2.map .str)]
theorem flT_len {c : Cals} {ab : List Str} {dn rs : List Nd} {q : Nd} (e : dn ++ q :: rs = tops c) : (flT ab dn).length + 1 + (flq q.i (ab ++ [q.n])).length ≤ cnt c := by
  have h := flq_len c ab
  rw [flq_tops, ← e] at h
  unfold flT at *
  rw [List.flatMap_append, List.flatMap_cons, List.length_append, List.length_append, List.length_cons] at h
  omega
theorem law_flat_eq : ∀ (j : Nat) (c : Cals) (ab : List Str), dep c < j → cnt c ≤ 100000 → ab.length + dep c ≤ 1000 → F__law_flat j [cD c, .tup (ab.map .str)] = .ok (.lst ((flq c ab).map flD)) := by
  intro j
  induction j with
  | zero => intro c ab h; omega
  | succ j ih =>
    intro c ab hd hc ha
    obtain ⟨s', e, p1, p2, p3⟩ := for_to (e := S__law_flat.e) (b := bindT (.nm 3)) (f := L__law_flat_1 (F__law_flat j)) (u := ndD)
      (fun dn s => s.calls_here = .im (cD c) ∧ s.above = .im (.tup (ab.map .str)) ∧ s.found = .ow ((flT ab dn).map flD)) (tops c) (by
        rintro dn q rs s e ⟨h1, h2, h3⟩ Q hQ
        have hq : q ∈ tops c := by rw [← e]; simp
        have d1 := dep_tops hq
        have c1 := cnt_tops hq
        have l1 := flT_len (ab := ab) e
        have i1 := ih q.i (ab ++ [q.n]) (by omega) (by omega) (by rw [List.length_append, List.length_cons, List.length_nil]; omega)
        have er : flT ab (dn ++ [q]) = flT ab dn ++ ((q, ab) :: flq q.i (ab ++ [q.n])) := by unfold flT; simp
        rw [er] at hQ
        obtain ⟨n, a, b, i⟩ := q
        dsimp only at i1 l1 hQ
        generalize flT ab dn = ac at *
        generalize flq i (ab ++ [n]) = fi at *
        have z1 : ac.length < sizeLine := by rw [sizeLine_eq]; omega
        have z2 : ab.length + 1 ≤ sizeLine := by rw [sizeLine_eq]; omega
        have z3 : ac.length + 1 + fi.length ≤ sizeLine := by rw [sizeLine_eq]; omega
        simp only [List.map_append, List.map_cons, List.map_nil] at i1
        simp [L__law_flat_1, ndD, h1, h2, h3, z1, z2, z3, i1]
        exact to_nx (hQ _ ⟨rfl, rfl, by simp [flD, ndD]⟩)) (S__law_flat.mk (.im (cD c)) (.im (.tup (ab.map .str))) (.ow []) .un) ⟨rfl, rfl, rfl⟩
    rw [← toDs_tops] at e
    rw [← flq_tops] at p3
    unfold F__law_flat b__law_flat
    rw [e_run, S__law_flat.st]
    simp [e, p3]
def alq (ts : Trs) : Fl := ts.flatMap fun p => flq p.2 []
theorem alq_fst (ts : Trs) : (alq ts).map (·.1) = evq ts := by
  unfold alq evq
  rw [List.map_flatMap]
  congr 1
  funext p
  exact flq_fst _ _
theorem law_all_eq {ts : Trs} (t : TV ts) : F__law_all [tD ts] = .ok (.lst ((alq ts).map flD)) := by
  have tl := t.len
  have sr := srt_tD t
  obtain ⟨s', e, p1, p2⟩ := for_to (e := S__law_all.e) (b := bindT (.nm 2)) (f := L__law_all_1) (u := fun p : Int × Cals => D.int p.1)
    (fun dn s => s.trees_here = .im (tD ts) ∧ s.found = .im (.lst ((alq dn).map flD))) ts (by
      rintro dn p rs s e ⟨h1, h2⟩ Q hQ
      have hp : p ∈ ts := by rw [← e]; simp
      have tp := t.ok p hp
      have ix := ix_tD t.nd hp
      have fq := law_flat_eq 8 p.2 [] (by omega) (by omega) (by simp; omega)
      have hd : dn.length ≤ 4 := by have := congrArg List.length e; simp at this; omega
      have al : (alq dn).length ≤ 4000 := by
        have h := congrArg List.length (alq_fst dn)
        rw [List.length_map] at h
        have := evq_len (ts := dn) fun q hq => (t.ok q (by rw [← e]; simp [hq])).2.2.2.2
        omega
      have fl := flq_len p.2 []
      have er : alq (dn ++ [p]) = alq dn ++ flq p.2 [] := by unfold alq; simp
      rw [er] at hQ
      generalize alq dn = ac at *
      generalize flq p.2 [] = fi at *
      have z : ac.length + fi.length ≤ sizeLine := by rw [sizeLine_eq]; omega
      simp only [List.map_nil] at fq
      simp [L__law_all_1, h1, h2, ix, fq, z]
      exact to_nx (hQ _ ⟨rfl, by simp⟩)) (S__law_all.mk (.im (tD ts)) (.im (.lst [])) .un) ⟨rfl, rfl⟩
  unfold F__law_all b__law_all
  rw [e_run, S__law_all.st]
  simp [sr, e, p2]
theorem val_in {c : Cals} : ∀ {lo hi : Int}, val c lo hi → ∀ q ∈ allq c, lo ≤ q.a ∧ q.a ≤ q.b ∧ q.b ≤ hi := by
  induction c with
  | nil => intro _ _ _ q hq; cases hq
  | cons n a b i r ih1 ih2 =>
    intro lo hi v q hq
    obtain ⟨_, v1, v2, v3, v4, v5⟩ := v
    rcases List.mem_cons.mp hq with rfl | hq
    · exact ⟨v1, v2, v3⟩
    · rcases List.mem_append.mp hq with hq | hq
      · have := ih1 v4 q hq; omega
      · have := ih2 v5 q hq; omega
theorem tops_all {c : Cals} {q : Nd} (h : q ∈ tops c) : q ∈ allq c := by
  induction c with
  | nil => cases h
  | cons n a b i r _ ih =>
    rcases List.mem_cons.mp h with rfl | h
    · exact List.mem_cons_self
    · exact List.mem_cons_of_mem _ (List.mem_append_right _ (ih h))
end VP

set_option Elab.async false
set_option linter.all false
set_option maxRecDepth 100000
namespace VP
open PySem PySem.Spec PyProof.Rows L2 LamX VS
noncomputable section
def L_is_fold_1 (self : List D → R D) : VS.Env → Out :=
 (seqO (ifO (gOr (gNot (geB (ge1 (isiD .tuple) (geV 1)))) (gOr (geB (geOp cmNe (geA lenD (gaCons (geV 1) gaNil)) (gI 4))) (gOr (gNot (geB (geA F_is_name (gaCons (geOp ixT (geV 1) (gI 0)) gaNil)))) (gNot (geB (geA self (gaCons (geOp ixT (geV 1) (gI 3)) gaNil)))))))
   (fun ρ => ofR ((gB false) ρ) .rt)
   .nx)
  (ifO (gOr (gNot (geB (geA F_is_count (gaCons (geOp ixT (geV 1) (gI 1)) (gaCons (gI 0) (gaCons (gI 1000000000) gaNil)))))) (gNot (geB (geA F_is_count (gaCons (geOp ixT (geV 1) (gI 2)) (gaCons (gI 0) (gaCons (gI 1000000000) gaNil)))))))
   (fun ρ => ofR ((gB false) ρ) .rt)
   .nx))
def C_is_fold_1 (self : List D → R D) : VS.Env → R D :=
 (compE (.tp (.cons (.nm 1) (.cons (.nm 2) .nil))) [1, 2] (gSeqA zpT (gaCons (geSl slT (geV 0) goNone (goSome (ge1 (subI (.int 0)) (gI 1)))) (gaCons (geSl slT (geV 0) (goSome (gI 1)) goNone) gaNil))) (fun _ => .ok true) (geOp (cmS fun i j => decide (i < j)) (geOp ixT (geV 1) (gI 0)) (geOp ixT (geV 2) (gI 0))))
structure S_is_fold where
  (thing one other : Sl)
def S_is_fold.e (s : S_is_fold) : VS.Env := [s.thing, s.one, s.other]
@[simp] theorem S_is_fold.g0 (s : S_is_fold) : s.e[0]? = Option.some s.thing := rfl
@[simp] theorem S_is_fold.w0 (s : S_is_fold) (u : Sl) : List.set s.e 0 u = S_is_fold.e { s with thing := u } := rfl
@[simp] theorem S_is_fold.g1 (s : S_is_fold) : s.e[1]? = Option.some s.one := rfl
@[simp] theorem S_is_fold.w1 (s : S_is_fold) (u : Sl) : List.set s.e 1 u = S_is_fold.e { s with one := u } := rfl
@[simp] theorem S_is_fold.g2 (s : S_is_fold) : s.e[2]? = Option.some s.other := rfl
@[simp] theorem S_is_fold.w2 (s : S_is_fold) (u : Sl) : List.set s.e 2 u = S_is_fold.e { s with other := u } := rfl
theorem S_is_fold.st (d0 : D) : startE 3 [d0] = S_is_fold.e { thing := .im d0, one := .un, other := .un } := rfl
def b_is_fold (self : List D → R D) : VS.Env → Out :=
 (seqO (ifO (gNot (geB (ge1 (isiD .tuple) (geV 0))))
  (fun ρ => ofR ((gB false) ρ) .rt)
  .nx)
 (seqO (forO (.nm 1) (gSeq itT (geV 0))
  (L_is_fold_1 self))
 (fun ρ => ofR ((geA allD (gaCons (C_is_fold_1 self) gaNil)) ρ) .rt)))
def F_is_fold : Nat → List D → R D
  | 0 => noF
  | j + 1 => runDef 3 (b_is_fold (F_is_fold j))
structure S_need_fold where
  (thing : Sl)
def S_need_fold.e (s : S_need_fold) : VS.Env := [s.thing]
@[simp] theorem S_need_fold.g0 (s : S_need_fold) : s.e[0]? = Option.some s.thing := rfl
@[simp] theorem S_need_fold.w0 (s : S_need_fold) (u : Sl) : List.set s.e 0 u = S_need_fold.e { s with thing := u } := rfl
theorem S_need_fold.st (d0 : D) : startE 1 [d0] = S_need_fold.e { thing := .im d0 } := rfl
def b_need_fold : VS.Env → Out :=
 (ifO (gNot (geB (geA (F_is_fold 8) (gaCons (geV 0) gaNil))))
  (fun _ => .ex "BadFold")
  .nx)
def F_need_fold : List D → R D := runDef 1 b_need_fold
def C_joined_of_1 (self : List D → R D) : VS.Env → R D :=
 (compE (.nm 8) [8] (gSeq itT (geV 0)) (fun _ => .ok true) (geA tupD (gaCons (geOp ixT (geV 8) (gI 0)) (gaCons (geV 8) gaNil))))
def C_joined_of_2 (self : List D → R D) : VS.Env → R D :=
 (compE (.nm 8) [8] (gSeq itT (geV 1)) (fun _ => .ok true) (geA tupD (gaCons (geOp ixT (geV 8) (gI 0)) (gaCons (geV 8) gaNil))))
def C_joined_of_3 (self : List D → R D) : VS.Env → R D :=
 (compDE (.nm 3) [3] 5 (geB (geOp (inD true) (geV 3) (geV 4))) (geV 3))
def L_joined_of_1 (self : List D → R D) : VS.Env → Out :=
 (seqO (parO2 6 7 .c .c (geGet (geV 4) (geV 3) (geA tupD (gaCons (geV 3) (gaCons (gI 0) (gaCons (gI 0) (gaCons (geA tupD gaNil) gaNil)))))) (geGet (geV 5) (geV 3) (geA tupD (gaCons (geV 3) (gaCons (gI 0) (gaCons (gI 0) (gaCons (geA tupD gaNil) gaNil)))))))
  (appO 2 (geA tupD (gaCons (geV 3) (gaCons (geOp addI (geOp ixT (geV 6) (gI 1)) (geOp ixT (geV 7) (gI 1))) (gaCons (geOp addI (geOp ixT (geV 6) (gI 2)) (geOp ixT (geV 7) (gI 2))) (gaCons (geA self (gaCons (geOp ixT (geV 6) (gI 3)) (gaCons (geOp ixT (geV 7) (gI 3)) gaNil))) gaNil)))))))
structure S_joined_of where
  (one other found name first second mine its part : Sl)
def S_joined_of.e (s : S_joined_of) : VS.Env := [s.one, s.other, s.found, s.name, s.first, s.second, s.mine, s.its, s.part]
@[simp] theorem S_joined_of.g0 (s : S_joined_of) : s.e[0]? = Option.some s.one := rfl
@[simp] theorem S_joined_of.w0 (s : S_joined_of) (u : Sl) : List.set s.e 0 u = S_joined_of.e { s with one := u } := rfl
@[simp] theorem S_joined_of.g1 (s : S_joined_of) : s.e[1]? = Option.some s.other := rfl
@[simp] theorem S_joined_of.w1 (s : S_joined_of) (u : Sl) : List.set s.e 1 u = S_joined_of.e { s with other := u } := rfl
@[simp] theorem S_joined_of.g2 (s : S_joined_of) : s.e[2]? = Option.some s.found := rfl
@[simp] theorem S_joined_of.w2 (s : S_joined_of) (u : Sl) : List.set s.e 2 u = S_joined_of.e { s with found := u } := rfl
@[simp] theorem S_joined_of.g3 (s : S_joined_of) : s.e[3]? = Option.some s.name := rfl
@[simp] theorem S_joined_of.w3 (s : S_joined_of) (u : Sl) : List.set s.e 3 u = S_joined_of.e { s with name := u } := rfl
@[simp] theorem S_joined_of.g4 (s : S_joined_of) : s.e[4]? = Option.some s.first := rfl
@[simp] theorem S_joined_of.w4 (s : S_joined_of) (u : Sl) : List.set s.e 4 u = S_joined_of.e { s with first := u } := rfl
@[simp] theorem S_joined_of.g5 (s : S_joined_of) : s.e[5]? = Option.some s.second := rfl
@[simp] theorem S_joined_of.w5 (s : S_joined_of) (u : Sl) : List.set s.e 5 u = S_joined_of.e { s with second := u } := rfl
@[simp] theorem S_joined_of.g6 (s : S_joined_of) : s.e[6]? = Option.some s.mine := rfl
@[simp] theorem S_joined_of.w6 (s : S_joined_of) (u : Sl) : List.set s.e 6 u = S_joined_of.e { s with mine := u } := rfl
@[simp] theorem S_joined_of.g7 (s : S_joined_of) : s.e[7]? = Option.some s.its := rfl
@[simp] theorem S_joined_of.w7 (s : S_joined_of) (u : Sl) : List.set s.e 7 u = S_joined_of.e { s with its := u } := rfl
@[simp] theorem S_joined_of.g8 (s : S_joined_of) : s.e[8]? = Option.some s.part := rfl
@[simp] theorem S_joined_of.w8 (s : S_joined_of) (u : Sl) : List.set s.e 8 u = S_joined_of.e { s with part := u } := rfl
theorem S_joined_of.st (d0 d1 : D) : startE 9 [d0, d1] = S_joined_of.e { one := .im d0, other := .im d1, found := .un, name := .un, first := .un, second := .un, mine := .un, its := .un, part := .un } := rfl
def b_joined_of (self : List D → R D) : VS.Env → Out :=
 (seqO (parO2 4 5 .c .c (geA dictP (gaCons (C_joined_of_1 self) gaNil)) (geA dictP (gaCons (C_joined_of_2 self) gaNil)))
 (seqO (ownO 2 (geA lstD gaNil))
 (seqO (forO (.nm 3) (gSeq itL (geA sortD (gaCons (geOp catL (geA listDct (gaCons (geV 4) gaNil)) (C_joined_of_3 self)) gaNil)))
  (L_joined_of_1 self))
 (fun ρ => ofR ((geA tupOf (gaCons (geT 2) gaNil)) ρ) .rt))))
def F_joined_of : Nat → List D → R D
  | 0 => noF
  | j + 1 => runDef 9 (b_joined_of (F_joined_of j))
structure S_joined where
  (one other : Sl)
def S_joined.e (s : S_joined) : VS.Env := [s.one, s.other]
@[simp] theorem S_joined.g0 (s : S_joined) : s.e[0]? = Option.some s.one := rfl
@[simp] theorem S_joined.w0 (s : S_joined) (u : Sl) : List.set s.e 0 u = S_joined.e { s with one := u } := rfl
@[simp] theorem S_joined.g1 (s : S_joined) : s.e[1]? = Option.some s.other := rfl
@[simp] theorem S_joined.w1 (s : S_joined) (u : Sl) : List.set s.e 1 u = S_joined.e { s with other := u } := rfl
theorem S_joined.st (d0 d1 : D) : startE 2 [d0, d1] = S_joined.e { one := .im d0, other := .im d1 } := rfl
def b_joined : VS.Env → Out :=
 (seqO (fun ρ => ofR ((geA F_need_fold (gaCons (geV 0) gaNil)) ρ) fun _ => .nx ρ)
 (seqO (fun ρ => ofR ((geA F_need_fold (gaCons (geV 1) gaNil)) ρ) fun _ => .nx ρ)
 (fun ρ => ofR ((geA (F_joined_of 8) (gaCons (geV 0) (gaCons (geV 1) gaNil))) ρ) .rt)))
def F_joined : List D → R D := runDef 2 b_joined
def L_lines_of_1 (self : List D → R D) : VS.Env → Out :=
 (seqO (appO 2 (geA tupD (gaCons (geOp addT (geV 1) (geA tupD (gaCons (geV 3) gaNil))) (gaCons (geV 4) (gaCons (geV 5) gaNil)))))
  (extO 2 (geA self (gaCons (geV 6) (gaCons (geOp addT (geV 1) (geA tupD (gaCons (geV 3) gaNil))) gaNil)))))
structure S_lines_of where
  (some_ above found name many time inner : Sl)
def S_lines_of.e (s : S_lines_of) : VS.Env := [s.some_, s.above, s.found, s.name, s.many, s.time, s.inner]
@[simp] theorem S_lines_of.g0 (s : S_lines_of) : s.e[0]? = Option.some s.some_ := rfl
@[simp] theorem S_lines_of.w0 (s : S_lines_of) (u : Sl) : List.set s.e 0 u = S_lines_of.e { s with some_ := u } := rfl
@[simp] theorem S_lines_of.g1 (s : S_lines_of) : s.e[1]? = Option.some s.above := rfl
@[simp] theorem S_lines_of.w1 (s : S_lines_of) (u : Sl) : List.set s.e 1 u = S_lines_of.e { s with above := u } := rfl
@[simp] theorem S_lines_of.g2 (s : S_lines_of) : s.e[2]? = Option.some s.found := rfl
@[simp] theorem S_lines_of.w2 (s : S_lines_of) (u : Sl) : List.set s.e 2 u = S_lines_of.e { s with found := u } := rfl
@[simp] theorem S_lines_of.g3 (s : S_lines_of) : s.e[3]? = Option.some s.name := rfl
@[simp] theorem S_lines_of.w3 (s : S_lines_of) (u : Sl) : List.set s.e 3 u = S_lines_of.e { s with name := u } := rfl
@[simp] theorem S_lines_of.g4 (s : S_lines_of) : s.e[4]? = Option.some s.many := rfl
@[simp] theorem S_lines_of.w4 (s : S_lines_of) (u : Sl) : List.set s.e 4 u = S_lines_of.e { s with many := u } := rfl
@[simp] theorem S_lines_of.g5 (s : S_lines_of) : s.e[5]? = Option.some s.time := rfl
@[simp] theorem S_lines_of.w5 (s : S_lines_of) (u : Sl) : List.set s.e 5 u = S_lines_of.e { s with time := u } := rfl
@[simp] theorem S_lines_of.g6 (s : S_lines_of) : s.e[6]? = Option.some s.inner := rfl
@[simp] theorem S_lines_of.w6 (s : S_lines_of) (u : Sl) : List.set s.e 6 u = S_lines_of.e { s with inner := u } := rfl
theorem S_lines_of.st (d0 d1 : D) : startE 7 [d0, d1] = S_lines_of.e { some_ := .im d0, above := .im d1, found := .un, name := .un, many := .un, time := .un, inner := .un } := rfl
def b_lines_of (self : List D → R D) : VS.Env → Out :=
 (seqO (ownO 2 (geA lstD gaNil))
 (seqO (forO (.tp (.cons (.nm 3) (.cons (.nm 4) (.cons (.nm 5) (.cons (.nm 6) .nil))))) (gSeq itT (geV 0))
  (L_lines_of_1 self))
 (frzO 2 (fun ρ => ofR ((geV 2) ρ) .rt))))
def F_lines_of : Nat → List D → R D
  | 0 => noF
  | j + 1 => runDef 7 (b_lines_of (F_lines_of j))
def C_need_path_1 : VS.Env → R D :=
 (compE (.nm 1) [1] (gSeq itT (geV 0)) (fun _ => .ok true) (geA F_is_name (gaCons (geV 1) gaNil)))
structure S_need_path where
  (path name : Sl)
def S_need_path.e (s : S_need_path) : VS.Env := [s.path, s.name]
@[simp] theorem S_need_path.g0 (s : S_need_path) : s.e[0]? = Option.some s.path := rfl
@[simp] theorem S_need_path.w0 (s : S_need_path) (u : Sl) : List.set s.e 0 u = S_need_path.e { s with path := u } := rfl
@[simp] theorem S_need_path.g1 (s : S_need_path) : s.e[1]? = Option.some s.name := rfl
@[simp] theorem S_need_path.w1 (s : S_need_path) (u : Sl) : List.set s.e 1 u = S_need_path.e { s with name := u } := rfl
theorem S_need_path.st (d0 : D) : startE 2 [d0] = S_need_path.e { path := .im d0, name := .un } := rfl
def b_need_path : VS.Env → Out :=
 (ifO (gOr (gNot (geB (ge1 (isiD .tuple) (geV 0)))) (gOr (geB (geOp cmEq (geV 0) (geA tupD gaNil))) (gNot (geB (geA allD (gaCons C_need_path_1 gaNil))))))
  (fun _ => .ex "BadName")
  .nx)
def F_need_path : List D → R D := runDef 2 b_need_path
def L_part_at_1 (self : List D → R D) : VS.Env → Out :=
 (ifO (geB (geOp cmEq (geOp ixT (geV 2) (gI 0)) (geOp ixT (geV 1) (gI 0))))
   (fun ρ => ofR ((geIf (geB (geOp cmEq (geA lenD (gaCons (geV 1) gaNil)) (gI 1))) (geV 2) (geA self (gaCons (geOp ixT (geV 2) (gI 3)) (gaCons (geSl slT (geV 1) (goSome (gI 1)) goNone) gaNil)))) ρ) .rt)
   .nx)
structure S_part_at where
  (some_ path one : Sl)
def S_part_at.e (s : S_part_at) : VS.Env := [s.some_, s.path, s.one]
@[simp] theorem S_part_at.g0 (s : S_part_at) : s.e[0]? = Option.some s.some_ := rfl
@[simp] theorem S_part_at.w0 (s : S_part_at) (u : Sl) : List.set s.e 0 u = S_part_at.e { s with some_ := u } := rfl
@[simp] theorem S_part_at.g1 (s : S_part_at) : s.e[1]? = Option.some s.path := rfl
@[simp] theorem S_part_at.w1 (s : S_part_at) (u : Sl) : List.set s.e 1 u = S_part_at.e { s with path := u } := rfl
@[simp] theorem S_part_at.g2 (s : S_part_at) : s.e[2]? = Option.some s.one := rfl
@[simp] theorem S_part_at.w2 (s : S_part_at) (u : Sl) : List.set s.e 2 u = S_part_at.e { s with one := u } := rfl
theorem S_part_at.st (d0 d1 : D) : startE 3 [d0, d1] = S_part_at.e { some_ := .im d0, path := .im d1, one := .un } := rfl
def b_part_at (self : List D → R D) : VS.Env → Out :=
 (seqO (forO (.nm 2) (gSeq itT (geV 0))
  (L_part_at_1 self))
 (fun ρ => ofR (gN ρ) .rt))
def F_part_at : Nat → List D → R D
  | 0 => noF
  | j + 1 => runDef 3 (b_part_at (F_part_at j))
def C_time_of_1 (self : List D → R D) : VS.Env → R D :=
 (compE (.nm 1) [1] (gSeq itT (geOp ixT (geV 0) (gI 3))) (fun _ => .ok true) (geA self (gaCons (geV 1) gaNil)))
structure S_time_of where
  (one inner : Sl)
def S_time_of.e (s : S_time_of) : VS.Env := [s.one, s.inner]
@[simp] theorem S_time_of.g0 (s : S_time_of) : s.e[0]? = Option.some s.one := rfl
@[simp] theorem S_time_of.w0 (s : S_time_of) (u : Sl) : List.set s.e 0 u = S_time_of.e { s with one := u } := rfl
@[simp] theorem S_time_of.g1 (s : S_time_of) : s.e[1]? = Option.some s.inner := rfl
@[simp] theorem S_time_of.w1 (s : S_time_of) (u : Sl) : List.set s.e 1 u = S_time_of.e { s with inner := u } := rfl
theorem S_time_of.st (d0 : D) : startE 2 [d0] = S_time_of.e { one := .im d0, inner := .un } := rfl
def b_time_of (self : List D → R D) : VS.Env → Out :=
 (fun ρ => ofR ((geOp addI (geOp ixT (geV 0) (gI 2)) (geA sumD (gaCons (C_time_of_1 self) gaNil))) ρ) .rt)
def F_time_of : Nat → List D → R D
  | 0 => noF
  | j + 1 => runDef 2 (b_time_of (F_time_of j))
structure S_times_at where
  (some_ path one : Sl)
def S_times_at.e (s : S_times_at) : VS.Env := [s.some_, s.path, s.one]
@[simp] theorem S_times_at.g0 (s : S_times_at) : s.e[0]? = Option.some s.some_ := rfl
@[simp] theorem S_times_at.w0 (s : S_times_at) (u : Sl) : List.set s.e 0 u = S_times_at.e { s with some_ := u } := rfl
@[simp] theorem S_times_at.g1 (s : S_times_at) : s.e[1]? = Option.some s.path := rfl
@[simp] theorem S_times_at.w1 (s : S_times_at) (u : Sl) : List.set s.e 1 u = S_times_at.e { s with path := u } := rfl
@[simp] theorem S_times_at.g2 (s : S_times_at) : s.e[2]? = Option.some s.one := rfl
@[simp] theorem S_times_at.w2 (s : S_times_at) (u : Sl) : List.set s.e 2 u = S_times_at.e { s with one := u } := rfl
theorem S_times_at.st (d0 d1 : D) : startE 3 [d0, d1] = S_times_at.e { some_ := .im d0, path := .im d1, one := .un } := rfl
def b_times_at : VS.Env → Out :=
 (seqO (fun ρ => ofR ((geA F_need_fold (gaCons (geV 0) gaNil)) ρ) fun _ => .nx ρ)
 (seqO (fun ρ => ofR ((geA F_need_path (gaCons (geV 1) gaNil)) ρ) fun _ => .nx ρ)
 (seqO (fun ρ => ofR ((geA (F_part_at 8) (gaCons (geV 0) (gaCons (geV 1) gaNil))) ρ) fun d => .nx (ρ.set 2 (.im d)))
 (fun ρ => ofR ((geIf (geB (ge1 isN (geV 2))) (geA tupD (gaCons (gI 0) (gaCons (gI 0) (gaCons (gI 0) gaNil)))) (geA tupD (gaCons (geOp ixT (geV 2) (gI 1)) (gaCons (geOp ixT (geV 2) (gI 2)) (gaCons (geA (F_time_of 8) (gaCons (geV 2) gaNil)) gaNil))))) ρ) .rt))))
def F_times_at : List D → R D := runDef 3 b_times_at
def C_apart_1 : VS.Env → R D :=
 (compE (.tp (.cons (.nm 5) (.cons (.nm 7) (.cons (.nm 8) .nil)))) [5, 7, 8] (gSeq itL (geA (F_lines_of 8) (gaCons (geV 0) (gaCons (geA tupD gaNil) gaNil)))) (fun _ => .ok true) (geA tupD (gaCons (geV 5) (gaCons (geV 8) gaNil))))
def C_apart_2 : VS.Env → R D :=
 (compE (.tp (.cons (.nm 5) (.cons (.nm 7) (.cons (.nm 8) .nil)))) [5, 7, 8] (gSeq itL (geA (F_lines_of 8) (gaCons (geV 1) (gaCons (geA tupD gaNil) gaNil)))) (fun _ => .ok true) (geA tupD (gaCons (geV 5) (gaCons (geV 8) gaNil))))
def C_apart_3 : VS.Env → R D :=
 (compDE (.nm 5) [5] 3 (geB (geOp (inD true) (geV 5) (geV 2))) (geV 5))
def L_apart_1 : VS.Env → Out :=
 (seqO (fun ρ => ofR ((geOp subI (geGet (geV 3) (geV 5) (gI 0)) (geGet (geV 2) (geV 5) (gI 0))) ρ) fun d => .nx (ρ.set 6 (.im d)))
  (ifO (geB (geOp cmNe (geV 6) (gI 0)))
   (appO 4 (geA tupD (gaCons (geV 5) (gaCons (geV 6) gaNil))))
   .nx))
structure S_apart where
  (one other first second found path less many time : Sl)
def S_apart.e (s : S_apart) : VS.Env := [s.one, s.other, s.first, s.second, s.found, s.path, s.less, s.many, s.time]
@[simp] theorem S_apart.g0 (s : S_apart) : s.e[0]? = Option.some s.one := rfl
@[simp] theorem S_apart.w0 (s : S_apart) (u : Sl) : List.set s.e 0 u = S_apart.e { s with one := u } := rfl
@[simp] theorem S_apart.g1 (s : S_apart) : s.e[1]? = Option.some s.other := rfl
@[simp] theorem S_apart.w1 (s : S_apart) (u : Sl) : List.set s.e 1 u = S_apart.e { s with other := u } := rfl
@[simp] theorem S_apart.g2 (s : S_apart) : s.e[2]? = Option.some s.first := rfl
@[simp] theorem S_apart.w2 (s : S_apart) (u : Sl) : List.set s.e 2 u = S_apart.e { s with first := u } := rfl
@[simp] theorem S_apart.g3 (s : S_apart) : s.e[3]? = Option.some s.second := rfl
@[simp] theorem S_apart.w3 (s : S_apart) (u : Sl) : List.set s.e 3 u = S_apart.e { s with second := u } := rfl
@[simp] theorem S_apart.g4 (s : S_apart) : s.e[4]? = Option.some s.found := rfl
@[simp] theorem S_apart.w4 (s : S_apart) (u : Sl) : List.set s.e 4 u = S_apart.e { s with found := u } := rfl
@[simp] theorem S_apart.g5 (s : S_apart) : s.e[5]? = Option.some s.path := rfl
@[simp] theorem S_apart.w5 (s : S_apart) (u : Sl) : List.set s.e 5 u = S_apart.e { s with path := u } := rfl
@[simp] theorem S_apart.g6 (s : S_apart) : s.e[6]? = Option.some s.less := rfl
@[simp] theorem S_apart.w6 (s : S_apart) (u : Sl) : List.set s.e 6 u = S_apart.e { s with less := u } := rfl
@[simp] theorem S_apart.g7 (s : S_apart) : s.e[7]? = Option.some s.many := rfl
@[simp] theorem S_apart.w7 (s : S_apart) (u : Sl) : List.set s.e 7 u = S_apart.e { s with many := u } := rfl
@[simp] theorem S_apart.g8 (s : S_apart) : s.e[8]? = Option.some s.time := rfl
@[simp] theorem S_apart.w8 (s : S_apart) (u : Sl) : List.set s.e 8 u = S_apart.e { s with time := u } := rfl
theorem S_apart.st (d0 d1 : D) : startE 9 [d0, d1] = S_apart.e { one := .im d0, other := .im d1, first := .un, second := .un, found := .un, path := .un, less := .un, many := .un, time := .un } := rfl
def b_apart : VS.Env → Out :=
 (seqO (fun ρ => ofR ((geA F_need_fold (gaCons (geV 0) gaNil)) ρ) fun _ => .nx ρ)
 (seqO (fun ρ => ofR ((geA F_need_fold (gaCons (geV 1) gaNil)) ρ) fun _ => .nx ρ)
 (seqO (fun ρ => ofR ((geA dictQ (gaCons C_apart_1 gaNil)) ρ) fun d => .nx (ρ.set 2 (.im d)))
 (seqO (fun ρ => ofR ((geA dictQ (gaCons C_apart_2 gaNil)) ρ) fun d => .nx (ρ.set 3 (.im d)))
 (seqO (ownO 4 (geA lstD gaNil))
 (seqO (forO (.nm 5) (gSeq itL (geA sortD (gaCons (geOp catL (geA listDctT (gaCons (geV 2) gaNil)) C_apart_3) gaNil)))
  L_apart_1)
 (frzO 4 (fun ρ => ofR ((geV 4) ρ) .rt))))))))
def F_apart : List D → R D := runDef 9 b_apart
def C_pruned_of_1 (self : List D → R D) : VS.Env → R D :=
 (compE (.nm 9) [9] (gSeq itT (geV 6)) (geB (geOp (cmI fun i j => decide (j ≤ i)) (geA (F_time_of 8) (gaCons (geV 9) gaNil)) (geV 1))) (geV 9))
def C_pruned_of_2 (self : List D → R D) : VS.Env → R D :=
 (compE (.nm 9) [9] (gSeq itT (geV 6)) (geB (geOp (cmI fun i j => decide (i < j)) (geA (F_time_of 8) (gaCons (geV 9) gaNil)) (geV 1))) (geA (F_time_of 8) (gaCons (geV 9) gaNil)))
def L_pruned_of_1 (self : List D → R D) : VS.Env → Out :=
 (seqO (ownO 7 (C_pruned_of_1 self))
  (seqO (fun ρ => ofR ((geA sumD (gaCons (C_pruned_of_2 self) gaNil)) ρ) fun d => .nx (ρ.set 8 (.im d)))
  (frzO 7 (appO 2 (geA tupD (gaCons (geV 3) (gaCons (geV 4) (gaCons (geOp addI (geV 5) (geV 8)) (gaCons (geA self (gaCons (geV 7) (gaCons (geV 1) gaNil))) gaNil)))))))))
structure S_pruned_of where
  (some_ least found name many time inner kept gone one : Sl)
def S_pruned_of.e (s : S_pruned_of) : VS.Env := [s.some_, s.least, s.found, s.name, s.many, s.time, s.inner, s.kept, s.gone, s.one]
@[simp] theorem S_pruned_of.g0 (s : S_pruned_of) : s.e[0]? = Option.some s.some_ := rfl
@[simp] theorem S_pruned_of.w0 (s : S_pruned_of) (u : Sl) : List.set s.e 0 u = S_pruned_of.e { s with some_ := u } := rfl
@[simp] theorem S_pruned_of.g1 (s : S_pruned_of) : s.e[1]? = Option.some s.least := rfl
@[simp] theorem S_pruned_of.w1 (s : S_pruned_of) (u : Sl) : List.set s.e 1 u = S_pruned_of.e { s with least := u } := rfl
@[simp] theorem S_pruned_of.g2 (s : S_pruned_of) : s.e[2]? = Option.some s.found := rfl
@[simp] theorem S_pruned_of.w2 (s : S_pruned_of) (u : Sl) : List.set s.e 2 u = S_pruned_of.e { s with found := u } := rfl
@[simp] theorem S_pruned_of.g3 (s : S_pruned_of) : s.e[3]? = Option.some s.name := rfl
@[simp] theorem S_pruned_of.w3 (s : S_pruned_of) (u : Sl) : List.set s.e 3 u = S_pruned_of.e { s with name := u } := rfl
@[simp] theorem S_pruned_of.g4 (s : S_pruned_of) : s.e[4]? = Option.some s.many := rfl
@[simp] theorem S_pruned_of.w4 (s : S_pruned_of) (u : Sl) : List.set s.e 4 u = S_pruned_of.e { s with many := u } := rfl
@[simp] theorem S_pruned_of.g5 (s : S_pruned_of) : s.e[5]? = Option.some s.time := rfl
@[simp] theorem S_pruned_of.w5 (s : S_pruned_of) (u : Sl) : List.set s.e 5 u = S_pruned_of.e { s with time := u } := rfl
@[simp] theorem S_pruned_of.g6 (s : S_pruned_of) : s.e[6]? = Option.some s.inner := rfl
@[simp] theorem S_pruned_of.w6 (s : S_pruned_of) (u : Sl) : List.set s.e 6 u = S_pruned_of.e { s with inner := u } := rfl
@[simp] theorem S_pruned_of.g7 (s : S_pruned_of) : s.e[7]? = Option.some s.kept := rfl
@[simp] theorem S_pruned_of.w7 (s : S_pruned_of) (u : Sl) : List.set s.e 7 u = S_pruned_of.e { s with kept := u } := rfl
@[simp] theorem S_pruned_of.g8 (s : S_pruned_of) : s.e[8]? = Option.some s.gone := rfl
@[simp] theorem S_pruned_of.w8 (s : S_pruned_of) (u : Sl) : List.set s.e 8 u = S_pruned_of.e { s with gone := u } := rfl
@[simp] theorem S_pruned_of.g9 (s : S_pruned_of) : s.e[9]? = Option.some s.one := rfl
@[simp] theorem S_pruned_of.w9 (s : S_pruned_of) (u : Sl) : List.set s.e 9 u = S_pruned_of.e { s with one := u } := rfl
theorem S_pruned_of.st (d0 d1 : D) : startE 10 [d0, d1] = S_pruned_of.e { some_ := .im d0, least := .im d1, found := .un, name := .un, many := .un, time := .un, inner := .un, kept := .un, gone := .un, one := .un } := rfl
def b_pruned_of (self : List D → R D) : VS.Env → Out :=
 (seqO (ownO 2 (geA lstD gaNil))
 (seqO (forO (.tp (.cons (.nm 3) (.cons (.nm 4) (.cons (.nm 5) (.cons (.nm 6) .nil))))) (gSeq itA (geV 0))
  (L_pruned_of_1 self))
 (fun ρ => ofR ((geA tupOf (gaCons (geT 2) gaNil)) ρ) .rt)))
def F_pruned_of : Nat → List D → R D
  | 0 => noF
  | j + 1 => runDef 10 (b_pruned_of (F_pruned_of j))
structure S_pruned where
  (some_ least : Sl)
def S_pruned.e (s : S_pruned) : VS.Env := [s.some_, s.least]
@[simp] theorem S_pruned.g0 (s : S_pruned) : s.e[0]? = Option.some s.some_ := rfl
@[simp] theorem S_pruned.w0 (s : S_pruned) (u : Sl) : List.set s.e 0 u = S_pruned.e { s with some_ := u } := rfl
@[simp] theorem S_pruned.g1 (s : S_pruned) : s.e[1]? = Option.some s.least := rfl
@[simp] theorem S_pruned.w1 (s : S_pruned) (u : Sl) : List.set s.e 1 u = S_pruned.e { s with least := u } := rfl
theorem S_pruned.st (d0 d1 : D) : startE 2 [d0, d1] = S_pruned.e { some_ := .im d0, least := .im d1 } := rfl
def b_pruned : VS.Env → Out :=
 (seqO (fun ρ => ofR ((geA F_need_fold (gaCons (geV 0) gaNil)) ρ) fun _ => .nx ρ)
 (seqO (ifO (gNot (geB (geA F_is_count (gaCons (geV 1) (gaCons (gI 0) (gaCons (gI 1000000) gaNil))))))
  (fun _ => .ex "BadFold")
  .nx)
 (fun ρ => ofR ((geA (F_pruned_of 8) (gaCons (geV 0) (gaCons (geV 1) gaNil))) ρ) .rt)))
def F_pruned : List D → R D := runDef 2 b_pruned
def L_with_line_1 : VS.Env → Out :=
 (fun ρ => ofR ((geA tupD (gaCons (geA tupD (gaCons (geV 5) (gaCons (geIf (geB (geOp cmEq (geV 4) (geA tupD gaNil))) (geV 2) (gI 0)) (gaCons (geIf (geB (geOp cmEq (geV 4) (geA tupD gaNil))) (geV 3) (gI 0)) (gaCons (geV 4) gaNil))))) gaNil)) ρ) fun d => .nx (ρ.set 4 (.im d)))
structure S_with_line where
  (some_ path many time part name : Sl)
def S_with_line.e (s : S_with_line) : VS.Env := [s.some_, s.path, s.many, s.time, s.part, s.name]
@[simp] theorem S_with_line.g0 (s : S_with_line) : s.e[0]? = Option.some s.some_ := rfl
@[simp] theorem S_with_line.w0 (s : S_with_line) (u : Sl) : List.set s.e 0 u = S_with_line.e { s with some_ := u } := rfl
@[simp] theorem S_with_line.g1 (s : S_with_line) : s.e[1]? = Option.some s.path := rfl
@[simp] theorem S_with_line.w1 (s : S_with_line) (u : Sl) : List.set s.e 1 u = S_with_line.e { s with path := u } := rfl
@[simp] theorem S_with_line.g2 (s : S_with_line) : s.e[2]? = Option.some s.many := rfl
@[simp] theorem S_with_line.w2 (s : S_with_line) (u : Sl) : List.set s.e 2 u = S_with_line.e { s with many := u } := rfl
@[simp] theorem S_with_line.g3 (s : S_with_line) : s.e[3]? = Option.some s.time := rfl
@[simp] theorem S_with_line.w3 (s : S_with_line) (u : Sl) : List.set s.e 3 u = S_with_line.e { s with time := u } := rfl
@[simp] theorem S_with_line.g4 (s : S_with_line) : s.e[4]? = Option.some s.part := rfl
@[simp] theorem S_with_line.w4 (s : S_with_line) (u : Sl) : List.set s.e 4 u = S_with_line.e { s with part := u } := rfl
@[simp] theorem S_with_line.g5 (s : S_with_line) : s.e[5]? = Option.some s.name := rfl
@[simp] theorem S_with_line.w5 (s : S_with_line) (u : Sl) : List.set s.e 5 u = S_with_line.e { s with name := u } := rfl
theorem S_with_line.st (d0 d1 d2 d3 : D) : startE 6 [d0, d1, d2, d3] = S_with_line.e { some_ := .im d0, path := .im d1, many := .im d2, time := .im d3, part := .un, name := .un } := rfl
def b_with_line : VS.Env → Out :=
 (seqO (fun ρ => ofR ((geA tupD gaNil) ρ) fun d => .nx (ρ.set 4 (.im d)))
 (seqO (forO (.nm 5) (gSeq itT (ge1 revT (geV 1)))
  L_with_line_1)
 (fun ρ => ofR ((geA (F_joined_of 8) (gaCons (geV 0) (gaCons (geV 4) gaNil))) ρ) .rt)))
def F_with_line : List D → R D := runDef 6 b_with_line
def L_turned_1 : VS.Env → Out :=
 (fun ρ => ofR ((geA F_with_line (gaCons (geV 1) (gaCons (ge1 revT (geV 2)) (gaCons (geV 3) (gaCons (geV 4) gaNil))))) ρ) fun d => .nx (ρ.set 1 (.im d)))
structure S_turned where
  (some_ found path many time : Sl)
def S_turned.e (s : S_turned) : VS.Env := [s.some_, s.found, s.path, s.many, s.time]
@[simp] theorem S_turned.g0 (s : S_turned) : s.e[0]? = Option.some s.some_ := rfl
@[simp] theorem S_turned.w0 (s : S_turned) (u : Sl) : List.set s.e 0 u = S_turned.e { s with some_ := u } := rfl
@[simp] theorem S_turned.g1 (s : S_turned) : s.e[1]? = Option.some s.found := rfl
@[simp] theorem S_turned.w1 (s : S_turned) (u : Sl) : List.set s.e 1 u = S_turned.e { s with found := u } := rfl
@[simp] theorem S_turned.g2 (s : S_turned) : s.e[2]? = Option.some s.path := rfl
@[simp] theorem S_turned.w2 (s : S_turned) (u : Sl) : List.set s.e 2 u = S_turned.e { s with path := u } := rfl
@[simp] theorem S_turned.g3 (s : S_turned) : s.e[3]? = Option.some s.many := rfl
@[simp] theorem S_turned.w3 (s : S_turned) (u : Sl) : List.set s.e 3 u = S_turned.e { s with many := u } := rfl
@[simp] theorem S_turned.g4 (s : S_turned) : s.e[4]? = Option.some s.time := rfl
@[simp] theorem S_turned.w4 (s : S_turned) (u : Sl) : List.set s.e 4 u = S_turned.e { s with time := u } := rfl
theorem S_turned.st (d0 : D) : startE 5 [d0] = S_turned.e { some_ := .im d0, found := .un, path := .un, many := .un, time := .un } := rfl
def b_turned : VS.Env → Out :=
 (seqO (fun ρ => ofR ((geA F_need_fold (gaCons (geV 0) gaNil)) ρ) fun _ => .nx ρ)
 (seqO (fun ρ => ofR ((geA tupD gaNil) ρ) fun d => .nx (ρ.set 1 (.im d)))
 (seqO (forO (.tp (.cons (.nm 2) (.cons (.nm 3) (.cons (.nm 4) .nil)))) (gSeq itL (geA (F_lines_of 8) (gaCons (geV 0) (gaCons (geA tupD gaNil) gaNil))))
  L_turned_1)
 (fun ρ => ofR ((geV 1) ρ) .rt))))
def F_turned : List D → R D := runDef 5 b_turned
structure S_paths where
  (some_ : Sl)
def S_paths.e (s : S_paths) : VS.Env := [s.some_]
@[simp] theorem S_paths.g0 (s : S_paths) : s.e[0]? = Option.some s.some_ := rfl
@[simp] theorem S_paths.w0 (s : S_paths) (u : Sl) : List.set s.e 0 u = S_paths.e { s with some_ := u } := rfl
theorem S_paths.st (d0 : D) : startE 1 [d0] = S_paths.e { some_ := .im d0 } := rfl
def b_paths : VS.Env → Out :=
 (seqO (fun ρ => ofR ((geA F_need_fold (gaCons (geV 0) gaNil)) ρ) fun _ => .nx ρ)
 (fun ρ => ofR ((geA (F_lines_of 8) (gaCons (geV 0) (gaCons (geA tupD gaNil) gaNil))) ρ) .rt))
def F_paths : List D → R D := runDef 1 b_paths
end
end VP

set_option Elab.async false
set_option linter.all false
set_option maxRecDepth 100000
namespace VP
open PySem PySem.Spec PyProof.Rows L2 LamX VS
noncomputable section
def C_folded_1 (self : List D → R D) : VS.Env → R D :=
 (compE (.nm 6) [6] (gSeq itL (geV 0)) (fun _ => .ok true) (geOp ixT (geV 6) (gI 0)))
def C_folded_2 (self : List D → R D) : VS.Env → R D :=
 (compE (.nm 6) [6] (gSeq itL (geV 0)) (geB (geOp cmEq (geOp ixT (geV 6) (gI 0)) (geV 3))) (geV 6))
def L_folded_1 (self : List D → R D) : VS.Env → Out :=
 (extO 5 (geOp ixT (geV 6) (gI 3)))
def C_folded_3 (self : List D → R D) : VS.Env → R D :=
 (compE (.nm 6) [6] (gSeq itL (geV 4)) (fun _ => .ok true) (geA F_own (gaCons (geV 6) gaNil)))
def L_folded_2 (self : List D → R D) : VS.Env → Out :=
 (seqO (ownO 4 (C_folded_2 self))
  (seqO (ownO 5 (geA lstD gaNil))
  (seqO (frzO 4 (forO (.nm 6) (gSeq itL (geV 4))
   (L_folded_1 self)))
  (frzO 5 (appO 2 (geA tupD (gaCons (geV 3) (gaCons (geA lenD (gaCons (geV 4) gaNil)) (gaCons (geA sumD (gaCons (C_folded_3 self) gaNil)) (gaCons (geA self (gaCons (geV 5) gaNil)) gaNil))))))))))
structure S_folded where
  (calls names found name some_ inner one : Sl)
def S_folded.e (s : S_folded) : VS.Env := [s.calls, s.names, s.found, s.name, s.some_, s.inner, s.one]
@[simp] theorem S_folded.g0 (s : S_folded) : s.e[0]? = Option.some s.calls := rfl
@[simp] theorem S_folded.w0 (s : S_folded) (u : Sl) : List.set s.e 0 u = S_folded.e { s with calls := u } := rfl
@[simp] theorem S_folded.g1 (s : S_folded) : s.e[1]? = Option.some s.names := rfl
@[simp] theorem S_folded.w1 (s : S_folded) (u : Sl) : List.set s.e 1 u = S_folded.e { s with names := u } := rfl
@[simp] theorem S_folded.g2 (s : S_folded) : s.e[2]? = Option.some s.found := rfl
@[simp] theorem S_folded.w2 (s : S_folded) (u : Sl) : List.set s.e 2 u = S_folded.e { s with found := u } := rfl
@[simp] theorem S_folded.g3 (s : S_folded) : s.e[3]? = Option.some s.name := rfl
@[simp] theorem S_folded.w3 (s : S_folded) (u : Sl) : List.set s.e 3 u = S_folded.e { s with name := u } := rfl
@[simp] theorem S_folded.g4 (s : S_folded) : s.e[4]? = Option.some s.some_ := rfl
@[simp] theorem S_folded.w4 (s : S_folded) (u : Sl) : List.set s.e 4 u = S_folded.e { s with some_ := u } := rfl
@[simp] theorem S_folded.g5 (s : S_folded) : s.e[5]? = Option.some s.inner := rfl
@[simp] theorem S_folded.w5 (s : S_folded) (u : Sl) : List.set s.e 5 u = S_folded.e { s with inner := u } := rfl
@[simp] theorem S_folded.g6 (s : S_folded) : s.e[6]? = Option.some s.one := rfl
@[simp] theorem S_folded.w6 (s : S_folded) (u : Sl) : List.set s.e 6 u = S_folded.e { s with one := u } := rfl
theorem S_folded.st (d0 : D) : startE 7 [d0] = S_folded.e { calls := .im d0, names := .un, found := .un, name := .un, some_ := .un, inner := .un, one := .un } := rfl
def b_folded (self : List D → R D) : VS.Env → Out :=
 (seqO (fun ρ => ofR ((ge1 sortSet (C_folded_1 self)) ρ) fun d => .nx (ρ.set 1 (.im d)))
 (seqO (ownO 2 (geA lstD gaNil))
 (seqO (forO (.nm 3) (gSeq itL (geV 1))
  (L_folded_2 self))
 (fun ρ => ofR ((geA tupOf (gaCons (geT 2) gaNil)) ρ) .rt))))
def F_folded : Nat → List D → R D
  | 0 => noF
  | j + 1 => runDef 7 (b_folded (F_folded j))
def L_fold_1 : VS.Env → Out :=
 (extO 1 (geOp ixD (geV 0) (geV 2)))
structure S_fold where
  (trees_here some_ hand : Sl)
def S_fold.e (s : S_fold) : VS.Env := [s.trees_here, s.some_, s.hand]
@[simp] theorem S_fold.g0 (s : S_fold) : s.e[0]? = Option.some s.trees_here := rfl
@[simp] theorem S_fold.w0 (s : S_fold) (u : Sl) : List.set s.e 0 u = S_fold.e { s with trees_here := u } := rfl
@[simp] theorem S_fold.g1 (s : S_fold) : s.e[1]? = Option.some s.some_ := rfl
@[simp] theorem S_fold.w1 (s : S_fold) (u : Sl) : List.set s.e 1 u = S_fold.e { s with some_ := u } := rfl
@[simp] theorem S_fold.g2 (s : S_fold) : s.e[2]? = Option.some s.hand := rfl
@[simp] theorem S_fold.w2 (s : S_fold) (u : Sl) : List.set s.e 2 u = S_fold.e { s with hand := u } := rfl
theorem S_fold.st (d0 : D) : startE 3 [d0] = S_fold.e { trees_here := .im d0, some_ := .un, hand := .un } := rfl
def b_fold : VS.Env → Out :=
 (seqO (fun ρ => ofR ((geA F_need_trees (gaCons (geV 0) gaNil)) ρ) fun _ => .nx ρ)
 (seqO (ownO 1 (geA lstD gaNil))
 (seqO (forO (.nm 2) (gSeq itL (geA sortDct (gaCons (geV 0) gaNil)))
  L_fold_1)
 (frzO 1 (fun ρ => ofR ((geA (F_folded 8) (gaCons (geV 1) gaNil)) ρ) .rt)))))
def F_fold : List D → R D := runDef 3 b_fold
def C__law_of_1 (self : List D → R D) : VS.Env → R D :=
 (compDE (.nm 7) [7] 0 (gAnd (geB (geOp cmEq (geSl slT (geV 7) goNone (goSome (geA lenD (gaCons (geV 1) gaNil)))) (geV 1))) (geB (geOp (cmI fun i j => decide (j < i)) (geA lenD (gaCons (geV 7) gaNil)) (geA lenD (gaCons (geV 1) gaNil))))) (geOp ixT (geV 7) (geA lenD (gaCons (geV 1) gaNil))))
def L__law_of_1 (self : List D → R D) : VS.Env → Out :=
 (seqO (tgO (.tp (.cons (.nm 5) (.cons (.nm 6) .nil))) (geGet (geV 0) (geOp addT (geV 1) (geA tupD (gaCons (geV 4) gaNil))) (geA tupD (gaCons (gI 0) (gaCons (gI 0) gaNil)))))
  (appO 3 (geA tupD (gaCons (geV 4) (gaCons (geV 5) (gaCons (geV 6) (gaCons (geA self (gaCons (geV 0) (gaCons (geOp addT (geV 1) (geA tupD (gaCons (geV 4) gaNil))) gaNil))) gaNil)))))))
structure S__law_of where
  (parts above names found name_here many time path : Sl)
def S__law_of.e (s : S__law_of) : VS.Env := [s.parts, s.above, s.names, s.found, s.name_here, s.many, s.time, s.path]
@[simp] theorem S__law_of.g0 (s : S__law_of) : s.e[0]? = Option.some s.parts := rfl
@[simp] theorem S__law_of.w0 (s : S__law_of) (u : Sl) : List.set s.e 0 u = S__law_of.e { s with parts := u } := rfl
@[simp] theorem S__law_of.g1 (s : S__law_of) : s.e[1]? = Option.some s.above := rfl
@[simp] theorem S__law_of.w1 (s : S__law_of) (u : Sl) : List.set s.e 1 u = S__law_of.e { s with above := u } := rfl
@[simp] theorem S__law_of.g2 (s : S__law_of) : s.e[2]? = Option.some s.names := rfl
@[simp] theorem S__law_of.w2 (s : S__law_of) (u : Sl) : List.set s.e 2 u = S__law_of.e { s with names := u } := rfl
@[simp] theorem S__law_of.g3 (s : S__law_of) : s.e[3]? = Option.some s.found := rfl
@[simp] theorem S__law_of.w3 (s : S__law_of) (u : Sl) : List.set s.e 3 u = S__law_of.e { s with found := u } := rfl
@[simp] theorem S__law_of.g4 (s : S__law_of) : s.e[4]? = Option.some s.name_here := rfl
@[simp] theorem S__law_of.w4 (s : S__law_of) (u : Sl) : List.set s.e 4 u = S__law_of.e { s with name_here := u } := rfl
@[simp] theorem S__law_of.g5 (s : S__law_of) : s.e[5]? = Option.some s.many := rfl
@[simp] theorem S__law_of.w5 (s : S__law_of) (u : Sl) : List.set s.e 5 u = S__law_of.e { s with many := u } := rfl
@[simp] theorem S__law_of.g6 (s : S__law_of) : s.e[6]? = Option.some s.time := rfl
@[simp] theorem S__law_of.w6 (s : S__law_of) (u : Sl) : List.set s.e 6 u = S__law_of.e { s with time := u } := rfl
@[simp] theorem S__law_of.g7 (s : S__law_of) : s.e[7]? = Option.some s.path := rfl
@[simp] theorem S__law_of.w7 (s : S__law_of) (u : Sl) : List.set s.e 7 u = S__law_of.e { s with path := u } := rfl
theorem S__law_of.st (d0 d1 : D) : startE 8 [d0, d1] = S__law_of.e { parts := .im d0, above := .im d1, names := .un, found := .un, name_here := .un, many := .un, time := .un, path := .un } := rfl
def b__law_of (self : List D → R D) : VS.Env → Out :=
 (seqO (fun ρ => ofR ((ge1 sortSet (C__law_of_1 self)) ρ) fun d => .nx (ρ.set 2 (.im d)))
 (seqO (ownO 3 (geA lstD gaNil))
 (seqO (forO (.nm 4) (gSeq itL (geV 2))
  (L__law_of_1 self))
 (fun ρ => ofR ((geA tupOf (gaCons (geT 3) gaNil)) ρ) .rt))))
def F__law_of : Nat → List D → R D
  | 0 => noF
  | j + 1 => runDef 8 (b__law_of (F__law_of j))
def C__law_draft_1 : VS.Env → R D :=
 (compE (.nm 6) [6] (gSeqA rng1 (gaCons (geOp addI (gI 1) (geOp modI (geOp fdivI (geV 4) (gI 8)) (gI 4))) gaNil)) (fun _ => .ok true) (geA F__law_name (gaCons (geA F__law_drawn (gaCons (geV 4) (gaCons (geV 6) gaNil))) gaNil)))
def L__law_draft_1 : VS.Env → Out :=
 (seqO (fun ρ => ofR ((geA F__law_drawn (gaCons (geV 0) (gaCons (geV 2) gaNil))) ρ) fun d => .nx (ρ.set 4 (.im d)))
  (seqO (fun ρ => ofR ((geA tupOf (gaCons C__law_draft_1 gaNil)) ρ) fun d => .nx (ρ.set 3 (.im d)))
  (putO 1 (geA tupD (gaCons (geOp modI (geOp fdivI (geV 4) (gI 64)) (gI 4)) (gaCons (geOp modI (geOp fdivI (geV 4) (gI 512)) (gI 50)) gaNil))) (geV 3))))
def L__law_draft_2 : VS.Env → Out :=
 (putO 1 (geGet (geT 1) (geSl slT (geV 3) goNone (goSome (geV 5))) (geA tupD (gaCons (gI 0) (gaCons (gI 0) gaNil)))) (geSl slT (geV 3) goNone (goSome (geV 5))))
def L__law_draft_3 : VS.Env → Out :=
 (forO (.nm 5) (gSeqA rng2 (gaCons (gI 1) (gaCons (geA lenD (gaCons (geV 3) gaNil)) gaNil)))
   L__law_draft_2)
structure S__law_draft where
  (more found j path here size n : Sl)
def S__law_draft.e (s : S__law_draft) : VS.Env := [s.more, s.found, s.j, s.path, s.here, s.size, s.n]
@[simp] theorem S__law_draft.g0 (s : S__law_draft) : s.e[0]? = Option.some s.more := rfl
@[simp] theorem S__law_draft.w0 (s : S__law_draft) (u : Sl) : List.set s.e 0 u = S__law_draft.e { s with more := u } := rfl
@[simp] theorem S__law_draft.g1 (s : S__law_draft) : s.e[1]? = Option.some s.found := rfl
@[simp] theorem S__law_draft.w1 (s : S__law_draft) (u : Sl) : List.set s.e 1 u = S__law_draft.e { s with found := u } := rfl
@[simp] theorem S__law_draft.g2 (s : S__law_draft) : s.e[2]? = Option.some s.j := rfl
@[simp] theorem S__law_draft.w2 (s : S__law_draft) (u : Sl) : List.set s.e 2 u = S__law_draft.e { s with j := u } := rfl
@[simp] theorem S__law_draft.g3 (s : S__law_draft) : s.e[3]? = Option.some s.path := rfl
@[simp] theorem S__law_draft.w3 (s : S__law_draft) (u : Sl) : List.set s.e 3 u = S__law_draft.e { s with path := u } := rfl
@[simp] theorem S__law_draft.g4 (s : S__law_draft) : s.e[4]? = Option.some s.here := rfl
@[simp] theorem S__law_draft.w4 (s : S__law_draft) (u : Sl) : List.set s.e 4 u = S__law_draft.e { s with here := u } := rfl
@[simp] theorem S__law_draft.g5 (s : S__law_draft) : s.e[5]? = Option.some s.size := rfl
@[simp] theorem S__law_draft.w5 (s : S__law_draft) (u : Sl) : List.set s.e 5 u = S__law_draft.e { s with size := u } := rfl
@[simp] theorem S__law_draft.g6 (s : S__law_draft) : s.e[6]? = Option.some s.n := rfl
@[simp] theorem S__law_draft.w6 (s : S__law_draft) (u : Sl) : List.set s.e 6 u = S__law_draft.e { s with n := u } := rfl
theorem S__law_draft.st (d0 : D) : startE 7 [d0] = S__law_draft.e { more := .im d0, found := .un, j := .un, path := .un, here := .un, size := .un, n := .un } := rfl
def b__law_draft : VS.Env → Out :=
 (seqO (ownO 1 (fun _ => .ok (.dT [])))
 (seqO (forO (.nm 2) (gSeqA rng1 (gaCons (geOp modI (geV 0) (gI 9)) gaNil))
  L__law_draft_1)
 (seqO (forO (.nm 3) (gSeq itL (geA listDctT (gaCons (geT 1) gaNil)))
  L__law_draft_3)
 (frzO 1 (fun ρ => ofR ((geV 1) ρ) .rt)))))
def F__law_draft : List D → R D := runDef 7 b__law_draft
end
end VP

set_option Elab.async false
set_option linter.all false
set_option maxRecDepth 100000
set_option maxHeartbeats 1000000
/-! PQ1: the orders of names and of paths. -/
namespace VP
open PySem PySem.Spec PyProof.Rows L2 LamX VS
abbrev tks (d : D) : List (Int ⊕ List Nat) := PySem.W.keyToks (toPy d)
theorem leD_def (d e : D) : leD d e = !PyProof.Rows.lexLt itemOrd (tks e) (tks d) := rfl
theorem leD_trans (a b c : D) (h1 : leD a b = true) (h2 : leD b c = true) : leD a c = true :=
  (PySem.W.sortLe_total (listOrd itemOrd) false fun d => tks d).trans a b c h1 h2
theorem leD_total (a b : D) : (leD a b || leD b a) = true := by
  rw [Bool.or_eq_true]; exact (PySem.W.sortLe_total (listOrd itemOrd) false fun d => tks d).total a b
theorem leD_anti {a b : D} (h1 : leD a b = true) (h2 : leD b a = true) : tks a = tks b := by
  rw [leD_def, Bool.not_eq_true'] at h1 h2
  exact (listOrd itemOrd).total _ _ h2 h1
/-! names -/
def nlt (x y : Str) : Bool := decide (x.cps.toList < y.cps.toList)
theorem nlt_irrefl (x : Str) : nlt x x = false := decide_eq_false (List.lt_irrefl _)
theorem nlt_trans {x y z : Str} (h1 : nlt x y = true) (h2 : nlt y z = true) : nlt x z = true := by
  unfold nlt at *
  rw [decide_eq_true_eq] at *
  exact List.lt_trans h1 h2
theorem nlt_asymm {x y : Str} (h1 : nlt x y = true) : nlt y x = false := by
  cases h : nlt y x with
  | false => rfl
  | true => have := nlt_trans h1 h; rw [nlt_irrefl] at this; cases this
theorem str_ext {x y : Str} (h : x.cps.toList = y.cps.toList) : x = y := by
  cases x with | mk a => cases y with | mk b => cases a; cases b; simp at h; subst h; rfl
theorem nlt_total {x y : Str} (h1 : nlt x y = false) (h2 : nlt y x = false) : x = y := by
  unfold nlt at *
  rw [decide_eq_false_iff_not] at *
  exact str_ext (List.le_antisymm h2 h1)
theorem nlt_ne {x y : Str} (h : nlt x y = true) : x ≠ y := fun e => by subst e; rw [nlt_irrefl] at h; cases h
theorem strKind_nlt (x y : Str) : itemLt (.inr x.cps.toList) (.inr y.cps.toList) = nlt x y := rfl
theorem leD_str (x y : Str) : leD (.str x) (.str y) = !nlt y x := by
  show (!PyProof.Rows.lexLt itemOrd [.inr y.cps.toList] [.inr x.cps.toList]) = _
  rw [PyProof.Rows.lex_cons]
  have e : (itemOrd.blt (.inr y.cps.toList) (.inr x.cps.toList)) = nlt y x := rfl
  rw [e]
  simp [PyProof.Rows.lexLt]
/-! paths -/
abbrev Pth := List Str
def pthD (p : Pth) : D := .tup (p.map .str)
def plt : Pth → Pth → Bool
  | [], [] => false | [], _ :: _ => true | _ :: _, [] => false | x :: p, y :: q => nlt x y || (!nlt y x && plt p q)
def tksP : Pth → List (Int ⊕ List Nat)
  | [] => [.inl 0] | x :: p => .inl 1 :: .inr x.cps.toList :: tksP p
theorem tks_pth (p : Pth) : tks (pthD p) = tksP p := by
  show PySem.W.keyToksAll (toPys (p.map .str)) = _
  induction p with
  | nil => rfl
  | cons x p ih => rw [List.map_cons, toPys, PySem.W.keyToksAll, ih]; rfl
theorem lt1 : itemOrd.blt (.inl 1) (.inl 1) = false := rfl
theorem lt01 : itemOrd.blt (.inl 0) (.inl 1) = true := rfl
theorem lt10 : itemOrd.blt (.inl 1) (.inl 0) = false := rfl
theorem lt0 : itemOrd.blt (.inl 0) (.inl 0) = false := rfl
theorem ltN (x y : Str) : itemOrd.blt (.inr x.cps.toList) (.inr y.cps.toList) = nlt x y := rfl
theorem plt_tks : ∀ p q : Pth, PyProof.Rows.lexLt itemOrd (tksP p) (tksP q) = plt p q
  | [], [] => rfl
  | [], _ :: _ => rfl
  | _ :: _, [] => rfl
  | x :: p, y :: q => by
    rw [tksP, tksP, PyProof.Rows.lex_cons, PyProof.Rows.lex_cons, plt_tks p q, lt1, ltN, ltN]
    simp [plt]
def leP (p q : Pth) : Bool := leD (pthD p) (pthD q)
theorem leP_def (p q : Pth) : leP p q = !plt q p := by unfold leP; rw [leD_def, tks_pth, tks_pth, plt_tks]
theorem plt_irrefl : ∀ p : Pth, plt p p = false
  | [] => rfl
  | x :: p => by rw [plt, nlt_irrefl, plt_irrefl p]; rfl
theorem tksP_inj : ∀ p q : Pth, tksP p = tksP q → p = q
  | [], [], _ => rfl
  | [], _ :: _, h => by cases h
  | _ :: _, [], h => by cases h
  | x :: p, y :: q, h => by
    rw [tksP, tksP] at h
    injection h with _ h
    injection h with h1 h2
    injection h1 with h1
    rw [str_ext h1, tksP_inj p q h2]
theorem leP_trans (a b c : Pth) (h1 : leP a b = true) (h2 : leP b c = true) : leP a c = true := leD_trans _ _ _ h1 h2
theorem leP_total (a b : Pth) : (leP a b || leP b a) = true := leD_total _ _
theorem leP_anti {a b : Pth} (h1 : leP a b = true) (h2 : leP b a = true) : a = b := by
  have := leD_anti h1 h2
  rw [tks_pth, tks_pth] at this
  exact tksP_inj _ _ this
theorem plt_leP {p q : Pth} (h : plt p q = true) : leP p q = true := by
  rcases Bool.or_eq_true _ _ |>.mp (leP_total p q) with k | k
  · exact k
  · rw [leP_def, h] at k; cases k
theorem plt_of_le {p q : Pth} (h : leP p q = true) (n : p ≠ q) : plt p q = true := by
  cases e : plt p q with
  | true => rfl
  | false => exact absurd (leP_anti h (by rw [leP_def, e]; rfl)) n
theorem plt_ne {p q : Pth} (h : plt p q = true) : p ≠ q := fun e => by subst e; rw [plt_irrefl] at h; cases h
theorem plt_trans {a b c : Pth} (h1 : plt a b = true) (h2 : plt b c = true) : plt a c = true := by
  refine plt_of_le (leP_trans _ _ _ (plt_leP h1) (plt_leP h2)) fun e => ?_
  subst e
  have := plt_leP h2
  rw [leP_def, h1] at this; cases this
theorem plt_app (p : Pth) : ∀ q r : Pth, plt q r = true → plt (p ++ q) (p ++ r) = true := by
  induction p with
  | nil => exact fun q r h => h
  | cons x p ih => exact fun q r h => by rw [List.cons_append, List.cons_append, plt, nlt_irrefl, ih q r h]; rfl
theorem plt_more (p : Pth) {q : Pth} (h : q ≠ []) : plt p (p ++ q) = true := by
  have := plt_app p [] q (by cases q with | nil => exact absurd rfl h | cons => rfl)
  rwa [List.append_nil] at this
theorem plt_name {x y : Str} (h : nlt x y = true) (p q : Pth) : plt (x :: p) (y :: q) = true := by rw [plt, h]; rfl
/-! tuples that begin with a path -/
theorem plt_tksA (r s : List (Int ⊕ List Nat)) : ∀ p q : Pth, plt p q = true → PyProof.Rows.lexLt itemOrd (tksP p ++ r) (tksP q ++ s) = true
  | [], [], h => by cases h
  | [], _ :: _, _ => by rw [tksP, tksP, List.cons_append, List.cons_append, PyProof.Rows.lex_cons]; rfl
  | _ :: _, [], h => by cases h
  | x :: p, y :: q, h => by
    rw [plt, Bool.or_eq_true, Bool.and_eq_true] at h
    rw [tksP, tksP, List.cons_append, List.cons_append, List.cons_append, List.cons_append, PyProof.Rows.lex_cons, PyProof.Rows.lex_cons, lt1, ltN, ltN]
    rcases h with h | ⟨h1, h2⟩
    · rw [h]; rfl
    · rw [plt_tksA r s p q h2, h1]; simp
theorem lex_asymm {a b : List (Int ⊕ List Nat)} (h : PyProof.Rows.lexLt itemOrd a b = true) : PyProof.Rows.lexLt itemOrd b a = false := by
  cases e : PyProof.Rows.lexLt itemOrd b a with
  | false => rfl
  | true =>
    have := (listOrd itemOrd).trans _ _ _ h e
    rw [(listOrd itemOrd).irrefl] at this; cases this
theorem leD_first {p q : Pth} {ds es : List D} (h : plt p q = true) : leD (.tup (pthD p :: ds)) (.tup (pthD q :: es)) = true := by
  rw [leD_def, Bool.not_eq_true']
  show PyProof.Rows.lexLt itemOrd (.inl 1 :: (tks (pthD q) ++ PySem.W.keyToksAll (toPys es))) (.inl 1 :: (tks (pthD p) ++ PySem.W.keyToksAll (toPys ds))) = false
  refine lex_asymm ?_
  rw [PyProof.Rows.lex_cons, lt1, tks_pth, tks_pth, plt_tksA _ _ p q h]; rfl
/-! sorted lists without doubles -/
theorem sorted_ext {α : Type} {r : α → α → Bool} (anti : ∀ {a b : α}, r a b = true → r b a = true → a = b) {l k : List α} (hl : l.Pairwise fun a b => r a b = true) (hk : k.Pairwise fun a b => r a b = true) (nl : l.Nodup) (nk : k.Nodup) (h : ∀ x, x ∈ l ↔ x ∈ k) : l = k :=
  List.Perm.eq_of_pairwise (fun a b _ _ h q => anti h q) hl hk ((List.perm_ext_iff_of_nodup nl nk).mpr h)
def srtP (l : List Pth) : List Pth := l.mergeSort leP
theorem srtP_perm (l : List Pth) : (srtP l).Perm l := List.mergeSort_perm _ _
theorem srtP_pw (l : List Pth) : (srtP l).Pairwise fun a b => leP a b = true := List.pairwise_mergeSort (fun a b c => leP_trans a b c) (fun a b => leP_total a b) l
def leN (x y : Str) : Bool := leD (.str x) (.str y)
theorem leN_anti {a b : Str} (h1 : leN a b = true) (h2 : leN b a = true) : a = b := by
  unfold leN at h1 h2
  rw [leD_str, Bool.not_eq_true'] at h1 h2
  exact nlt_total h2 h1
def srtN (l : List Str) : List Str := l.mergeSort leN
theorem srtN_perm (l : List Str) : (srtN l).Perm l := List.mergeSort_perm _ _
theorem srtN_pw (l : List Str) : (srtN l).Pairwise fun a b => leN a b = true := List.pairwise_mergeSort (le := leN) (fun a b c => leD_trans (.str a) (.str b) (.str c)) (fun a b => leD_total (.str a) (.str b)) l
theorem lay_str {n : Str} (h : n ∈ NM) : shp (.str n) = true := shp_nm h
theorem okSort_strs {l : List Str} (h : ∀ n ∈ l, n ∈ NM) : okSort (l.map .str) = true := by
  unfold okSort
  simp only [Bool.and_eq_true, Bool.or_eq_true, List.all_eq_true, List.mem_map]
  refine ⟨⟨⟨?_, ?_⟩, ?_⟩, .inr ?_⟩
  · rintro d ⟨p, hp, rfl⟩; exact shp_nm (h p hp)
  · rintro d ⟨p, _, rfl⟩; exact decide_eq_true (by simp [toPy, PyData.depth])
  · rintro d ⟨p, _, rfl⟩ e ⟨q, _, rfl⟩; rfl
  · rintro d ⟨p, _, rfl⟩; rfl
theorem sortD_strs {l : List Str} (h : ∀ n ∈ l, n ∈ NM) : sortD [.lst (l.map .str)] = .ok (.lst ((srtN l).map .str)) := by
  unfold sortD
  dsimp only
  rw [if_pos (okSort_strs h)]
  unfold srtL srtN
  rw [List.map_mergeSort (r := leN) (s := leD) (f := D.str) fun a _ b _ => rfl]
def okP (p : Pth) : Prop := p ≠ [] ∧ ∀ n ∈ p, n ∈ NM
theorem lay_strs : ∀ {p : Pth}, (∀ n ∈ p, n ∈ NM) → PyData.canLayAll0 (toPys (p.map .str)) = true
  | [], _ => rfl
  | n :: p, h => by
    rw [List.map_cons, toPys, PyData.canLayAll0, lay_strs fun m hm => h m (List.mem_cons_of_mem _ hm), Bool.and_true]
    have := NM_ok n (h n List.mem_cons_self)
    simp [toPy, PyData.canLay0, this]
theorem dep_strs : ∀ p : Pth, PyData.depthAll (toPys (p.map .str)) ≤ 1
  | [] => Nat.zero_le _
  | n :: p => by
    rw [List.map_cons, toPys, PyData.depthAll]
    have := dep_strs p
    have e : (toPy (.str n)).depth ≤ 1 := by simp [toPy, PyData.depth]
    omega
theorem dep_pth (p : Pth) : (toPy (pthD p)).depth ≤ 2 := by
  have := dep_strs p
  show (PyData.tuple (toPys (p.map .str))).depth ≤ 2
  unfold PyData.depth
  omega
theorem okR_pth {p : Pth} (h : ∀ n ∈ p, n ∈ NM) : okR (pthD p) = true := by
  unfold okR
  rw [Bool.and_eq_true]
  refine ⟨?_, decide_eq_true (by have := dep_pth p; omega)⟩
  show (PyData.tuple (toPys (p.map .str))).canLay0 = true
  rw [PyData.canLay0]; exact lay_strs h
theorem shp_okR {d : D} (h : okR d = true) : shp d = true := by
  unfold okR at h; unfold shp
  rw [Bool.and_eq_true, decide_eq_true_eq] at *
  exact ⟨h.1, by omega⟩
theorem alike_strs : ∀ p q : Pth, PySem.W.alikeAll (toPys (p.map .str)) (toPys (q.map .str)) = true
  | [], [] => rfl
  | [], _ :: _ => rfl
  | _ :: _, [] => rfl
  | x :: p, y :: q => by
    have := alike_strs p q
    simp [toPys, PySem.W.alikeAll, this, toPy, PySem.W.alike]
theorem okSort_pths {l : List Pth} (h : ∀ p ∈ l, okP p) : okSort (l.map pthD) = true := by
  unfold okSort
  simp only [Bool.and_eq_true, Bool.or_eq_true, List.all_eq_true, List.mem_map]
  refine ⟨⟨⟨?_, ?_⟩, ?_⟩, .inl ?_⟩
  · rintro d ⟨p, hp, rfl⟩; exact shp_okR (okR_pth (h p hp).2)
  · rintro d ⟨p, _, rfl⟩; exact decide_eq_true (by have := dep_pth p; omega)
  · rintro d ⟨p, _, rfl⟩ e ⟨q, _, rfl⟩; exact alike_strs p q
  · rintro d ⟨p, hp, rfl⟩
    obtain ⟨h1, _⟩ := h p hp
    cases p with
    | nil => exact absurd rfl h1
    | cons x p => rfl
theorem sortD_pths {l : List Pth} (h : ∀ p ∈ l, okP p) : sortD [.lst (l.map pthD)] = .ok (.lst ((srtP l).map pthD)) := by
  unfold sortD
  dsimp only
  rw [if_pos (okSort_pths h)]
  unfold srtL srtP
  rw [List.map_mergeSort (r := leP) (s := leD) (f := pthD) fun a _ b _ => rfl]
end VP

set_option Elab.async false
set_option linter.all false
set_option maxRecDepth 100000
set_option maxHeartbeats 1000000
/-! looks: how many, by names. -/
namespace VP
open PySem PySem.Spec PyProof.Rows L2 LamX VS
def isK (f s t : Int) : Bool := decide (f ≤ t) && decide ((t - f) % s = 0)
def wt (f s t : Int) : Int := if isK f s t then 1 else 0
theorem gl_up {f s : Int} (s1 : 1 ≤ s) (x : Int) : gl f s (x + 1) = gl f s x + wt f s x := by
  unfold gl wt isK
  by_cases h : x < f
  · rw [if_pos (by omega), if_pos (by omega)]
    simp [show ¬ f ≤ x by omega]
  · rw [if_neg (by omega)]
    have e1 : x + 1 - f + s - 1 = (x - f) + s * 1 := by omega
    rw [e1, Int.add_mul_ediv_left _ _ (by omega)]
    by_cases h0 : x = f
    · subst h0
      have : (x - x) / s = 0 := by simp
      rw [if_pos (Int.le_refl _), this]
      simp
    · rw [if_neg (by omega), decide_eq_true (show f ≤ x by omega), Bool.true_and]
      generalize hd : x - f = d
      have d0 : 0 ≤ d := by omega
      have e := Int.emod_add_mul_ediv d s
      have r0 := Int.emod_nonneg d (show s ≠ 0 by omega)
      have r1 := Int.emod_lt_of_pos d (show 0 < s by omega)
      generalize hr : d % s = r at *
      generalize hq : d / s = q at *
      by_cases hz : r = 0
      · rw [decide_eq_true hz, if_pos rfl]
        have : d + s - 1 = (s - 1) + s * q := by omega
        rw [this, Int.add_mul_ediv_left _ _ (by omega), Int.ediv_eq_zero_of_lt (by omega) (by omega)]; omega
      · rw [decide_eq_false hz]
        have : d + s - 1 = (r - 1) + s * (q + 1) := by rw [Int.mul_add]; omega
        rw [this, Int.add_mul_ediv_left _ _ (by omega), Int.ediv_eq_zero_of_lt (by omega) (by omega)]
        simp
        try omega
theorem gl_sumR {f s : Int} (s1 : 1 ≤ s) : ∀ (k : Nat) (lo : Int), sumR (wt f s) lo k = gl f s (lo + k) - gl f s lo
  | 0, lo => by show (0 : Int) = _; rw [show lo + ((0 : Nat) : Int) = lo by omega]; omega
  | k + 1, lo => by
    rw [sumR_end, gl_sumR s1 k lo]
    have := gl_up (f := f) s1 (lo + k)
    rw [show lo + ((k + 1 : Nat) : Int) = lo + k + 1 by omega]; omega
theorem gl_sum {f s lo hi : Int} (s1 : 1 ≤ s) (h : lo ≤ hi) : sumI (wt f s) lo hi = gl f s hi - gl f s lo := by
  unfold sumI
  rw [gl_sumR s1]
  rw [show lo + ((hi - lo).toNat : Int) = hi by omega]
/-! by weights -/
theorem sum3w (g : Int → List Str → Int) (g0 : ∀ t, g t [] = 0) {n : Str} {a b : Int} {i r : Cals} {lo hi : Int} (v : val (.cons n a b i r) lo hi) :
    sumI (fun t => g t (stk (.cons n a b i r) t)) lo hi = sumI (fun t => g t (n :: stk i t)) a b + sumI (fun t => g t (stk r t)) b hi := by
  have v' := v
  rw [val_cons] at v'
  rw [sumI_split _ v'.2.1 (by omega : a ≤ hi), sumI_split _ v'.2.2.1 v'.2.2.2.1]
  rw [sumI_zero (f := fun t => g t (stk (.cons n a b i r) t)) fun t h1 h2 => by rw [stk_pre v h2, g0]]
  rw [Int.zero_add]
  congr 1
  · exact sumI_congr fun t h1 h2 => by rw [stk_mid h1 h2]
  · exact sumI_congr fun t h1 h2 => by rw [stk_post h1]
theorem gsum_cons (f s : Int) (n : Str) (a b : Int) (i r : Cals) : gsum f s (.cons n a b i r) = (gl f s b - gl f s a) + gsum f s r := by
  unfold gsum
  show ((gl f s b - gl f s a) :: ((tops r).map fun q => gl f s q.b - gl f s q.a)).sum = _
  rw [List.sum_cons]
theorem claimBw {f s : Int} (s1 : 1 ≤ s) {c : Cals} : ∀ {lo hi : Int}, val c lo hi → sumI (fun t => wt f s t * run1 (stk c t)) lo hi = gsum f s c := by
  induction c with
  | nil => intro lo hi _; exact sumI_zero fun t _ _ => by show wt f s t * 0 = 0; omega
  | cons n a b i r _ ihr =>
    intro lo hi v
    have v' := v
    rw [val_cons] at v'
    rw [sum3w (fun t l => wt f s t * run1 l) (fun t => by show wt f s t * 0 = 0; omega) v, ihr v'.2.2.2.2.2, gsum_cons, ← gl_sum s1 v'.2.2.1]
    congr 1
    exact sumI_congr fun t _ _ => by show wt f s t * 1 = _; omega
theorem tot_wq_cons (f s : Int) (n m : Str) (a b : Int) (i r : Cals) : tot ((allq (.cons m a b i r)).map (wq f s)) n = (if m = n then gl f s b - gl f s a - gsum f s i else 0) + tot ((allq i).map (wq f s)) n + tot ((allq r).map (wq f s)) n := by
  show tot ((wq f s ⟨m, a, b, i⟩) :: ((allq i ++ allq r).map (wq f s))) n = _
  rw [tot_cons, List.map_append, tot_app]
  show (if m = n then gl f s b - gl f s a - gsum f s i else 0) + _ = _
  omega
theorem claimAw {f s : Int} (s1 : 1 ≤ s) {n : Str} {c : Cals} : ∀ {lo hi : Int}, val c lo hi → sumI (fun t => wt f s t * last1 n (stk c t)) lo hi = tot ((allq c).map (wq f s)) n := by
  induction c with
  | nil => intro lo hi _; exact sumI_zero fun t _ _ => by show wt f s t * 0 = 0; omega
  | cons m a b i r ihi ihr =>
    intro lo hi v
    have v' := v
    rw [val_cons] at v'
    rw [sum3w (fun t l => wt f s t * last1 n l) (fun t => by show wt f s t * 0 = 0; omega) v, ihr v'.2.2.2.2.2, tot_wq_cons]
    have e : sumI (fun t => wt f s t * last1 n (m :: stk i t)) a b = (if m = n then gl f s b - gl f s a - gsum f s i else 0) + tot ((allq i).map (wq f s)) n := by
      by_cases h : m = n
      · have h1 : sumI (fun t => wt f s t * last1 n (m :: stk i t)) a b = sumI (fun t => wt f s t * last1 n (stk i t) + (wt f s t + -(wt f s t * run1 (stk i t)))) a b :=
          sumI_congr fun t _ _ => by rw [last_cons, if_pos h, Int.mul_add, Int.mul_sub]; omega
        have h2 : sumI (fun t => wt f s t * last1 n (stk i t) + (wt f s t + -(wt f s t * run1 (stk i t)))) a b = sumI (fun t => wt f s t * last1 n (stk i t)) a b + sumI (fun t => wt f s t + -(wt f s t * run1 (stk i t))) a b := sumR_add _ _ _ _
        have h3 : sumI (fun t => wt f s t + -(wt f s t * run1 (stk i t))) a b = sumI (wt f s) a b + sumI (fun t => -(wt f s t * run1 (stk i t))) a b := sumR_add _ _ _ _
        have h4 : sumI (fun t => -(wt f s t * run1 (stk i t))) a b + sumI (fun t => wt f s t * run1 (stk i t)) a b = 0 := by
          have z : sumI (fun t => -(wt f s t * run1 (stk i t)) + wt f s t * run1 (stk i t)) a b = sumI (fun t => -(wt f s t * run1 (stk i t))) a b + sumI (fun t => wt f s t * run1 (stk i t)) a b := sumR_add _ _ _ _
          rw [← z]
          exact sumI_zero fun t _ _ => by omega
        rw [claimBw s1 v'.2.2.2.2.1] at h4
        rw [h1, h2, h3, ihi v'.2.2.2.2.1, gl_sum s1 v'.2.2.1, if_pos h]
        omega
      · rw [if_neg h, Int.zero_add, ← ihi v'.2.2.2.2.1]
        exact sumI_congr fun t _ _ => by rw [last_cons, if_neg h]; simp
    rw [e]
/-- how often a name is the inmost, looked so -/
theorem gt_sn {f s : Int} (s1 : 1 ≤ s) (n : Str) {c : Cals} {hi : Int} (v : val c 0 hi) : gt (sn f s c) n = sumI (fun t => wt f s t * last1 n (stk c t)) 0 (lb c) := by
  unfold sn
  rw [gt_bumps, claimAw s1 (val_lb v)]
  show 0 + _ = _
  omega
theorem wt_one {t : Int} (h : 0 ≤ t) : wt 0 1 t = 1 := by
  unfold wt isK
  have : (t - 0) % 1 = 0 := Int.emod_one _
  rw [decide_eq_true h, this]; rfl
theorem gt_sn1 (n : Str) {c : Cals} {hi : Int} (v : val c 0 hi) : gt (sn 0 1 c) n = tot ((allq c).map oI1) n := by
  rw [gt_sn (by omega) n v, ← claimA (n := n) (val_lb v)]
  exact sumI_congr fun t h1 _ => by rw [wt_one h1, Int.one_mul]
/-! two halves -/
theorem isK_two {f s : Int} (s1 : 1 ≤ s) (t : Int) : wt f s t = wt f (2 * s) t + wt (f + s) (2 * s) t := by
  unfold wt isK
  by_cases h : f ≤ t
  · generalize hd : t - f = d
    have ed : t - (f + s) = d - s := by omega
    have hle : (f + s ≤ t) ↔ s ≤ d := by omega
    rw [ed, decide_eq_true h, Bool.true_and, Bool.true_and]
    have d0 : 0 ≤ d := by omega
    have e := Int.emod_add_mul_ediv d (2 * s)
    have r0 := Int.emod_nonneg d (show 2 * s ≠ 0 by omega)
    have r1 := Int.emod_lt_of_pos d (show 0 < 2 * s by omega)
    generalize hr : d % (2 * s) = r at *
    generalize hq : d / (2 * s) = q at *
    have q0 : 0 ≤ q := by rw [← hq]; exact Int.ediv_nonneg d0 (by omega)
    have m1 : d % s = r % s := by
      rw [← e, show r + 2 * s * q = r + s * (2 * q) by rw [← Int.mul_assoc, Int.mul_comm s 2], Int.add_mul_emod_self_left]
    have m2 : (d - s) % (2 * s) = (r - s) % (2 * s) := by
      rw [← e, show r + 2 * s * q - s = (r - s) + 2 * s * q by omega, Int.add_mul_emod_self_left]
    rw [m1, m2]
    by_cases hrs : r < s
    · rw [Int.emod_eq_of_lt r0 hrs]
      have m3 : (r - s) % (2 * s) = r + s := by
        rw [show r - s = (r + s) + 2 * s * (-1) by omega, Int.add_mul_emod_self_left]
        exact Int.emod_eq_of_lt (by omega) (by omega)
      rw [m3, decide_eq_false (show ¬ r + s = 0 by omega), Bool.and_false]
      by_cases hz : r = 0
      · rw [decide_eq_true hz]; simp
      · rw [decide_eq_false hz]; simp
    · have m4 : r % s = r - s := by
        rw [show r = (r - s) + s * 1 by omega, Int.add_mul_emod_self_left]
        have : r - s + s * 1 - s = r - s := by omega
        rw [this]
        exact Int.emod_eq_of_lt (by omega) (by omega)
      have m3 : (r - s) % (2 * s) = r - s := Int.emod_eq_of_lt (by omega) (by omega)
      rw [m4, m3, decide_eq_false (show ¬ r = 0 by omega)]
      have hsd : s ≤ d := by
        by_cases hq0 : q = 0
        · subst hq0; omega
        · have : 2 * s * 1 ≤ 2 * s * q := Int.mul_le_mul_of_nonneg_left (by omega) (by omega)
          omega
      rw [decide_eq_true (hle.mpr hsd)]
      by_cases hz : r - s = 0
      · rw [decide_eq_true hz]; simp
      · rw [decide_eq_false hz]; simp
  · rw [decide_eq_false h, decide_eq_false (show ¬ f + s ≤ t by omega)]
    simp
theorem gt_two {f s : Int} (s1 : 1 ≤ s) (n : Str) {c : Cals} {hi : Int} (v : val c 0 hi) : gt (sn f s c) n = gt (sn f (2 * s) c) n + gt (sn (f + s) (2 * s) c) n := by
  rw [gt_sn s1 n v, gt_sn (by omega) n v, gt_sn (by omega) n v]
  have : sumI (fun t => wt f (2 * s) t * last1 n (stk c t) + wt (f + s) (2 * s) t * last1 n (stk c t)) 0 (lb c) = _ := sumR_add _ _ _ _
  refine Eq.trans (sumI_congr fun t _ _ => ?_) this
  rw [isK_two s1, Int.add_mul]
/-! the looks, one by one -/
theorem lks_up {f s x : Int} (s1 : 1 ≤ s) (f0 : 0 ≤ f) (x0 : 0 ≤ x) : lks f s (x + 1) = lks f s x ++ if isK f s x then [x] else [] := by
  unfold lks
  rw [gl_up s1]
  have g0 : 0 ≤ gl f s x := by
    have := gl_sum (f := f) (s := s) (lo := 0) (hi := x) s1 x0
    have z : gl f s 0 = 0 := by unfold gl; rw [if_pos f0]
    have h : ∀ (k : Nat) (lo : Int), 0 ≤ sumR (wt f s) lo k := by
      intro k
      induction k with
      | zero => intro lo; exact Int.le_refl _
      | succ k ih =>
        intro lo
        show 0 ≤ wt f s lo + sumR (wt f s) (lo + 1) k
        have := ih (lo + 1)
        have : 0 ≤ wt f s lo := by unfold wt; split <;> omega
        omega
    have := h (x - 0).toNat 0
    unfold sumI at *
    omega
  by_cases h : isK f s x = true
  · rw [if_pos h]
    have hw : wt f s x = 1 := by unfold wt; rw [if_pos h]
    rw [hw, show (gl f s x + 1).toNat = (gl f s x).toNat + 1 by omega, List.range_succ, List.map_append]
    congr 1
    unfold isK at h
    rw [Bool.and_eq_true, decide_eq_true_eq, decide_eq_true_eq] at h
    show [f + (((gl f s x).toNat : Nat) : Int) * s] = [x]
    rw [Int.toNat_of_nonneg g0]
    have hg : gl f s x = (x - f) / s := by
      have := gl_up (f := f) s1 x
      rw [hw] at this
      have e : gl f s (x + 1) = (x - f) / s + 1 := by
        unfold gl
        rw [if_neg (by omega), show x + 1 - f + s - 1 = (x - f) + s * 1 by omega, Int.add_mul_ediv_left _ _ (by omega)]
      omega
    rw [hg]
    have := Int.emod_add_mul_ediv (x - f) s
    rw [h.2, Int.mul_comm] at this
    congr 1; omega
  · rw [if_neg h]
    have hw : wt f s x = 0 := by unfold wt; rw [if_neg h]
    rw [hw, Int.add_zero, List.append_nil]
theorem lks_eq {f s : Int} (s1 : 1 ≤ s) (f0 : 0 ≤ f) : ∀ x : Nat, lks f s (x : Int) = ((List.range x).map fun i : Nat => (i : Int)).filter (isK f s)
  | 0 => by
    unfold lks gl
    rw [if_pos (by omega)]; rfl
  | x + 1 => by
    have := lks_up (f := f) (s := s) (x := x) s1 f0 (by omega)
    rw [show ((x + 1 : Nat) : Int) = (x : Int) + 1 by omega, this, lks_eq s1 f0 x, List.range_succ, List.map_append, List.filter_append]
    congr 1
    simp only [List.map_cons, List.map_nil, List.filter_cons, List.filter_nil]
theorem lks_eqI {f s x : Int} (s1 : 1 ≤ s) (f0 : 0 ≤ f) (x0 : 0 ≤ x) : lks f s x = ((List.range x.toNat).map fun i : Nat => (i : Int)).filter (isK f s) := by
  have := lks_eq s1 f0 x.toNat
  rwa [Int.toNat_of_nonneg x0] at this
theorem lks_pw {f s x : Int} (s1 : 1 ≤ s) (f0 : 0 ≤ f) (x0 : 0 ≤ x) : (lks f s x).Pairwise (· < ·) := by
  rw [lks_eqI s1 f0 x0]
  refine List.Pairwise.filter _ ?_
  rw [List.pairwise_map]
  exact List.pairwise_lt_range.imp fun h => by omega
theorem mem_lks {f s x t : Int} (s1 : 1 ≤ s) (f0 : 0 ≤ f) (x0 : 0 ≤ x) : t ∈ lks f s x ↔ 0 ≤ t ∧ t < x ∧ isK f s t = true := by
  rw [lks_eqI s1 f0 x0, List.mem_filter, List.mem_map]
  constructor
  · rintro ⟨⟨i, hi, rfl⟩, h⟩
    rw [List.mem_range] at hi
    exact ⟨by omega, by omega, h⟩
  · rintro ⟨h1, h2, h3⟩
    exact ⟨⟨t.toNat, List.mem_range.mpr (by omega), by omega⟩, h3⟩
theorem sum_lks {f s x : Int} (s1 : 1 ≤ s) (f0 : 0 ≤ f) (x0 : 0 ≤ x) (g : Int → Int) : ((lks f s x).map g).sum = sumI (fun t => wt f s t * g t) 0 x := by
  rw [lks_eqI s1 f0 x0]
  unfold sumI
  rw [show (x - 0).toNat = x.toNat by omega]
  have key : ∀ n : Nat, ((((List.range n).map fun i : Nat => (i : Int)).filter (isK f s)).map g).sum = sumR (fun t => wt f s t * g t) 0 n := by
    intro n
    induction n with
    | zero => rfl
    | succ n ih =>
      rw [sumR_end, ← ih, List.range_succ, List.map_append, List.filter_append, List.map_append, List.sum_append]
      congr 1
      rw [Int.zero_add, List.map_cons, List.map_nil, List.filter_cons, List.filter_nil]
      unfold wt
      by_cases h : isK f s (n : Int) = true
      · rw [if_pos h, if_pos h]; simp
      · rw [if_neg h, if_neg h]; simp
  exact key _
/-- both halves are the whole -/
theorem lks_perm {f s x : Int} (s1 : 1 ≤ s) (f0 : 0 ≤ f) (x0 : 0 ≤ x) : (lks f (2 * s) x ++ lks (f + s) (2 * s) x).Perm (lks f s x) := by
  have nd : ∀ {f' s' : Int}, 1 ≤ s' → 0 ≤ f' → (lks f' s' x).Nodup := fun h1 h2 => (lks_pw h1 h2 x0).imp fun h e => by omega
  have iff : ∀ t, isK f s t = true ↔ (isK f (2 * s) t = true ∨ isK (f + s) (2 * s) t = true) := fun t => by
    have := isK_two (f := f) s1 t
    unfold wt at this
    revert this
    cases isK f s t <;> cases isK f (2 * s) t <;> cases isK (f + s) (2 * s) t <;> simp
  have dis : ∀ t, ¬ (isK f (2 * s) t = true ∧ isK (f + s) (2 * s) t = true) := fun t => by
    have := isK_two (f := f) s1 t
    unfold wt at this
    revert this
    cases isK f s t <;> cases isK f (2 * s) t <;> cases isK (f + s) (2 * s) t <;> simp
  refine (List.perm_ext_iff_of_nodup ?_ (nd s1 f0)).mpr fun t => ?_
  · rw [List.nodup_append]
    refine ⟨nd (by omega) f0, nd (by omega) (by omega), fun a ha b hb e => ?_⟩
    subst e
    rw [mem_lks (by omega) f0 x0] at ha
    rw [mem_lks (by omega) (by omega) x0] at hb
    exact dis a ⟨ha.2.2, hb.2.2⟩
  · rw [List.mem_append, mem_lks (by omega) f0 x0, mem_lks (by omega) (by omega) x0, mem_lks s1 f0 x0, iff]
    constructor
    · rintro (h | h)
      · exact ⟨h.1, h.2.1, .inl h.2.2⟩
      · exact ⟨h.1, h.2.1, .inr h.2.2⟩
    · rintro ⟨h1, h2, h | h⟩
      · exact .inl ⟨h1, h2, h⟩
      · exact .inr ⟨h1, h2, h⟩
end VP

set_option Elab.async false
set_option linter.all false
set_option maxRecDepth 100000
set_option maxHeartbeats 1000000
/-! PQ2: folds as forests of (name, many, time, inner); what is at a path; joined. -/
namespace VP
open PySem PySem.Spec PyProof.Rows L2 LamX VS
/-- a right fold, its numbers at most M -/
def vf (M : Int) : Cals → Prop
  | .nil => True
  | .cons n a b i r => n ∈ NM ∧ 0 ≤ a ∧ a ≤ M ∧ 0 ≤ b ∧ b ≤ M ∧ vf M i ∧ vf M r ∧ ∀ q ∈ tops r, nlt n q.n = true
theorem vf_cons {M : Int} {n : Str} {a b : Int} {i r : Cals} : vf M (.cons n a b i r) = (n ∈ NM ∧ 0 ≤ a ∧ a ≤ M ∧ 0 ≤ b ∧ b ≤ M ∧ vf M i ∧ vf M r ∧ ∀ q ∈ tops r, nlt n q.n = true) := rfl
theorem vf_up {M N : Int} (h : M ≤ N) : ∀ {c : Cals}, vf M c → vf N c
  | .nil, _ => trivial
  | .cons n a b i r, v => by
    rw [vf_cons] at *
    exact ⟨v.1, v.2.1, by omega, v.2.2.2.1, by omega, vf_up h v.2.2.2.2.2.1, vf_up h v.2.2.2.2.2.2.1, v.2.2.2.2.2.2.2⟩
def mkF : List Nd → Cals
  | [] => .nil | q :: l => .cons q.n q.a q.b q.i (mkF l)
theorem tops_mkF : ∀ l : List Nd, tops (mkF l) = l
  | [] => rfl
  | q :: l => by rw [mkF, tops, tops_mkF l]
theorem mkF_tops : ∀ c : Cals, mkF (tops c) = c
  | .nil => rfl
  | .cons n a b i r => by rw [tops, mkF, mkF_tops r]
/-- a part is right -/
structure VQ (M : Int) (q : Nd) : Prop where
  n : q.n ∈ NM
  a0 : 0 ≤ q.a
  a1 : q.a ≤ M
  b0 : 0 ≤ q.b
  b1 : q.b ≤ M
  i : vf M q.i
theorem vf_iff {M : Int} : ∀ {c : Cals}, vf M c ↔ (∀ q ∈ tops c, VQ M q) ∧ (tops c).Pairwise fun p q => nlt p.n q.n = true
  | .nil => ⟨fun _ => ⟨fun q h => (by cases h), .nil⟩, fun _ => trivial⟩
  | .cons n a b i r => by
    rw [vf_cons, vf_iff (c := r)]
    constructor
    · rintro ⟨h1, h2, h3, h4, h5, h6, ⟨h7, h8⟩, h9⟩
      refine ⟨fun q hq => ?_, List.pairwise_cons.mpr ⟨h9, h8⟩⟩
      rcases List.mem_cons.mp hq with rfl | hq
      · exact ⟨h1, h2, h3, h4, h5, h6⟩
      · exact h7 q hq
    · rintro ⟨h1, h2⟩
      have v := h1 ⟨n, a, b, i⟩ List.mem_cons_self
      obtain ⟨h3, h4⟩ := List.pairwise_cons.mp h2
      exact ⟨v.n, v.a0, v.a1, v.b0, v.b1, v.i, ⟨fun q hq => h1 q (List.mem_cons_of_mem _ hq), h4⟩, h3⟩
theorem vf_mkF {M : Int} {l : List Nd} (h : ∀ q ∈ l, VQ M q) (p : l.Pairwise fun p q => nlt p.n q.n = true) : vf M (mkF l) := vf_iff.mpr (by rw [tops_mkF]; exact ⟨h, p⟩)
/-! the part of a name, of a path -/
def at1 (c : Cals) (n : Str) : Option Nd := (tops c).find? fun q => decide (q.n = n)
def inn (c : Cals) (n : Str) : Cals := match at1 c n with | some q => q.i | none => .nil
def fA : Option Nd → Int | some q => q.a | none => 0
def fB : Option Nd → Int | some q => q.b | none => 0
/-- the part at a path behind a first name -/
def atP : Cals → Str → Pth → Option Nd
  | c, n, [] => at1 c n
  | c, n, m :: p => atP (inn c n) m p
def sup (c : Cals) : Pth → Bool | [] => false | n :: p => (atP c n p).isSome
def vA (c : Cals) : Pth → Int | [] => 0 | n :: p => fA (atP c n p)
def vB (c : Cals) : Pth → Int | [] => 0 | n :: p => fB (atP c n p)
theorem at1_nil (n : Str) : at1 .nil n = none := rfl
theorem inn_nil (n : Str) : inn .nil n = .nil := rfl
theorem atP_nil : ∀ (p : Pth) (n : Str), atP .nil n p = none
  | [], _ => rfl
  | m :: p, n => by rw [atP, inn_nil]; exact atP_nil p m
theorem at1_mem {c : Cals} {n : Str} {q : Nd} (h : at1 c n = some q) : q ∈ tops c ∧ q.n = n := by
  have h1 := List.mem_of_find?_eq_some h
  have h2 := List.find?_some h
  exact ⟨h1, of_decide_eq_true h2⟩
theorem at1_none {c : Cals} {n : Str} : at1 c n = none ↔ ∀ q ∈ tops c, q.n ≠ n := by
  unfold at1
  rw [List.find?_eq_none]
  exact ⟨fun h q hq e => h q hq (decide_eq_true e), fun h q hq e => h q hq (of_decide_eq_true e)⟩
theorem at1_of {M : Int} {c : Cals} (v : vf M c) {q : Nd} (h : q ∈ tops c) : at1 c q.n = some q := by
  cases e : at1 c q.n with
  | none => exact absurd rfl (at1_none.mp e q h)
  | some p =>
    obtain ⟨h1, h2⟩ := at1_mem e
    congr 1
    have pw := (vf_iff.mp v).2
    obtain ⟨i, hi, rfl⟩ := List.mem_iff_getElem.mp h1
    obtain ⟨j, hj, rfl⟩ := List.mem_iff_getElem.mp h
    rw [List.pairwise_iff_getElem] at pw
    by_cases hij : i = j
    · subst hij; rfl
    · rcases Nat.lt_or_gt_of_ne hij with hlt | hlt
      · exact absurd h2 (nlt_ne (pw i j hi hj hlt))
      · exact absurd h2.symm (nlt_ne (pw j i hj hi hlt))
theorem at1_some {c : Cals} {n : Str} : (at1 c n).isSome = true ↔ n ∈ (tops c).map (·.n) := by
  unfold at1
  rw [List.find?_isSome]
  constructor
  · rintro ⟨q, h1, h2⟩; exact List.mem_map.mpr ⟨q, h1, of_decide_eq_true h2⟩
  · intro h
    obtain ⟨q, h1, h2⟩ := List.mem_map.mp h
    exact ⟨q, h1, decide_eq_true h2⟩
theorem vf_inn {M : Int} {c : Cals} (v : vf M c) (n : Str) : vf M (inn c n) := by
  unfold inn
  cases h : at1 c n with
  | none => trivial
  | some q => exact ((vf_iff.mp v).1 q (at1_mem h).1).i
theorem dep_inn (c : Cals) (n : Str) : dep (inn c n) ≤ dep c - 1 := by
  unfold inn
  cases h : at1 c n with
  | none => exact Nat.zero_le _
  | some q => have := dep_tops (at1_mem h).1; show dep q.i ≤ _; omega
theorem at1_cons {n m : Str} {a b : Int} {i r : Cals} : at1 (.cons n a b i r) m = if n = m then some ⟨n, a, b, i⟩ else at1 r m := by
  unfold at1
  rw [tops, List.find?_cons]
  by_cases h : n = m
  · simp [h]
  · simp [h]
/-! two right folds with the same parts are the same -/
theorem ext1 : ∀ {c d : Cals} {M N : Int}, vf M c → vf N d → (∀ n, (at1 c n).isSome = (at1 d n).isSome) → (∀ n, fA (at1 c n) = fA (at1 d n)) → (∀ n, fB (at1 c n) = fB (at1 d n)) → (∀ n, inn c n = inn d n) → c = d
  | .nil, .nil, _, _, _, _, _, _, _, _ => rfl
  | .nil, .cons n a b i r, _, _, _, _, h, _, _, _ => by have := h n; rw [at1_cons, if_pos rfl] at this; cases this
  | .cons n a b i r, .nil, _, _, _, _, h, _, _, _ => by have := h n; rw [at1_cons, if_pos rfl] at this; cases this
  | .cons n a b i r, .cons m a' b' i' r', M, N, v, w, h, hA, hB, hI => by
    rw [vf_cons] at v w
    have vr := v.2.2.2.2.2.2
    have wr := w.2.2.2.2.2.2
    have nin : ∀ {x : Str} {c : Cals}, (∀ q ∈ tops c, nlt x q.n = true) → at1 c x = none := fun h => at1_none.mpr fun q hq e => nlt_ne (h q hq) e.symm
    have e : n = m := by
      refine nlt_total ?_ ?_
      · cases z : nlt n m with
        | false => rfl
        | true =>
          have := h n
          rw [at1_cons, if_pos rfl, at1_cons, if_neg (fun e => nlt_ne z e.symm), nin fun q hq => nlt_trans z (wr.2 q hq)] at this
          cases this
      · cases z : nlt m n with
        | false => rfl
        | true =>
          have := h m
          rw [at1_cons, if_neg (fun e => nlt_ne z e.symm), nin fun q hq => nlt_trans z (vr.2 q hq), at1_cons, if_pos rfl] at this
          cases this
    subst e
    have eA := hA n
    have eB := hB n
    have eI := hI n
    unfold inn at eI
    simp only [at1_cons, if_true] at eA eB eI
    have eA' : a = a' := eA
    have eB' : b = b' := eB
    have eI' : i = i' := eI
    have k : ∀ (f : Option Nd → Option Nd → Prop), f none none → (∀ x, f (at1 (.cons n a b i r) x) (at1 (.cons n a' b' i' r') x)) → ∀ x, f (at1 r x) (at1 r' x) := fun f h0 hf x => by
      have := hf x
      rw [at1_cons, at1_cons] at this
      by_cases hx : n = x
      · subst hx; rw [nin vr.2, nin wr.2]; exact h0
      · rwa [if_neg hx, if_neg hx] at this
    have er : r = r' := ext1 vr.1 wr.1 (k (fun x y => x.isSome = y.isSome) rfl h) (k (fun x y => fA x = fA y) rfl hA) (k (fun x y => fB x = fB y) rfl hB)
      (k (fun x y => (match x with | some q => q.i | none => .nil) = (match y with | some q => q.i | none => Cals.nil)) rfl hI)
    rw [eA', eB', eI', er]
theorem ext : ∀ (k : Nat) {c d : Cals} {M N : Int}, dep c ≤ k → vf M c → vf N d → (∀ p, sup c p = sup d p) → (∀ p, vA c p = vA d p) → (∀ p, vB c p = vB d p) → c = d := by
  intro k
  induction k with
  | zero =>
    intro c d M N h v w hS hA hB
    cases c with
    | cons n a b i r => rw [dep_cons] at h; omega
    | nil =>
      cases d with
      | nil => rfl
      | cons n a b i r =>
        have := hS [n]
        rw [show sup (.cons n a b i r) [n] = true by show (at1 _ n).isSome = true; rw [at1_cons, if_pos rfl]; rfl] at this
        cases this
  | succ k ih =>
    intro c d M N h v w hS hA hB
    refine ext1 v w (fun n => hS [n]) (fun n => hA [n]) (fun n => hB [n]) fun n => ?_
    have hd := dep_inn c n
    refine ih (by omega) (vf_inn v n) (vf_inn w n) (fun p => ?_) (fun p => ?_) fun p => ?_
    · cases p with | nil => rfl | cons m p => exact hS (n :: m :: p)
    · cases p with | nil => rfl | cons m p => exact hA (n :: m :: p)
    · cases p with | nil => rfl | cons m p => exact hB (n :: m :: p)
theorem fold_ext {c d : Cals} {M N : Int} (v : vf M c) (w : vf N d) (hS : ∀ p, sup c p = sup d p) (hA : ∀ p, vA c p = vA d p) (hB : ∀ p, vB c p = vB d p) : c = d := ext _ (Nat.le_refl _) v w hS hA hB
end VP

set_option Elab.async false
set_option linter.all false
set_option maxRecDepth 100000
set_option maxHeartbeats 1000000
/-! PQ3: joined. -/
namespace VP
open PySem PySem.Spec PyProof.Rows L2 LamX VS
def nmsT (c : Cals) : List Str := (tops c).map (·.n)
def us (f g : Cals) : List Str := srtN (nmsT f ++ (nmsT g).filter fun n => !decide (n ∈ nmsT f))
def jnN (self : Cals → Cals → Cals) (f g : Cals) (n : Str) : Nd := ⟨n, fA (at1 f n) + fA (at1 g n), fB (at1 f n) + fB (at1 g n), self (inn f n) (inn g n)⟩
def jn : Nat → Cals → Cals → Cals
  | 0, _, _ => .nil
  | j + 1, f, g => mkF ((us f g).map (jnN (jn j) f g))
theorem nms_pw {M : Int} {c : Cals} (v : vf M c) : (nmsT c).Pairwise fun x y => nlt x y = true := List.pairwise_map.mpr (vf_iff.mp v).2
theorem nmsT_nd {M : Int} {c : Cals} (v : vf M c) : (nmsT c).Nodup := (nms_pw v).imp fun h => nlt_ne h
theorem nmsT_NM {M : Int} {c : Cals} (v : vf M c) : ∀ n ∈ nmsT c, n ∈ NM := fun n h => by
  obtain ⟨q, hq, rfl⟩ := List.mem_map.mp h
  exact ((vf_iff.mp v).1 q hq).n
theorem nmsT_len {M : Int} {c : Cals} (v : vf M c) : (nmsT c).length ≤ 6 := nd_len _ NM (nmsT_nd v) (nmsT_NM v)
theorem tops_len6 {M : Int} {c : Cals} (v : vf M c) : (tops c).length ≤ 6 := by have := nmsT_len v; unfold nmsT at this; rwa [List.length_map] at this
theorem mem_us {f g : Cals} {n : Str} : n ∈ us f g ↔ n ∈ nmsT f ∨ n ∈ nmsT g := by
  unfold us
  rw [(srtN_perm _).mem_iff, List.mem_append, List.mem_filter]
  by_cases h : n ∈ nmsT f <;> simp [h]
theorem us_nd {M N : Int} {f g : Cals} (v : vf M f) (w : vf N g) : (us f g).Nodup := by
  unfold us
  rw [(srtN_perm _).nodup_iff, List.nodup_append]
  refine ⟨nmsT_nd v, (nmsT_nd w).filter _, fun a ha b hb e => ?_⟩
  subst e
  have := (List.mem_filter.mp hb).2
  simp [ha] at this
theorem us_pw {M N : Int} {f g : Cals} (v : vf M f) (w : vf N g) : (us f g).Pairwise fun x y => nlt x y = true := by
  have h1 : (us f g).Pairwise fun x y => leN x y = true := srtN_pw _
  have h2 := us_nd v w
  rw [List.nodup_iff_pairwise_ne] at h2
  refine (h1.and h2).imp fun {x y} h => ?_
  have h3 := h.1
  unfold leN at h3
  rw [leD_str, Bool.not_eq_true'] at h3
  cases z : nlt x y with
  | true => rfl
  | false => exact absurd (nlt_total z h3) h.2
theorem us_NM {M N : Int} {f g : Cals} (v : vf M f) (w : vf N g) : ∀ n ∈ us f g, n ∈ NM := fun n h => (mem_us.mp h).elim (nmsT_NM v n) (nmsT_NM w n)
theorem us_len {M N : Int} {f g : Cals} (v : vf M f) (w : vf N g) : (us f g).length ≤ 6 := nd_len _ NM (us_nd v w) (us_NM v w)
theorem fA_nn {M : Int} {c : Cals} (v : vf M c) (n : Str) : 0 ≤ fA (at1 c n) ∧ fA (at1 c n) ≤ max M 0 := by
  cases h : at1 c n with
  | none => exact ⟨Int.le_refl _, by show (0 : Int) ≤ _; omega⟩
  | some q =>
    have := (vf_iff.mp v).1 q (at1_mem h).1
    have h1 := this.a0
    have h2 := this.a1
    exact ⟨h1, by show q.a ≤ _; omega⟩
theorem fB_nn {M : Int} {c : Cals} (v : vf M c) (n : Str) : 0 ≤ fB (at1 c n) ∧ fB (at1 c n) ≤ max M 0 := by
  cases h : at1 c n with
  | none => exact ⟨Int.le_refl _, by show (0 : Int) ≤ _; omega⟩
  | some q =>
    have := (vf_iff.mp v).1 q (at1_mem h).1
    have h1 := this.b0
    have h2 := this.b1
    exact ⟨h1, by show q.b ≤ _; omega⟩
theorem vf_jn : ∀ (j : Nat) {f g : Cals} {M N : Int}, 0 ≤ M → 0 ≤ N → vf M f → vf N g → vf (M + N) (jn j f g)
  | 0, _, _, _, _, _, _, _, _ => trivial
  | j + 1, f, g, M, N, hM, hN, v, w => by
    refine vf_mkF (fun q hq => ?_) (List.pairwise_map.mpr ((us_pw v w).imp fun h => h))
    obtain ⟨n, hn, rfl⟩ := List.mem_map.mp hq
    have a := fA_nn v n
    have b := fA_nn w n
    have c := fB_nn v n
    have d := fB_nn w n
    exact ⟨us_NM v w n hn, by show 0 ≤ fA _ + fA _; omega, by show fA _ + fA _ ≤ _; omega, by show 0 ≤ fB _ + fB _; omega, by show fB _ + fB _ ≤ _; omega, vf_jn j hM hN (vf_inn v n) (vf_inn w n)⟩
theorem at1_mk {l : List Str} {F : Str → Nd} (hF : ∀ n, (F n).n = n) (n : Str) : at1 (mkF (l.map F)) n = if n ∈ l then some (F n) else none := by
  unfold at1
  rw [tops_mkF]
  induction l with
  | nil => rfl
  | cons m l ih =>
    rw [List.map_cons, List.find?_cons, hF]
    by_cases h : m = n
    · subst h; simp
    · have h2 : ¬ n = m := fun e => h e.symm
      simp [h, ih, h2]
theorem at1_jn (j : Nat) (f g : Cals) (n : Str) : at1 (jn (j + 1) f g) n = if n ∈ us f g then some (jnN (jn j) f g n) else none := at1_mk (fun _ => rfl) n
theorem inn_jn (j : Nat) (f g : Cals) (n : Str) : inn (jn (j + 1) f g) n = if n ∈ us f g then jn j (inn f n) (inn g n) else .nil := by
  have e := at1_jn j f g n
  by_cases h : n ∈ us f g
  · rw [if_pos h] at e
    rw [if_pos h]
    show (match at1 (jn (j + 1) f g) n with | some q => q.i | none => Cals.nil) = _
    rw [e]; rfl
  · rw [if_neg h] at e
    rw [if_neg h]
    show (match at1 (jn (j + 1) f g) n with | some q => q.i | none => Cals.nil) = _
    rw [e]
theorem nmem_inn {c : Cals} {n : Str} (h : n ∉ nmsT c) : at1 c n = none ∧ inn c n = .nil := by
  have e : at1 c n = none := by
    cases e : at1 c n with
    | none => rfl
    | some q => exact absurd (at1_some.mp (by rw [e]; rfl)) h
  exact ⟨e, by unfold inn; rw [e]⟩
theorem jn_nil : ∀ j : Nat, jn j .nil .nil = .nil
  | 0 => rfl
  | j + 1 => by
    have : us .nil .nil = [] := by
      unfold us nmsT
      simp [tops, srtN]
    rw [jn, this]; rfl
theorem at_jn : ∀ (p : Pth) (j : Nat) (f g : Cals) (n : Str), dep f ≤ j → dep g ≤ j → (atP (jn j f g) n p).isSome = ((atP f n p).isSome || (atP g n p).isSome) ∧ fA (atP (jn j f g) n p) = fA (atP f n p) + fA (atP g n p) ∧ fB (atP (jn j f g) n p) = fB (atP f n p) + fB (atP g n p)
  | p, 0, f, g, n, h1, h2 => by
    have n0 : ∀ {c : Cals}, dep c ≤ 0 → c = .nil := fun {c} h => by
      cases c with
      | nil => rfl
      | cons n a b i r => rw [dep_cons] at h; omega
    rw [n0 h1, n0 h2, jn, atP_nil]; exact ⟨rfl, rfl, rfl⟩
  | [], j + 1, f, g, n, h1, h2 => by
    rw [atP, atP, atP, at1_jn]
    by_cases h : n ∈ us f g
    · rw [if_pos h]
      refine ⟨?_, rfl, rfl⟩
      rcases mem_us.mp h with k | k
      · rw [show (at1 f n).isSome = true from at1_some.mpr k]; rfl
      · rw [show (at1 g n).isSome = true from at1_some.mpr k, Bool.or_true]; rfl
    · rw [if_neg h]
      rw [(nmem_inn fun z => h (mem_us.mpr (.inl z))).1, (nmem_inn fun z => h (mem_us.mpr (.inr z))).1]
      exact ⟨rfl, rfl, rfl⟩
  | m :: p, j + 1, f, g, n, h1, h2 => by
    rw [atP, atP, atP, inn_jn]
    by_cases h : n ∈ us f g
    · rw [if_pos h]
      have d1 := dep_inn f n
      have d2 := dep_inn g n
      exact at_jn p j (inn f n) (inn g n) m (by omega) (by omega)
    · rw [if_neg h, (nmem_inn fun z => h (mem_us.mpr (.inl z))).2, (nmem_inn fun z => h (mem_us.mpr (.inr z))).2, atP_nil]
      exact ⟨rfl, rfl, rfl⟩
theorem sup_jn {j : Nat} {f g : Cals} (h1 : dep f ≤ j) (h2 : dep g ≤ j) (p : Pth) : sup (jn j f g) p = (sup f p || sup g p) := by
  cases p with | nil => rfl | cons n p => exact (at_jn p j f g n h1 h2).1
theorem vA_jn {j : Nat} {f g : Cals} (h1 : dep f ≤ j) (h2 : dep g ≤ j) (p : Pth) : vA (jn j f g) p = vA f p + vA g p := by
  cases p with | nil => rfl | cons n p => exact (at_jn p j f g n h1 h2).2.1
theorem vB_jn {j : Nat} {f g : Cals} (h1 : dep f ≤ j) (h2 : dep g ≤ j) (p : Pth) : vB (jn j f g) p = vB f p + vB g p := by
  cases p with | nil => rfl | cons n p => exact (at_jn p j f g n h1 h2).2.2
theorem dep_mkF {l : List Nd} {k : Nat} (h : ∀ q ∈ l, dep q.i + 1 ≤ k) : dep (mkF l) ≤ k := by
  induction l with
  | nil => exact Nat.zero_le _
  | cons q l ih =>
    rw [mkF, dep_cons]
    have := h q List.mem_cons_self
    have := ih fun x hx => h x (List.mem_cons_of_mem _ hx)
    omega
theorem dep_pos {c : Cals} {n : Str} (h : n ∈ nmsT c) : 1 ≤ dep c := by
  obtain ⟨q, hq, rfl⟩ := List.mem_map.mp h
  have := dep_tops hq
  omega
theorem dep_jn : ∀ (j : Nat) {f g : Cals} {k : Nat}, dep f ≤ k → dep g ≤ k → dep (jn j f g) ≤ k
  | 0, _, _, _, _, _ => Nat.zero_le _
  | j + 1, f, g, k, h1, h2 => by
    refine dep_mkF fun q hq => ?_
    obtain ⟨n, hn, rfl⟩ := List.mem_map.mp hq
    have k1 : 1 ≤ k := (mem_us.mp hn).elim (fun z => Nat.le_trans (dep_pos z) h1) fun z => Nat.le_trans (dep_pos z) h2
    have d1 := dep_inn f n
    have d2 := dep_inn g n
    have : dep (jn j (inn f n) (inn g n)) ≤ k - 1 := dep_jn j (by omega) (by omega)
    show dep (jn j (inn f n) (inn g n)) + 1 ≤ k
    omega
/-! how many parts -/
def cb : Nat → Nat | 0 => 0 | d + 1 => 6 * (1 + cb d)
theorem cnt_mkF : ∀ {l : List Nd} {m : Nat}, (∀ q ∈ l, cnt q.i ≤ m) → cnt (mkF l) ≤ l.length * (1 + m)
  | [], _, _ => Nat.zero_le _
  | q :: l, m, h => by
    have h1 := h q List.mem_cons_self
    have h2 := cnt_mkF (l := l) fun x hx => h x (List.mem_cons_of_mem _ hx)
    rw [mkF, cnt_cons, List.length_cons, Nat.succ_mul]; omega
theorem cnt_vf : ∀ (k : Nat) {c : Cals} {M : Int}, vf M c → dep c ≤ k → cnt c ≤ cb k
  | 0, c, M, v, h => by
    cases c with
    | nil => exact Nat.le_refl _
    | cons n a b i r => rw [dep_cons] at h; omega
  | k + 1, c, M, v, h => by
    have h1 := tops_len6 v
    have h2 := cnt_mkF (l := tops c) (m := cb k) fun q hq => cnt_vf k ((vf_iff.mp v).1 q hq).i (by have := dep_tops hq; omega)
    rw [mkF_tops] at h2
    refine Nat.le_trans h2 ?_
    rw [cb]
    exact Nat.mul_le_mul_right _ h1
end VP

set_option Elab.async false
set_option linter.all false
set_option maxRecDepth 100000
set_option maxHeartbeats 1000000
/-! PQ4: joined_of computes it. -/
namespace VP
open PySem PySem.Spec PyProof.Rows L2 LamX VS
def kF (c : Cals) : List (Key × D) := (tops c).map fun q => ((Sum.inr q.n : Key), ndD q)
def gq (c : Cals) (n : Str) : Nd := ⟨n, fA (at1 c n), fB (at1 c n), inn c n⟩
theorem lk_kF (c : Cals) (n : Str) : lk (kF c) (.inr n) = (at1 c n).map ndD := by
  unfold lk kF at1
  induction tops c with
  | nil => rfl
  | cons q l ih =>
    rw [List.map_cons, List.find?_cons, List.find?_cons, inr_dec]
    by_cases h : q.n = n
    · simp [h]
    · simp only [h, decide_false]
      exact ih
theorem get_kF (c : Cals) (n : Str) : getD2 (.dK (kF c)) (.str n) (one n 0 0 .nil) = .ok (ndD (gq c n)) := by
  show (match look (.dK (kF c)) (.str n) with | some o => R.ok (o.getD (one n 0 0 .nil)) | _ => .no) = _
  show R.ok ((lk (kF c) (.inr n)).getD (one n 0 0 .nil)) = _
  rw [lk_kF]
  unfold gq inn
  cases h : at1 c n with
  | none => rfl
  | some q =>
    have := (at1_mem h).2
    show R.ok (ndD q) = .ok (ndD ⟨n, q.a, q.b, q.i⟩)
    rw [← this]
theorem in_kF (neg : Bool) (c : Cals) (n : Str) : inD neg (.str n) (.dK (kF c)) = .ok (.bl (if neg then !decide (n ∈ nmsT c) else decide (n ∈ nmsT c))) := by
  show (match look (.dK (kF c)) (.str n) with | some o => R.ok (D.bl (if neg then !o.isSome else o.isSome)) | _ => .no) = _
  show R.ok (D.bl (if neg then !(lk (kF c) (.inr n)).isSome else (lk (kF c) (.inr n)).isSome)) = _
  have e : (lk (kF c) (.inr n)).isSome = decide (n ∈ nmsT c) := by
    rw [lk_kF, Option.isSome_map, Bool.eq_iff_iff, at1_some, decide_eq_true_eq]; rfl
  rw [e]
theorem keys_kF (c : Cals) : keysOf (.dK (kF c)) = some ((nmsT c).map D.str) := by
  show some ((kF c).map fun kd => keyV kd.1) = _
  unfold kF nmsT
  rw [List.map_map, List.map_map]; rfl
theorem list_kF (c : Cals) : listDct [.dK (kF c)] = .ok (.lst ((nmsT c).map D.str)) := by
  show R.ok (D.lst ((kF c).map fun kd => keyV kd.1)) = _
  unfold kF nmsT
  rw [List.map_map, List.map_map]; rfl
theorem pairs_F (l : List Nd) : pairsD (l.map fun q => .tup [.str q.n, ndD q]) = some (l.map fun q => ((Sum.inr q.n : Key), ndD q)) := by
  induction l with
  | nil => rfl
  | cons q l ih => rw [List.map_cons, pairsD, ih]; rfl
theorem dictP_F {M : Int} {c : Cals} (v : vf M c) : dictP [.lst ((tops c).map fun q => .tup [.str q.n, ndD q])] = .ok (.dK (kF c)) := by
  show (match pairsD ((tops c).map fun q => .tup [.str q.n, ndD q]) with | some kvs => R.ok (D.dK (VS.mg [] kvs)) | none => .no) = _
  rw [pairs_F]
  dsimp only
  rw [mg_nd (kvs := [])]
  · rfl
  · rw [List.nil_append, List.map_map]
    have := nmsT_nd v
    have e : ((tops c).map ((fun x : Key × D => x.1) ∘ fun q => ((Sum.inr q.n : Key), ndD q))) = (nmsT c).map (Sum.inr : Str → Key) := by unfold nmsT; rw [List.map_map]; rfl
    rw [e, List.nodup_iff_pairwise_ne, List.pairwise_map]
    rw [List.nodup_iff_pairwise_ne] at this
    exact this.imp fun h e => h (Sum.inr.inj e)
theorem toDs_mkF (l : List Nd) : toDs (mkF l) = l.map ndD := by rw [toDs_tops, tops_mkF]
theorem joined_of_eq : ∀ (j : Nat) (f g : Cals) (M N : Int), vf M f → vf N g → dep f < j → dep g < j → F_joined_of j [cD f, cD g] = .ok (cD (jn j f g))
  | 0, f, g, M, N, v, w, h, _ => by omega
  | j + 1, f, g, M, N, v, w, h1, h2 => by
    have lf := tops_len6 v
    have lg := tops_len6 w
    have nf := nmsT_len v
    have c1 : C_joined_of_1 (F_joined_of j) (S_joined_of.e (S_joined_of.mk (.im (cD f)) (.im (cD g)) .un .un .un .un .un .un .un)) = .ok (.lst ((tops f).map fun q => .tup [.str q.n, ndD q])) := by
      unfold C_joined_of_1
      refine compE_all (u := ndD) (tops f) (by simp [toDs_tops]) (sl_ge (by omega)) fun q hq => ⟨_, rfl, ?_⟩
      simp [ndD]
    have c2 : C_joined_of_2 (F_joined_of j) (S_joined_of.e (S_joined_of.mk (.im (cD f)) (.im (cD g)) .un .un .un .un .un .un .un)) = .ok (.lst ((tops g).map fun q => .tup [.str q.n, ndD q])) := by
      unfold C_joined_of_2
      refine compE_all (u := ndD) (tops g) (by simp [toDs_tops]) (sl_ge (by omega)) fun q hq => ⟨_, rfl, ?_⟩
      simp [ndD]
    have c3 : C_joined_of_3 (F_joined_of j) (S_joined_of.e (S_joined_of.mk (.im (cD f)) (.im (cD g)) (.ow []) .un (.im (.dK (kF f))) (.im (.dK (kF g))) .un .un .un)) = .ok (.lst (((nmsT g).filter fun n => !decide (n ∈ nmsT f)).map D.str)) := by
      unfold C_joined_of_3
      rw [e_cd]
      simp only [S_joined_of.g5, keys_kF]
      refine compE_filter (u := D.str) (nmsT g) rfl (sl_ge (by have := nmsT_len w; omega)) fun n hn => ⟨_, rfl, ?_, fun _ => ?_⟩
      · simp [in_kF]
      · simp
    have ul := us_len v w
    have l2 : ((nmsT f).map D.str).length + (((nmsT g).filter fun n => !decide (n ∈ nmsT f)).map D.str).length ≤ sizeLine := by
      have := nmsT_len w
      have := List.length_filter_le (fun n => !decide (n ∈ nmsT f)) (nmsT g)
      rw [List.length_map, List.length_map]
      exact sl_ge (by omega)
    have so : sortD [.lst ((nmsT f).map D.str ++ ((nmsT g).filter fun n => !decide (n ∈ nmsT f)).map D.str)] = .ok (.lst ((us f g).map D.str)) := by
      rw [← List.map_append]
      refine sortD_strs fun n hn => ?_
      rcases List.mem_append.mp hn with z | z
      · exact nmsT_NM v n z
      · exact nmsT_NM w n (List.mem_filter.mp z).1
    obtain ⟨s', e, p1, p2, p3⟩ := for_to (e := S_joined_of.e) (b := bindT (.nm 3)) (f := L_joined_of_1 (F_joined_of j)) (u := D.str)
      (fun dn s => s.found = .ow ((dn.map (jnN (jn j) f g)).map ndD) ∧ s.first = .im (.dK (kF f)) ∧ s.second = .im (.dK (kF g))) (us f g) (by
      rintro dn n rs s e ⟨p1, p2, p3⟩ Q hQ
      have hl : dn.length < 6 := by
        have := congrArg List.length e
        simp at this
        omega
      have hn : n ∈ us f g := by rw [← e]; simp
      have k1 : 1 ≤ max (dep f) (dep g) := by
        rcases mem_us.mp hn with z | z
        · have := dep_pos z; omega
        · have := dep_pos z; omega
      have d1 := dep_inn f n
      have d2 := dep_inn g n
      have gf := get_kF f n
      have gg := get_kF g n
      have ih := joined_of_eq j (inn f n) (inn g n) M N (vf_inn v n) (vf_inn w n) (by omega) (by omega)
      have z : dn.length < sizeLine := Nat.lt_of_lt_of_le (by omega) (sl_ge (show 16777216 ≤ 16777216 by omega))
      have t0 : toDs .nil = [] := rfl
      unfold one at gf gg
      rw [t0] at gf gg
      show To S_joined_of.e Q (L_joined_of_1 (F_joined_of j) (S_joined_of.e {s with name := .im (.str n)}))
      unfold L_joined_of_1
      refine to_seq {s with name := .im (.str n), mine := .im (ndD (gq f n)), its := .im (ndD (gq g n))} (by simp [p2, p3, gf, gg]) ?_
      have x1 : ∀ q : Nd, ixT (ndD q) (.int 1) = .ok (.int q.a) := fun q => by simp [ndD]
      have x2 : ∀ q : Nd, ixT (ndD q) (.int 2) = .ok (.int q.b) := fun q => by simp [ndD]
      have x3 : ∀ q : Nd, ixT (ndD q) (.int 3) = .ok (cD q.i) := fun q => by simp [ndD]
      have ih' : F_joined_of j [cD (gq f n).i, cD (gq g n).i] = .ok (cD (jn j (inn f n) (inn g n))) := ih
      simp [p1, x1, x2, x3, ih', z]
      refine to_nx (hQ _ ⟨?_, p2, p3⟩)
      simp [jnN, ndD, gq]) (S_joined_of.mk (.im (cD f)) (.im (cD g)) (.ow []) .un (.im (.dK (kF f))) (.im (.dK (kF g))) .un .un .un) ⟨rfl, rfl, rfl⟩
    have d1 := dictP_F v
    have d2 := dictP_F w
    show runDef 9 (b_joined_of (F_joined_of j)) _ = _
    unfold b_joined_of
    rw [e_run, S_joined_of.st]
    have s1 : parO2 4 5 .c .c (geA dictP (gaCons (C_joined_of_1 (F_joined_of j)) gaNil)) (geA dictP (gaCons (C_joined_of_2 (F_joined_of j)) gaNil)) (S_joined_of.e (S_joined_of.mk (.im (cD f)) (.im (cD g)) .un .un .un .un .un .un .un)) =
        .nx (S_joined_of.e (S_joined_of.mk (.im (cD f)) (.im (cD g)) .un .un (.im (.dK (kF f))) (.im (.dK (kF g))) .un .un .un)) := by
      simp only [e_p2, e_A, e_cons, e_nil, c1, c2, R.ok_bind, d1, d2, e_ofR, e_slMc, S_joined_of.w4, S_joined_of.w5]
    have s2 : ownO 2 (geA lstD gaNil) (S_joined_of.e (S_joined_of.mk (.im (cD f)) (.im (cD g)) .un .un (.im (.dK (kF f))) (.im (.dK (kF g))) .un .un .un)) =
        .nx (S_joined_of.e (S_joined_of.mk (.im (cD f)) (.im (cD g)) (.ow []) .un (.im (.dK (kF f))) (.im (.dK (kF g))) .un .un .un)) := by simp
    have i3 : gSeq itL (geA sortD (gaCons (geOp catL (geA listDct (gaCons (geV 4) gaNil)) (C_joined_of_3 (F_joined_of j))) gaNil)) (S_joined_of.e (S_joined_of.mk (.im (cD f)) (.im (cD g)) (.ow []) .un (.im (.dK (kF f))) (.im (.dK (kF g))) .un .un .un)) = .ok ((us f g).map D.str) := by
      simp only [e_gSeq, e_A, e_cons, e_nil, e_op, e_V, S_joined_of.g4, R.ok_bind, list_kF, c3, v_cat, if_pos l2, so, e_itL]
    have jn1 : jn (j + 1) f g = mkF ((us f g).map (jnN (jn j) f g)) := rfl
    rw [e_seq, s1]
    dsimp only
    rw [e_seq, s2]
    dsimp only
    rw [e_seq, e_for, i3]
    dsimp only
    rw [e]
    dsimp only
    simp [p1, jn1, toDs_mkF]
end VP

set_option Elab.async false
set_option linter.all false
set_option maxRecDepth 100000
set_option maxHeartbeats 1000000
/-! PQ5: is_fold, need_fold, lines_of, paths. -/
namespace VP
open PySem PySem.Spec PyProof.Rows L2 LamX VS
theorem zip_pw {α : Type} {r : α → α → Prop} : ∀ {l : List α}, l.Pairwise r → ∀ x ∈ l.dropLast.zip l.tail, r x.1 x.2
  | [], _, x, hx => by cases hx
  | [a], _, x, hx => by cases hx
  | a :: b :: l, h, x, hx => by
    obtain ⟨h1, h2⟩ := List.pairwise_cons.mp h
    have e : (a :: b :: l).dropLast.zip (a :: b :: l).tail = (a, b) :: (b :: l).dropLast.zip (b :: l).tail := by cases l <;> rfl
    rw [e] at hx
    rcases List.mem_cons.mp hx with rfl | hx
    · exact h1 b List.mem_cons_self
    · exact zip_pw h2 x hx
def ppN (x : Nd × Nd) : D := .tup [ndD x.1, ndD x.2]
theorem zipD_nd (l k : List Nd) : zipD (l.map ndD) (k.map ndD) = (l.zip k).map ppN := by
  unfold zipD
  rw [List.zip_map, List.map_map]; rfl
theorem v_cmS (x y : Str) : cmS (fun i j => decide (i < j)) (.str x) (.str y) = .ok (.bl (nlt x y)) := rfl
theorem is_fold_eq : ∀ (j : Nat) (c : Cals) (M : Int), vf M c → M ≤ 1000000000 → dep c < j → F_is_fold j [cD c] = .ok (.bl true)
  | 0, c, M, v, hM, h => by omega
  | j + 1, c, M, v, hM, h => by
    have lc := tops_len6 v
    obtain ⟨v1, v2⟩ := vf_iff.mp v
    obtain ⟨s', e, p1⟩ := for_to (e := S_is_fold.e) (b := bindT (.nm 1)) (f := L_is_fold_1 (F_is_fold j)) (u := ndD)
      (fun dn s => s.thing = .im (cD c)) (tops c) (by
      rintro dn q rs s e p1 Q hQ
      have hq : q ∈ tops c := by rw [← e]; simp
      have vq := v1 q hq
      have dq := dep_tops hq
      have ih := is_fold_eq j q.i M vq.i hM (by omega)
      have nm := is_name_eq q.n vq.n
      have ca := is_count_eq q.a 0 1000000000
      have cb := is_count_eq q.b 0 1000000000
      have h1 := vq.a0
      have h2 := vq.a1
      have h3 := vq.b0
      have h4 := vq.b1
      rw [decide_eq_true h1, decide_eq_true (by omega : q.a ≤ 1000000000)] at ca
      rw [decide_eq_true h3, decide_eq_true (by omega : q.b ≤ 1000000000)] at cb
      have t : isiD .tuple (ndD q) = .ok (.bl true) := rfl
      have l4 : lenD [ndD q] = .ok (.int 4) := rfl
      have x0 : ixT (ndD q) (.int 0) = .ok (.str q.n) := by simp [ndD]
      have x1 : ixT (ndD q) (.int 1) = .ok (.int q.a) := by simp [ndD]
      have x2 : ixT (ndD q) (.int 2) = .ok (.int q.b) := by simp [ndD]
      have x3 : ixT (ndD q) (.int 3) = .ok (cD q.i) := by simp [ndD]
      simp [L_is_fold_1, t, l4, x0, x1, x2, x3, ih, nm, ca, cb]
      exact to_nx (hQ _ p1)) (S_is_fold.mk (.im (cD c)) .un .un) rfl
    have cc : C_is_fold_1 (F_is_fold j) s'.e = .ok (.lst (((tops c).dropLast.zip (tops c).tail).map fun _ => .bl true)) := by
      unfold C_is_fold_1
      have zl : ((tops c).dropLast.zip (tops c).tail).length ≤ 6 := by rw [List.length_zip, List.length_dropLast, List.length_tail]; omega
      refine compE_all (u := ppN) ((tops c).dropLast.zip (tops c).tail) ?_ (sl_ge (by omega)) fun x hx => ⟨_, rfl, ?_⟩
      · have e1 : cut (toDs c) none (some (-1)) = (tops c).dropLast.map ndD := by rw [cut_init, toDs_tops, List.map_dropLast]
        have e2 : cut (toDs c) (some 1) none = (tops c).tail.map ndD := by rw [cut_tail, toDs_tops, List.map_tail]
        have e3 : zpT [.tup ((tops c).dropLast.map ndD), .tup ((tops c).tail.map ndD)] = .ok (((tops c).dropLast.zip (tops c).tail).map ppN) := by
          show R.ok (zipD _ _) = _
          rw [zipD_nd]
        simpa [p1, e1, e2] using e3
      · have := zip_pw v2 x hx
        have x0 : ∀ q : Nd, ixT (ndD q) (.int 0) = .ok (.str q.n) := fun q => by simp [ndD]
        simp [x0, v_cmS, this]
    have al : allD [.lst (((tops c).dropLast.zip (tops c).tail).map fun _ => D.bl true)] = .ok (.bl true) := allD_true _
    have t : isiD .tuple (cD c) = .ok (.bl true) := rfl
    show runDef 3 (b_is_fold (F_is_fold j)) _ = _
    unfold b_is_fold
    rw [e_run, S_is_fold.st]
    simp [t, toDs_tops, e, cc, al]
theorem need_fold_eq {c : Cals} {M : Int} (v : vf M c) (hM : M ≤ 1000000000) (h : dep c < 8) : F_need_fold [cD c] = .ok .non := by
  have := is_fold_eq 8 c M v hM h
  unfold F_need_fold b_need_fold
  rw [e_run, S_need_fold.st]
  simp [this]
/-! lines -/
abbrev Ln := Pth × Int × Int
def lns : Cals → Pth → List Ln
  | .nil, _ => [] | .cons n a b i r, ab => (ab ++ [n], a, b) :: (lns i (ab ++ [n]) ++ lns r ab)
theorem lns_cons (n : Str) (a b : Int) (i r : Cals) (ab : Pth) : lns (.cons n a b i r) ab = (ab ++ [n], a, b) :: (lns i (ab ++ [n]) ++ lns r ab) := rfl
def lnD (x : Ln) : D := .tup [pthD x.1, .int x.2.1, .int x.2.2]
theorem lns_len (c : Cals) : ∀ ab : Pth, (lns c ab).length = cnt c := by
  induction c with
  | nil => exact fun _ => rfl
  | cons n a b i r hi hr => intro ab; rw [lns_cons, List.length_cons, List.length_append, hi, hr, cnt_cons]; omega
def lnT (ab : Pth) (l : List Nd) : List Ln := l.flatMap fun q => (ab ++ [q.n], q.a, q.b) :: lns q.i (ab ++ [q.n])
theorem lns_tops (ab : Pth) : ∀ c : Cals, lns c ab = lnT ab (tops c)
  | .nil => rfl
  | .cons n a b i r => by rw [lns_cons, lns_tops ab r]; rfl
theorem lnT_len {c : Cals} {ab : Pth} {dn rs : List Nd} {q : Nd} (e : dn ++ q :: rs = tops c) : (lnT ab dn).length + 1 + (lns q.i (ab ++ [q.n])).length ≤ cnt c := by
  have h := lns_len c ab
  rw [lns_tops, ← e] at h
  unfold lnT at *
  rw [List.flatMap_append, List.flatMap_cons, List.length_append, List.length_append, List.length_cons] at h
  omega
theorem lines_of_eq : ∀ (j : Nat) (c : Cals) (ab : Pth), dep c < j → cnt c ≤ 100000 → ab.length + dep c ≤ 1000 → F_lines_of j [cD c, pthD ab] = .ok (.lst ((lns c ab).map lnD)) := by
  intro j
  induction j with
  | zero => intro c ab h; omega
  | succ j ih =>
    intro c ab hd hc ha
    obtain ⟨s', e, p1, p2⟩ := for_to (e := S_lines_of.e) (b := bindT (.tp (.cons (.nm 3) (.cons (.nm 4) (.cons (.nm 5) (.cons (.nm 6) .nil)))))) (f := L_lines_of_1 (F_lines_of j)) (u := ndD)
      (fun dn s => s.above = .im (pthD ab) ∧ s.found = .ow ((lnT ab dn).map lnD)) (tops c) (by
        rintro dn q rs s e ⟨h2, h3⟩ Q hQ
        have hq : q ∈ tops c := by rw [← e]; simp
        have d1 := dep_tops hq
        have c1 := cnt_tops hq
        have l1 := lnT_len (ab := ab) e
        have i1 := ih q.i (ab ++ [q.n]) (by omega) (by omega) (by rw [List.length_append, List.length_cons, List.length_nil]; omega)
        have er : lnT ab (dn ++ [q]) = lnT ab dn ++ ((ab ++ [q.n], q.a, q.b) :: lns q.i (ab ++ [q.n])) := by unfold lnT; simp
        rw [er] at hQ
        obtain ⟨n, a, b, i⟩ := q
        dsimp only at i1 l1 hQ
        generalize lnT ab dn = ac at *
        generalize lns i (ab ++ [n]) = fi at *
        have z1 : ac.length < sizeLine := by rw [sizeLine_eq]; omega
        have z2 : ab.length + 1 ≤ sizeLine := by rw [sizeLine_eq]; omega
        have z3 : ac.length + 1 + fi.length ≤ sizeLine := by rw [sizeLine_eq]; omega
        unfold pthD at i1 h2
        simp only [List.map_append, List.map_cons, List.map_nil] at i1
        simp [L_lines_of_1, ndD, h2, h3, z1, z2, z3, i1]
        exact to_nx (hQ _ ⟨rfl, by simp [lnD, pthD]⟩)) (S_lines_of.mk (.im (cD c)) (.im (pthD ab)) (.ow []) .un .un .un .un) ⟨rfl, rfl⟩
    rw [← toDs_tops] at e
    rw [← lns_tops] at p2
    unfold F_lines_of b_lines_of
    rw [e_run, S_lines_of.st]
    simp [e, p2]
theorem paths_eq {c : Cals} {M : Int} (v : vf M c) (hM : M ≤ 1000000000) (h : dep c < 8) (hc : cnt c ≤ 100000) : F_paths [cD c] = .ok (.lst ((lns c []).map lnD)) := by
  have h1 := need_fold_eq v hM h
  have h2 := lines_of_eq 8 c [] h hc (by show 0 + _ ≤ _; omega)
  have e : pthD [] = .tup [] := rfl
  rw [e] at h2
  unfold F_paths b_paths
  rw [e_run, S_paths.st]
  simp [h1, h2]
end VP

set_option Elab.async false
set_option linter.all false
set_option maxRecDepth 100000
set_option maxHeartbeats 1000000
/-! PQ6: lines and what is at paths; the part at a path; times. -/
namespace VP
open PySem PySem.Spec PyProof.Rows L2 LamX VS
/-- the lines are what is at paths -/
theorem mem_lnT {ab : Pth} {l : List Nd} {x : Ln} : x ∈ lnT ab l ↔ ∃ q ∈ l, x = (ab ++ [q.n], q.a, q.b) ∨ x ∈ lns q.i (ab ++ [q.n]) := by
  unfold lnT
  rw [List.mem_flatMap]
  constructor
  · rintro ⟨q, hq, h⟩
    rcases List.mem_cons.mp h with h | h
    · exact ⟨q, hq, .inl h⟩
    · exact ⟨q, hq, .inr h⟩
  · rintro ⟨q, hq, h | h⟩
    · exact ⟨q, hq, List.mem_cons.mpr (.inl h)⟩
    · exact ⟨q, hq, List.mem_cons.mpr (.inr h)⟩
theorem mem_lns : ∀ (k : Nat) {c : Cals} {M : Int} (v : vf M c) (h : dep c ≤ k) (ab : Pth) (x : Ln), x ∈ lns c ab ↔ ∃ (n : Str) (p : Pth) (q : Nd), x.1 = ab ++ n :: p ∧ atP c n p = some q ∧ x.2 = (q.a, q.b)
  | 0, c, M, v, h, ab, x => by
    cases c with
    | cons n a b i r => rw [dep_cons] at h; omega
    | nil =>
      constructor
      · intro z; cases z
      · rintro ⟨n, p, q, _, z, _⟩; rw [atP_nil] at z; cases z
  | k + 1, c, M, v, h, ab, x => by
    rw [lns_tops, mem_lnT]
    constructor
    · rintro ⟨q, hq, z | z⟩
      · exact ⟨q.n, [], q, by rw [z], at1_of v hq, by rw [z]⟩
      · have vq := (vf_iff.mp v).1 q hq
        have dq := dep_tops hq
        obtain ⟨m, p, r, e1, e2, e3⟩ := (mem_lns k vq.i (by omega) _ x).mp z
        refine ⟨q.n, m :: p, r, by rw [e1, List.append_assoc]; rfl, ?_, e3⟩
        rw [atP]
        have : inn c q.n = q.i := by unfold inn; rw [at1_of v hq]
        rw [this]; exact e2
    · rintro ⟨n, p, q, e1, e2, e3⟩
      cases p with
      | nil =>
        have := at1_mem e2
        refine ⟨q, this.1, .inl ?_⟩
        rw [this.2]
        obtain ⟨x1, x2⟩ := x
        dsimp only at e1 e3
        rw [e1, e3]
      | cons m p =>
        rw [atP] at e2
        cases e4 : at1 c n with
        | none =>
          have : inn c n = .nil := by unfold inn; rw [e4]
          rw [this, atP_nil] at e2; cases e2
        | some r =>
          have hr := at1_mem e4
          have : inn c n = r.i := by unfold inn; rw [e4]
          rw [this] at e2
          have vr := (vf_iff.mp v).1 r hr.1
          have dr := dep_tops hr.1
          refine ⟨r, hr.1, .inr ((mem_lns k vr.i (by omega) _ x).mpr ⟨m, p, q, ?_, e2, e3⟩)⟩
          rw [e1, hr.2, List.append_assoc]; rfl
theorem mem_lns0 {c : Cals} {M : Int} (v : vf M c) (x : Ln) : x ∈ lns c [] ↔ sup c x.1 = true ∧ x.2 = (vA c x.1, vB c x.1) := by
  rw [mem_lns _ v (Nat.le_refl _)]
  constructor
  · rintro ⟨n, p, q, e1, e2, e3⟩
    rw [e1, List.nil_append]
    refine ⟨by show (atP c n p).isSome = true; rw [e2]; rfl, ?_⟩
    rw [e3]
    show _ = (fA (atP c n p), fB (atP c n p))
    rw [e2]; rfl
  · rintro ⟨h1, h2⟩
    obtain ⟨x1, x2⟩ := x
    dsimp only at h1 h2 ⊢
    cases x1 with
    | nil => cases h1
    | cons n p =>
      have h1' : (atP c n p).isSome = true := h1
      cases e : atP c n p with
      | none => rw [e] at h1'; cases h1'
      | some q =>
        refine ⟨n, p, q, rfl, e, ?_⟩
        rw [h2]
        show (fA (atP c n p), fB (atP c n p)) = _
        rw [e]; rfl
theorem lnT_pre {ab : Pth} {l : List Nd} (h : ∀ q ∈ l, ∀ x ∈ lns q.i (ab ++ [q.n]), ∃ n p, x.1 = (ab ++ [q.n]) ++ n :: p) : ∀ x ∈ lnT ab l, ∃ q ∈ l, ∃ p, x.1 = ab ++ q.n :: p := by
  intro x hx
  obtain ⟨q, hq, z | z⟩ := mem_lnT.mp hx
  · exact ⟨q, hq, [], by rw [z]⟩
  · obtain ⟨n, p, e⟩ := h q hq x z
    exact ⟨q, hq, n :: p, by rw [e, List.append_assoc]; rfl⟩
theorem lns_pw : ∀ (k : Nat) {c : Cals} {M : Int} (v : vf M c) (h : dep c ≤ k) (ab : Pth), (lns c ab).Pairwise fun x y => plt x.1 y.1 = true
  | 0, c, M, v, h, ab => by
    cases c with
    | cons n a b i r => rw [dep_cons] at h; omega
    | nil => exact .nil
  | k + 1, c, M, v, h, ab => by
    obtain ⟨v1, v2⟩ := vf_iff.mp v
    rw [lns_tops]
    have d : ∀ q ∈ tops c, dep q.i ≤ k := fun q hq => by have := dep_tops hq; omega
    revert v1 v2 d
    generalize tops c = l
    intro v1 v2 d
    have pre : ∀ q : Nd, vf M q.i → ∀ x ∈ lns q.i (ab ++ [q.n]), ∃ n p, x.1 = (ab ++ [q.n]) ++ n :: p := fun q vq x hx => by
      obtain ⟨n, p, r, e1, _⟩ := (mem_lns _ vq (Nat.le_refl _) _ x).mp hx
      exact ⟨n, p, e1⟩
    induction l with
    | nil => exact .nil
    | cons q l ih =>
      obtain ⟨h1, h2⟩ := List.pairwise_cons.mp v2
      have vq := (v1 q List.mem_cons_self).i
      have i1 := lns_pw k vq (d q List.mem_cons_self) (ab ++ [q.n])
      have i2 := ih (fun r hr => v1 r (List.mem_cons_of_mem _ hr)) h2 fun r hr => d r (List.mem_cons_of_mem _ hr)
      have p2 := lnT_pre (ab := ab) (l := l) fun r hr => pre r (v1 r (List.mem_cons_of_mem _ hr)).i
      have e : lnT ab (q :: l) = ((ab ++ [q.n], q.a, q.b) :: lns q.i (ab ++ [q.n])) ++ lnT ab l := rfl
      rw [e, List.pairwise_append]
      refine ⟨List.pairwise_cons.mpr ⟨fun x hx => ?_, i1⟩, i2, fun x hx y hy => ?_⟩
      · obtain ⟨n, p, e1⟩ := pre q vq x hx
        rw [e1]
        exact plt_more _ (by intro z; cases z)
      · obtain ⟨r, hr, p, e2⟩ := p2 y hy
        rw [e2]
        have hx' : ∃ p, x.1 = ab ++ q.n :: p := by
          rcases List.mem_cons.mp hx with rfl | hx
          · exact ⟨[], rfl⟩
          · obtain ⟨n, p, e1⟩ := pre q vq x hx
            exact ⟨n :: p, by rw [e1, List.append_assoc]; rfl⟩
        obtain ⟨p', e1⟩ := hx'
        rw [e1]
        exact plt_app _ _ _ (plt_name (h1 r hr) _ _)
theorem lns_names : ∀ (k : Nat) {c : Cals} {M : Int} (v : vf M c) (h : dep c ≤ k) (ab : Pth), (∀ n ∈ ab, n ∈ NM) → ∀ x ∈ lns c ab, okP x.1
  | 0, c, M, v, h, ab, _, x, hx => by
    cases c with
    | cons n a b i r => rw [dep_cons] at h; omega
    | nil => cases hx
  | k + 1, c, M, v, h, ab, ha, x, hx => by
    rw [lns_tops] at hx
    obtain ⟨q, hq, z⟩ := mem_lnT.mp hx
    have vq := (vf_iff.mp v).1 q hq
    have hb : ∀ n ∈ ab ++ [q.n], n ∈ NM := fun n hn => by
      rcases List.mem_append.mp hn with z | z
      · exact ha n z
      · rw [List.mem_singleton.mp z]; exact vq.n
    rcases z with z | z
    · rw [z]; exact ⟨by simp, hb⟩
    · exact lns_names k vq.i (by have := dep_tops hq; omega) _ hb x z
/-! the paths of a fold -/
def pths (c : Cals) : List Pth := (lns c []).map (·.1)
theorem mem_pths {c : Cals} {M : Int} (v : vf M c) {p : Pth} : p ∈ pths c ↔ sup c p = true := by
  unfold pths
  rw [List.mem_map]
  constructor
  · rintro ⟨x, hx, rfl⟩; exact ((mem_lns0 v x).mp hx).1
  · intro h; exact ⟨(p, vA c p, vB c p), (mem_lns0 v _).mpr ⟨h, rfl⟩, rfl⟩
theorem pths_pw {c : Cals} {M : Int} (v : vf M c) : (pths c).Pairwise fun p q => plt p q = true := List.pairwise_map.mpr (lns_pw _ v (Nat.le_refl _) [])
theorem pths_nd {c : Cals} {M : Int} (v : vf M c) : (pths c).Nodup := (pths_pw v).imp fun h => plt_ne h
theorem pths_ok {c : Cals} {M : Int} (v : vf M c) : ∀ p ∈ pths c, okP p := fun p hp => by
  obtain ⟨x, hx, rfl⟩ := List.mem_map.mp hp
  exact lns_names _ v (Nat.le_refl _) [] (fun n hn => by cases hn) x hx
theorem lns_eq {c : Cals} {M : Int} (v : vf M c) : lns c [] = (pths c).map fun p => (p, vA c p, vB c p) := by
  unfold pths
  rw [List.map_map]
  have : ∀ x ∈ lns c [], x = ((fun p => (p, vA c p, vB c p)) ∘ fun x : Ln => x.1) x := fun x hx => by
    have := ((mem_lns0 v x).mp hx).2
    obtain ⟨x1, x2⟩ := x
    dsimp only at this ⊢
    rw [this]; rfl
  conv => lhs; rw [← List.map_id (lns c [])]
  exact List.map_congr_left this
theorem pths_len (c : Cals) : (pths c).length = cnt c := by unfold pths; rw [List.length_map, lns_len]
/-! sums over parts -/
def tmF : Cals → Int
  | .nil => 0 | .cons _ _ b i r => b + tmF i + tmF r
def tm (q : Nd) : Int := q.b + tmF q.i
theorem tmF_tops : ∀ c : Cals, tmF c = ((tops c).map tm).sum
  | .nil => rfl
  | .cons n a b i r => by rw [tmF, tops, List.map_cons, List.sum_cons, tmF_tops r]; rfl
theorem tmF_nn {M : Int} : ∀ {c : Cals}, vf M c → 0 ≤ tmF c
  | .nil, _ => Int.le_refl _
  | .cons n a b i r, v => by
    rw [vf_cons] at v
    have h1 := tmF_nn v.2.2.2.2.2.1
    have h2 := tmF_nn v.2.2.2.2.2.2.1
    rw [tmF]
    have := v.2.2.2.1
    omega
theorem time_of_eq : ∀ (j : Nat) (q : Nd) (M : Int), vf M q.i → dep q.i < j → F_time_of j [ndD q] = .ok (.int (tm q))
  | 0, q, M, v, h => by omega
  | j + 1, q, M, v, h => by
    have lq := tops_len6 v
    have x2 : ixT (ndD q) (.int 2) = .ok (.int q.b) := by simp [ndD]
    have x3 : ixT (ndD q) (.int 3) = .ok (cD q.i) := by simp [ndD]
    have c1 : C_time_of_1 (F_time_of j) (S_time_of.e (S_time_of.mk (.im (ndD q)) .un)) = .ok (.lst ((tops q.i).map fun r => .int (tm r))) := by
      unfold C_time_of_1
      refine compE_all (u := ndD) (tops q.i) (by simp [x3, toDs_tops]) (sl_ge (by omega)) fun r hr => ⟨_, rfl, ?_⟩
      have vr := (vf_iff.mp v).1 r hr
      have dr := dep_tops hr
      have ih := time_of_eq j r M vr.i (by omega)
      simp [ih]
    have e : ((tops q.i).map fun r => D.int (tm r)) = ((tops q.i).map tm).map .int := by rw [List.map_map]; rfl
    have su : sumD [.lst ((tops q.i).map fun r => D.int (tm r))] = .ok (.int (tmF q.i)) := by
      unfold sumD
      dsimp only
      rw [e, intsD_map]
      dsimp only
      rw [← tmF_tops]
    unfold F_time_of b_time_of
    rw [e_run, S_time_of.st]
    have t : tm q = q.b + tmF q.i := rfl
    rw [t]
    simp [c1, su, x2]
end VP

set_option Elab.async false
set_option linter.all false
set_option maxRecDepth 100000
set_option maxHeartbeats 1000000
/-! PQ7: part_at, times_at. -/
namespace VP
open PySem PySem.Spec PyProof.Rows L2 LamX VS
/-- a loop that returns at the first item for which t tells something -/
theorem for_find {α S : Type} {e : S → VS.Env} {b : D → VS.Env → R VS.Env} {f : VS.Env → Out} {u : α → D} (P : S → Prop) (t : α → Option D) : ∀ (l : List α) (s : S), P s →
    (∀ x ∈ l, ∀ s, P s → (∀ d, t x = some d → ∃ ρ1, b (u x) (e s) = .ok ρ1 ∧ f ρ1 = .rt d) ∧ (t x = none → ∀ Q : S → Prop, (∀ s', P s' → Q s') → Bd e Q f (b (u x) (e s)))) →
    (∀ d, l.findSome? t = some d → runFor b f (l.map u) (e s) = .rt d) ∧ (l.findSome? t = none → ∃ s', runFor b f (l.map u) (e s) = .nx (e s') ∧ P s')
  | [], s, h0, H => ⟨fun d z => (by cases z), fun _ => ⟨s, rfl, h0⟩⟩
  | x :: l, s, h0, H => by
    obtain ⟨h1, h2⟩ := H x List.mem_cons_self s h0
    rw [List.findSome?_cons, List.map_cons]
    cases ex : t x with
    | some d =>
      obtain ⟨ρ1, e1, e2⟩ := h1 d ex
      refine ⟨fun d' z => ?_, fun z => (by cases z)⟩
      cases z
      unfold runFor
      rw [e1]; dsimp only
      rw [e2]
    | none =>
      have h3 := h2 ex P fun s' z => z
      cases eb : b (u x) (e s) with
      | ex c => rw [eb] at h3; exact h3.elim
      | no => rw [eb] at h3; exact h3.elim
      | ok ρ1 =>
        rw [eb] at h3
        obtain ⟨s', h4, h5⟩ := h3
        have ih := for_find P t l s' h5 fun y hy => H y (List.mem_cons_of_mem _ hy)
        have e1 : runFor b f (u x :: l.map u) (e s) = runFor b f (l.map u) (e s') := by
          conv => lhs; unfold runFor
          rw [eb]; dsimp only
          rcases h4 with h4 | h4 <;> rw [h4]
        rw [e1]
        exact ih
structure NmK (n : Str) : Prop where
  is : F_is_name [.str n] = .ok (.bl true)
  eq : ∀ x ∈ NM, cmEq (.str x) (.str n) = .ok (.bl (decide (x = n)))
theorem NmK.nm {n : Str} (h : n ∈ NM) : NmK n := ⟨is_name_eq n h, fun x hx => eq_nm hx h⟩
structure PthK (p : Pth) : Prop where
  ne : p ≠ []
  nm : ∀ n ∈ p, NmK n
  sh : shp (pthD p) = true
theorem PthK.ok {p : Pth} (h : okP p) : PthK p := ⟨h.1, fun n hn => NmK.nm (h.2 n hn), shp_okR (okR_pth h.2)⟩
def ptD : Option Nd → D | some q => ndD q | none => .non
theorem findSome_at {c : Cals} {n : Str} {α : Type} (g : Nd → α) : (tops c).findSome? (fun q => if q.n = n then some (g q) else none) = (at1 c n).bind fun q => some (g q) := by
  unfold at1
  induction tops c with
  | nil => rfl
  | cons q l ih =>
    rw [List.findSome?_cons, List.find?_cons]
    by_cases e : q.n = n
    · simp [e]
    · simp [e, ih]
def ptq (p : Pth) (q : Nd) : D := match p with | [] => ndD q | m :: p => ptD (atP q.i m p)
theorem part_at_eq : ∀ (j : Nat) (c : Cals) (M : Int) (n : Str) (p : Pth), vf M c → dep c < j → (∀ m ∈ n :: p, NmK m) → p.length ≤ 1000 → F_part_at j [cD c, pthD (n :: p)] = .ok (ptD (atP c n p))
  | 0, c, M, n, p, v, h, _, _ => by omega
  | j + 1, c, M, n, p, v, h, hn, hp => by
    have nk := hn n List.mem_cons_self
    have key := for_find (e := S_part_at.e) (b := bindT (.nm 2)) (f := L_part_at_1 (F_part_at j)) (u := ndD) (fun s => s.path = .im (pthD (n :: p)))
      (fun q => if q.n = n then some (ptq p q) else none) (tops c) (S_part_at.mk (.im (cD c)) (.im (pthD (n :: p))) .un) rfl (by
      rintro q hq s h1
      have vq := (vf_iff.mp v).1 q hq
      have dq := dep_tops hq
      have x0 : ixT (ndD q) (.int 0) = .ok (.str q.n) := by simp [ndD]
      have x3 : ixT (ndD q) (.int 3) = .ok (cD q.i) := by simp [ndD]
      have y0 : ixT (pthD (n :: p)) (.int 0) = .ok (.str n) := by unfold pthD; simp
      have ce := nk.eq q.n vq.n
      constructor
      · intro d hd
        by_cases e : q.n = n
        · rw [if_pos e] at hd
          refine ⟨_, rfl, ?_⟩
          show L_part_at_1 (F_part_at j) (S_part_at.e {s with one := .im (ndD q)}) = _
          rw [decide_eq_true e] at ce
          cases p with
          | nil =>
            cases hd
            show _ = Out.rt (ndD q)
            have ln : lenD [pthD [n]] = .ok (.int 1) := rfl
            simp [L_part_at_1, h1, x0, y0, ce, ln]
          | cons m p =>
            cases hd
            show _ = Out.rt (ptD (atP q.i m p))
            have ln : lenD [pthD (n :: m :: p)] = .ok (.int ((p.length + 1 + 1 : Nat) : Int)) := by unfold pthD; simp
            have ne : ¬ ((p.length + 1 + 1 : Nat) : Int) = 1 := by omega
            have ct : slT (pthD (n :: m :: p)) (some 1) none = .ok (pthD (m :: p)) := by
              unfold pthD
              rw [v_slT, cut_tail]; rfl
            have ih := part_at_eq j q.i M m p vq.i (by omega) (fun k hk => hn k (List.mem_cons_of_mem _ hk)) (by rw [List.length_cons] at hp; omega)
            simp [L_part_at_1, h1, x0, y0, ce, ln, ct, x3, ih]
            split
            · omega
            · simp [x3, ct, ih]
        · rw [if_neg e] at hd; cases hd
      · intro hd Q hQ
        by_cases e : q.n = n
        · rw [if_pos e] at hd; cases hd
        · rw [decide_eq_false e] at ce
          simp [L_part_at_1, h1, x0, y0, ce]
          exact to_nx (hQ _ rfl))
    have fe := findSome_at (c := c) (n := n) (fun q => ptq p q)
    rw [fe] at key
    unfold F_part_at b_part_at
    rw [e_run, S_part_at.st, e_seq, e_for]
    have i : gSeq itT (geV 0) (S_part_at.e (S_part_at.mk (.im (cD c)) (.im (pthD (n :: p))) .un)) = .ok ((tops c).map ndD) := by simp [toDs_tops]
    rw [i]
    dsimp only
    cases ea : at1 c n with
    | none =>
      rw [ea] at key
      obtain ⟨s', e, _⟩ := key.2 rfl
      rw [e]
      have : atP c n p = none := by
        cases p with
        | nil => exact ea
        | cons m p =>
          rw [atP]
          have : inn c n = .nil := by unfold inn; rw [ea]
          rw [this, atP_nil]
      rw [this]; simp [ptD]
    | some q =>
      rw [ea] at key
      have e := key.1 _ rfl
      rw [e]
      cases p with
      | nil => rw [atP, ea]; rfl
      | cons m p =>
        rw [atP]
        have : inn c n = q.i := by unfold inn; rw [ea]
        rw [this]; rfl
theorem atP_vq : ∀ (p : Pth) {c : Cals} {M : Int} (v : vf M c) {n : Str} {q : Nd}, atP c n p = some q → VQ M q ∧ dep q.i < dep c
  | [], c, M, v, n, q, h => ⟨(vf_iff.mp v).1 q (at1_mem h).1, dep_tops (at1_mem h).1⟩
  | m :: p, c, M, v, n, q, h => by
    rw [atP] at h
    have := atP_vq p (vf_inn v n) h
    have d := dep_inn c n
    exact ⟨this.1, by omega⟩
def tAt (c : Cals) : Pth → Int | [] => 0 | n :: p => match atP c n p with | some q => tm q | none => 0
theorem blsD_is (p : Pth) : allD [.lst (p.map fun _ => D.bl true)] = .ok (.bl true) := allD_true _
theorem times_at_eq {c : Cals} {M : Int} (v : vf M c) (hM : M ≤ 1000000000) (h : dep c < 8) {p : Pth} (hp : PthK p) (hl : p.length ≤ 1000) : F_times_at [cD c, pthD p] = .ok (.tup [.int (vA c p), .int (vB c p), .int (tAt c p)]) := by
  have h1 := need_fold_eq v hM h
  have h2 : F_need_path [pthD p] = .ok .non := by
    have c1 : C_need_path_1 (S_need_path.e (S_need_path.mk (.im (pthD p)) .un)) = .ok (.lst (p.map fun _ => .bl true)) := by
      unfold C_need_path_1
      refine compE_all (u := D.str) p (by simp [pthD]) (sl_ge (by omega)) fun n hn => ⟨_, rfl, ?_⟩
      have := (hp.nm n hn).is
      simp [this]
    have al := blsD_is p
    have t : isiD .tuple (pthD p) = .ok (.bl true) := rfl
    have ne : cmEq (pthD p) (.tup []) = .ok (.bl false) := by
      unfold cmEq
      rw [hp.sh]
      have hne := hp.ne
      cases p with
      | nil => exact absurd rfl hne
      | cons n p => rfl
    unfold F_need_path b_need_path
    rw [e_run, S_need_path.st]
    simp [t, ne, c1, al]
  cases p with
  | nil => exact absurd rfl hp.ne
  | cons n p =>
    have h3 := part_at_eq 8 c M n p v h hp.nm (by rw [List.length_cons] at hl; omega)
    unfold F_times_at b_times_at
    rw [e_run, S_times_at.st]
    cases ea : atP c n p with
    | none =>
      rw [ea] at h3
      have z : ptD none = .non := rfl
      rw [z] at h3
      have i : isN D.non = .ok (.bl true) := rfl
      have e1 : vA c (n :: p) = 0 := by show fA (atP c n p) = 0; rw [ea]; rfl
      have e2 : vB c (n :: p) = 0 := by show fB (atP c n p) = 0; rw [ea]; rfl
      have e3 : tAt c (n :: p) = 0 := by show (match atP c n p with | some q => tm q | none => 0) = (0 : Int); rw [ea]
      simp [h1, h2, h3, i, e1, e2, e3]
    | some q =>
      rw [ea] at h3
      have z : ptD (some q) = ndD q := rfl
      rw [z] at h3
      obtain ⟨vq, dq⟩ := atP_vq p v ea
      have i : isN (ndD q) = .ok (.bl false) := rfl
      have e1 : vA c (n :: p) = q.a := by show fA (atP c n p) = _; rw [ea]; rfl
      have e2 : vB c (n :: p) = q.b := by show fB (atP c n p) = _; rw [ea]; rfl
      have e3 : tAt c (n :: p) = tm q := by show (match atP c n p with | some q => tm q | none => 0) = _; rw [ea]
      have x1 : ixT (ndD q) (.int 1) = .ok (.int q.a) := by simp [ndD]
      have x2 : ixT (ndD q) (.int 2) = .ok (.int q.b) := by simp [ndD]
      have t := time_of_eq 8 q M vq.i (by omega)
      simp [h1, h2, h3, i, e1, e2, e3, x1, x2, t]
end VP

set_option Elab.async false
set_option linter.all false
set_option maxRecDepth 100000
set_option maxHeartbeats 1000000
/-! PQ8: apart. -/
namespace VP
open PySem PySem.Spec PyProof.Rows L2 LamX VS
abbrev pK (p : Pth) : List Key := p.map Sum.inr
theorem pK_inj {p q : Pth} (h : pK p = pK q) : p = q := eq_of_inr h
theorem pK_dec (p q : Pth) : decide (pK p = pK q) = decide (p = q) := by
  by_cases h : p = q
  · subst h; simp
  · rw [decide_eq_false h, decide_eq_false fun z => h (pK_inj z)]
theorem keysP (p : Pth) : keysD (p.map .str) = some (pK p) := keysD_str p
theorem keyV_pK (p : Pth) : (pK p).map keyV = p.map .str := by unfold pK; rw [List.map_map]; rfl
/-- tables by paths -/
def kT {α : Type} (u : α → D) (l : List (Pth × α)) : List (List Key × D) := l.map fun x => (pK x.1, u x.2)
section
variable {α : Type} (u : α → D)
def lkP (l : List (Pth × α)) (p : Pth) : Option α := (l.find? fun x => decide (x.1 = p)).map (·.2)
theorem lk_kT (l : List (Pth × α)) (p : Pth) : lk (kT u l) (pK p) = (lkP l p).map u := by
  unfold lk kT lkP
  induction l with
  | nil => rfl
  | cons x l ih =>
    rw [List.map_cons, List.find?_cons, List.find?_cons, pK_dec]
    by_cases h : x.1 = p
    · simp [h]
    · simp only [h, decide_false]
      exact ih
theorem look_kT (l : List (Pth × α)) (p : Pth) : look (.dT (kT u l)) (pthD p) = some ((lkP l p).map u) := by
  show (keysD (p.map .str)).map (fun k => lk (kT u l) k) = _
  rw [keysP, Option.map_some, lk_kT]
theorem get_kT (l : List (Pth × α)) (p : Pth) (x : D) : getD2 (.dT (kT u l)) (pthD p) x = .ok (((lkP l p).map u).getD x) := by unfold getD2; rw [look_kT]
theorem ix_kT {l : List (Pth × α)} {p : Pth} {a : α} (h : lkP l p = some a) : ixD (.dT (kT u l)) (pthD p) = .ok (u a) := by unfold ixD; rw [look_kT, h]; rfl
theorem in_kT (neg : Bool) (l : List (Pth × α)) (p : Pth) : inD neg (pthD p) (.dT (kT u l)) = .ok (.bl (if neg then !(lkP l p).isSome else (lkP l p).isSome)) := by unfold inD; rw [look_kT]; dsimp only; rw [Option.isSome_map]
theorem keys_kT (l : List (Pth × α)) : keysOf (.dT (kT u l)) = some ((l.map (·.1)).map pthD) := by
  show some ((kT u l).map fun kd => D.tup (kd.1.map keyV)) = _
  unfold kT
  rw [List.map_map, List.map_map]
  congr 1
  refine List.map_congr_left fun x _ => ?_
  show D.tup ((pK x.1).map keyV) = _
  rw [keyV_pK]; rfl
theorem list_kT (l : List (Pth × α)) : listDctT [.dT (kT u l)] = .ok (.lst ((l.map (·.1)).map pthD)) := by
  show R.ok (D.lst ((kT u l).map fun kd => tupK kd.1)) = _
  unfold kT
  rw [List.map_map, List.map_map]
  congr 2
  refine List.map_congr_left fun x _ => ?_
  show D.tup ((pK x.1).map keyV) = _
  rw [keyV_pK]; rfl
theorem pairs_kT (l : List (Pth × α)) : pairsQ (l.map fun x => .tup [pthD x.1, u x.2]) = some (kT u l) := by
  induction l with
  | nil => rfl
  | cons x l ih =>
    rw [List.map_cons, pairsQ, ih]
    show (match (keysD (x.1.map .str)).map (fun k => (k, u x.2)), some (kT u l) with | some p, some ps => some (p :: ps) | _, _ => none) = _
    rw [keysP]; rfl
theorem nd_pK {l : List (Pth × α)} (nd : (l.map (·.1)).Nodup) : ((kT u l).map (·.1)).Nodup := by
  unfold kT
  rw [List.map_map]
  have e : (l.map ((fun x : List Key × D => x.1) ∘ fun x => (pK x.1, u x.2))) = (l.map (·.1)).map pK := by rw [List.map_map]; rfl
  rw [e, List.nodup_iff_pairwise_ne, List.pairwise_map]
  rw [List.nodup_iff_pairwise_ne] at nd
  exact nd.imp fun h e => h (pK_inj e)
theorem dictQ_kT {l : List (Pth × α)} (nd : (l.map (·.1)).Nodup) : dictQ [.lst (l.map fun x => .tup [pthD x.1, u x.2])] = .ok (.dT (kT u l)) := by
  show (match pairsQ (l.map fun x => .tup [pthD x.1, u x.2]) with | some kvs => R.ok (D.dT (VS.mg [] kvs)) | none => .no) = _
  rw [pairs_kT]
  dsimp only
  rw [mg_nd (kvs := []) (by rw [List.nil_append]; exact nd_pK u nd)]; rfl
theorem lkP_map {l : List Pth} {f : Pth → α} (p : Pth) : lkP (l.map fun p => (p, f p)) p = if p ∈ l then some (f p) else none := by
  unfold lkP
  induction l with
  | nil => rfl
  | cons q l ih =>
    rw [List.map_cons, List.find?_cons]
    by_cases h : q = p
    · subst h; simp
    · have h2 : ¬ p = q := fun e => h e.symm
      simp only [h, decide_false]
      rw [ih]
      simp [h2]
end
abbrev tB (c : Cals) : List (Pth × Int) := (pths c).map fun p => (p, vB c p)
theorem lkP_tB {c : Cals} {M : Int} (v : vf M c) (p : Pth) : lkP (tB c) p = if sup c p = true then some (vB c p) else none := by
  rw [lkP_map]
  by_cases h : sup c p = true
  · rw [if_pos h, if_pos ((mem_pths v).mpr h)]
  · rw [if_neg h, if_neg fun z => h ((mem_pths v).mp z)]
theorem vB_out {c : Cals} {p : Pth} (h : sup c p = false) : vB c p = 0 := by
  cases p with
  | nil => rfl
  | cons n p =>
    have h' : (atP c n p).isSome = false := h
    show fB (atP c n p) = 0
    cases e : atP c n p with
    | none => rfl
    | some q => rw [e] at h'; cases h'
theorem vA_out {c : Cals} {p : Pth} (h : sup c p = false) : vA c p = 0 := by
  cases p with
  | nil => rfl
  | cons n p =>
    have h' : (atP c n p).isSome = false := h
    show fA (atP c n p) = 0
    cases e : atP c n p with
    | none => rfl
    | some q => rw [e] at h'; cases h'
theorem get_tB {c : Cals} {M : Int} (v : vf M c) (p : Pth) : getD2 (.dT (kT D.int (tB c))) (pthD p) (.int 0) = .ok (.int (vB c p)) := by
  rw [get_kT, lkP_tB v]
  cases h : sup c p with
  | true => rfl
  | false => rw [vB_out h]; rfl
theorem in_tB {c : Cals} {M : Int} (v : vf M c) (p : Pth) : inD true (pthD p) (.dT (kT D.int (tB c))) = .ok (.bl (!sup c p)) := by
  rw [in_kT, lkP_tB v]
  cases h : sup c p <;> rfl
def apU (f g : Cals) : List Pth := srtP (pths f ++ (pths g).filter fun p => !sup f p)
def apX (x : Pth × Int) : D := .tup [pthD x.1, .int x.2]
def apL (f g : Cals) : List (Pth × Int) := ((apU f g).filter fun p => !decide (vB g p - vB f p = 0)).map fun p => (p, vB g p - vB f p)
theorem mem_apU {f g : Cals} {M N : Int} (v : vf M f) (w : vf N g) {p : Pth} : p ∈ apU f g ↔ sup f p = true ∨ sup g p = true := by
  unfold apU
  rw [(srtP_perm _).mem_iff, List.mem_append, List.mem_filter, mem_pths v, mem_pths w]
  cases h : sup f p <;> simp
theorem apU_nd {f g : Cals} {M N : Int} (v : vf M f) (w : vf N g) : (apU f g).Nodup := by
  unfold apU
  rw [(srtP_perm _).nodup_iff, List.nodup_append]
  refine ⟨pths_nd v, (pths_nd w).filter _, fun a ha b hb e => ?_⟩
  subst e
  have := (List.mem_filter.mp hb).2
  rw [(mem_pths v).mp ha] at this
  cases this
theorem apU_ok {f g : Cals} {M N : Int} (v : vf M f) (w : vf N g) : ∀ p ∈ pths f ++ (pths g).filter fun p => !sup f p, okP p := fun p h => by
  rcases List.mem_append.mp h with z | z
  · exact pths_ok v p z
  · exact pths_ok w p (List.mem_filter.mp z).1
theorem apart_eq {f g : Cals} {M N : Int} (v : vf M f) (w : vf N g) (hM : M ≤ 1000000000) (hN : N ≤ 1000000000) (h1 : dep f < 8) (h2 : dep g < 8) (c1 : cnt f ≤ 10000) (c2 : cnt g ≤ 10000) : F_apart [cD f, cD g] = .ok (.lst ((apL f g).map apX)) := by
  have n1 := need_fold_eq v hM h1
  have n2 := need_fold_eq w hN h2
  have l1 := lines_of_eq 8 f [] h1 (by omega) (by show 0 + _ ≤ _; omega)
  have l2 := lines_of_eq 8 g [] h2 (by omega) (by show 0 + _ ≤ _; omega)
  have e0 : pthD [] = .tup [] := rfl
  rw [e0] at l1 l2
  have k1 : C_apart_1 (S_apart.e (S_apart.mk (.im (cD f)) (.im (cD g)) .un .un .un .un .un .un .un)) = .ok (.lst ((tB f).map fun x => .tup [pthD x.1, .int x.2])) := by
    have : ((tB f).map fun x => D.tup [pthD x.1, .int x.2]) = (lns f []).map fun x => D.tup [pthD x.1, .int x.2.2] := by rw [lns_eq v, List.map_map, List.map_map]; rfl
    rw [this]
    unfold C_apart_1
    refine compE_all (u := lnD) (lns f []) (by simp [l1]) (sl_ge (by rw [lns_len]; omega)) fun x hx => ⟨_, rfl, ?_⟩
    show (geA tupD (gaCons (geV 5) (gaCons (geV 8) gaNil))) (S_apart.e (S_apart.mk (.im (cD f)) (.im (cD g)) .un .un .un (.im (pthD x.1)) .un (.im (.int x.2.1)) (.im (.int x.2.2)))) = _
    simp
  have k2 : ∀ d, C_apart_2 (S_apart.e (S_apart.mk (.im (cD f)) (.im (cD g)) d .un .un .un .un .un .un)) = .ok (.lst ((tB g).map fun x => .tup [pthD x.1, .int x.2])) := fun d => by
    have : ((tB g).map fun x => D.tup [pthD x.1, .int x.2]) = (lns g []).map fun x => D.tup [pthD x.1, .int x.2.2] := by rw [lns_eq w, List.map_map, List.map_map]; rfl
    rw [this]
    unfold C_apart_2
    refine compE_all (u := lnD) (lns g []) (by simp [l2]) (sl_ge (by rw [lns_len]; omega)) fun x hx => ⟨_, rfl, ?_⟩
    show (geA tupD (gaCons (geV 5) (gaCons (geV 8) gaNil))) (S_apart.e (S_apart.mk (.im (cD f)) (.im (cD g)) d .un .un (.im (pthD x.1)) .un (.im (.int x.2.1)) (.im (.int x.2.2)))) = _
    simp
  have f1 : (tB f).map (·.1) = pths f := by rw [List.map_map]; exact List.map_id _
  have f2 : (tB g).map (·.1) = pths g := by rw [List.map_map]; exact List.map_id _
  have nd1 : ((tB f).map (·.1)).Nodup := by rw [f1]; exact pths_nd v
  have nd2 : ((tB g).map (·.1)).Nodup := by rw [f2]; exact pths_nd w
  have q1 := dictQ_kT D.int nd1
  have q2 := dictQ_kT D.int nd2
  have k3 : C_apart_3 (S_apart.e (S_apart.mk (.im (cD f)) (.im (cD g)) (.im (.dT (kT D.int (tB f)))) (.im (.dT (kT D.int (tB g)))) (.ow []) .un .un .un .un)) = .ok (.lst (((pths g).filter fun p => !sup f p).map pthD)) := by
    unfold C_apart_3
    rw [e_cd]
    have kk := keys_kT D.int (tB g)
    rw [f2] at kk
    simp only [S_apart.g3, kk]
    refine compE_filter (u := pthD) (pths g) rfl (sl_ge (by rw [pths_len]; omega)) fun p hp => ⟨_, rfl, ?_, fun _ => ?_⟩
    · have := in_tB v p
      simp [this]
    · simp
  have ls := list_kT D.int (tB f)
  rw [f1] at ls
  have z1 : ((pths f).map pthD).length + (((pths g).filter fun p => !sup f p).map pthD).length ≤ sizeLine := by
    rw [List.length_map, List.length_map]
    have := List.length_filter_le (fun p => !sup f p) (pths g)
    have := pths_len f
    have := pths_len g
    exact sl_ge (by omega)
  have so : sortD [.lst ((pths f).map pthD ++ ((pths g).filter fun p => !sup f p).map pthD)] = .ok (.lst ((apU f g).map pthD)) := by
    rw [← List.map_append]; exact sortD_pths (apU_ok v w)
  have ul : (apU f g).length ≤ 20000 := by
    unfold apU
    rw [(srtP_perm _).length_eq, List.length_append]
    have := List.length_filter_le (fun p => !sup f p) (pths g)
    have := pths_len f
    have := pths_len g
    omega
  obtain ⟨s', e, p1, p2, p3⟩ := for_to (e := S_apart.e) (b := bindT (.nm 5)) (f := L_apart_1) (u := pthD)
    (fun dn s => s.found = .ow (((dn.filter fun p => !decide (vB g p - vB f p = 0)).map fun p => (p, vB g p - vB f p)).map apX) ∧ s.first = .im (.dT (kT D.int (tB f))) ∧ s.second = .im (.dT (kT D.int (tB g)))) (apU f g) (by
    rintro dn p rs s e ⟨p1, p2, p3⟩ Q hQ
    have hl : dn.length < 20000 := by
      have := congrArg List.length e
      simp at this
      omega
    have z : (dn.filter fun p => !decide (vB g p - vB f p = 0)).length < sizeLine := by
      have := List.length_filter_le (fun p => !decide (vB g p - vB f p = 0)) dn
      rw [sizeLine_eq]; omega
    have g1 := get_tB v p
    have g2 := get_tB w p
    rw [List.filter_append] at hQ
    show To S_apart.e Q (L_apart_1 (S_apart.e {s with path := .im (pthD p)}))
    unfold L_apart_1
    generalize kT D.int (tB f) = T1 at *
    generalize kT D.int (tB g) = T2 at *
    refine to_seq {s with path := .im (pthD p), less := .im (.int (vB g p - vB f p))} (by simp [p2, p3, g1, g2]) ?_
    by_cases h : vB g p - vB f p = 0
    · simp [h]
      refine to_nx (hQ _ ⟨?_, p2, p3⟩)
      simp [p1, h]
    · simp [h, p1, z]
      refine to_nx (hQ _ ⟨?_, p2, p3⟩)
      simp [h, apX]) (S_apart.mk (.im (cD f)) (.im (cD g)) (.im (.dT (kT D.int (tB f)))) (.im (.dT (kT D.int (tB g)))) (.ow []) .un .un .un .un) ⟨rfl, rfl, rfl⟩
  have i3 : gSeq itL (geA sortD (gaCons (geOp catL (geA listDctT (gaCons (geV 2) gaNil)) C_apart_3) gaNil)) (S_apart.e (S_apart.mk (.im (cD f)) (.im (cD g)) (.im (.dT (kT D.int (tB f)))) (.im (.dT (kT D.int (tB g)))) (.ow []) .un .un .un .un)) = .ok ((apU f g).map pthD) := by
    simp only [e_gSeq, e_A, e_cons, e_nil, e_op, e_V, S_apart.g2, R.ok_bind, ls, k3, v_cat, if_pos z1, so, e_itL]
  unfold F_apart b_apart
  rw [e_run, S_apart.st]
  have t1 : ofR (geA F_need_fold (gaCons (geV 0) gaNil) (S_apart.e (S_apart.mk (.im (cD f)) (.im (cD g)) .un .un .un .un .un .un .un))) (fun _ => Out.nx (S_apart.e (S_apart.mk (.im (cD f)) (.im (cD g)) .un .un .un .un .un .un .un))) = Out.nx (S_apart.e (S_apart.mk (.im (cD f)) (.im (cD g)) .un .un .un .un .un .un .un)) := by simp [n1]
  have t2 : ofR (geA F_need_fold (gaCons (geV 1) gaNil) (S_apart.e (S_apart.mk (.im (cD f)) (.im (cD g)) .un .un .un .un .un .un .un))) (fun _ => Out.nx (S_apart.e (S_apart.mk (.im (cD f)) (.im (cD g)) .un .un .un .un .un .un .un))) = Out.nx (S_apart.e (S_apart.mk (.im (cD f)) (.im (cD g)) .un .un .un .un .un .un .un)) := by simp [n2]
  rw [e_seq, t1]
  dsimp only
  rw [e_seq, t2]
  dsimp only
  rw [e_seq]
  simp only [e_A, e_cons, e_nil, k1, R.ok_bind, q1, e_ofR, S_apart.w2]
  rw [e_seq]
  simp only [e_A, e_cons, e_nil, k2, R.ok_bind, q2, e_ofR, S_apart.w3]
  rw [e_seq]
  simp only [e_own, e_A, e_nil, R.ok_bind, v_lstD _ (show ([] : List D).length ≤ 1000 by show 0 ≤ 1000; omega), e_ofR, e_slOl, S_apart.w4]
  rw [e_seq, e_for, i3]
  dsimp only
  rw [e]
  dsimp only
  simp [p1, apL]
end VP

set_option Elab.async false
set_option linter.all false
set_option maxRecDepth 100000
set_option maxHeartbeats 1000000
/-! PQ9: pruned. -/
namespace VP
open PySem PySem.Spec PyProof.Rows L2 LamX VS
def big (L : Int) (c : Cals) : List Nd := (tops c).filter fun q => decide (L ≤ tm q)
def gone (L : Int) (c : Cals) : Int := (((tops c).filter fun q => decide (tm q < L)).map tm).sum
def prN (self : List Nd → Cals) (L : Int) (q : Nd) : Nd := ⟨q.n, q.a, q.b + gone L q.i, self (big L q.i)⟩
def prF : Nat → Int → List Nd → Cals
  | 0, _, _ => .nil
  | j + 1, L, l => mkF (l.map (prN (prF j L) L))
theorem pruned_of_eq : ∀ (j : Nat) (L : Int) (l : List Nd) (d : D) (M : Int), itA d = .ok (l.map ndD) → (∀ q ∈ l, vf M q.i ∧ dep q.i + 2 ≤ j ∧ dep q.i < 8) → l.length ≤ 6 → 1 ≤ j → F_pruned_of j [d, .int L] = .ok (cD (prF j L l))
  | 0, L, l, d, M, hd, h, hl, h0 => by omega
  | j + 1, L, l, d, M, hd, h, hl, _ => by
    obtain ⟨s', e, p1, p2⟩ := for_to (e := S_pruned_of.e) (b := bindT (.tp (.cons (.nm 3) (.cons (.nm 4) (.cons (.nm 5) (.cons (.nm 6) .nil)))))) (f := L_pruned_of_1 (F_pruned_of j)) (u := ndD)
      (fun dn s => s.least = .im (.int L) ∧ s.found = .ow ((dn.map (prN (prF j L) L)).map ndD)) l (by
      rintro dn q rs s e ⟨h1, h2⟩ Q hQ
      have hq : q ∈ l := by rw [← e]; simp
      obtain ⟨vq, dq, dq8⟩ := h q hq
      have lq := tops_len6 vq
      have hl2 : dn.length < sizeLine := by
        have := congrArg List.length e
        simp at this
        rw [sizeLine_eq]; omega
      have vi := fun r hr => (vf_iff.mp vq).1 r hr
      have tq : ∀ r ∈ tops q.i, F_time_of 8 [ndD r] = .ok (.int (tm r)) := fun r hr => time_of_eq 8 r M (vi r hr).i (by have := dep_tops hr; omega)
      obtain ⟨sq, hsq⟩ : ∃ sq, sq = {s with name := .im (.str q.n), many := .im (.int q.a), time := .im (.int q.b), inner := .im (cD q.i)} := ⟨_, rfl⟩
      have g1 : sq.least = .im (.int L) := by rw [hsq]; exact h1
      have g2 : sq.inner = .im (cD q.i) := by rw [hsq]
      have g3 : sq.found = .ow ((dn.map (prN (prF j L) L)).map ndD) := by rw [hsq]; exact h2
      have g4 : sq.name = .im (.str q.n) := by rw [hsq]
      have g5 : sq.many = .im (.int q.a) := by rw [hsq]
      have g6 : sq.time = .im (.int q.b) := by rw [hsq]
      have k1 : C_pruned_of_1 (F_pruned_of j) sq.e = .ok (.lst ((big L q.i).map ndD)) := by
        unfold C_pruned_of_1
        refine compE_filter (u := ndD) (tops q.i) (by simp [g2, toDs_tops]) (sl_ge (by omega)) fun r hr => ⟨S_pruned_of.e {sq with one := .im (ndD r)}, rfl, ?_, fun _ => ?_⟩
        · simp [tq r hr, g1]
        · simp
      have k2 : ∀ u, C_pruned_of_2 (F_pruned_of j) (S_pruned_of.e {sq with kept := u}) = .ok (.lst (((tops q.i).filter fun q => decide (tm q < L)).map fun r => .int (tm r))) := fun u => by
        unfold C_pruned_of_2
        refine compE_filter (u := ndD) (tops q.i) (by simp [g2, toDs_tops]) (sl_ge (by omega)) fun r hr => ⟨S_pruned_of.e {sq with kept := u, one := .im (ndD r)}, rfl, ?_, fun _ => ?_⟩
        · simp [tq r hr, g1]
        · simp [tq r hr]
      have su : sumD [.lst (((tops q.i).filter fun q => decide (tm q < L)).map fun r => D.int (tm r))] = .ok (.int (gone L q.i)) := by
        have e2 : (((tops q.i).filter fun q => decide (tm q < L)).map fun r => D.int (tm r)) = (((tops q.i).filter fun q => decide (tm q < L)).map tm).map .int := by rw [List.map_map]; rfl
        unfold sumD
        dsimp only
        rw [e2, intsD_map]; rfl
      have bl : (big L q.i).length ≤ 6 := Nat.le_trans (List.length_filter_le _ _) lq
      have jn0 : F_pruned_of j [.lst ((big L q.i).map ndD), .int L] = .ok (cD (prF j L (big L q.i))) := by
        cases j with
        | zero =>
          exfalso
          omega
        | succ j =>
          exact pruned_of_eq (j + 1) L (big L q.i) _ M rfl (fun r hr => by
            have hr' := (List.mem_filter.mp hr).1
            have := dep_tops hr'
            exact ⟨(vi r hr').i, by omega, by omega⟩) bl (by omega)
      show To S_pruned_of.e Q (L_pruned_of_1 (F_pruned_of j) (S_pruned_of.e {s with name := .im (.str q.n), many := .im (.int q.a), time := .im (.int q.b), inner := .im (cD q.i)}))
      rw [← hsq]
      unfold L_pruned_of_1
      refine to_seq {sq with kept := .ow ((big L q.i).map ndD)} (by simp [k1]) ?_
      refine to_seq {sq with kept := .ow ((big L q.i).map ndD), gone := .im (.int (gone L q.i))} (by simp [k2, su]) ?_
      generalize hB : (big L q.i).map ndD = B at *
      simp [g1, g3, g4, g5, g6, jn0, hl2]
      refine to_nx (hQ _ ⟨rfl, ?_⟩)
      simp [prN, ndD]) (S_pruned_of.mk (.im d) (.im (.int L)) (.ow []) .un .un .un .un .un .un .un) ⟨rfl, rfl⟩
    have e1 : prF (j + 1) L l = mkF (l.map (prN (prF j L) L)) := rfl
    unfold F_pruned_of b_pruned_of
    rw [e_run, S_pruned_of.st]
    have i : gSeq itA (geV 0) (S_pruned_of.e (S_pruned_of.mk (.im d) (.im (.int L)) (.ow []) .un .un .un .un .un .un .un)) = .ok (l.map ndD) := by simp [hd]
    simp [hd, e, p2, e1, toDs_mkF]
def pr (L : Int) (c : Cals) : Cals := prF 8 L (tops c)
theorem pruned_eq {c : Cals} {M : Int} (v : vf M c) (hM : M ≤ 1000000000) (h : dep c < 8) {L : Int} (h0 : 0 ≤ L) (h1 : L ≤ 1000000) : F_pruned [cD c, .int L] = .ok (cD (pr L c)) := by
  have n1 := need_fold_eq v hM h
  have ic := is_count_eq L 0 1000000
  rw [decide_eq_true h0, decide_eq_true h1] at ic
  have k := pruned_of_eq 8 L (tops c) (cD c) M (by rw [← toDs_tops]; rfl) (fun q hq => by have := dep_tops hq; exact ⟨((vf_iff.mp v).1 q hq).i, by omega, by omega⟩) (tops_len6 v) (by omega)
  unfold F_pruned b_pruned
  rw [e_run, S_pruned.st]
  simp [n1, ic, k, pr]
/-! what pruning leaves -/
theorem sum_filter (f : Nd → Int) (p : Nd → Bool) : ∀ l : List Nd, (l.map f).sum = ((l.filter p).map f).sum + ((l.filter fun q => !p q).map f).sum
  | [] => rfl
  | q :: l => by
    have ih := sum_filter f p l
    rw [List.map_cons, List.sum_cons, ih, List.filter_cons, List.filter_cons]
    cases p q <;> simp <;> omega
theorem tops_split (L : Int) (c : Cals) : tmF c = gone L c + ((big L c).map tm).sum := by
  rw [tmF_tops, sum_filter tm (fun q => decide (tm q < L))]
  unfold gone big
  have : (fun q : Nd => !decide (tm q < L)) = fun q => decide (L ≤ tm q) := by
    funext q
    by_cases h : tm q < L
    · rw [decide_eq_true h, decide_eq_false (by omega)]; rfl
    · rw [decide_eq_false h, decide_eq_true (by omega)]; rfl
  rw [this]
theorem tm_prF : ∀ (j : Nat) (L : Int) (l : List Nd), (∀ q ∈ l, dep q.i < j) → tmF (prF j L l) = (l.map tm).sum
  | 0, L, l, h => by
    cases l with
    | nil => rfl
    | cons q l => exact absurd (h q List.mem_cons_self) (Nat.not_lt_zero _)
  | j + 1, L, l, h => by
    have e1 : prF (j + 1) L l = mkF (l.map (prN (prF j L) L)) := rfl
    rw [e1, tmF_tops, tops_mkF, List.map_map]
    congr 1
    refine List.map_congr_left fun q hq => ?_
    show q.b + gone L q.i + tmF (prF j L (big L q.i)) = q.b + tmF q.i
    rw [tm_prF j L (big L q.i) fun r hr => by have := dep_tops (List.mem_filter.mp hr).1; have := h q hq; omega, tops_split L q.i]
    omega
theorem tm_prN {j : Nat} {L : Int} {q : Nd} (h : dep q.i ≤ j) : tm (prN (prF j L) L q) = tm q := by
  show q.b + gone L q.i + tmF (prF j L (big L q.i)) = q.b + tmF q.i
  rw [tm_prF j L (big L q.i) fun r hr => by have := dep_tops (List.mem_filter.mp hr).1; omega, tops_split L q.i]
  omega
theorem filter_all {α : Type} {p : α → Bool} {l : List α} (h : ∀ x ∈ l, p x = true) : l.filter p = l := List.filter_eq_self.mpr h
theorem filter_none {α : Type} {p : α → Bool} {l : List α} (h : ∀ x ∈ l, p x = false) : l.filter p = [] := List.filter_eq_nil_iff.mpr fun x hx => by rw [h x hx]; decide
theorem big_all {L : Int} {c : Cals} (h : ∀ q ∈ tops c, L ≤ tm q) : big L c = tops c ∧ gone L c = 0 := by
  refine ⟨filter_all fun q hq => decide_eq_true (h q hq), ?_⟩
  unfold gone
  rw [filter_none fun q hq => decide_eq_false (by have := h q hq; omega)]; rfl
theorem prF_again : ∀ (j : Nat) (L : Int) (l : List Nd), (∀ q ∈ l, dep q.i < j) → prF j L (tops (prF j L l)) = prF j L l
  | 0, L, l, h => rfl
  | j + 1, L, l, h => by
    have e1 : prF (j + 1) L l = mkF (l.map (prN (prF j L) L)) := rfl
    have e2 : prF (j + 1) L (l.map (prN (prF j L) L)) = mkF ((l.map (prN (prF j L) L)).map (prN (prF j L) L)) := rfl
    rw [e1, tops_mkF, e2, List.map_map]
    congr 1
    refine List.map_congr_left fun q hq => ?_
    have hd : ∀ r ∈ big L q.i, dep r.i < j := fun r hr => by have := dep_tops (List.mem_filter.mp hr).1; have := h q hq; omega
    have hb : ∀ r ∈ tops (prF j L (big L q.i)), L ≤ tm r := by
      cases j with
      | zero => intro r hr; cases hr
      | succ j =>
        intro r hr
        have e3 : prF (j + 1) L (big L q.i) = mkF ((big L q.i).map (prN (prF j L) L)) := rfl
        rw [e3, tops_mkF] at hr
        obtain ⟨x, hx, rfl⟩ := List.mem_map.mp hr
        rw [tm_prN (by have := hd x hx; omega)]
        exact of_decide_eq_true (List.mem_filter.mp hx).2
    obtain ⟨b1, b2⟩ := big_all hb
    show prN (prF j L) L ⟨q.n, q.a, q.b + gone L q.i, prF j L (big L q.i)⟩ = ⟨q.n, q.a, q.b + gone L q.i, prF j L (big L q.i)⟩
    show (⟨q.n, q.a, q.b + gone L q.i + gone L (prF j L (big L q.i)), prF j L (big L (prF j L (big L q.i)))⟩ : Nd) = _
    rw [b1, b2, prF_again j L (big L q.i) hd, Int.add_zero]
theorem prF_nought : ∀ (j : Nat) {M : Int} (c : Cals), vf M c → dep c ≤ j → prF j 0 (tops c) = c
  | 0, M, c, v, h => by
    cases c with
    | nil => rfl
    | cons n a b i r => rw [dep_cons] at h; omega
  | j + 1, M, c, v, h => by
    have e1 : prF (j + 1) 0 (tops c) = mkF ((tops c).map (prN (prF j 0) 0)) := rfl
    rw [e1]
    conv => rhs; rw [← mkF_tops c]
    congr 1
    conv => rhs; rw [← List.map_id (tops c)]
    refine List.map_congr_left fun q hq => ?_
    have vq := (vf_iff.mp v).1 q hq
    have dq := dep_tops hq
    have hb : ∀ r ∈ tops q.i, 0 ≤ tm r := fun r hr => by
      have vr := (vf_iff.mp vq.i).1 r hr
      have := tmF_nn vr.i
      have := vr.b0
      unfold tm; omega
    obtain ⟨b1, b2⟩ := big_all hb
    show (⟨q.n, q.a, q.b + gone 0 q.i, prF j 0 (big 0 q.i)⟩ : Nd) = q
    rw [b1, b2, prF_nought j q.i vq.i (by omega), Int.add_zero]
/-- parts of lists with names told once -/
theorem at1_mkmap {l : List Nd} {g : Nd → Nd} (hg : ∀ q, (g q).n = q.n) (n : Str) : at1 (mkF (l.map g)) n = (at1 (mkF l) n).map g := by
  unfold at1
  rw [tops_mkF, tops_mkF]
  induction l with
  | nil => rfl
  | cons q l ih =>
    rw [List.map_cons, List.find?_cons, List.find?_cons, hg]
    by_cases e : q.n = n
    · simp [e]
    · simp only [e, decide_false]; exact ih
theorem at1_pr (j : Nat) (L : Int) (l : List Nd) (n : Str) : at1 (prF (j + 1) L l) n = (at1 (mkF l) n).map (prN (prF j L) L) := at1_mkmap (g := prN (prF j L) L) (fun _ => rfl) n
theorem inn_pr {j : Nat} {L : Int} {l : List Nd} {n : Str} {q : Nd} (h : at1 (mkF l) n = some q) : inn (prF (j + 1) L l) n = prF j L (big L q.i) := by
  have e := at1_pr j L l n
  rw [h] at e
  show (match at1 (prF (j + 1) L l) n with | some q => q.i | none => Cals.nil) = _
  rw [e]; rfl
theorem inn_pr0 {j : Nat} {L : Int} {l : List Nd} {n : Str} (h : at1 (mkF l) n = none) : inn (prF (j + 1) L l) n = .nil := by
  have e := at1_pr j L l n
  rw [h] at e
  show (match at1 (prF (j + 1) L l) n with | some q => q.i | none => Cals.nil) = _
  rw [e]; rfl
theorem at1_sub {l : List Nd} {c : Cals} {M : Int} (v : vf M c) (h : ∀ q ∈ l, q ∈ tops c) {n : Str} {q : Nd} (e : at1 (mkF l) n = some q) : at1 c n = some q := by
  have := at1_mem e
  rw [tops_mkF] at this
  rw [← this.2]
  exact at1_of v (h q this.1)
/-- what is at a path of the pruned is at it in the other, for as long -/
theorem at_prF : ∀ (p : Pth) (j : Nat) (L : Int) (l : List Nd) (c : Cals) (M : Int), vf M c → (∀ q ∈ l, q ∈ tops c) → (∀ q ∈ l, dep q.i < j) → ∀ (n : Str) (r : Nd), atP (prF j L l) n p = some r → ∃ q, atP c n p = some q ∧ tm r = tm q
  | p, 0, L, l, c, M, v, hs, hd, n, r, h => by
    rw [prF, atP_nil] at h; cases h
  | [], j + 1, L, l, c, M, v, hs, hd, n, r, h => by
    have e1 : prF (j + 1) L l = mkF (l.map (prN (prF j L) L)) := rfl
    rw [atP, at1_pr] at h
    cases e : at1 (mkF l) n with
    | none => rw [e] at h; cases h
    | some q =>
      rw [e] at h; cases h
      have hq := (at1_mem e).1
      rw [tops_mkF] at hq
      exact ⟨q, at1_sub v hs e, tm_prN (by have := hd q hq; omega)⟩
  | m :: p, j + 1, L, l, c, M, v, hs, hd, n, r, h => by
    have e1 : prF (j + 1) L l = mkF (l.map (prN (prF j L) L)) := rfl
    rw [atP] at h
    cases e : at1 (mkF l) n with
    | none =>
      rw [inn_pr0 e, atP_nil] at h; cases h
    | some q =>
      have i1 := inn_pr (j := j) (L := L) e
      rw [i1] at h
      have hq := (at1_mem e).1
      rw [tops_mkF] at hq
      have ec := at1_sub v hs e
      have vq := (vf_iff.mp v).1 q (hs q hq)
      have dq := hd q hq
      obtain ⟨r', k1, k2⟩ := at_prF p j L (big L q.i) q.i M vq.i (fun x hx => (List.mem_filter.mp hx).1) (fun x hx => by have := dep_tops (List.mem_filter.mp hx).1; omega) m r h
      refine ⟨r', ?_, k2⟩
      rw [atP]
      have : inn c n = q.i := by unfold inn; rw [ec]
      rw [this]; exact k1
/-- pruned by more: paths only go -/
theorem sup_prF : ∀ (p : Pth) (j : Nat) (L1 L2 : Int) (l1 l2 : List Nd) (c : Cals) (M : Int), L1 ≤ L2 → vf M c → (∀ q ∈ l1, q ∈ tops c) → (∀ q ∈ l2, q ∈ l1) → ∀ n : Str, (atP (prF j L2 l2) n p).isSome = true → (atP (prF j L1 l1) n p).isSome = true
  | p, 0, L1, L2, l1, l2, c, M, hL, v, h1, h2, n, h => by rw [prF, atP_nil] at h; cases h
  | p, j + 1, L1, L2, l1, l2, c, M, hL, v, h1, h2, n, h => by
    have e1 : prF (j + 1) L1 l1 = mkF (l1.map (prN (prF j L1) L1)) := rfl
    have e2 : prF (j + 1) L2 l2 = mkF (l2.map (prN (prF j L2) L2)) := rfl
    cases e : at1 (mkF l2) n with
    | none =>
      have i1 : at1 (prF (j + 1) L2 l2) n = none := by rw [at1_pr, e]; rfl
      cases p with
      | nil => rw [atP, i1] at h; cases h
      | cons m p =>
        rw [atP] at h
        rw [inn_pr0 e, atP_nil] at h; cases h
    | some q =>
      have hq := at1_mem e
      rw [tops_mkF] at hq
      have hq1 := h2 q hq.1
      have e3 : at1 (mkF l1) n = some q := by
        cases e4 : at1 (mkF l1) n with
        | none => exact absurd hq.2 (at1_none.mp e4 q (by rw [tops_mkF]; exact hq1))
        | some x =>
          have hx := at1_sub v h1 e4
          have hy := at1_of v (h1 q hq1)
          rw [hq.2] at hy
          rw [hx] at hy
          exact hy
      cases p with
      | nil => rw [atP, at1_pr, e3]; rfl
      | cons m p =>
        rw [atP] at h ⊢
        have i1 := inn_pr (j := j) (L := L1) e3
        have i2 := inn_pr (j := j) (L := L2) e
        rw [i2] at h
        rw [i1]
        have vq := (vf_iff.mp v).1 q (h1 q hq1)
        exact sup_prF p j L1 L2 (big L1 q.i) (big L2 q.i) q.i M hL vq.i (fun x hx => (List.mem_filter.mp hx).1) (fun x hx => by
          obtain ⟨k1, k2⟩ := List.mem_filter.mp hx
          rw [decide_eq_true_eq] at k2
          exact List.mem_filter.mpr ⟨k1, decide_eq_true (by omega)⟩) m h
theorem tm_le {M : Int} {c : Cals} (v : vf M c) {q : Nd} (h : q ∈ tops c) : tm q ≤ tmF c := by
  revert h
  induction c with
  | nil => intro h; cases h
  | cons n a b i r hi hr =>
    intro h
    rw [vf_cons] at v
    have h1 := tmF_nn v.2.2.2.2.2.1
    have h2 := tmF_nn v.2.2.2.2.2.2.1
    have h3 := v.2.2.2.1
    rw [tmF]
    rcases List.mem_cons.mp h with rfl | h
    · show b + tmF i ≤ _; omega
    · have := hr v.2.2.2.2.2.2.1 h; omega
theorem gone_nn {M L : Int} {c : Cals} (v : vf M c) : 0 ≤ gone L c ∧ gone L c ≤ tmF c := by
  have nn : ∀ l : List Nd, (∀ q ∈ l, 0 ≤ tm q) → 0 ≤ (l.map tm).sum := by
    intro l
    induction l with
    | nil => intro _; exact Int.le_refl _
    | cons q l ih =>
      intro h
      rw [List.map_cons, List.sum_cons]
      have := h q List.mem_cons_self
      have := ih fun x hx => h x (List.mem_cons_of_mem _ hx)
      omega
  have tn : ∀ q ∈ tops c, 0 ≤ tm q := fun r hr => by
    have vr := (vf_iff.mp v).1 r hr
    have := tmF_nn vr.i
    have := vr.b0
    unfold tm; omega
  have g1 : 0 ≤ gone L c := nn _ fun q hq => tn q (List.mem_filter.mp hq).1
  have g2 : 0 ≤ ((big L c).map tm).sum := nn _ fun q hq => tn q (List.mem_filter.mp hq).1
  have := tops_split L c
  omega
theorem vf_prF : ∀ (j : Nat) (L : Int) (l : List Nd) (c : Cals) (M T : Int), M ≤ T → vf M c → l.Sublist (tops c) → tmF c ≤ T → vf T (prF j L l)
  | 0, L, l, c, M, T, hMT, v, hs, ht => trivial
  | j + 1, L, l, c, M, T, hMT, v, hs, ht => by
    obtain ⟨v1, v2⟩ := vf_iff.mp v
    refine vf_mkF (fun r hr => ?_) (List.pairwise_map.mpr ((v2.sublist hs).imp fun h => h))
    obtain ⟨q, hq, rfl⟩ := List.mem_map.mp hr
    have hq' := hs.subset hq
    have vq := v1 q hq'
    have g := gone_nn (L := L) vq.i
    have tl := tm_le v hq'
    have h1 := vq.a0
    have h2 := vq.a1
    have h3 := vq.b0
    have tq : tm q = q.b + tmF q.i := rfl
    exact ⟨vq.n, h1, by show q.a ≤ T; omega, by show 0 ≤ q.b + gone L q.i; omega, by show q.b + gone L q.i ≤ T; omega,
      vf_prF j L (big L q.i) q.i M T hMT vq.i List.filter_sublist (by omega)⟩
theorem dep_prF : ∀ (j : Nat) (L : Int) (l : List Nd) (k : Nat), (∀ q ∈ l, dep q.i + 1 ≤ k) → dep (prF j L l) ≤ k
  | 0, L, l, k, h => Nat.zero_le _
  | j + 1, L, l, k, h => by
    refine dep_mkF fun r hr => ?_
    obtain ⟨q, hq, rfl⟩ := List.mem_map.mp hr
    have h1 := h q hq
    have : dep (prF j L (big L q.i)) ≤ k - 1 := dep_prF j L (big L q.i) (k - 1) fun x hx => by have := dep_tops (List.mem_filter.mp hx).1; omega
    show dep (prF j L (big L q.i)) + 1 ≤ k
    omega
end VP

set_option Elab.async false
set_option linter.all false
set_option maxRecDepth 100000
set_option maxHeartbeats 1000000
/-! PQ10: with_line, turned. -/
namespace VP
open PySem PySem.Spec PyProof.Rows L2 LamX VS
theorem vf_names {M : Int} : ∀ {c : Cals}, vf M c → ∀ q ∈ allq c, q.n ∈ NM
  | .nil, _, q, h => by cases h
  | .cons n a b i r, v, q, h => by
    rw [vf_cons] at v
    rcases List.mem_cons.mp h with rfl | h
    · exact v.1
    · rcases List.mem_append.mp h with h | h
      · exact vf_names v.2.2.2.2.2.1 q h
      · exact vf_names v.2.2.2.2.2.2.1 q h
theorem shp_vf {M : Int} {c : Cals} (v : vf M c) (h : dep c ≤ 90) : shp (cD c) = true := by
  have := lay_names (vf_names v)
  have d := depth_calls c
  unfold shp
  rw [Bool.and_eq_true]
  refine ⟨by simp [toPy, PyData.canLay0, this], decide_eq_true ?_⟩
  show (PyData.tuple (toPys (toDs c))).depth ≤ 200
  unfold PyData.depth
  omega
theorem eq_nilF {M : Int} {c : Cals} (v : vf M c) (h : dep c ≤ 90) : cmEq (cD c) (.tup []) = .ok (.bl (!isC c)) := by
  have h1 := shp_vf v h
  have h2 : shp (.tup []) = true := rfl
  unfold cmEq
  rw [h1, h2]
  cases c with
  | nil => rfl
  | cons n a b i r => rfl
def chn : Pth → Int → Int → Cals
  | [], _, _ => .nil
  | n :: p, m, t => .cons n (if p = [] then m else 0) (if p = [] then t else 0) (chn p m t) .nil
theorem chn_cons (n : Str) (p : Pth) (m t : Int) : chn (n :: p) m t = .cons n (if p = [] then m else 0) (if p = [] then t else 0) (chn p m t) .nil := rfl
theorem vf_chn {N m t : Int} (h0 : 0 ≤ m) (h1 : m ≤ N) (h2 : 0 ≤ t) (h3 : t ≤ N) : ∀ {p : Pth}, (∀ n ∈ p, n ∈ NM) → vf N (chn p m t)
  | [], _ => trivial
  | n :: p, hn => by
    rw [chn_cons, vf_cons]
    refine ⟨hn n List.mem_cons_self, by split <;> omega, by split <;> omega, by split <;> omega, by split <;> omega, vf_chn h0 h1 h2 h3 fun x hx => hn x (List.mem_cons_of_mem _ hx), trivial, fun q hq => by cases hq⟩
theorem dep_chn (m t : Int) : ∀ p : Pth, dep (chn p m t) = p.length
  | [] => rfl
  | n :: p => by rw [chn_cons, dep_cons, dep_chn m t p, dep, List.length_cons]; omega
theorem isC_chn (m t : Int) (p : Pth) : isC (chn p m t) = !p.isEmpty := by cases p <;> rfl
theorem with_line_eq {f : Cals} {M N m t : Int} (v : vf M f) (hf : dep f < 8) {p : Pth} (hp : ∀ n ∈ p, n ∈ NM) (hl : p.length < 8) (h0 : 0 ≤ m) (h1 : m ≤ N) (h2 : 0 ≤ t) (h3 : t ≤ N) :
    F_with_line [cD f, pthD p, .int m, .int t] = .ok (cD (jn 8 f (chn p m t))) := by
  obtain ⟨s', e, p1, p2⟩ := for_to (e := S_with_line.e) (b := bindT (.nm 5)) (f := L_with_line_1) (u := D.str)
    (fun dn s => s.some_ = .im (cD f) ∧ s.many = .im (.int m) ∧ s.time = .im (.int t) ∧ s.part = .im (cD (chn dn.reverse m t))) p.reverse (by
    rintro dn n rs s e ⟨a1, a2, a3, a4⟩ Q hQ
    have sub : ∀ x ∈ dn, x ∈ NM := fun x hx => hp x (by rw [← List.mem_reverse, ← e]; simp [hx])
    have dl : dn.length < 8 := by
      have := congrArg List.length e
      rw [List.length_reverse] at this
      simp at this
      omega
    have vc : vf N (chn dn.reverse m t) := vf_chn h0 h1 h2 h3 fun x hx => sub x (List.mem_reverse.mp hx)
    have ce := eq_nilF vc (by rw [dep_chn, List.length_reverse]; omega)
    rw [isC_chn] at ce
    have er : (dn ++ [n]).reverse = n :: dn.reverse := by simp
    rw [er] at hQ
    have emp : dn.reverse.isEmpty = decide (dn.reverse = []) := by cases dn.reverse <;> rfl
    rw [emp, Bool.not_not] at ce
    by_cases hd : dn.reverse = []
    · rw [decide_eq_true hd] at ce
      simp [L_with_line_1, a2, a3, a4, ce]
      refine to_nx (hQ _ ⟨a1, rfl, rfl, ?_⟩)
      rw [chn_cons, if_pos hd, if_pos hd]; rfl
    · rw [decide_eq_false hd] at ce
      simp [L_with_line_1, a2, a3, a4, ce]
      refine to_nx (hQ _ ⟨a1, rfl, rfl, ?_⟩)
      rw [chn_cons, if_neg hd, if_neg hd]; rfl) (S_with_line.mk (.im (cD f)) (.im (pthD p)) (.im (.int m)) (.im (.int t)) (.im (.tup [])) .un) ⟨rfl, rfl, rfl, rfl⟩
  have i : gSeq itT (ge1 revT (geV 1)) (S_with_line.e (S_with_line.mk (.im (cD f)) (.im (pthD p)) (.im (.int m)) (.im (.int t)) (.im (.tup [])) .un)) = .ok (p.reverse.map D.str) := by
    have : revT (pthD p) = .ok (.tup (p.reverse.map .str)) := by unfold pthD; rw [List.map_reverse]; rfl
    simp [this]
  have vc : vf N (chn p m t) := vf_chn h0 h1 h2 h3 hp
  have j := joined_of_eq 8 f (chn p m t) M N v vc hf (by rw [dep_chn]; omega)
  rw [List.reverse_reverse] at p2
  unfold F_with_line b_with_line
  rw [e_run, S_with_line.st, e_seq]
  have t0 : tupD [] = .ok (.tup []) := rfl
  simp only [e_A, e_nil, R.ok_bind, t0, e_ofR, S_with_line.w4]
  rw [e_seq, e_for, i]
  dsimp only
  rw [e]
  dsimp only
  simp [p1, p2.2.2, j]
/-! what is at the paths of a chain -/
def pfx : Pth → Pth → Bool
  | [], _ => false | _ :: _, [] => false | x :: p, y :: q => decide (x = y) && (p.isEmpty || pfx p q)
theorem at_chn : ∀ (q : Pth) (n : Str) (p : Pth) (m t : Int), (atP (chn p m t) n q).isSome = pfx (n :: q) p ∧ fA (atP (chn p m t) n q) = (if n :: q = p then m else 0) ∧ fB (atP (chn p m t) n q) = (if n :: q = p then t else 0)
  | q, n, [], m, t => by rw [chn, atP_nil]; exact ⟨rfl, rfl, rfl⟩
  | [], n, x :: p, m, t => by
    rw [atP, chn_cons, at1_cons]
    by_cases h : x = n
    · subst h
      rw [if_pos rfl]
      refine ⟨by simp [pfx], ?_, ?_⟩
      · show (if p = [] then m else 0) = _
        by_cases hp : p = []
        · simp [hp]
        · have : ¬ [x] = x :: p := fun z => hp (by injection z with _ z; exact z.symm)
          rw [if_neg hp, if_neg this]
      · show (if p = [] then t else 0) = _
        by_cases hp : p = []
        · simp [hp]
        · have : ¬ [x] = x :: p := fun z => hp (by injection z with _ z; exact z.symm)
          rw [if_neg hp, if_neg this]
    · have h2 : ¬ n = x := fun z => h z.symm
      have : ¬ [n] = x :: p := fun z => h2 (by injection z)
      rw [if_neg h, if_neg this, if_neg this, at1_nil]
      refine ⟨?_, rfl, rfl⟩
      rw [pfx, decide_eq_false h2]; rfl
  | k :: q, n, x :: p, m, t => by
    rw [atP]
    by_cases h : x = n
    · subst h
      have i : inn (chn (x :: p) m t) x = chn p m t := by
        show (match at1 (chn (x :: p) m t) x with | some q => q.i | none => Cals.nil) = _
        rw [chn_cons, at1_cons, if_pos rfl]
      rw [i]
      have ih := at_chn q k p m t
      refine ⟨?_, ?_, ?_⟩
      · rw [ih.1]
        show pfx (k :: q) p = pfx (x :: k :: q) (x :: p)
        simp [pfx]
      · rw [ih.2.1]; simp
      · rw [ih.2.2]; simp
    · have i : inn (chn (x :: p) m t) n = .nil := by
        show (match at1 (chn (x :: p) m t) n with | some q => q.i | none => Cals.nil) = _
        rw [chn_cons, at1_cons, if_neg h, at1_nil]
      have h2 : ¬ n = x := fun z => h z.symm
      have : ¬ n :: k :: q = x :: p := fun z => h2 (by injection z)
      rw [i, atP_nil, if_neg this, if_neg this]
      refine ⟨?_, rfl, rfl⟩
      show false = pfx (n :: k :: q) (x :: p)
      rw [pfx, decide_eq_false h2]; rfl
theorem sup_chn (p q : Pth) (m t : Int) : sup (chn p m t) q = pfx q p := by
  cases q with | nil => rfl | cons n q => exact (at_chn q n p m t).1
theorem vA_chn {p q : Pth} (m t : Int) (h : q ≠ []) : vA (chn p m t) q = if q = p then m else 0 := by
  cases q with | nil => exact absurd rfl h | cons n q => exact (at_chn q n p m t).2.1
theorem vB_chn {p q : Pth} (m t : Int) (h : q ≠ []) : vB (chn p m t) q = if q = p then t else 0 := by
  cases q with | nil => exact absurd rfl h | cons n q => exact (at_chn q n p m t).2.2
/-! a fold's numbers, bounded by what is at its paths -/
theorem vf_vals : ∀ (k : Nat) {c : Cals} {K M : Int}, dep c ≤ k → vf K c → (∀ p, sup c p = true → vA c p ≤ M ∧ vB c p ≤ M) → vf M c
  | 0, c, K, M, h, v, hb => by
    cases c with
    | nil => trivial
    | cons n a b i r => rw [dep_cons] at h; omega
  | k + 1, c, K, M, h, v, hb => by
    obtain ⟨v1, v2⟩ := vf_iff.mp v
    refine vf_iff.mpr ⟨fun q hq => ?_, v2⟩
    have vq := v1 q hq
    have a1 := at1_of v hq
    have b1 := hb [q.n] (by show (at1 c q.n).isSome = true; rw [a1]; rfl)
    have b2 : q.a ≤ M := by have := b1.1; rwa [show vA c [q.n] = q.a by show fA (at1 c q.n) = _; rw [a1]; rfl] at this
    have b3 : q.b ≤ M := by have := b1.2; rwa [show vB c [q.n] = q.b by show fB (at1 c q.n) = _; rw [a1]; rfl] at this
    have i1 : inn c q.n = q.i := by unfold inn; rw [a1]
    refine ⟨vq.n, vq.a0, b2, vq.b0, b3, vf_vals k (by have := dep_tops hq; omega) vq.i fun p hp => ?_⟩
    cases p with
    | nil => cases hp
    | cons m p =>
      have e1 : sup c (q.n :: m :: p) = sup q.i (m :: p) := by show (atP (inn c q.n) m p).isSome = _; rw [i1]; rfl
      have e2 : vA c (q.n :: m :: p) = vA q.i (m :: p) := by show fA (atP (inn c q.n) m p) = _; rw [i1]; rfl
      have e3 : vB c (q.n :: m :: p) = vB q.i (m :: p) := by show fB (atP (inn c q.n) m p) = _; rw [i1]; rfl
      have := hb (q.n :: m :: p) (by rw [e1]; exact hp)
      rwa [e2, e3] at this
theorem len_sup : ∀ (p : Pth) {c : Cals} {n : Str}, (atP c n p).isSome = true → p.length + 1 ≤ dep c
  | [], c, n, h => by
    have := at1_some.mp (show (at1 c n).isSome = true from h)
    exact dep_pos this
  | m :: p, c, n, h => by
    rw [atP] at h
    have := len_sup p h
    have d := dep_inn c n
    rw [List.length_cons]; omega
theorem len_pth {c : Cals} {p : Pth} (h : sup c p = true) : p.length ≤ dep c := by
  cases p with | nil => exact Nat.zero_le _ | cons n p => exact len_sup p h
/-! turned -/
def stp (acc : Cals) (x : Ln) : Cals := jn 8 acc (chn x.1.reverse x.2.1 x.2.2)
def tn (c : Cals) : Cals := (lns c []).foldl stp .nil
theorem stp_all {M : Int} (hM : 0 ≤ M) (k : Nat) (hk : k ≤ 7) : ∀ (l : List Ln) (acc : Cals) (K : Int), 0 ≤ K → vf K acc → dep acc ≤ k → (∀ x ∈ l, okP x.1 ∧ x.1.length ≤ k ∧ 0 ≤ x.2.1 ∧ x.2.1 ≤ M ∧ 0 ≤ x.2.2 ∧ x.2.2 ≤ M) →
    (∃ K', 0 ≤ K' ∧ vf K' (l.foldl stp acc)) ∧ dep (l.foldl stp acc) ≤ k ∧ (∀ q, sup (l.foldl stp acc) q = (sup acc q || l.any fun x => pfx q x.1.reverse)) ∧
    (∀ q, q ≠ [] → vA (l.foldl stp acc) q = vA acc q + (l.map fun x => if q = x.1.reverse then x.2.1 else 0).sum) ∧ (∀ q, q ≠ [] → vB (l.foldl stp acc) q = vB acc q + (l.map fun x => if q = x.1.reverse then x.2.2 else 0).sum)
  | [], acc, K, hK, v, d, _ => ⟨⟨K, hK, v⟩, d, fun q => by simp, fun q _ => by simp, fun q _ => by simp⟩
  | x :: l, acc, K, hK, v, d, h => by
    obtain ⟨h1, h2, h3, h4, h5, h6⟩ := h x List.mem_cons_self
    have vc : vf M (chn x.1.reverse x.2.1 x.2.2) := vf_chn h3 h4 h5 h6 fun n hn => h1.2 n (List.mem_reverse.mp hn)
    have dc : dep (chn x.1.reverse x.2.1 x.2.2) ≤ k := by rw [dep_chn, List.length_reverse]; exact h2
    have v2 : vf (K + M) (stp acc x) := vf_jn 8 hK hM v vc
    have d2 : dep (stp acc x) ≤ k := dep_jn 8 d dc
    obtain ⟨i1, i2, i3, i4, i5⟩ := stp_all hM k hk l (stp acc x) (K + M) (by omega) v2 d2 fun y hy => h y (List.mem_cons_of_mem _ hy)
    refine ⟨i1, i2, fun q => ?_, fun q hq => ?_, fun q hq => ?_⟩
    · rw [List.foldl_cons, i3, List.any_cons]
      unfold stp
      rw [sup_jn (by omega) (by omega), sup_chn, Bool.or_assoc]
    · rw [List.foldl_cons, i4 q hq, List.map_cons, List.sum_cons]
      unfold stp
      rw [vA_jn (by omega) (by omega), vA_chn _ _ hq, Int.add_assoc]
    · rw [List.foldl_cons, i5 q hq, List.map_cons, List.sum_cons]
      unfold stp
      rw [vB_jn (by omega) (by omega), vB_chn _ _ hq, Int.add_assoc]
theorem turned_eq {c : Cals} {M : Int} (v : vf M c) (h0 : 0 ≤ M) (hM : M ≤ 1000000000) (h : dep c < 8) (hc : cnt c ≤ 10000) : F_turned [cD c] = .ok (cD (tn c)) := by
  have n1 := need_fold_eq v hM h
  have l1 := lines_of_eq 8 c [] h (by omega) (by show 0 + _ ≤ _; omega)
  have e0 : pthD [] = .tup [] := rfl
  rw [e0] at l1
  have ok : ∀ x ∈ lns c [], okP x.1 ∧ x.1.length ≤ 7 ∧ 0 ≤ x.2.1 ∧ x.2.1 ≤ M ∧ 0 ≤ x.2.2 ∧ x.2.2 ≤ M := fun x hx => by
    obtain ⟨n, p, q, e1, e2, e3⟩ := (mem_lns _ v (Nat.le_refl _) [] x).mp hx
    have vq := (atP_vq p v e2).1
    have hl := len_pth ((mem_lns0 v x).mp hx).1
    refine ⟨lns_names _ v (Nat.le_refl _) [] (fun n hn => by cases hn) x hx, by omega, ?_⟩
    rw [e3]
    exact ⟨vq.a0, vq.a1, vq.b0, vq.b1⟩
  obtain ⟨s', e, p1⟩ := for_to (e := S_turned.e) (b := bindT (.tp (.cons (.nm 2) (.cons (.nm 3) (.cons (.nm 4) .nil))))) (f := L_turned_1) (u := lnD)
    (fun dn s => s.found = .im (cD (dn.foldl stp .nil))) (lns c []) (by
    rintro dn x rs s e p1 Q hQ
    have hx : x ∈ lns c [] := by rw [← e]; simp
    obtain ⟨h1, h2, h3, h4, h5, h6⟩ := ok x hx
    obtain ⟨⟨K', k0, i1⟩, i2, _⟩ := stp_all h0 7 (by omega) dn .nil 0 (by omega) trivial (Nat.zero_le _) fun y hy => ok y (by rw [← e]; simp [hy])
    have w := with_line_eq (p := x.1.reverse) i1 (by omega) (fun n hn => h1.2 n (List.mem_reverse.mp hn)) (by rw [List.length_reverse]; omega) h3 h4 h5 h6
    rw [List.foldl_append, List.foldl_cons, List.foldl_nil] at hQ
    show To S_turned.e Q (L_turned_1 (S_turned.e {s with path := .im (pthD x.1), many := .im (.int x.2.1), time := .im (.int x.2.2)}))
    have rv : revT (pthD x.1) = .ok (pthD x.1.reverse) := by unfold pthD; rw [List.map_reverse]; rfl
    generalize dn.foldl stp .nil = acc at *
    simp [L_turned_1, p1, rv, w]
    exact to_nx (hQ _ rfl)) (S_turned.mk (.im (cD c)) (.im (.tup [])) .un .un .un) rfl
  unfold F_turned b_turned
  rw [e_run, S_turned.st]
  have t0 : tupD [] = .ok (.tup []) := rfl
  simp [n1, t0, l1, e, p1, tn]
theorem tn_facts {c : Cals} {M : Int} (v : vf M c) (h0 : 0 ≤ M) (h : dep c ≤ 7) : vf M (tn c) ∧ dep (tn c) ≤ dep c ∧ (∀ q, sup (tn c) q = (pths c).any fun p => pfx q p.reverse) ∧ (∀ q, vA (tn c) q = vA c q.reverse) ∧ ∀ q, vB (tn c) q = vB c q.reverse := by
  have ok : ∀ x ∈ lns c [], okP x.1 ∧ x.1.length ≤ dep c ∧ 0 ≤ x.2.1 ∧ x.2.1 ≤ M ∧ 0 ≤ x.2.2 ∧ x.2.2 ≤ M := fun x hx => by
    obtain ⟨n, p, q, e1, e2, e3⟩ := (mem_lns _ v (Nat.le_refl _) [] x).mp hx
    have vq := (atP_vq p v e2).1
    refine ⟨lns_names _ v (Nat.le_refl _) [] (fun n hn => by cases hn) x hx, len_pth ((mem_lns0 v x).mp hx).1, ?_⟩
    rw [e3]
    exact ⟨vq.a0, vq.a1, vq.b0, vq.b1⟩
  obtain ⟨⟨K', k0, i1⟩, i2, i3, i4, i5⟩ := stp_all h0 (dep c) h (lns c []) .nil 0 (by omega) trivial (Nat.zero_le _) ok
  have one : ∀ (f : Pth → Int) (q : Pth) (l : List Pth), l.Nodup → (l.map fun p => if q = p.reverse then f p else 0).sum = if q.reverse ∈ l then f q.reverse else 0 := by
    intro f q l nd
    induction l with
    | nil => rfl
    | cons p l ih =>
      obtain ⟨n1, n2⟩ := List.nodup_cons.mp nd
      rw [List.map_cons, List.sum_cons, ih n2]
      by_cases e : q = p.reverse
      · subst e
        rw [List.reverse_reverse, if_pos rfl, if_neg n1, if_pos List.mem_cons_self]; omega
      · have e2 : ¬ q.reverse = p := fun z => e (by rw [← z, List.reverse_reverse])
        rw [if_neg e]
        by_cases m : q.reverse ∈ l
        · rw [if_pos m, if_pos (List.mem_cons_of_mem _ m)]; omega
        · rw [if_neg m, if_neg (fun z => (List.mem_cons.mp z).elim e2 m)]; rfl
  have sA : ∀ q, vA (tn c) q = vA c q.reverse := fun q => by
    by_cases hq : q = []
    · subst hq; rfl
    · unfold tn
      rw [i4 q hq, lns_eq v, List.map_map]
      have := one (vA c) q (pths c) (pths_nd v)
      have e : ((pths c).map ((fun x : Ln => if q = x.1.reverse then x.2.1 else 0) ∘ fun p => (p, vA c p, vB c p))) = (pths c).map fun p => if q = p.reverse then vA c p else 0 := rfl
      rw [e, this]
      have z : vA .nil q = 0 := by cases q with | nil => rfl | cons n q => show fA (atP .nil n q) = 0; rw [atP_nil]; rfl
      rw [z]
      by_cases m : q.reverse ∈ pths c
      · rw [if_pos m]; omega
      · rw [if_neg m, vA_out (by cases e : sup c q.reverse with | false => rfl | true => exact absurd ((mem_pths v).mpr e) m)]; rfl
  have sB : ∀ q, vB (tn c) q = vB c q.reverse := fun q => by
    by_cases hq : q = []
    · subst hq; rfl
    · unfold tn
      rw [i5 q hq, lns_eq v, List.map_map]
      have := one (vB c) q (pths c) (pths_nd v)
      have e : ((pths c).map ((fun x : Ln => if q = x.1.reverse then x.2.2 else 0) ∘ fun p => (p, vA c p, vB c p))) = (pths c).map fun p => if q = p.reverse then vB c p else 0 := rfl
      rw [e, this]
      have z : vB .nil q = 0 := by cases q with | nil => rfl | cons n q => show fB (atP .nil n q) = 0; rw [atP_nil]; rfl
      rw [z]
      by_cases m : q.reverse ∈ pths c
      · rw [if_pos m]; omega
      · rw [if_neg m, vB_out (by cases e : sup c q.reverse with | false => rfl | true => exact absurd ((mem_pths v).mpr e) m)]; rfl
  have bd : ∀ p, 0 ≤ vA c p ∧ vA c p ≤ M ∧ 0 ≤ vB c p ∧ vB c p ≤ M := fun p => by
    cases hs : sup c p with
    | false => rw [vA_out hs, vB_out hs]; omega
    | true =>
      have := (mem_lns0 v (p, vA c p, vB c p)).mpr ⟨hs, rfl⟩
      exact (ok _ this).2.2
  refine ⟨vf_vals _ (Nat.le_refl _) i1 fun p _ => ?_, i2, fun q => ?_, sA, sB⟩
  · have e1 := sA p
    have e2 := sB p
    have b := bd p.reverse
    rw [e1, e2]; omega
  · unfold tn
    rw [i3]
    have z : sup .nil q = false := by cases q with | nil => rfl | cons n q => show (atP .nil n q).isSome = _; rw [atP_nil]; rfl
    rw [z, Bool.false_or]
    unfold pths
    rw [List.any_map]; rfl
end VP

set_option Elab.async false
set_option linter.all false
set_option maxRecDepth 100000
set_option maxHeartbeats 1000000
/-! PQ11: calls folded. -/
namespace VP
open PySem PySem.Spec PyProof.Rows L2 LamX VS
def own1 (q : Nd) : Int := q.b - q.a - tsum q.i
def sel (l : List Nd) (n : Str) : List Nd := l.filter fun q => decide (q.n = n)
def innL (l : List Nd) (n : Str) : List Nd := (sel l n).flatMap fun q => tops q.i
def fN (self : List Nd → Cals) (l : List Nd) (n : Str) : Nd := ⟨n, ((sel l n).length : Nat), ((sel l n).map own1).sum, self (innL l n)⟩
def nmL (l : List Nd) : List Str := l.map (·.n)
def fld : Nat → List Nd → Cals
  | 0, _ => .nil
  | j + 1, l => mkF ((sset (nmL l)).map (fN (fld j) l))
/-- right calls, to be folded -/
structure CO (X : Int) (l : List Nd) : Prop where
  nm : ∀ q ∈ allq (mkF l), q.n ∈ NM
  ow : ∀ q ∈ allq (mkF l), 0 ≤ own1 q ∧ own1 q ≤ X
  ct : cnt (mkF l) ≤ 1000
theorem allq_mkF : ∀ l : List Nd, allq (mkF l) = l.flatMap fun q => q :: allq q.i
  | [] => rfl
  | q :: l => by rw [mkF, allq, allq_mkF l]; rfl
theorem cnt_mk : ∀ l : List Nd, cnt (mkF l) = (l.map fun q => 1 + cnt q.i).sum
  | [] => rfl
  | q :: l => by rw [mkF, cnt_cons, cnt_mk l, List.map_cons, List.sum_cons]
theorem CO.len {X : Int} {l : List Nd} (c : CO X l) : l.length ≤ 1000 := by
  have h := tops_len (mkF l)
  rw [tops_mkF] at h
  exact Nat.le_trans h c.ct
theorem cnt_inn (l : List Nd) (n : Str) : cnt (mkF (innL l n)) ≤ cnt (mkF l) := by
  unfold innL sel
  rw [cnt_mk l]
  induction l with
  | nil => exact Nat.le_refl _
  | cons q l ih =>
    rw [List.filter_cons, List.map_cons, List.sum_cons]
    have h1 : ∀ k : List Nd, cnt (mkF (tops q.i ++ k)) = cnt q.i + cnt (mkF k) := fun k => by
      rw [cnt_mk, cnt_mk, List.map_append, List.sum_append, ← cnt_mk, mkF_tops]
    split
    · rw [List.flatMap_cons, h1]; omega
    · omega
theorem allq_tops {c : Cals} : allq c = allq (mkF (tops c)) := by rw [mkF_tops]
theorem allq_inn {l : List Nd} {n : Str} {q : Nd} (h : q ∈ allq (mkF (innL l n))) : q ∈ allq (mkF l) := by
  rw [allq_mkF] at h ⊢
  obtain ⟨r, hr, hq⟩ := List.mem_flatMap.mp h
  unfold innL at hr
  obtain ⟨x, hx, hr⟩ := List.mem_flatMap.mp hr
  have hx' := (List.mem_filter.mp hx).1
  refine List.mem_flatMap.mpr ⟨x, hx', List.mem_cons_of_mem _ ?_⟩
  rw [allq_tops, allq_mkF]
  exact List.mem_flatMap.mpr ⟨r, hr, hq⟩
theorem CO.inn {X : Int} {l : List Nd} (c : CO X l) (n : Str) : CO X (innL l n) :=
  ⟨fun q h => c.nm q (allq_inn h), fun q h => c.ow q (allq_inn h), Nat.le_trans (cnt_inn l n) c.ct⟩
theorem CO.top {X : Int} {l : List Nd} (c : CO X l) {q : Nd} (h : q ∈ l) : q.n ∈ NM ∧ 0 ≤ own1 q ∧ own1 q ≤ X ∧ cnt q.i ≤ 1000 := by
  have m : q ∈ allq (mkF l) := by rw [allq_mkF]; exact List.mem_flatMap.mpr ⟨q, h, List.mem_cons_self⟩
  have h2 := cnt_tops (c := mkF l) (q := q) (by rw [tops_mkF]; exact h)
  have := c.ct
  exact ⟨c.nm q m, (c.ow q m).1, (c.ow q m).2, by omega⟩
theorem dep_innL {l : List Nd} {n : Str} {j : Nat} (h : dep (mkF l) ≤ j + 1) : dep (mkF (innL l n)) ≤ j := by
  refine dep_mkF fun q hq => ?_
  unfold innL at hq
  obtain ⟨x, hx, hr⟩ := List.mem_flatMap.mp hq
  have h1 := dep_tops (c := mkF l) (q := x) (by rw [tops_mkF]; exact (List.mem_filter.mp hx).1)
  have h2 := dep_tops hr
  omega
theorem innL_len {X : Int} {l : List Nd} (c : CO X l) (n : Str) : (innL l n).length ≤ 1000 := (c.inn n).len
theorem folded_eq : ∀ (j : Nat) (l : List Nd) (X : Int), CO X l → dep (mkF l) < j → F_folded j [.lst (l.map ndD)] = .ok (cD (fld j l))
  | 0, l, X, c, h => by omega
  | j + 1, l, X, c, h => by
    have ll := c.len
    obtain ⟨s0, hs0⟩ : ∃ s0, s0 = S_folded.mk (.im (.lst (l.map ndD))) .un .un .un .un .un .un := ⟨_, rfl⟩
    have x0 : ∀ q : Nd, ixT (ndD q) (.int 0) = .ok (.str q.n) := fun q => by simp [ndD]
    have x3 : ∀ q : Nd, ixT (ndD q) (.int 3) = .ok (cD q.i) := fun q => by simp [ndD]
    have k1 : C_folded_1 (F_folded j) s0.e = .ok (sL (nmL l)) := by
      have : sL (nmL l) = .lst (l.map fun q => .str q.n) := by unfold nmL; rw [sL, List.map_map]; rfl
      rw [this]
      unfold C_folded_1
      refine compE_all (u := ndD) l (by rw [hs0]; simp) (sl_ge (by omega)) fun q hq => ⟨S_folded.e {s0 with one := .im (ndD q)}, rfl, ?_⟩
      simp [x0]
    have ss := sortSet_eq (p := nmL l) (by unfold nmL; rw [List.length_map]; exact ll)
    have sub : ∀ n ∈ sset (nmL l), n ∈ NM := fun n hn => by
      obtain ⟨q, hq, rfl⟩ := List.mem_map.mp (mem_sset.mp hn)
      exact (c.top hq).1
    have sl6 : (sset (nmL l)).length ≤ 6 := nd_len _ NM (nd_sset _) sub
    obtain ⟨s', e, p1, p2⟩ := for_to (e := S_folded.e) (b := bindT (.nm 3)) (f := L_folded_2 (F_folded j)) (u := D.str)
      (fun dn s => s.calls = .im (.lst (l.map ndD)) ∧ s.found = .ow ((dn.map (fN (fld j) l)).map ndD)) (sset (nmL l)) (by
      rintro dn n rs s e ⟨h1, h2⟩ Q hQ
      have hn : n ∈ sset (nmL l) := by rw [← e]; simp
      have nn := sub n hn
      have dl : dn.length < sizeLine := by
        have := congrArg List.length e
        simp at this
        rw [sizeLine_eq]; omega
      have sl : (sel l n).length ≤ 1000 := Nat.le_trans (List.length_filter_le _ _) ll
      have hne : 1 ≤ dep (mkF l) := by
        obtain ⟨q, hq, _⟩ := List.mem_map.mp (mem_sset.mp hn)
        have := dep_tops (c := mkF l) (q := q) (by rw [tops_mkF]; exact hq)
        omega
      obtain ⟨sq, hsq⟩ : ∃ sq, sq = {s with name := .im (.str n)} := ⟨_, rfl⟩
      have g1 : sq.calls = .im (.lst (l.map ndD)) := by rw [hsq]; exact h1
      have g2 : sq.found = .ow ((dn.map (fN (fld j) l)).map ndD) := by rw [hsq]; exact h2
      have g3 : sq.name = .im (.str n) := by rw [hsq]
      have k2 : C_folded_2 (F_folded j) sq.e = .ok (.lst ((sel l n).map ndD)) := by
        unfold C_folded_2
        refine compE_filter (u := ndD) l (by simp [g1]) (sl_ge (by omega)) fun q hq => ⟨S_folded.e {sq with one := .im (ndD q)}, rfl, ?_, fun _ => ?_⟩
        · have ce := eq_nm (c.top hq).1 nn
          simp [x0, g3, ce]
        · simp
      have il := innL_len c n
      obtain ⟨s3, e3, q0, q1, q2, q3, q4⟩ := for_to (e := S_folded.e) (b := bindT (.nm 6)) (f := L_folded_1 (F_folded j)) (u := ndD)
        (fun dn s3 => s3.calls = sq.calls ∧ s3.found = sq.found ∧ s3.name = sq.name ∧ s3.some_ = .im (.lst ((sel l n).map ndD)) ∧ s3.inner = .ow ((dn.flatMap fun q => tops q.i).map ndD)) (sel l n) (by
        rintro dm q rs s3 e ⟨a0, a1, a2, a4, a3⟩ Q hQ
        have lz : (dm.flatMap fun q => tops q.i).length + (tops q.i).length ≤ 1000 := by
          unfold innL at il
          rw [← e, List.flatMap_append, List.flatMap_cons, List.length_append, List.length_append] at il
          omega
        have z : (dm.flatMap fun q => tops q.i).length + (toDs q.i).length ≤ sizeLine := by rw [toDs_tops, List.length_map]; exact sl_ge (by omega)
        rw [List.flatMap_append, List.flatMap_cons, List.flatMap_nil, List.append_nil] at hQ
        generalize (dm.flatMap fun q => tops q.i) = AC at *
        show To S_folded.e Q (L_folded_1 (F_folded j) (S_folded.e {s3 with one := .im (ndD q)}))
        simp [L_folded_1, a3, x3, z]
        exact to_nx (hQ _ ⟨a0, a1, a2, a4, by rw [toDs_tops]; simp⟩)) {sq with some_ := .im (.lst ((sel l n).map ndD)), inner := .ow []} ⟨rfl, rfl, rfl, rfl, rfl⟩
      have k3 : ∀ s3 : S_folded, s3.some_ = .im (.lst ((sel l n).map ndD)) → C_folded_3 (F_folded j) s3.e = .ok (.lst ((sel l n).map fun q => .int (own1 q))) := fun s3 q3 => by
        unfold C_folded_3
        refine compE_all (u := ndD) (sel l n) (by simp [q3]) (sl_ge (by omega)) fun q hq => ⟨S_folded.e {s3 with one := .im (ndD q)}, rfl, ?_⟩
        have o := own_eq q (by have := (c.top (List.mem_filter.mp hq).1).2.2.2; omega)
        simp [o, own1]
      have su : sumD [.lst ((sel l n).map fun q => D.int (own1 q))] = .ok (.int (((sel l n).map own1).sum)) := by
        have e2 : ((sel l n).map fun q => D.int (own1 q)) = ((sel l n).map own1).map .int := by rw [List.map_map]; rfl
        unfold sumD
        dsimp only
        rw [e2, intsD_map]
      have ih := folded_eq j (innL l n) X (c.inn n) (by have := dep_innL (l := l) (n := n) (j := dep (mkF l) - 1) (by omega); omega)
      show To S_folded.e Q (L_folded_2 (F_folded j) (S_folded.e {s with name := .im (.str n)}))
      rw [← hsq]
      unfold L_folded_2
      refine to_seq {sq with some_ := .ow ((sel l n).map ndD)} (by simp [k2]) ?_
      refine to_seq {sq with some_ := .ow ((sel l n).map ndD), inner := .ow []} (by simp) ?_
      have q4' : s3.inner = .ow ((innL l n).map ndD) := q4
      have lD : lenD [.lst ((sel l n).map ndD)] = .ok (.int ((sel l n).length : Nat)) := by simp
      generalize hSL : (sel l n).map ndD = SL at *
      refine to_seq s3 (by simp [e3]) ?_
      obtain ⟨s4, hs4⟩ : ∃ s4, s4 = {s3 with inner := .im (.lst ((innL l n).map ndD))} := ⟨_, rfl⟩
      have f0 : s4.calls = .im (.lst (l.map ndD)) := by rw [hs4]; exact q0.trans g1
      have f1 : s4.found = .ow ((dn.map (fN (fld j) l)).map ndD) := by rw [hs4]; exact q1.trans g2
      have f2 : s4.name = .im (.str n) := by rw [hs4]; exact q2.trans g3
      have f3 : s4.some_ = .im (.lst SL) := by rw [hs4]; exact q3
      have f4 : s4.inner = .im (.lst ((innL l n).map ndD)) := by rw [hs4]
      have k3' := k3 s4 f3
      have fz : ∀ o : VS.Env → Out, frzO 5 o s3.e = o s4.e := fun o => by rw [hs4]; simp [q4']
      rw [fz]
      simp [f1, f2, f3, f4, k3', su, ih, lD, dl]
      refine to_nx (hQ _ ⟨f0, ?_⟩)
      simp [fN, ndD]) (S_folded.mk (.im (.lst (l.map ndD))) (.im (sL (sset (nmL l)))) (.ow []) .un .un .un .un) ⟨rfl, rfl⟩
    have e1 : fld (j + 1) l = mkF ((sset (nmL l)).map (fN (fld j) l)) := rfl
    unfold F_folded b_folded
    rw [e_run, S_folded.st, ← hs0]
    simp only [e_seq, e_1, k1, R.ok_bind, ss, e_ofR]
    rw [hs0]
    simp [e, p2, e1, toDs_mkF]
end VP

set_option Elab.async false
set_option linter.all false
set_option maxRecDepth 100000
set_option maxHeartbeats 1000000
/-! PQ12: what a fold of calls is; fold. -/
namespace VP
open PySem PySem.Spec PyProof.Rows L2 LamX VS
theorem sum_nn {α : Type} {f : α → Int} {l : List α} (h : ∀ x ∈ l, 0 ≤ f x) : 0 ≤ (l.map f).sum := by
  induction l with
  | nil => exact Int.le_refl _
  | cons x l ih =>
    rw [List.map_cons, List.sum_cons]
    have := h x List.mem_cons_self
    have := ih fun y hy => h y (List.mem_cons_of_mem _ hy)
    omega
theorem sum_le {α : Type} {f : α → Int} {X : Int} {l : List α} (h : ∀ x ∈ l, f x ≤ X) : (l.map f).sum ≤ l.length * X := by
  induction l with
  | nil => simp
  | cons x l ih =>
    rw [List.map_cons, List.sum_cons, List.length_cons]
    have := h x List.mem_cons_self
    have := ih fun y hy => h y (List.mem_cons_of_mem _ hy)
    have e : ((l.length + 1 : Nat) : Int) * X = l.length * X + X := by rw [Int.natCast_add, Int.add_mul]; simp
    rw [e]; omega
theorem nms_sub {X : Int} {l : List Nd} (c : CO X l) : ∀ n ∈ sset (nmL l), n ∈ NM := fun n hn => by
  obtain ⟨q, hq, rfl⟩ := List.mem_map.mp (mem_sset.mp hn)
  exact (c.top hq).1
theorem sset_pw (p : List Str) : (sset p).Pairwise fun x y => nlt x y = true := by
  have h1 := srtK_pw ((p.map (Sum.inr : Str → Key)).foldl insK [])
  rw [sset_inr, List.pairwise_map] at h1
  have h2 := nd_sset p
  rw [List.nodup_iff_pairwise_ne] at h2
  refine (h1.and h2).imp fun {x y} h => ?_
  cases z : nlt x y with
  | true => rfl
  | false =>
    have : leK (.inr x) (.inr y) = true := h.1
    unfold leK at this
    rw [decide_eq_true_eq] at this
    have k : nlt y x = false := decide_eq_false (List.not_lt.mpr this)
    exact absurd (nlt_total z k) h.2
theorem mulX {X : Int} (hX : 1 ≤ X) {n : Nat} (h : n ≤ 1000) : (n : Int) * X ≤ 1000 * X := Int.mul_le_mul_of_nonneg_right (by omega) (by omega)
theorem vf_fld : ∀ (j : Nat) (l : List Nd) (X : Int), 1 ≤ X → CO X l → vf (1000 * X) (fld j l)
  | 0, l, X, hX, c => trivial
  | j + 1, l, X, hX, c => by
    refine vf_mkF (fun r hr => ?_) (List.pairwise_map.mpr ((sset_pw _).imp fun h => h))
    obtain ⟨n, hn, rfl⟩ := List.mem_map.mp hr
    have sl : (sel l n).length ≤ 1000 := Nat.le_trans (List.length_filter_le _ _) c.len
    have m1 := mulX hX sl
    have o1 : ((sel l n).map own1).sum ≤ ((sel l n).length : Nat) * X := sum_le fun q hq => (c.top (List.mem_filter.mp hq).1).2.2.1
    have o0 : 0 ≤ ((sel l n).map own1).sum := sum_nn fun q hq => (c.top (List.mem_filter.mp hq).1).2.1
    have m2 : (1000 : Int) ≤ 1000 * X := by omega
    exact ⟨nms_sub c n hn, by show (0 : Int) ≤ ((sel l n).length : Nat); omega, by show (((sel l n).length : Nat) : Int) ≤ _; omega, o0, by show ((sel l n).map own1).sum ≤ _; omega, vf_fld j _ X hX (c.inn n)⟩
theorem dep_fld : ∀ (j : Nat) (l : List Nd) (k : Nat), dep (mkF l) ≤ k → dep (fld j l) ≤ k
  | 0, l, k, h => Nat.zero_le _
  | j + 1, l, k, h => by
    refine dep_mkF fun r hr => ?_
    obtain ⟨n, hn, rfl⟩ := List.mem_map.mp hr
    obtain ⟨q, hq, _⟩ := List.mem_map.mp (mem_sset.mp hn)
    have h1 := dep_tops (c := mkF l) (q := q) (by rw [tops_mkF]; exact hq)
    have h2 := dep_innL (l := l) (n := n) (j := k - 1) (by omega)
    have := dep_fld j (innL l n) (k - 1) h2
    show dep (fld j (innL l n)) + 1 ≤ k
    omega
/-! all own times -/
def oS (c : Cals) : Int := ((allq c).map own1).sum
theorem oS_mkF (l : List Nd) : oS (mkF l) = (l.map fun q => own1 q + oS q.i).sum := by
  unfold oS
  rw [allq_mkF]
  induction l with
  | nil => rfl
  | cons q l ih => rw [List.flatMap_cons, List.map_append, List.sum_append, List.map_cons, List.sum_cons, ih, List.map_cons, List.sum_cons]
theorem oS_tops (c : Cals) : oS c = ((tops c).map fun q => own1 q + oS q.i).sum := by rw [← oS_mkF, mkF_tops]
theorem oS_flat (l : List Nd) : oS (mkF (l.flatMap fun q => tops q.i)) = (l.map fun q => oS q.i).sum := by
  rw [oS_mkF]
  induction l with
  | nil => rfl
  | cons q l ih => rw [List.flatMap_cons, List.map_append, List.sum_append, ih, List.map_cons, List.sum_cons, ← oS_tops]
theorem sk_sel (f : Nd → Int) (l : List Nd) (n : Str) : sk (·.n) f l n = ((sel l n).map f).sum := by
  unfold sk sel
  induction l with
  | nil => rfl
  | cons q l ih =>
    rw [List.map_cons, List.sum_cons, List.filter_cons, ih]
    by_cases h : q.n = n
    · rw [if_pos h, if_pos (decide_eq_true h), List.map_cons, List.sum_cons]
    · rw [if_neg h, if_neg (by rw [decide_eq_false h]; decide), Int.zero_add]
theorem sum_add' {α : Type} (f g : α → Int) : ∀ l : List α, (l.map f).sum + (l.map g).sum = (l.map fun x => f x + g x).sum
  | [] => rfl
  | x :: l => by rw [List.map_cons, List.map_cons, List.map_cons, List.sum_cons, List.sum_cons, List.sum_cons, ← sum_add' f g l]; omega
theorem tmF_fld : ∀ (j : Nat) (l : List Nd), dep (mkF l) ≤ j → tmF (fld j l) = oS (mkF l)
  | 0, l, h => by
    cases l with
    | nil => rfl
    | cons q l => have := dep_tops (c := mkF (q :: l)) (q := q) (by rw [tops_mkF]; exact List.mem_cons_self); omega
  | j + 1, l, h => by
    have e1 : fld (j + 1) l = mkF ((sset (nmL l)).map (fN (fld j) l)) := rfl
    rw [e1, tmF_tops, tops_mkF, List.map_map, oS_mkF, ← sk_sum (·.n) (fun q => own1 q + oS q.i) (nd_sset (nmL l)) fun q hq => mem_sset.mpr (List.mem_map.mpr ⟨q, hq, rfl⟩)]
    congr 1
    refine List.map_congr_left fun n hn => ?_
    show ((sel l n).map own1).sum + tmF (fld j (innL l n)) = _
    rw [tmF_fld j (innL l n) (dep_innL h), sk_sel]
    unfold innL
    rw [oS_flat, sum_add']
theorem oS_bd {X : Int} {l : List Nd} (c : CO X l) (hX : 1 ≤ X) : oS (mkF l) ≤ 1000 * X := by
  have h := sum_le (f := own1) (X := X) (l := allq (mkF l)) fun q hq => (c.ow q hq).2
  rw [allq_len] at h
  have := mulX hX c.ct
  unfold oS
  omega
/-! what is at its paths -/
def pw (w : Nd → Int) : Cals → Pth → Int
  | .nil, _ => 0
  | .cons n a b i r, P => (match P with | [] => 0 | [x] => if n = x then w ⟨n, a, b, i⟩ else 0 | x :: y :: p => if n = x then pw w i (y :: p) else 0) + pw w r P
def hdw (w : Nd → Int) (q : Nd) (P : Pth) : Int := match P with | [] => 0 | [x] => if q.n = x then w q else 0 | x :: y :: p => if q.n = x then pw w q.i (y :: p) else 0
theorem pw_mkF (w : Nd → Int) (P : Pth) : ∀ l : List Nd, pw w (mkF l) P = (l.map fun q => hdw w q P).sum
  | [] => rfl
  | q :: l => by
    have e : pw w (mkF (q :: l)) P = hdw w q P + pw w (mkF l) P := by cases P with | nil => rfl | cons x P => cases P <;> rfl
    rw [e, pw_mkF w P l, List.map_cons, List.sum_cons]
theorem pw_tops (w : Nd → Int) (P : Pth) (c : Cals) : pw w c P = ((tops c).map fun q => hdw w q P).sum := by rw [← pw_mkF, mkF_tops]
theorem pw_one (w : Nd → Int) (l : List Nd) (n : Str) : pw w (mkF l) [n] = ((sel l n).map w).sum := by
  rw [pw_mkF, ← sk_sel]; rfl
theorem pw_more (w : Nd → Int) (l : List Nd) (n m : Str) (p : Pth) : pw w (mkF l) (n :: m :: p) = pw w (mkF (innL l n)) (m :: p) := by
  have h1 : pw w (mkF l) (n :: m :: p) = ((sel l n).map fun q => pw w q.i (m :: p)).sum := by rw [pw_mkF, ← sk_sel]; rfl
  have h2 : ∀ k : List Nd, pw w (mkF (k.flatMap fun q => tops q.i)) (m :: p) = (k.map fun q => pw w q.i (m :: p)).sum := by
    intro k
    rw [pw_mkF]
    induction k with
    | nil => rfl
    | cons q k ih => rw [List.flatMap_cons, List.map_append, List.sum_append, ih, List.map_cons, List.sum_cons, ← pw_tops]
  rw [h1]
  unfold innL
  rw [h2]
theorem sum_ones (l : List Nd) : (l.map fun _ => (1 : Int)).sum = (l.length : Nat) := by
  induction l with
  | nil => rfl
  | cons q l ih => rw [List.map_cons, List.sum_cons, ih, List.length_cons]; omega
theorem at1_fld (j : Nat) (l : List Nd) (n : Str) : at1 (fld (j + 1) l) n = if n ∈ sset (nmL l) then some (fN (fld j) l n) else none := at1_mk (fun _ => rfl) n
theorem sel_none {l : List Nd} {n : Str} (h : n ∉ sset (nmL l)) : sel l n = [] := by
  unfold sel
  rw [List.filter_eq_nil_iff]
  intro q hq e
  rw [decide_eq_true_eq] at e
  exact h (mem_sset.mpr (List.mem_map.mpr ⟨q, hq, e⟩))
theorem pw_nil (w : Nd → Int) (P : Pth) : pw w .nil P = 0 := rfl
theorem fld_at : ∀ (p : Pth) (j : Nat) (l : List Nd) (n : Str), dep (mkF l) ≤ j → (atP (fld j l) n p).isSome = decide (0 < pw (fun _ => 1) (mkF l) (n :: p)) ∧ fA (atP (fld j l) n p) = pw (fun _ => 1) (mkF l) (n :: p) ∧ fB (atP (fld j l) n p) = pw own1 (mkF l) (n :: p)
  | p, 0, l, n, h => by
    cases l with
    | nil => rw [fld, atP_nil]; exact ⟨rfl, rfl, rfl⟩
    | cons q l => have := dep_tops (c := mkF (q :: l)) (q := q) (by rw [tops_mkF]; exact List.mem_cons_self); omega
  | [], j + 1, l, n, h => by
    rw [atP, at1_fld, pw_one, pw_one, sum_ones]
    by_cases hn : n ∈ sset (nmL l)
    · rw [if_pos hn]
      refine ⟨?_, rfl, rfl⟩
      obtain ⟨q, hq, e⟩ := List.mem_map.mp (mem_sset.mp hn)
      have : q ∈ sel l n := List.mem_filter.mpr ⟨hq, decide_eq_true e⟩
      have hl := List.length_pos_of_mem this
      rw [decide_eq_true (by omega)]; rfl
    · rw [if_neg hn, sel_none hn]; exact ⟨rfl, rfl, rfl⟩
  | m :: p, j + 1, l, n, h => by
    rw [pw_more, pw_more, atP]
    by_cases hn : n ∈ sset (nmL l)
    · have e := at1_fld j l n
      rw [if_pos hn] at e
      have i : inn (fld (j + 1) l) n = fld j (innL l n) := by
        show (match at1 (fld (j + 1) l) n with | some q => q.i | none => Cals.nil) = _
        rw [e]; rfl
      rw [i]
      exact fld_at p j (innL l n) m (dep_innL h)
    · have e := at1_fld j l n
      rw [if_neg hn] at e
      have i : inn (fld (j + 1) l) n = .nil := by
        show (match at1 (fld (j + 1) l) n with | some q => q.i | none => Cals.nil) = _
        rw [e]
      have z : innL l n = [] := by unfold innL; rw [sel_none hn]; rfl
      rw [i, atP_nil, z]
      exact ⟨rfl, rfl, rfl⟩
/-! fold -/
def topsT (ts : Trs) : List Nd := ts.flatMap fun p => tops p.2
theorem fold_eq {ts : Trs} (t : TV ts) {X : Int} (c : CO X (topsT ts)) : F_fold [tD ts] = .ok (cD (fld 8 (topsT ts))) := by
  have n1 := need_trees_eq t
  have sr := srt_tD t
  have dd : dep (mkF (topsT ts)) < 8 := by
    have : dep (mkF (topsT ts)) ≤ 4 := dep_mkF fun q hq => by
      obtain ⟨p, hp, hq⟩ := List.mem_flatMap.mp hq
      have h1 := dep_tops hq
      have h2 := (t.ok p hp).2.2.2.1
      omega
    omega
  have fe := folded_eq 8 (topsT ts) X c dd
  have cl := c.len
  obtain ⟨s', e, p1, p2⟩ := for_to (e := S_fold.e) (b := bindT (.nm 2)) (f := L_fold_1) (u := fun p : Int × Cals => D.int p.1)
    (fun dn s => s.trees_here = .im (tD ts) ∧ s.some_ = .ow ((topsT dn).map ndD)) ts (by
    rintro dn p rs s e ⟨h1, h2⟩ Q hQ
    have hp : p ∈ ts := by rw [← e]; simp
    have ix := ix_tD t.nd hp
    have er : topsT (dn ++ [p]) = topsT dn ++ tops p.2 := by unfold topsT; simp
    have lz : (topsT dn).length + (tops p.2).length ≤ 1000 := by
      have : topsT ts = topsT dn ++ (tops p.2 ++ topsT rs) := by rw [← e]; unfold topsT; simp
      rw [this, List.length_append, List.length_append] at cl
      omega
    have z : (topsT dn).length + (toDs p.2).length ≤ sizeLine := by rw [toDs_tops, List.length_map]; exact sl_ge (by omega)
    rw [er] at hQ
    generalize topsT dn = AC at *
    show To S_fold.e Q (L_fold_1 (S_fold.e {s with hand := .im (.int p.1)}))
    unfold tD at h1 ix
    generalize hT : tK ts = T at *
    simp [L_fold_1, h1, h2, ix, z]
    exact to_nx (hQ _ ⟨by rw [← hT], by rw [toDs_tops]; simp⟩)) (S_fold.mk (.im (tD ts)) (.ow []) .un) ⟨rfl, rfl⟩
  unfold F_fold b_fold
  rw [e_run, S_fold.st]
  simp only [e_seq, e_A, e_cons, e_nil, e_V, S_fold.g0, R.ok_bind, n1, e_ofR]
  simp [sr, e, p2, fe]
/-! drawn trees -/
theorem val_allq {c : Cals} : ∀ {lo hi : Int}, val c lo hi → ∀ q ∈ allq c, val q.i q.a q.b ∧ q.a ≤ q.b ∧ lo ≤ q.a ∧ q.b ≤ hi := by
  induction c with
  | nil => intro lo hi v q h; cases h
  | cons n a b i r hi hr =>
    intro lo h v q hq
    rw [val_cons] at v
    obtain ⟨v1, v2, v3, v4, v5, v6⟩ := v
    rcases List.mem_cons.mp hq with rfl | hq
    · exact ⟨v5, v3, v2, v4⟩
    · rcases List.mem_append.mp hq with hq | hq
      · have := hi v5 q hq
        exact ⟨this.1, this.2.1, by omega, by omega⟩
      · have := hr v6 q hq
        exact ⟨this.1, this.2.1, by omega, by omega⟩
theorem tsum_val {c : Cals} : ∀ {lo hi : Int}, val c lo hi → lo ≤ hi → 0 ≤ tsum c ∧ tsum c ≤ hi - lo := by
  induction c with
  | nil => intro lo hi _ h; exact ⟨Int.le_refl _, by show (0 : Int) ≤ _; omega⟩
  | cons n a b i r hi hr =>
    intro lo h v hl
    rw [val_cons] at v
    obtain ⟨v1, v2, v3, v4, v5, v6⟩ := v
    have := hr v6 (by omega)
    rw [tsum_cons]; omega
theorem own1_val {c : Cals} {lo hi : Int} (v : val c lo hi) (q : Nd) (h : q ∈ allq c) : 0 ≤ own1 q ∧ own1 q ≤ hi - lo := by
  obtain ⟨h1, h2, h3, h4⟩ := val_allq v q h
  have := tsum_val h1 h2
  unfold own1
  omega
theorem allq_topsT {ts : Trs} {q : Nd} (h : q ∈ allq (mkF (topsT ts))) : ∃ p ∈ ts, q ∈ allq p.2 := by
  rw [allq_mkF] at h
  obtain ⟨r, hr, hq⟩ := List.mem_flatMap.mp h
  obtain ⟨p, hp, hr⟩ := List.mem_flatMap.mp hr
  refine ⟨p, hp, ?_⟩
  rw [allq_tops, allq_mkF]
  exact List.mem_flatMap.mpr ⟨r, hr, hq⟩
theorem cnt_topsT : ∀ ts : Trs, cnt (mkF (topsT ts)) = (ts.map fun p => cnt p.2).sum
  | [] => rfl
  | p :: ts => by
    have h1 : topsT (p :: ts) = tops p.2 ++ topsT ts := rfl
    rw [h1, cnt_mk, List.map_append, List.sum_append, ← cnt_mk, ← cnt_mk, mkF_tops, cnt_topsT ts, List.map_cons, List.sum_cons]
theorem sum_cnt {ts : Trs} {m : Nat} (h : ∀ p ∈ ts, cnt p.2 ≤ m) : (ts.map fun p => cnt p.2).sum ≤ m * ts.length := by
  induction ts with
  | nil => exact Nat.zero_le _
  | cons p ts ih =>
    rw [List.map_cons, List.sum_cons, List.length_cons, Nat.mul_succ]
    have := h p List.mem_cons_self
    have := ih fun q hq => h q (List.mem_cons_of_mem _ hq)
    omega
theorem CO.of {ts : Trs} {X : Int} (t : TV ts) (hc : ∀ p ∈ ts, cnt p.2 ≤ 120) (ho : ∀ p ∈ ts, ∀ q ∈ allq p.2, 0 ≤ own1 q ∧ own1 q ≤ X) : CO X (topsT ts) := by
  refine ⟨fun q hq => ?_, fun q hq => ?_, ?_⟩
  · obtain ⟨p, hp, hq⟩ := allq_topsT hq
    exact val_names (t.ok p hp).2.2.1 q hq
  · obtain ⟨p, hp, hq⟩ := allq_topsT hq
    exact ho p hp q hq
  · rw [cnt_topsT]
    have := sum_cnt hc
    have := t.len
    omega
theorem TG.co {ts : Trs} (t : TG ts) : CO 904 (topsT ts) := CO.of t.tv (fun p hp => (t.ok p hp).2.2.2.2.1) fun p hp q hq => by
  have := own1_val (t.ok p hp).2.2.1 q hq
  omega
end VP

set_option Elab.async false
set_option linter.all false
set_option maxRecDepth 100000
set_option maxHeartbeats 1000000
/-! looks and items in order. -/
namespace VP
open PySem PySem.Spec PyProof.Rows L2 LamX VS
/-- sorted, and there is one way to be so -/
theorem srt_uniq {α : Type} {g : α → D} {A B : List α} (h : A.Perm B) (st : B.Pairwise fun a b => leD (g a) (g b) = true ∧ leD (g b) (g a) = false) : srtL (A.map g) = B.map g := by
  unfold srtL
  rw [← List.map_mergeSort (r := fun a b => leD (g a) (g b)) (s := leD) (f := g) fun a _ b _ => rfl]
  congr 1
  refine List.Perm.eq_of_pairwise (le := fun a b => leD (g a) (g b) = true) (fun a b ha hb h1 h2 => ?_) (List.pairwise_mergeSort (le := fun a b => leD (g a) (g b)) (fun a b c => leD_trans _ _ _) (fun a b => leD_total _ _) A) (st.imp fun h => h.1) ((List.mergeSort_perm _ _).trans h)
  have ha' : a ∈ B := h.mem_iff.mp (List.mem_mergeSort.mp ha)
  have key : ∀ {l : List α}, l.Pairwise (fun a b => leD (g a) (g b) = true ∧ leD (g b) (g a) = false) → a ∈ l → b ∈ l → a = b := by
    intro l
    induction l with
    | nil => intro _ h; cases h
    | cons x l ih =>
      intro p h3 h4
      rw [List.pairwise_cons] at p
      rcases List.mem_cons.mp h3 with rfl | h3
      · rcases List.mem_cons.mp h4 with rfl | h4
        · rfl
        · have := (p.1 b h4).2; rw [h2] at this; cases this
      · rcases List.mem_cons.mp h4 with e | h4
        · have := (p.1 a h3).2; rw [← e, h1] at this; cases this
        · exact ih p.2 h3 h4
  exact key st ha' hb
theorem lex_int {t u : Int} (h : t < u) (r q : List (Int ⊕ List Nat)) : PyProof.Rows.lexLt itemOrd (.inl 1 :: .inl t :: r) (.inl 1 :: .inl u :: q) = true := by
  have e : ∀ i j : Int, itemOrd.blt (.inl i) (.inl j) = decide (i < j) := fun i j => rfl
  rw [PyProof.Rows.lex_cons, PyProof.Rows.lex_cons, lt1, e, decide_eq_true h]; rfl
theorem lex_str {x y : Str} (h : nlt x y = true) (r q : List (Int ⊕ List Nat)) : PyProof.Rows.lexLt itemOrd (.inl 1 :: .inr x.cps.toList :: r) (.inl 1 :: .inr y.cps.toList :: q) = true := by
  rw [PyProof.Rows.lex_cons, PyProof.Rows.lex_cons, lt1, ltN, h]; rfl
theorem leD_of_lt {d e : D} (h : PyProof.Rows.lexLt itemOrd (tks d) (tks e) = true) : leD d e = true ∧ leD e d = false := by
  rw [leD_def, leD_def, h, lex_asymm h]; exact ⟨rfl, rfl⟩
theorem leD_lk {c : Cals} {t u : Int} (h : t < u) : leD (lkD c t) (lkD c u) = true ∧ leD (lkD c u) (lkD c t) = false := leD_of_lt (lex_int h _ _)
theorem leD_it {p q : Str × Int} (h : nlt p.1 q.1 = true) : leD (pD p) (pD q) = true ∧ leD (pD q) (pD p) = false := leD_of_lt (lex_str h _ _)
/-! items -/
theorem nmc_pw {cs : Cnt} (nd : (cs.map (·.1)).Nodup) : (nmsC cs).Pairwise fun x y => nlt x y = true := by
  rw [← sset_nms nd]; exact sset_pw _
theorem nms_ext {cs ds : Cnt} (n1 : (cs.map (·.1)).Nodup) (n2 : (ds.map (·.1)).Nodup) (h : ∀ n, n ∈ cs.map (·.1) ↔ n ∈ ds.map (·.1)) : nmsC cs = nmsC ds := by
  have p1 := nmc_pw n1
  have p2 := nmc_pw n2
  exact sorted_ext (r := nlt) (fun h1 h2 => by rw [nlt_asymm h1] at h2; cases h2) p1 p2 (p1.imp fun h => nlt_ne h) (p2.imp fun h => nlt_ne h) fun n => by rw [mem_nms, mem_nms]; exact h n
theorem gt_mem {cs : Cnt} (nd : (cs.map (·.1)).Nodup) {p : Str × Int} (h : p ∈ cs) : gt cs p.1 = p.2 := by
  induction cs with
  | nil => cases h
  | cons q cs ih =>
    rw [List.map_cons, List.nodup_cons] at nd
    unfold gt
    rw [List.find?_cons]
    rcases List.mem_cons.mp h with rfl | h
    · simp
    · have : q.1 ≠ p.1 := fun e => nd.1 (by rw [e]; exact List.mem_map.mpr ⟨p, h, rfl⟩)
      rw [decide_eq_false this]
      exact ih nd.2 h
theorem items_perm {cs : Cnt} (nd : (cs.map (·.1)).Nodup) : cs.Perm ((nmsC cs).map fun n => (n, gt cs n)) := by
  have p1 := nmc_pw nd
  have ndc : cs.Nodup := by
    rw [List.nodup_iff_pairwise_ne] at nd ⊢
    rw [List.pairwise_map] at nd
    exact nd.imp fun h e => h (by rw [e])
  refine (List.perm_ext_iff_of_nodup ndc ?_).mpr fun p => ?_
  · rw [List.nodup_iff_pairwise_ne, List.pairwise_map]
    exact p1.imp fun h e => nlt_ne h (congrArg Prod.fst e)
  · rw [List.mem_map]
    constructor
    · exact fun h => ⟨p.1, mem_nms.mpr (List.mem_map.mpr ⟨p, h, rfl⟩), by rw [gt_mem nd h]⟩
    · rintro ⟨n, h, rfl⟩
      obtain ⟨q, hq, rfl⟩ := List.mem_map.mp (mem_nms.mp h)
      rw [gt_mem nd hq]; exact hq
theorem okSort_it {l : Cnt} (h : ∀ p ∈ l, p.1 ∈ NM) : okSort (l.map pD) = true := by
  unfold okSort
  simp only [Bool.and_eq_true, Bool.or_eq_true, List.all_eq_true, List.mem_map]
  have lay : ∀ p ∈ l, (toPy (pD p)).canLay0 = true ∧ (toPy (pD p)).depth ≤ 10 := fun p hp => by
    have := NM_ok p.1 (h p hp)
    constructor
    · show (PyData.tuple [.str p.1, .int p.2]).canLay0 = true
      simp [PyData.canLay0, PyData.canLayAll0, this]
    · show (PyData.tuple [.str p.1, .int p.2]).depth ≤ 10
      simp [PyData.depth, PyData.depthAll]
  refine ⟨⟨⟨?_, ?_⟩, ?_⟩, .inl ?_⟩
  · rintro d ⟨p, hp, rfl⟩
    unfold shp
    rw [Bool.and_eq_true, decide_eq_true_eq]
    have := lay p hp
    exact ⟨this.1, by omega⟩
  · rintro d ⟨p, hp, rfl⟩; exact decide_eq_true (by have := lay p hp; omega)
  · rintro d ⟨p, _, rfl⟩ e ⟨q, _, rfl⟩; rfl
  · rintro d ⟨p, _, rfl⟩; rfl
theorem sIt_kD {cs : Cnt} (nd : (cs.map (·.1)).Nodup) (h : ∀ n ∈ cs.map (·.1), n ∈ NM) {i : Nat} {ρ : VS.Env} (e : ρ[i]? = some (.oK (kD cs))) : sItO i ρ = .ok (.lst ((nmsC cs).map (snD cs))) := by
  have ei : itD (kD cs) = cs.map pD := by unfold itD kD; rw [List.map_map]; rfl
  have ok := okSort_it (l := cs) fun p hp => h _ (List.mem_map.mpr ⟨p, hp, rfl⟩)
  have p1 := nmc_pw nd
  have sr := srt_uniq (g := pD) (items_perm nd) (by
    rw [List.pairwise_map]
    exact p1.imp fun h => leD_it h)
  unfold sItO
  rw [e]
  dsimp only
  rw [ei, if_pos ok, sr, List.map_map]; rfl
/-! looks -/
theorem stk_nm {c : Cals} {lo hi : Int} (v : val c lo hi) (t : Int) : ∀ n ∈ stk c t, n ∈ NM := fun n h => by
  obtain ⟨q, hq, rfl⟩ := List.mem_map.mp (stk_names h)
  exact val_names v q hq
theorem okR_lk {c : Cals} {lo hi : Int} (v : val c lo hi) (t : Int) : okR (lkD c t) = true := by
  have h := okR_pth (p := stk c t) (stk_nm v t)
  have d := dep_pth (stk c t)
  unfold okR at h ⊢
  rw [Bool.and_eq_true, decide_eq_true_eq] at h ⊢
  constructor
  · show (PyData.tuple [.int t, toPy (pthD (stk c t))]).canLay0 = true
    simp [PyData.canLay0, PyData.canLayAll0, h.1]
  · show (PyData.tuple [.int t, toPy (pthD (stk c t))]).depth ≤ 90
    simp only [PyData.depth, PyData.depthAll]
    omega
theorem okSort_lk {c : Cals} {lo hi : Int} (v : val c lo hi) (l : List Int) : okSort (l.map (lkD c)) = true := by
  unfold okSort
  simp only [Bool.and_eq_true, Bool.or_eq_true, List.all_eq_true, List.mem_map]
  refine ⟨⟨⟨?_, ?_⟩, ?_⟩, .inl ?_⟩
  · rintro d ⟨p, hp, rfl⟩; exact shp_okR (okR_lk v p)
  · rintro d ⟨p, hp, rfl⟩
    have := okR_lk v p
    unfold okR at this
    rw [Bool.and_eq_true, decide_eq_true_eq] at this
    exact decide_eq_true (by omega)
  · rintro d ⟨p, _, rfl⟩ e ⟨q, _, rfl⟩
    have := alike_strs (stk c p) (stk c q)
    show PySem.W.alikeAll [.int p, .tuple (toPys ((stk c p).map .str))] [.int q, .tuple (toPys ((stk c q).map .str))] = true
    simp [PySem.W.alikeAll, PySem.W.alike, this]
  · rintro d ⟨p, _, rfl⟩; rfl
theorem sort_halves {c : Cals} {lo hi : Int} (v : val c lo hi) {f s x : Int} (s1 : 1 ≤ s) (f0 : 0 ≤ f) (x0 : 0 ≤ x) :
    sortD [.lst ((lks f (2 * s) x).map (lkD c) ++ (lks (f + s) (2 * s) x).map (lkD c))] = .ok (.lst ((lks f s x).map (lkD c))) := by
  rw [← List.map_append]
  unfold sortD
  dsimp only
  rw [if_pos (okSort_lk v _), srt_uniq (g := lkD c) (lks_perm s1 f0 x0) ((lks_pw s1 f0 x0).imp fun h => leD_lk h)]
/-- what each is the inmost of -/
def lasts (c : Cals) (l : List Int) : Cnt := l.flatMap fun t => ((stk c t).getLast?.toList).map fun n => (n, 1)
theorem tot_lasts (c : Cals) (n : Str) : ∀ l : List Int, tot (lasts c l) n = (l.map fun t => last1 n (stk c t)).sum
  | [] => rfl
  | t :: l => by
    have : lasts c (t :: l) = ((stk c t).getLast?.toList).map (fun n => (n, (1 : Int))) ++ lasts c l := rfl
    rw [this, tot_app, tot_lasts c n l, List.map_cons, List.sum_cons]
    congr 1
    unfold last1
    cases h : (stk c t).getLast? with
    | none => simp [tot_nil]
    | some m =>
      simp only [Option.toList, List.map_cons, List.map_nil, tot_cons, tot_nil]
      by_cases e : m = n
      · subst e; simp
      · simp [e]
theorem mem_lasts {c : Cals} {n : Str} {l : List Int} : n ∈ (lasts c l).map (·.1) ↔ ∃ t ∈ l, (stk c t).getLast? = some n := by
  unfold lasts
  rw [List.mem_map]
  constructor
  · rintro ⟨p, hp, rfl⟩
    obtain ⟨t, ht, h⟩ := List.mem_flatMap.mp hp
    obtain ⟨m, hm, rfl⟩ := List.mem_map.mp h
    exact ⟨t, ht, by simpa using hm⟩
  · rintro ⟨t, ht, h⟩
    exact ⟨(n, 1), List.mem_flatMap.mpr ⟨t, ht, List.mem_map.mpr ⟨n, by rw [h]; simp, rfl⟩⟩, rfl⟩
theorem last1_nn (n : Str) (l : List Str) : 0 ≤ last1 n l := by unfold last1; split <;> omega
theorem sum_pos {c : Cals} {n : Str} : ∀ l : List Int, 0 < (l.map fun t => last1 n (stk c t)).sum ↔ ∃ t ∈ l, (stk c t).getLast? = some n
  | [] => by simp
  | t :: l => by
    have ih := sum_pos (c := c) (n := n) l
    have h0 : 0 ≤ (l.map fun t => last1 n (stk c t)).sum := by
      clear ih
      induction l with
      | nil => exact Int.le_refl _
      | cons a l ih => rw [List.map_cons, List.sum_cons]; have := last1_nn n (stk c a); omega
    rw [List.map_cons, List.sum_cons]
    have h1 := last1_nn n (stk c t)
    constructor
    · intro h
      by_cases e : (stk c t).getLast? = some n
      · exact ⟨t, List.mem_cons_self, e⟩
      · have : last1 n (stk c t) = 0 := by unfold last1; rw [if_neg e]
        obtain ⟨u, hu, q⟩ := ih.mp (by omega)
        exact ⟨u, List.mem_cons_of_mem _ hu, q⟩
    · rintro ⟨u, hu, q⟩
      rcases List.mem_cons.mp hu with rfl | hu
      · have : last1 n (stk c u) = 1 := by unfold last1; rw [if_pos q]
        omega
      · have := ih.mpr ⟨u, hu, q⟩
        omega
/-- what is counted is what is seen -/
def cnts (f s : Int) (c : Cals) : Cnt := bumps [] (lasts c (lks f s (lb c)))
theorem gt_cnts {f s : Int} (s1 : 1 ≤ s) (f0 : 0 ≤ f) (n : Str) {c : Cals} {hi : Int} (v : val c 0 hi) (h0 : 0 ≤ hi) : gt (cnts f s c) n = gt (sn f s c) n := by
  have b := lb_bd v h0
  unfold cnts
  rw [gt_bumps, tot_lasts, sum_lks s1 f0 b.1, gt_sn s1 n v]
  show 0 + _ = _
  omega
theorem keys_cnts {f s : Int} (s1 : 1 ≤ s) (f0 : 0 ≤ f) {n : Str} {c : Cals} {hi : Int} (v : val c 0 hi) (h0 : 0 ≤ hi) : n ∈ (cnts f s c).map (·.1) ↔ 0 < gt (sn f s c) n := by
  have b := lb_bd v h0
  rw [gt_sn s1 n v, ← sum_lks s1 f0 b.1, sum_pos]
  unfold cnts
  rw [keys_bumps, mem_lasts]
  simp
theorem cnts_nd (f s : Int) (c : Cals) : ((cnts f s c).map (·.1)).Nodup := nd_bumps _ _ (by simp)
theorem nms_cnts {f s : Int} (s1 : 1 ≤ s) (f0 : 0 ≤ f) {c : Cals} {hi : Int} (v : val c 0 hi) (h0 : 0 ≤ hi) : nmsC (cnts f s c) = (nmsC (sn f s c)).filter fun n => decide (gt (sn f s c) n > 0) := by
  have p1 := nmc_pw (cnts_nd f s c)
  have p2 := (nmc_pw (sn_nd f s c)).filter fun n => decide (gt (sn f s c) n > 0)
  refine sorted_ext (r := nlt) (fun h1 h2 => by rw [nlt_asymm h1] at h2; cases h2) p1 p2 (p1.imp fun h => nlt_ne h) (p2.imp fun h => nlt_ne h) fun n => ?_
  rw [mem_nms, List.mem_filter, mem_nms, keys_cnts s1 f0 v h0, decide_eq_true_eq]
  constructor
  · intro h
    refine ⟨?_, h⟩
    cases e : hs (sn f s c) n with
    | true => exact hs_iff.mp e
    | false => rw [gt_none e] at h; exact absurd h (by decide)
  · exact fun h => h.2
end VP

set_option Elab.async false
set_option linter.all false
set_option maxRecDepth 100000
set_option maxHeartbeats 2000000
/-! k51: the law. -/
namespace VP
open PySem PySem.Spec PyProof.Rows L2 LamX VS
theorem cut_last {α : Type} (l : List α) : cut l (some (-1)) none = l.getLast?.toList := by
  unfold cut
  rw [HT.sIx_none]
  have e : HT.sIx l.length 0 (some (-1)) = l.length - 1 := by
    unfold HT.sIx
    dsimp only
    rw [if_pos (by decide)]; omega
  rw [e]
  cases h : l.getLast? with
  | none =>
    rw [List.getLast?_eq_none_iff] at h
    subst h; rfl
  | some x =>
    obtain ⟨i, rfl⟩ := List.getLast?_eq_some_iff.mp h
    simp
theorem lkc {c : Cals} (v : val c 0 904) {f s : Int} (f0 : 0 ≤ f) (s1 : 1 ≤ s) : (lb c - f) / s + 1 ≤ 2000 := by
  have b := lb_bd v (by decide)
  have : (lb c - f) / s < 905 := Int.ediv_lt_of_lt_mul (by omega) (by omega)
  omega
theorem okR_sn {cs : Cnt} {n : Str} (h : n ∈ NM) : okR (snD cs n) = true := by
  have := NM_ok n h
  unfold okR
  rw [Bool.and_eq_true, decide_eq_true_eq]
  constructor
  · show (PyData.tuple [.str n, .int (gt cs n)]).canLay0 = true
    simp [PyData.canLay0, PyData.canLayAll0, this]
  · show (PyData.tuple [.str n, .int (gt cs n)]).depth ≤ 90
    simp [PyData.depth, PyData.depthAll]
theorem sn_nm {f s : Int} {c : Cals} {lo hi : Int} (v : val c lo hi) : ∀ n ∈ nmsC (sn f s c), n ∈ NM := fun n h => by
  obtain ⟨q, hq, rfl⟩ := List.mem_map.mp (sn_keys.mp (mem_nms.mp h))
  exact val_names v q hq
theorem ne_sn {f s : Int} {c : Cals} {lo hi : Int} (v : val c lo hi) : cmNe (.lst ((nmsC (sn f s c)).map (snD (sn f s c)))) (.lst ((nmsC (sn f s c)).map (snD (sn f s c)))) = .ok (.bl false) := cmNe_refl (shp_lst fun d hd => by
  obtain ⟨n, hn, rfl⟩ := List.mem_map.mp hd
  exact okR_sn (sn_nm v n hn))
theorem nms_sn {f s f' s' : Int} {c : Cals} : nmsC (sn f s c) = nmsC (sn f' s' c) := nms_ext (sn_nd _ _ _) (sn_nd _ _ _) fun n => by rw [sn_keys, sn_keys]
theorem TG.one {ts : Trs} (t : TG ts) {p : Int × Cals} (hp : p ∈ ts) : TG [p] := ⟨by simp, fun q hq => by
  rcases List.mem_cons.mp hq with rfl | hq
  · exact t.ok q hp
  · cases hq⟩
/-- the counts, look by look -/
theorem cnt_loop {c : Cals} (s : S_law) (l : List Int) (hl : l.length ≤ 1000000) (h : s.counts = .oK []) : ∃ s' : S_law, runFor (bindT (.tp (.cons (.nm 13) (.cons (.nm 14) .nil)))) L_law_2 (l.map (lkD c)) s.e = .nx s'.e ∧
    s'.script = s.script ∧ s'.more = s.more ∧ s'.some_ = s.some_ ∧ s'.hand = s.hand ∧ s'.alone = s.alone ∧ s'.first = s.first ∧ s'.step = s.step ∧ s'.counts = .oK (kD (bumps [] (lasts c l))) := by
  have hlen : ∀ dn : List Int, (lasts c dn).length ≤ dn.length := by
    intro dn
    induction dn with
    | nil => exact Nat.le_refl _
    | cons t dn ih =>
      have e : lasts c (t :: dn) = ((stk c t).getLast?.toList).map (fun n => (n, (1 : Int))) ++ lasts c dn := rfl
      rw [e, List.length_append, List.length_map, List.length_cons]
      have : ((stk c t).getLast?.toList).length ≤ 1 := by cases (stk c t).getLast? <;> simp
      omega
  exact for_to (e := S_law.e) (b := bindT (.tp (.cons (.nm 13) (.cons (.nm 14) .nil)))) (f := L_law_2) (u := lkD c)
    (fun dn s' => s'.script = s.script ∧ s'.more = s.more ∧ s'.some_ = s.some_ ∧ s'.hand = s.hand ∧ s'.alone = s.alone ∧ s'.first = s.first ∧ s'.step = s.step ∧ s'.counts = .oK (kD (bumps [] (lasts c dn)))) l (by
      rintro dn x rs s' e ⟨a1, a2, a3, a4, a5, a6, a7, a8⟩ Q hQ
      have bd : bindT (.tp (.cons (.nm 13) (.cons (.nm 14) .nil))) (lkD c x) s'.e = .ok (S_law.e {s' with tick := .im (.int x), path := .im (.tup ((stk c x).map .str))}) := by unfold lkD; simp
      rw [bd]
      show To S_law.e Q (L_law_2 (S_law.e {s' with tick := .im (.int x), path := .im (.tup ((stk c x).map .str))}))
      have hd : dn.length ≤ l.length := by rw [← e]; simp
      have k1 := len_bumps (lasts c dn) []
      have k2 := hlen dn
      simp at k1
      have sl := e_sl (ρ := S_law.e {s' with tick := .im (.int x), path := .im (.tup ((stk c x).map .str))}) (g := geV 14) slT (gl := goSome (ge1 (subI (.int 0)) (gI 1))) (gh := goNone)
      have ct : cut ((stk c x).map D.str) (some (-1)) none = ((stk c x).getLast?.toList).map D.str := by
        rw [cut_last, List.getLast?_map]
        cases (stk c x).getLast? <;> rfl
      have it : gSeq itT (geSl slT (geV 14) (goSome (ge1 (subI (.int 0)) (gI 1))) goNone) (S_law.e {s' with tick := .im (.int x), path := .im (.tup ((stk c x).map .str))}) = .ok (((stk c x).getLast?.toList).map D.str) := by
        simp [ct]
      have el : lasts c (dn ++ [x]) = lasts c dn ++ ((stk c x).getLast?.toList).map fun n => (n, (1 : Int)) := by unfold lasts; rw [List.flatMap_append]; simp
      unfold L_law_2
      rw [e_for, it]
      dsimp only
      cases hg : (stk c x).getLast? with
      | none =>
        rw [hg] at el
        simp only [Option.toList, List.map_nil, runFor]
        refine to_nx (hQ _ ⟨a1, a2, a3, a4, a5, a6, a7, ?_⟩)
        rw [el]; simpa using a8
      | some n =>
        rw [hg] at el
        have pb := put_bump (i := 7) (gk := geV 15) (gv := gI 1) (ρ := S_law.e {s' with tick := .im (.int x), path := .im (.tup ((stk c x).map .str)), name_here := .im (.str n)}) (cs := bumps [] (lasts c dn)) (n := n) (v := 1) (by simp [a8]) (by simp) rfl (by rw [sizeLine_eq]; omega)
        have rf : runFor (bindT (.nm 15)) L_law_1 (((some n).toList).map D.str) (S_law.e {s' with tick := .im (.int x), path := .im (.tup ((stk c x).map .str))}) = .nx (S_law.e {s' with tick := .im (.int x), path := .im (.tup ((stk c x).map .str)), name_here := .im (.str n), counts := .oK (kD (bump (bumps [] (lasts c dn)) n 1))}) := by
          have : L_law_1 (S_law.e {s' with tick := .im (.int x), path := .im (.tup ((stk c x).map .str)), name_here := .im (.str n)}) = .nx (S_law.e {s' with tick := .im (.int x), path := .im (.tup ((stk c x).map .str)), name_here := .im (.str n), counts := .oK (kD (bump (bumps [] (lasts c dn)) n 1))}) := by
            unfold L_law_1; rw [pb]; simp
          simp only [Option.toList, List.map_cons, List.map_nil, runFor, e_bnm, S_law.w15, this]
        rw [rf]
        refine to_nx (hQ _ ⟨a1, a2, a3, a4, a5, a6, a7, ?_⟩)
        rw [el, bumps_app]; rfl) s ⟨rfl, rfl, rfl, rfl, rfl, rfl, rfl, h⟩
/-- two halves put together -/
theorem both_loop (s : S_law) (cs : Cnt) (l : Cnt) (hl : cs.length + l.length ≤ 1000) (hk : ∀ p ∈ l, p.1 ∈ cs.map (·.1)) (h : s.both = .oK (kD cs)) : ∃ s' : S_law, runFor (bindT (.tp (.cons (.nm 15) (.cons (.nm 16) .nil)))) L_law_3 (l.map pD) s.e = .nx s'.e ∧
    s'.script = s.script ∧ s'.more = s.more ∧ s'.some_ = s.some_ ∧ s'.hand = s.hand ∧ s'.alone = s.alone ∧ s'.first = s.first ∧ s'.step = s.step ∧ s'.both = .oK (kD (bumps cs l)) := by
  exact for_to (e := S_law.e) (b := bindT (.tp (.cons (.nm 15) (.cons (.nm 16) .nil)))) (f := L_law_3) (u := pD)
    (fun dn s' => s'.script = s.script ∧ s'.more = s.more ∧ s'.some_ = s.some_ ∧ s'.hand = s.hand ∧ s'.alone = s.alone ∧ s'.first = s.first ∧ s'.step = s.step ∧ s'.both = .oK (kD (bumps cs dn))) l (by
      rintro dn x rs s' e ⟨a1, a2, a3, a4, a5, a6, a7, a8⟩ Q hQ
      have hx : x ∈ l := by rw [← e]; simp
      have bd : bindT (.tp (.cons (.nm 15) (.cons (.nm 16) .nil))) (pD x) s'.e = .ok (S_law.e {s' with name_here := .im (.str x.1), count := .im (.int x.2)}) := by unfold pD; simp
      rw [bd]
      show To S_law.e Q (L_law_3 (S_law.e {s' with name_here := .im (.str x.1), count := .im (.int x.2)}))
      have hd : dn.length ≤ l.length := by rw [← e]; simp
      have k1 := len_bumps dn cs
      have kx : x.1 ∈ (bumps cs dn).map (·.1) := (keys_bumps _ _ _).mpr (.inl (hk x hx))
      have ix := ix_kD kx
      have ps := putS_kD (bumps cs dn) x.1 (gt (bumps cs dn) x.1 + x.2) (by rw [sizeLine_eq]; omega)
      have ee : gt (bumps cs dn) x.1 + x.2 - gt (bumps cs dn) x.1 = x.2 := by omega
      rw [ee] at ps
      have st : L_law_3 (S_law.e {s' with name_here := .im (.str x.1), count := .im (.int x.2)}) = .nx (S_law.e {s' with name_here := .im (.str x.1), count := .im (.int x.2), both := .oK (kD (bump (bumps cs dn) x.1 x.2))}) := by
        unfold L_law_3
        simp [a8, ix, ps]
      rw [st]
      refine to_nx (hQ _ ⟨a1, a2, a3, a4, a5, a6, a7, ?_⟩)
      rw [bumps_app]; rfl) s ⟨rfl, rfl, rfl, rfl, rfl, rfl, rfl, h⟩
theorem hand_turn {ts : Trs} (t : TG ts) {p : Int × Cals} (hp : p ∈ ts) (m : Int) (m0 : 0 ≤ m) (s : S_law) (h2 : s.more = .im (.int m)) (h3 : s.some_ = .im (tD ts)) (h4 : s.hand = .im (.int p.1)) (Q : S_law → Prop)
    (hQ : ∀ s' : S_law, s'.script = s.script → s'.more = .im (.int m) → s'.some_ = .im (tD ts) → Q s') : To S_law.e Q (L_law_4 s.e) := by
  obtain ⟨h, c⟩ := p
  have tp := t.ok _ hp
  have v : val c 0 904 := tp.2.2.1
  have t1 := (t.one hp).tv
  have hp1 : (h, c) ∈ [(h, c)] := List.mem_cons_self
  have ix := ix_tD t.tv.nd hp
  have al : disp1 (.int h) (cD c) = .ok (tD [(h, c)]) := rfl
  have m7a := modI_ok (i := m) (show (0 : Int) < 7 by decide)
  have d8 := dv m (show (0 : Int) < 8 by decide) (by decide +kernel)
  have m40 := modI_ok (i := m / 8) (show (0 : Int) < 40 by decide)
  have f0 := Int.emod_nonneg m (show (7 : Int) ≠ 0 by decide)
  have f7 := Int.emod_lt_of_pos m (show (0 : Int) < 7 by decide)
  have g0 := Int.emod_nonneg (m / 8) (show (40 : Int) ≠ 0 by decide)
  have g40 := Int.emod_lt_of_pos (m / 8) (show (0 : Int) < 40 by decide)
  generalize ef : m % 7 = f at *
  obtain ⟨st, est⟩ : ∃ st, st = 1 + m / 8 % 40 := ⟨_, rfl⟩
  have s1 : 1 ≤ st := by omega
  have s40 : st ≤ 40 := by omega
  have b := lb_bd v (by decide)
  have q1 := seen_eq t1 hp1 (f := 0) (s := 1) (by decide) (by decide) (by decide) (by decide) (lkc v (by decide) (by decide))
  have q2 := seen_eq t1 hp1 (f := f) (s := st) f0 (by omega) s1 (by omega) (lkc v f0 s1)
  have q3 := seen_eq t1 hp1 (f := f) (s := 2 * st) f0 (by omega) (by omega) (by omega) (lkc v f0 (by omega))
  have q4 := seen_eq t1 hp1 (f := f + st) (s := 2 * st) (by omega) (by omega) (by omega) (by omega) (lkc v (by omega) (by omega))
  have l2 := looks_eq t1 hp1 (f := f) (s := st) f0 (by omega) s1 (by omega) (lkc v f0 s1)
  have l3 := looks_eq t1 hp1 (f := f) (s := 2 * st) f0 (by omega) (by omega) (by omega) (lkc v f0 (by omega))
  have l4 := looks_eq t1 hp1 (f := f + st) (s := 2 * st) (by omega) (by omega) (by omega) (by omega) (lkc v (by omega) (by omega))
  have sh := sort_halves v s1 f0 b.1
  have n2 := lks_len (x := lb c) f0 s1 b.1 (by omega)
  have n3 := lks_len (f := f) (s := 2 * st) (x := lb c) f0 (by omega) b.1 (by omega)
  have n4 := lks_len (f := f + st) (s := 2 * st) (x := lb c) (by omega) (by omega) b.1 (by omega)
  have nw : cmNe (.lst ((lks f st (lb c)).map (lkD c))) (.lst ((lks f st (lb c)).map (lkD c))) = .ok (.bl false) := cmNe_refl (shp_lst fun d hd => by
    obtain ⟨x, _, rfl⟩ := List.mem_map.mp hd
    exact okR_lk v x)
  dsimp only at q1 q2 q3 q4 l2 l3 l4 h4 ix tp
  -- each tick
  have nm1 : nms [(h, c)] = nmsC (sn 0 1 c) := by
    unfold nms
    refine nms_ext (nd_bumps _ _ (by simp)) (sn_nd _ _ _) fun n => ?_
    rw [mem_tC, sn_keys, evq_one]
  have c1 : C_law_1 (S_law.e {s with alone := .im (tD [(h, c)])}) = .ok (.lst ((nmsC (sn 0 1 c)).map (snD (sn 0 1 c)))) := by
    unfold C_law_1
    have nl := sn_len (f := 0) (s := 1) v
    refine compE_all (u := rowD [(h, c)]) (h := snD (sn 0 1 c)) (nmsC (sn 0 1 c)) (by simp [table_eq t1, nm1]) (sl_ge (by unfold nmsC; rw [List.length_map, (srtK_perm _).length_eq]; unfold ksI; rw [List.length_map]; omega)) fun n hn => ?_
    refine ⟨S_law.e {s with alone := .im (tD [(h, c)]), name_here := .im (.str n), count := .im (.int (gt (tC [(h, c)]) n)), long := .im (.int (gt (tW [(h, c)]) n)), time := .im (.int (gt (tO [(h, c)]) n))}, by unfold rowD; simp, ?_⟩
    have eg : gt (tO [(h, c)]) n = gt (sn 0 1 c) n := by
      unfold tO
      rw [gt_bumps, evq_one, gt_sn1 n v]
      show 0 + tot ((allq c).map oI1) n = _
      omega
    simp [eg, snD]
  simp only [h4] at c1
  unfold L_law_4
  refine to_seq {s with alone := .im (tD [(h, c)])} (by simp [h3, h4, ix, al]) ?_
  have e1 := ne_sn (f := 0) (s := 1) v
  refine to_seq {s with alone := .im (tD [(h, c)])} (by simp [h4, q1, c1, e1]) ?_
  refine to_seq {s with alone := .im (tD [(h, c)]), first := .im (.int f), step := .im (.int st)} (by simp [h2, m7a, d8, m40, est]) ?_
  refine to_seq {s with alone := .im (tD [(h, c)]), first := .im (.int f), step := .im (.int st), whole_row := .im (.lst ((lks f st (lb c)).map (lkD c)))} (by simp [h4, l2]) ?_
  have mm : mulI (.int 2) (.int st) = .ok (.int (2 * st)) := mulI_ok (mul_wide (n := 8) (m := 8) (by decide) (by decide) (by omega) (by omega) (by decide))
  refine to_seq {s with alone := .im (tD [(h, c)]), first := .im (.int f), step := .im (.int st), whole_row := .im (.lst ((lks f st (lb c)).map (lkD c))), half := .im (.lst ((lks f (2 * st) (lb c)).map (lkD c))), rest := .im (.lst ((lks (f + st) (2 * st) (lb c)).map (lkD c)))} (by simp [h4, mm, l3, l4]) ?_
  have zz : (lks f (2 * st) (lb c)).length + (lks (f + st) (2 * st) (lb c)).length ≤ sizeLine := by rw [sizeLine_eq]; omega
  refine to_seq {s with alone := .im (tD [(h, c)]), first := .im (.int f), step := .im (.int st), whole_row := .im (.lst ((lks f st (lb c)).map (lkD c))), half := .im (.lst ((lks f (2 * st) (lb c)).map (lkD c))), rest := .im (.lst ((lks (f + st) (2 * st) (lb c)).map (lkD c)))} (by simp [zz, sh, nw]) ?_
  obtain ⟨s5, hs5⟩ : ∃ s5 : S_law, s5 = {s with alone := .im (tD [(h, c)]), first := .im (.int f), step := .im (.int st), whole_row := .im (.lst ((lks f st (lb c)).map (lkD c))), half := .im (.lst ((lks f (2 * st) (lb c)).map (lkD c))), rest := .im (.lst ((lks (f + st) (2 * st) (lb c)).map (lkD c))), counts := .oK []} := ⟨_, rfl⟩
  refine to_seq s5 (by rw [hs5]; simp) ?_
  have w1 : s5.whole_row = .im (.lst ((lks f st (lb c)).map (lkD c))) := by rw [hs5]
  obtain ⟨s6, e6, a1, a2, a3, a4, a5, a6, a7, a8⟩ := cnt_loop (c := c) s5 (lks f st (lb c)) n2 (by rw [hs5])
  have a1' : s6.script = s.script := by rw [a1, hs5]
  have a2' : s6.more = .im (.int m) := by rw [a2, hs5]; exact h2
  have a3' : s6.some_ = .im (tD ts) := by rw [a3, hs5]; exact h3
  have a4' : s6.hand = .im (.int h) := by rw [a4, hs5]; exact h4
  have a5' : s6.alone = .im (tD [(h, c)]) := by rw [a5, hs5]
  have a6' : s6.first = .im (.int f) := by rw [a6, hs5]
  have a7' : s6.step = .im (.int st) := by rw [a7, hs5]
  have a8' : s6.counts = .oK (kD (cnts f st c)) := a8
  clear hs5 a1 a2 a3 a4 a5 a6 a7 a8
  refine to_seq s6 (by simp [w1, e6]) ?_
  have c2 : C_law_2 s6.e = .ok (.lst (((nmsC (sn f st c)).filter fun n => decide (gt (sn f st c) n > 0)).map (snD (sn f st c)))) := by
    unfold C_law_2
    have nl := sn_len (f := f) (s := st) v
    refine compE_filter (u := snD (sn f st c)) (p := fun n => decide (gt (sn f st c) n > 0)) (h := snD (sn f st c)) (nmsC (sn f st c)) (by simp [a4', a5', a6', a7', q2]) (sl_ge (by unfold nmsC; rw [List.length_map, (srtK_perm _).length_eq]; unfold ksI; rw [List.length_map]; omega)) fun n hn => ?_
    have x1 : ixT (snD (sn f st c) n) (.int 1) = .ok (.int (gt (sn f st c) n)) := by unfold snD; simp
    exact ⟨S_law.e {s6 with pair := .im (snD (sn f st c) n)}, by simp, by simp [x1], fun _ => by simp⟩
  have i7 : sItO 7 s6.e = .ok (.lst ((nmsC (cnts f st c)).map (snD (cnts f st c)))) := by
    refine sIt_kD (cnts_nd _ _ _) (fun n hn => ?_) (by simp [a8'])
    have : n ∈ nmsC (cnts f st c) := mem_nms.mpr hn
    rw [nms_cnts s1 f0 v (by decide)] at this
    exact sn_nm v n (List.mem_filter.mp this).1
  have ei : (nmsC (cnts f st c)).map (snD (cnts f st c)) = ((nmsC (sn f st c)).filter fun n => decide (gt (sn f st c) n > 0)).map (snD (sn f st c)) := by
    rw [nms_cnts s1 f0 v (by decide)]
    refine List.map_congr_left fun n _ => ?_
    unfold snD
    rw [gt_cnts s1 f0 n v (by decide)]
  have ne2 : cmNe (.lst (((nmsC (sn f st c)).filter fun n => decide (gt (sn f st c) n > 0)).map (snD (sn f st c)))) (.lst (((nmsC (sn f st c)).filter fun n => decide (gt (sn f st c) n > 0)).map (snD (sn f st c)))) = .ok (.bl false) := cmNe_refl (shp_lst fun d hd => by
    obtain ⟨n, hn, rfl⟩ := List.mem_map.mp hd
    exact okR_sn (sn_nm v n (List.mem_filter.mp hn).1))
  rw [ei] at i7
  refine to_seq s6 (by rw [e_ifO, e_gB, e_op, c2, R.ok_bind, i7, R.ok_bind, ne2]; rfl) ?_
  -- two halves
  obtain ⟨A, hA⟩ : ∃ A : Cnt, A = (nmsC (sn f (2 * st) c)).map fun n => (n, gt (sn f (2 * st) c) n) := ⟨_, rfl⟩
  obtain ⟨B, hB⟩ : ∃ B : Cnt, B = (nmsC (sn (f + st) (2 * st) c)).map fun n => (n, gt (sn (f + st) (2 * st) c) n) := ⟨_, rfl⟩
  have kA : A.map (·.1) = nmsC (sn f (2 * st) c) := by rw [hA, List.map_map]; exact List.map_id _
  have kB : B.map (·.1) = nmsC (sn (f + st) (2 * st) c) := by rw [hB, List.map_map]; exact List.map_id _
  have pA : (nmsC (sn f (2 * st) c)).map (snD (sn f (2 * st) c)) = A.map pD := by rw [hA, List.map_map]; rfl
  have pB : (nmsC (sn (f + st) (2 * st) c)).map (snD (sn (f + st) (2 * st) c)) = B.map pD := by rw [hB, List.map_map]; rfl
  have ndA : (A.map (·.1)).Nodup := by rw [kA]; exact (nmc_pw (sn_nd _ _ _)).imp fun h => nlt_ne h
  have ndB : (B.map (·.1)).Nodup := by rw [kB]; exact (nmc_pw (sn_nd _ _ _)).imp fun h => nlt_ne h
  have lenN : ∀ f s : Int, (nmsC (sn f s c)).length ≤ 6 := fun f s => by
    have := sn_len (f := f) (s := s) v
    unfold nmsC; rw [List.length_map, (srtK_perm _).length_eq]; unfold ksI; rw [List.length_map]; exact this
  have lA : A.length ≤ 6 := by rw [hA, List.length_map]; exact lenN _ _
  have lB : B.length ≤ 6 := by rw [hB, List.length_map]; exact lenN _ _
  rw [pA] at q3
  rw [pB] at q4
  have dp := dictP_pD ndA
  refine to_seq {s6 with both := .oK (kD A)} (by simp [a4', a5', a6', a7', mm, q3, dp]) ?_
  obtain ⟨s8, e8, b1, b2, b3, b4, b5, b6, b7, b8⟩ := both_loop {s6 with both := .oK (kD A)} A B (by omega) (fun p hp => by
    have : p.1 ∈ B.map (·.1) := List.mem_map.mpr ⟨p, hp, rfl⟩
    rw [kB, nms_sn (f' := f) (s' := 2 * st), ← kA] at this
    exact this) rfl
  dsimp only at b1 b2 b3 b4 b5 b6 b7
  simp only [a4', a5', a6', a7'] at e8
  refine to_seq s8 (by simp [a4', a5', a6', a7', mm, q4, e8]) ?_
  have nk : ∀ n, n ∈ (bumps A B).map (·.1) ↔ n ∈ (sn f st c).map (·.1) := fun n => by
    rw [keys_bumps, kA, kB, mem_nms, mem_nms, sn_keys, sn_keys, sn_keys]
    exact or_self_iff
  have ndb : ((bumps A B).map (·.1)).Nodup := nd_bumps _ _ ndA
  have i8 : sItO 8 s8.e = .ok (.lst ((nmsC (bumps A B)).map (snD (bumps A B)))) := by
    refine sIt_kD ndb (fun n hn => ?_) (by simp [b8])
    exact sn_nm v n (mem_nms.mpr ((nk n).mp hn))
  have gA : ∀ {f s : Int} {n : Str}, n ∈ nmsC (sn f s c) → ∀ {C : Cnt}, C = ((nmsC (sn f s c)).map fun n => (n, gt (sn f s c) n)) → gt C n = gt (sn f s c) n := by
    rintro f s n hn C rfl
    have nd : (((nmsC (sn f s c)).map fun n => (n, gt (sn f s c) n)).map (·.1)).Nodup := by
      rw [List.map_map]
      have : (nmsC (sn f s c)).map (Prod.fst ∘ fun n => (n, gt (sn f s c) n)) = nmsC (sn f s c) := List.map_id _
      rw [this]
      exact (nmc_pw (sn_nd _ _ _)).imp fun h => nlt_ne h
    exact gt_mem nd (p := (n, gt (sn f s c) n)) (List.mem_map.mpr ⟨n, hn, rfl⟩)
  have totB : ∀ {C : Cnt}, (C.map (·.1)).Nodup → ∀ n, tot C n = gt C n := by
    intro C nd n
    induction C with
    | nil => rfl
    | cons q C ih =>
      rw [List.map_cons, List.nodup_cons] at nd
      rw [tot_cons, ih nd.2]
      unfold gt
      rw [List.find?_cons]
      by_cases e : q.1 = n
      · rw [if_pos e, decide_eq_true e]
        have : gt C n = 0 := gt_none (by
          cases hh : hs C n with
          | false => rfl
          | true => exact absurd (e ▸ hs_iff.mp hh) nd.1)
        unfold gt at this
        rw [this]; simp
      · rw [if_neg e, decide_eq_false e]; simp
  have e8' : (nmsC (bumps A B)).map (snD (bumps A B)) = (nmsC (sn f st c)).map (snD (sn f st c)) := by
    rw [nms_ext ndb (sn_nd f st c) nk]
    refine List.map_congr_left fun n hn => ?_
    unfold snD
    have h1 : n ∈ nmsC (sn f (2 * st) c) := by rw [nms_sn (f' := f) (s' := st)]; exact hn
    have h2 : n ∈ nmsC (sn (f + st) (2 * st) c) := by rw [nms_sn (f' := f) (s' := st)]; exact hn
    rw [gt_bumps, totB ndB, gA h1 hA, gA h2 hB, ← gt_two s1 n v]
  rw [e8'] at i8
  have e9 := ne_sn (f := f) (s := st) v
  have r4 : s8.hand = .im (.int h) := by rw [b4]; exact a4'
  have r5 : s8.alone = .im (tD [(h, c)]) := by rw [b5]; exact a5'
  have r6 : s8.first = .im (.int f) := by rw [b6]; exact a6'
  have r7 : s8.step = .im (.int st) := by rw [b7]; exact a7'
  have fin : ifO (geB (geOp cmNe (sItO 8) (geA F_seen (gaCons (geV 5) (gaCons (geV 4) (gaCons (geV 9) (gaCons (geV 10) gaNil)))))))
    (fun ρ => ofR ((gB false) ρ) .rt)
    .nx s8.e = .nx s8.e := by
    rw [e_ifO, e_gB, e_op, i8, R.ok_bind]
    simp [r4, r5, r6, r7, q2, e9]
  rw [fin]
  exact to_nx (hQ _ (by rw [b1]; exact a1') (by rw [b2]; exact a2') (by rw [b3]; exact a3'))
theorem turn {ns : List Int} (hl : ns.length ≤ 63) (k : Nat) (s : S_law) (h1 : s.script = .im (.scr ns)) (h2 : s.k = .im (.int k)) (Q : S_law → Prop) (hQ : ∀ s' : S_law, s'.script = .im (.scr ns) → Q s') : To S_law.e Q (L_law_5 s.e) := by
  obtain ⟨c, ec⟩ := cell_eq ns hl k
  have hd := drawn_eq c k
  have m0 := dr_pos c k
  generalize dr c k = m at *
  obtain ⟨ts, et, t⟩ := trees_eq (m / 64)
  have d64 := dv m (show (0 : Int) < 64 by decide) (by decide +kernel)
  unfold L_law_5
  refine to_seq {s with more := .im (.int m)} (by simp [h1, h2, ec, hd]) ?_
  refine to_seq {s with more := .im (.int m), some_ := .im (tD ts)} (by simp [d64, et]) ?_
  obtain ⟨s3, e3, p1, p2, p3⟩ := for_to (e := S_law.e) (b := bindT (.nm 4)) (f := L_law_4) (u := fun p : Int × Cals => D.int p.1)
    (fun dn s' => s'.script = .im (.scr ns) ∧ s'.more = .im (.int m) ∧ s'.some_ = .im (tD ts)) ts (by
      rintro dn p rs s' e ⟨q1, q2, q3⟩ Q hQ
      have hp : p ∈ ts := by rw [← e]; simp
      have := hand_turn t hp m m0 {s' with hand := .im (.int p.1)} q2 q3 rfl Q fun s2 z1 z2 z3 => hQ s2 ⟨by rw [z1]; exact q1, z2, z3⟩
      simpa using this) {s with more := .im (.int m), some_ := .im (tD ts)} ⟨h1, rfl, rfl⟩
  have ks := keys_tD ts
  have ks' : keysOf (.dK (tK ts)) = _ := ks
  simp only [h1] at e3
  simp only [e_fd, S_law.g3, ks', h1, e3, noEx_nx]
  exact to_nx (hQ _ p1)
theorem law_plain (ns : List Int) (hl : ns.length ≤ 63) : F_law [.scr ns] = .ok (.bl true) := by
  have ln : lenD [.scr ns] = .ok (.int ns.length) := rfl
  obtain ⟨s0, hs0⟩ : ∃ s0 : S_law, s0 = { script := .im (.scr ns), k := .un, more := .un, some_ := .un, hand := .un, alone := .un, whole_row := .un, counts := .un, both := .un, first := .un, step := .un, half := .un, rest := .un, tick := .un, path := .un, name_here := .un, count := .un, pair := .un, long := .un, time := .un } := ⟨_, rfl⟩
  obtain ⟨s', e, p1⟩ := for_to (e := S_law.e) (b := bindT (.nm 1)) (f := L_law_5) (u := fun i : Nat => D.int (i : Int)) (fun dn s => s.script = .im (.scr ns)) (List.range (max 1 (min 3 ns.length))) (by
    rintro dn k rs s e h1 Q hQ
    have := turn hl k {s with k := .im (.int k)} h1 rfl Q fun s' z => hQ s' z
    simpa using this) s0 (by rw [hs0])
  have r := rng1_nat (n := max 1 (min 3 ns.length)) (by omega)
  have em : (if (if (ns.length : Int) < 3 then (ns.length : Int) else 3) > 1 then (if (ns.length : Int) < 3 then (ns.length : Int) else 3) else 1) = ((max 1 (min 3 ns.length) : Nat) : Int) := by
    (repeat' split) <;> omega
  have r2 : gSeqA rng1 (gaCons (geA max2 (gaCons (gI 1) (gaCons (geA min2 (gaCons (gI 3) (gaCons (geA lenD (gaCons (geV 0) gaNil)) gaNil))) gaNil))) gaNil) s0.e = .ok ((List.range (max 1 (min 3 ns.length))).map fun i : Nat => D.int (i : Int)) := by
    rw [← r, ← em, hs0]
    simp [ln]
  unfold F_law b_law
  rw [e_run, S_law.st, ← hs0, e_seq, e_for, r2]
  dsimp only
  rw [e]
  rfl
end VP

set_option maxHeartbeats 4000000
theorem PySem.Challenge.cw_calltimes_k51_whole_looks_and_times_holds : PySem.Challenge.rw_calltimes_k51_whole_looks_and_times.Holds :=
  K51.holds_of VP.law_plain
