import PyProof.Rows.All
import Wide.All
import OpenK.AllK
import Wide.FinOn
import HandS.ForMost
import HandS.Exc
import HandS.ExcOwn
import HandS.WordsExc
import HandS.Walk
import HandS.TupAny
import HandS.Wide
import HandS.Lambda
import KE.SortData
import KE.SortKeyHeap
import HandS.Style
import HandS.SetKeys
import HandS.More
import HandS.Conv
import HandS.IsInst
import HandS.SortRule
import HandS.SortInts
import HandS.Set
import HandS.SetFor
import PyProof.Rows.SetFrom
import HandS.HeadEnd
import HandS.HeadHook2
import HandS.Head2
import HandS.ExcCtx
import HandS.DictTup
import HandS.HeadHook1
import HandS.Hot
import HandS.HotCalls
import HandS.ExcIs
import HandS.Evl
import HandS.HeadHook4
import HandS.HeadWalk
import KE.GoesEnum
import KE.GoesMore
import PySem.Challenge.RW_calltimes_k30_whole_tables
set_option Elab.async false
set_option linter.all false
set_option maxRecDepth 100000
set_option maxHeartbeats 2000000
/-! VS1: data values D, how the abstract heap bears them (Rep), heaps that grow (Grow), slots (Sl, Sim). -/
namespace VS
open PySem L2 LamX

inductive D where
  | non | bl (b : Bool) | int (i : Int) | str (s : Str) | tup (ds : List D) | lst (ds : List D)
  | dK (kvs : List (Key × D)) | dT (kvs : List (List Key × D))
  /-- the script: read by place, its length -/
  | scr (ns : List Int)

/-- what data stand on: lists, tuples, dicts -/
def Plain : HO → Prop
  | .lst _ => True | .tup _ => True | .dK _ => True | .dT _ => True | _ => False
structure RdLe (Z Z' : Hp) : Prop where
  l : ∀ a vs, Z a = some (.lst vs) → Z' a = some (.lst vs)
  u : ∀ a vs, Z a = some (.tup vs) → Z' a = some (.tup vs)
  r : ∀ a u, Plain u → Rd Z a u → Rd Z' a u
theorem RdLe.refl (Z : Hp) : RdLe Z Z := ⟨fun _ _ h => h, fun _ _ h => h, fun _ _ _ h => h⟩
theorem RdLe.trans {Z Z1 Z2 : Hp} (a : RdLe Z Z1) (b : RdLe Z1 Z2) : RdLe Z Z2 := ⟨fun x u h => b.l x u (a.l x u h), fun x u h => b.u x u (a.u x u h), fun x u p h => b.r x u p (a.r x u p h)⟩

mutual
inductive Rep (K : PySem.W.Frag) (Z : Hp) : V → D → Prop
  | non : Rep K Z .non .non
  | bl (b : Bool) : Rep K Z (.bl b) (.bl b)
  | int (i : Int) : Rep K Z (.int i) (.int i)
  | str (x : Str) : Rep K Z (.str x) (.str x)
  | tup {a : Addr} {vs : List V} {ds : List D} : Z a = some (.tup vs) → Reps K Z vs ds → Rep K Z (.ref a) (.tup ds)
  | lst {a : Addr} {vs : List V} {ds : List D} : Z a = some (.lst vs) → Reps K Z vs ds → Rep K Z (.ref a) (.lst ds)
  | dK {a : Addr} {vs : List (Key × V)} {ds : List (Key × D)} : Rd Z a (.dK vs) → RepsP K Z vs ds → Rep K Z (.ref a) (.dK ds)
  | dT {a : Addr} {vs : List (List Key × V)} {ds : List (List Key × D)} : Rd Z a (.dT vs) → RepsQ K Z vs ds → Rep K Z (.ref a) (.dT ds)
  | scr {a : Addr} {ns : List Int} : SqL K Z a (ns.map V.int) → Rep K Z (.ref a) (.scr ns)
inductive Reps (K : PySem.W.Frag) (Z : Hp) : List V → List D → Prop
  | nil : Reps K Z [] []
  | cons {v : V} {vs : List V} {d : D} {ds : List D} : Rep K Z v d → Reps K Z vs ds → Reps K Z (v :: vs) (d :: ds)
inductive RepsP (K : PySem.W.Frag) (Z : Hp) : List (Key × V) → List (Key × D) → Prop
  | nil : RepsP K Z [] []
  | cons {k : Key} {v : V} {vs : List (Key × V)} {d : D} {ds : List (Key × D)} : Rep K Z v d → RepsP K Z vs ds → RepsP K Z ((k, v) :: vs) ((k, d) :: ds)
inductive RepsQ (K : PySem.W.Frag) (Z : Hp) : List (List Key × V) → List (List Key × D) → Prop
  | nil : RepsQ K Z [] []
  | cons {k : List Key} {v : V} {vs : List (List Key × V)} {d : D} {ds : List (List Key × D)} : Rep K Z v d → RepsQ K Z vs ds → RepsQ K Z ((k, v) :: vs) ((k, d) :: ds)
end

section
variable {K : PySem.W.Frag} {Z Z' : Hp}
theorem sqL_le (e : RdLe Z Z') {a : Addr} {vs : List V} (h : SqL K Z a vs) : SqL K Z' a vs := by
  rcases h with h | h
  · exact .inl (e.r _ _ trivial h)
  · exact .inr h
theorem sqT_le (e : RdLe Z Z') {a : Addr} {vs : List V} (h : SqT K Z a vs) : SqT K Z' a vs := by
  rcases h with h | h
  · exact .inl (e.r _ _ trivial h)
  · exact .inr h
mutual
theorem Rep.le (e : RdLe Z Z') : ∀ (d : D) (v : V), Rep K Z v d → Rep K Z' v d
  | .non, _, h => by cases h; exact .non
  | .bl b, _, h => by cases h; exact .bl b
  | .int i, _, h => by cases h; exact .int i
  | .str s, _, h => by cases h; exact .str s
  | .tup ds, _, h => by cases h with | tup h1 h2 => exact .tup (e.u _ _ h1) (Reps.le e ds _ h2)
  | .lst ds, _, h => by cases h with | lst h1 h2 => exact .lst (e.l _ _ h1) (Reps.le e ds _ h2)
  | .dK ds, _, h => by cases h with | dK h1 h2 => exact .dK (e.r _ _ trivial h1) (RepsP.le e ds _ h2)
  | .dT ds, _, h => by cases h with | dT h1 h2 => exact .dT (e.r _ _ trivial h1) (RepsQ.le e ds _ h2)
  | .scr ns, _, h => by cases h with | scr h1 => exact .scr (sqL_le e h1)
theorem Reps.le (e : RdLe Z Z') : ∀ (ds : List D) (vs : List V), Reps K Z vs ds → Reps K Z' vs ds
  | [], _, h => by cases h; exact .nil
  | d :: ds, _, h => by cases h with | cons h1 h2 => exact .cons (Rep.le e d _ h1) (Reps.le e ds _ h2)
theorem RepsP.le (e : RdLe Z Z') : ∀ (ds : List (Key × D)) (vs : List (Key × V)), RepsP K Z vs ds → RepsP K Z' vs ds
  | [], _, h => by cases h; exact .nil
  | (_, d) :: ds, _, h => by cases h with | cons h1 h2 => exact .cons (Rep.le e d _ h1) (RepsP.le e ds _ h2)
theorem RepsQ.le (e : RdLe Z Z') : ∀ (ds : List (List Key × D)) (vs : List (List Key × V)), RepsQ K Z vs ds → RepsQ K Z' vs ds
  | [], _, h => by cases h; exact .nil
  | (_, d) :: ds, _, h => by cases h with | cons h1 h2 => exact .cons (Rep.le e d _ h1) (RepsQ.le e ds _ h2)
end
theorem Reps.length : ∀ {ds : List D} {vs : List V}, Reps K Z vs ds → vs.length = ds.length
  | [], _, h => by cases h; rfl
  | d :: ds, _, h => by cases h with | cons h1 h2 => simp [Reps.length h2]
theorem Reps.get : ∀ {ds : List D} {vs : List V} {i : Nat} {d : D}, Reps K Z vs ds → ds[i]? = some d → ∃ v, vs[i]? = some v ∧ Rep K Z v d
  | [], _, _, _, _, e => by simp at e
  | d :: ds, _, 0, _, h, e => by
    cases h with | cons h1 h2 => simp at e; subst e; exact ⟨_, rfl, h1⟩
  | d :: ds, _, i + 1, _, h, e => by
    cases h with | cons h1 h2 => simp at e; obtain ⟨v, a, b⟩ := Reps.get h2 e; exact ⟨v, by simpa using a, b⟩
theorem Reps.getV : ∀ {ds : List D} {vs : List V} {i : Nat} {v : V}, Reps K Z vs ds → vs[i]? = some v → ∃ d, ds[i]? = some d ∧ Rep K Z v d
  | [], _, _, _, h, e => by cases h; simp at e
  | d :: ds, _, 0, _, h, e => by
    cases h with | cons h1 h2 => simp at e; subst e; exact ⟨_, rfl, h1⟩
  | d :: ds, _, i + 1, _, h, e => by
    cases h with | cons h1 h2 => simp at e; obtain ⟨v, a, b⟩ := Reps.getV h2 e; exact ⟨v, by simpa using a, b⟩
theorem Reps.append : ∀ {ds es : List D} {vs us : List V}, Reps K Z vs ds → Reps K Z us es → Reps K Z (vs ++ us) (ds ++ es)
  | [], _, _, _, h, q => by cases h; exact q
  | d :: ds, _, _, _, h, q => by cases h with | cons h1 h2 => exact .cons h1 (Reps.append h2 q)
theorem Reps.take : ∀ {ds : List D} {vs : List V} (n : Nat), Reps K Z vs ds → Reps K Z (vs.take n) (ds.take n)
  | _, _, 0, _ => .nil
  | [], _, n + 1, h => by cases h; exact .nil
  | d :: ds, _, n + 1, h => by cases h with | cons h1 h2 => exact .cons h1 (Reps.take n h2)
theorem Reps.drop : ∀ {ds : List D} {vs : List V} (n : Nat), Reps K Z vs ds → Reps K Z (vs.drop n) (ds.drop n)
  | _, _, 0, h => h
  | [], _, n + 1, h => by cases h; exact .nil
  | d :: ds, _, n + 1, h => by cases h with | cons h1 h2 => exact Reps.drop n h2
theorem Reps.dropLast {ds : List D} {vs : List V} (h : Reps K Z vs ds) : Reps K Z vs.dropLast ds.dropLast := by
  rw [List.dropLast_eq_take, List.dropLast_eq_take, h.length]; exact h.take _
theorem Reps.reverse {ds : List D} {vs : List V} (h : Reps K Z vs ds) : Reps K Z vs.reverse ds.reverse := by
  induction ds generalizing vs with
  | nil => cases h; exact .nil
  | cons d ds ih => cases h with | cons h1 h2 => rw [List.reverse_cons, List.reverse_cons]; exact (ih h2).append (.cons h1 .nil)
theorem Reps.set : ∀ {ds : List D} {vs : List V} {v : V} {d : D} (i : Nat), Reps K Z vs ds → Rep K Z v d → Reps K Z (vs.set i v) (ds.set i d)
  | [], _, _, _, _, h, _ => by cases h; exact .nil
  | d :: ds, _, _, _, 0, h, q => by cases h with | cons h1 h2 => exact .cons q h2
  | d :: ds, _, _, _, i + 1, h, q => by cases h with | cons h1 h2 => exact .cons h1 (Reps.set i h2 q)
theorem Reps.rep {ds : List D} {vs : List V} (h : Reps K Z vs ds) : ∀ n : Nat, Reps K Z (List.replicate n vs).flatten (List.replicate n ds).flatten
  | 0 => .nil
  | n + 1 => by rw [List.replicate_succ, List.replicate_succ, List.flatten_cons, List.flatten_cons]; exact h.append (Reps.rep h n)
theorem Reps.eraseIdx : ∀ {ds : List D} {vs : List V} (i : Nat), Reps K Z vs ds → Reps K Z (vs.eraseIdx i) (ds.eraseIdx i)
  | [], _, _, h => by cases h; exact .nil
  | d :: ds, _, 0, h => by cases h with | cons h1 h2 => exact h2
  | d :: ds, _, i + 1, h => by cases h with | cons h1 h2 => exact .cons h1 (Reps.eraseIdx i h2)
end

/-! ### heaps that grow -/
def NoTb (o : HO) : Prop := ∀ ps, o ≠ .tbl ps
def Sub (Z H : Hp) : Prop := ∀ a o, Z a = some o → H a = some o
/-- what may change by one's own writes -/
def Prot (H : Hp) (a : Addr) : Prop := ∃ o, H a = some o ∧ NoTb o ∧ ∀ xs, o ≠ .tup xs
structure Grow (T : List (Addr × Str)) (Z H Z' H' : Hp) : Prop where
  z : Sub Z Z'
  h : ExtN H H'
  s : Sub Z' H'
  n : ∀ a o, Z' a = some o → NoTb o
  p : ∀ a, Z a = none → Prot H a → Z' a = none
  t : Tabs T H → Tabs T H'
section
variable {T : List (Addr × Str)} {Z H Z1 H1 Z2 H2 : Hp}
theorem Sub.refl (Z : Hp) : Sub Z Z := fun _ _ h => h
theorem Sub.trans (a : Sub Z Z1) (b : Sub Z1 Z2) : Sub Z Z2 := fun x o h => b x o (a x o h)
theorem Prot.ext {a : Addr} (e : ExtN H H1) (h : Prot H a) : Prot H1 a := by
  obtain ⟨o, h1, h2, h3⟩ := h
  exact ⟨o, e a o h1 h2, h2, h3⟩
theorem Grow.refl (s : Sub Z H) (n : ∀ a o, Z a = some o → NoTb o) : Grow T Z H Z H := ⟨Sub.refl _, ExtN.refl _, s, n, fun _ h _ => h, id⟩
theorem Grow.trans (a : Grow T Z H Z1 H1) (b : Grow T Z1 H1 Z2 H2) : Grow T Z H Z2 H2 :=
  ⟨a.z.trans b.z, a.h.trans b.h, b.s, b.n, fun x h q => b.p x (a.p x h q) (q.ext a.h), fun t => b.t (a.t t)⟩
theorem rd_sub (s : Sub Z H) {a : Addr} {u : HO} (h : Rd Z a u) : Rd H a u := by
  rcases h with h | ⟨o, h⟩
  · exact .inl (s _ _ h)
  · exact .inr ⟨o, s _ _ h⟩
theorem Sub.le (s : Sub Z H) : RdLe Z H := ⟨fun _ _ h => s _ _ h, fun _ _ h => s _ _ h, fun _ _ _ h => rd_sub s h⟩
theorem Tabs.new {p : Addr} {o : HO} (hp : H p = none) (t : Tabs T H) : Tabs T (upd H p o) :=
  t.ext fun b u e => by rw [upd_ne (ne_of_none e hp)]; exact e
theorem ext_new {p : Addr} {o : HO} (hp : H p = none) : ExtN H (upd H p o) := fun b u e _ => by rw [upd_ne (ne_of_none e hp)]; exact e
/-- a new object, not frozen -/
theorem grow_new {p : Addr} {o : HO} (s : Sub Z H) (n : ∀ a o, Z a = some o → NoTb o) (hp : H p = none) : Grow T Z H Z (upd H p o) :=
  ⟨Sub.refl _, ext_new hp, fun a u e => by rw [upd_ne (ne_of_none (s _ _ e) hp)]; exact s _ _ e, n, fun _ h _ => h, fun t => Tabs.new hp t⟩
/-- an object is frozen -/
theorem grow_frz {p : Addr} {o : HO} (s : Sub Z H) (n : ∀ a o, Z a = some o → NoTb o) (hp : Z p = none) (ho : H p = some o) (nt : NoTb o) {Z0 H0 : Hp} (g : Grow T Z0 H0 Z H) (np : ¬ Prot H0 p) : Grow T Z0 H0 (upd Z p o) H :=
  ⟨fun a u e => by rw [upd_ne (ne_of_none (g.z _ _ e) hp)]; exact g.z _ _ e, g.h, fun a u e => by
      by_cases h : a = p
      · subst h; rw [upd_same] at e; cases e; exact ho
      · rw [upd_ne h] at e; exact s _ _ e,
    fun a u e => by
      by_cases h : a = p
      · subst h; rw [upd_same] at e; cases e; exact nt
      · rw [upd_ne h] at e; exact n _ _ e,
    fun a h q => by
      have : a ≠ p := fun e => np (e ▸ q)
      rw [upd_ne this]; exact g.p a h q, g.t⟩
theorem nprot_none {p : Addr} (h : H p = none) : ¬ Prot H p := fun ⟨o, e, _⟩ => by rw [h] at e; cases e
theorem sub_none (s : Sub Z H) {p : Addr} (h : H p = none) : Z p = none := by
  cases e : Z p with
  | none => rfl
  | some o => rw [s _ _ e] at h; cases h
theorem nprot_ext (e : ExtN H H1) {p : Addr} (h : ¬ Prot H1 p) : ¬ Prot H p := fun q => h (q.ext e)
/-- a new frozen object -/
theorem grow_newz {p : Addr} {o : HO} (s : Sub Z H) (n : ∀ a o, Z a = some o → NoTb o) (hp : H p = none) (nt : NoTb o) : Grow T Z H (upd Z p o) (upd H p o) :=
  grow_frz (fun a u e => by rw [upd_ne (ne_of_none (s _ _ e) hp)]; exact s _ _ e) n (sub_none s hp) upd_same nt (grow_new s n hp) (nprot_none hp)
theorem sub_upd {p : Addr} {o : HO} (hp : Z p = none) : Sub Z (upd Z p o) := fun a u e => by rw [upd_ne (ne_of_none e hp)]; exact e
end
end VS

set_option Elab.async false
set_option linter.all false
set_option maxRecDepth 100000
set_option maxHeartbeats 2000000
/-! VS2: slots, what is simulated, what a reading tells (Den). -/
namespace VS
open PySem L2 LamX

/-- what a slot holds: nothing known, frozen data, a list or a dict of one's own -/
inductive Sl where
  | un | im (d : D) | ow (ds : List D) | oK (kvs : List (Key × D)) | oT (kvs : List (List Key × D))
abbrev Env := List Sl

/-- the answer of a piece of code: a value, an exception's class, not told -/
inductive R (α : Type) where
  | ok (a : α) | ex (c : Str) | no
namespace R
variable {α β : Type}
@[reducible] def bind : R α → (α → R β) → R β
  | .ok a, f => f a | .ex c, _ => .ex c | .no, _ => .no
instance : Monad R where
  pure := .ok
  bind := R.bind
@[simp] theorem ok_bind (a : α) (f : α → R β) : (R.ok a >>= f) = f a := rfl
@[simp] theorem ex_bind (c : Str) (f : α → R β) : (R.ex c >>= f) = .ex c := rfl
@[simp] theorem no_bind (f : α → R β) : ((R.no : R α) >>= f) = .no := rfl
@[simp] theorem pure_eq (a : α) : (pure a : R α) = .ok a := rfl
end R

section
variable (K : PySem.W.Frag) (Z H : Hp)
/-- the slot's own thing stands at a -/
inductive OwnAt : Addr → Sl → Prop
  | ow {a : Addr} {vs : List V} {ds : List D} : H a = some (.lst vs) → Z a = none → Reps K Z vs ds → OwnAt a (.ow ds)
  | oK {a : Addr} {vs : List (Key × V)} {ds : List (Key × D)} : H a = some (.dK vs) → Z a = none → RepsP K Z vs ds → OwnAt a (.oK ds)
  | oT {a : Addr} {vs : List (List Key × V)} {ds : List (List Key × D)} : H a = some (.dT vs) → Z a = none → RepsQ K Z vs ds → OwnAt a (.oT ds)
inductive SimSl : Option V → Sl → Prop
  | un {o : Option V} : SimSl o .un
  | im {v : V} {d : D} : Rep K Z v d → SimSl (some v) (.im d)
  | own {a : Addr} {sl : Sl} : OwnAt K Z H a sl → SimSl (some (.ref a)) sl
end
def isOwn : Sl → Bool
  | .ow _ => true | .oK _ => true | .oT _ => true | _ => false
section
variable {K : PySem.W.Frag} {T : List (Addr × Str)} {Z H Z' H' Z0 H0 : Hp}
theorem nt_lst (vs : List V) : NoTb (.lst vs) := fun _ q => by cases q
theorem nt_tup (vs : List V) : NoTb (.tup vs) := fun _ q => by cases q
theorem nt_dK (vs : List (Key × V)) : NoTb (.dK vs) := fun _ q => by cases q
theorem nt_dT (vs : List (List Key × V)) : NoTb (.dT vs) := fun _ q => by cases q
theorem pr_lst {a : Addr} {vs : List V} (h : H a = some (.lst vs)) : Prot H a := ⟨_, h, nt_lst _, fun _ q => by cases q⟩
theorem pr_dK {a : Addr} {vs : List (Key × V)} (h : H a = some (.dK vs)) : Prot H a := ⟨_, h, nt_dK _, fun _ q => by cases q⟩
theorem pr_dT {a : Addr} {vs : List (List Key × V)} (h : H a = some (.dT vs)) : Prot H a := ⟨_, h, nt_dT _, fun _ q => by cases q⟩
theorem tabs_write {a : Addr} {u o : HO} (h : H a = some u) (h1 : NoTb u) (h2 : ∀ f, u ≠ .ext f) (t : Tabs T H) : Tabs T (upd H a o) := fun p hp => by
  obtain ⟨ps, e1, e2, e3⟩ := t p hp
  have n : p.1 ≠ a := fun q => by rw [q, h] at e1; exact h1 ps (Option.some.inj e1)
  refine ⟨ps, by rw [upd_ne n]; exact e1, e2, fun pos cv hc => ?_⟩
  obtain ⟨c, f1, f2⟩ := e3 pos cv hc
  have n2 : c ≠ a := fun q => by rw [q, h] at f2; exact h2 _ (Option.some.inj f2)
  exact ⟨c, f1, by rw [upd_ne n2]; exact f2⟩
theorem OwnAt.grow (g : Grow T Z H Z' H') {a : Addr} {sl : Sl} (h : OwnAt K Z H a sl) : OwnAt K Z' H' a sl := by
  cases h with
  | ow h1 h2 h3 => exact .ow (g.h _ _ h1 (nt_lst _)) (g.p _ h2 (pr_lst h1)) (Reps.le g.z.le _ _ h3)
  | oK h1 h2 h3 => exact .oK (g.h _ _ h1 (nt_dK _)) (g.p _ h2 (pr_dK h1)) (RepsP.le g.z.le _ _ h3)
  | oT h1 h2 h3 => exact .oT (g.h _ _ h1 (nt_dT _)) (g.p _ h2 (pr_dT h1)) (RepsQ.le g.z.le _ _ h3)
theorem OwnAt.prot {a : Addr} {sl : Sl} (h : OwnAt K Z H a sl) : Prot H a ∧ Z a = none := by
  cases h with
  | ow h1 h2 _ => exact ⟨pr_lst h1, h2⟩
  | oK h1 h2 _ => exact ⟨pr_dK h1, h2⟩
  | oT h1 h2 _ => exact ⟨pr_dT h1, h2⟩
theorem OwnAt.own {a : Addr} {sl : Sl} (h : OwnAt K Z H a sl) : isOwn sl = true := by cases h <;> rfl
theorem SimSl.grow (g : Grow T Z H Z' H') {o : Option V} {sl : Sl} (h : SimSl K Z H o sl) : SimSl K Z' H' o sl := by
  cases h with
  | un => exact .un
  | im h => exact .im (Rep.le g.z.le _ _ h)
  | own h => exact .own (h.grow g)

/-- the slots σ over the heap H are what ρ tells; Z: what is frozen; Z0, H0: as it was at the def's entry -/
structure Sim (K : PySem.W.Frag) (T : List (Addr × Str)) (Z0 H0 Z H : Hp) (σ : St) (ρ : Env) : Prop where
  g : Grow T Z0 H0 Z H
  tabs : Tabs T H
  len : σ.length = ρ.length
  slot : ∀ (i : Nat) (o : Option V) (sl : Sl), σ[i]? = some o → ρ[i]? = some sl → SimSl K Z H o sl
  new : ∀ (i : Nat) (a : Addr) (sl : Sl), σ[i]? = some (some (.ref a)) → ρ[i]? = some sl → isOwn sl = true → ¬ Prot H0 a
  dis : ∀ (i j : Nat) (a : Addr) (sl sl' : Sl), i ≠ j → σ[i]? = some (some (.ref a)) → σ[j]? = some (some (.ref a)) → ρ[i]? = some sl → ρ[j]? = some sl' → isOwn sl = true → isOwn sl' = true → False
variable {σ : St} {ρ : Env}
theorem Sim.sub (S : Sim K T Z0 H0 Z H σ ρ) : Sub Z H := S.g.s
theorem Sim.nt (S : Sim K T Z0 H0 Z H σ ρ) : ∀ a o, Z a = some o → NoTb o := S.g.n
theorem Sim.grow (S : Sim K T Z0 H0 Z H σ ρ) (g : Grow T Z H Z' H') : Sim K T Z0 H0 Z' H' σ ρ :=
  ⟨S.g.trans g, g.t S.tabs, S.len, fun i o sl h1 h2 => (S.slot i o sl h1 h2).grow g, S.new, S.dis⟩
theorem Sim.at (S : Sim K T Z0 H0 Z H σ ρ) {i : Nat} {sl : Sl} (h : ρ[i]? = some sl) : ∃ o, σ[i]? = some o ∧ SimSl K Z H o sl := by
  have hi : i < σ.length := by rw [S.len]; exact (List.getElem?_eq_some_iff.mp h).1
  exact ⟨σ[i], List.getElem?_eq_getElem hi, S.slot i _ _ (List.getElem?_eq_getElem hi) h⟩
theorem Sim.im (S : Sim K T Z0 H0 Z H σ ρ) {i : Nat} {d : D} (h : ρ[i]? = some (.im d)) : ∃ v, σ[i]? = some (some v) ∧ Rep K Z v d := by
  obtain ⟨o, h1, h2⟩ := S.at h
  cases h2 with
  | im r => exact ⟨_, h1, r⟩
  | own q => cases q
theorem Sim.own (S : Sim K T Z0 H0 Z H σ ρ) {i : Nat} {sl : Sl} (h : ρ[i]? = some sl) (hs : isOwn sl = true) : ∃ a, σ[i]? = some (some (.ref a)) ∧ OwnAt K Z H a sl ∧ ¬ Prot H0 a := by
  obtain ⟨o, h1, h2⟩ := S.at h
  cases h2 with
  | un => cases hs
  | im _ => cases hs
  | own q => exact ⟨_, h1, q, S.new i _ sl h1 h hs⟩
/-- a slot is stored frozen data -/
theorem Sim.set (S : Sim K T Z0 H0 Z H σ ρ) {v : V} {d : D} (r : Rep K Z v d) (i : Nat) : Sim K T Z0 H0 Z H (σ.set i (some v)) (ρ.set i (.im d)) := by
  refine ⟨S.g, S.tabs, by simp [S.len], fun j o sl h1 h2 => ?_, fun j a sl h1 h2 h3 => ?_, fun j k a sl sl' hjk h1 h2 h3 h4 h5 h6 => ?_⟩
  · by_cases hj : i = j
    · subst hj
      have hi : i < σ.length := by have := (List.getElem?_eq_some_iff.mp h1).1; simpa using this
      rw [List.getElem?_set_self hi] at h1
      rw [List.getElem?_set_self (by rw [← S.len]; exact hi)] at h2
      cases h1; cases h2
      exact .im r
    · rw [List.getElem?_set_ne hj] at h1 h2
      exact S.slot j o sl h1 h2
  · by_cases hj : i = j
    · subst hj
      have hi : i < ρ.length := by have := (List.getElem?_eq_some_iff.mp h2).1; simpa using this
      rw [List.getElem?_set_self hi] at h2
      cases h2; cases h3
    · rw [List.getElem?_set_ne hj] at h1 h2
      exact S.new j a sl h1 h2 h3
  · have hj : i ≠ j := fun e => by
      subst e
      have hi : i < ρ.length := by have := (List.getElem?_eq_some_iff.mp h3).1; simpa using this
      rw [List.getElem?_set_self hi] at h3; cases h3; cases h5
    have hk : i ≠ k := fun e => by
      subst e
      have hi : i < ρ.length := by have := (List.getElem?_eq_some_iff.mp h4).1; simpa using this
      rw [List.getElem?_set_self hi] at h4; cases h4; cases h6
    rw [List.getElem?_set_ne hj] at h1 h3
    rw [List.getElem?_set_ne hk] at h2 h4
    exact S.dis j k a sl sl' hjk h1 h2 h3 h4 h5 h6
/-- a slot is stored a thing of its own, new or its own before -/
theorem Sim.setOwn (S : Sim K T Z0 H0 Z H σ ρ) {a : Addr} {sl : Sl} (r : OwnAt K Z H a sl) (np : ¬ Prot H0 a) (i : Nat) (ap : ∀ (j : Nat) (sl' : Sl), j ≠ i → ρ[j]? = some sl' → isOwn sl' = true → σ[j]? ≠ some (some (.ref a))) :
    Sim K T Z0 H0 Z H (σ.set i (some (.ref a))) (ρ.set i sl) := by
  refine ⟨S.g, S.tabs, by simp [S.len], fun j o sl1 h1 h2 => ?_, fun j b sl1 h1 h2 h3 => ?_, fun j k b sl1 sl2 hjk h1 h2 h3 h4 h5 h6 => ?_⟩
  · by_cases hj : i = j
    · subst hj
      have hi : i < σ.length := by have := (List.getElem?_eq_some_iff.mp h1).1; simpa using this
      rw [List.getElem?_set_self hi] at h1
      rw [List.getElem?_set_self (by rw [← S.len]; exact hi)] at h2
      cases h1; cases h2
      exact .own r
    · rw [List.getElem?_set_ne hj] at h1 h2
      exact S.slot j o sl1 h1 h2
  · by_cases hj : i = j
    · subst hj
      have hi : i < σ.length := by have := (List.getElem?_eq_some_iff.mp h1).1; simpa using this
      rw [List.getElem?_set_self hi] at h1
      cases h1; exact np
    · rw [List.getElem?_set_ne hj] at h1 h2
      exact S.new j b sl1 h1 h2 h3
  · by_cases hj : i = j
    · subst hj
      have hk : i ≠ k := hjk
      have hi : i < σ.length := by have := (List.getElem?_eq_some_iff.mp h1).1; simpa using this
      rw [List.getElem?_set_self hi] at h1
      rw [List.getElem?_set_ne hk] at h2 h4
      cases h1
      exact ap k sl2 (Ne.symm hk) h4 h6 h2
    · by_cases hk : i = k
      · subst hk
        have hi : i < σ.length := by have := (List.getElem?_eq_some_iff.mp h2).1; simpa using this
        rw [List.getElem?_set_self hi] at h2
        rw [List.getElem?_set_ne hj] at h1 h3
        cases h2
        exact ap j sl1 (Ne.symm hj) h3 h5 h1
      · rw [List.getElem?_set_ne hj] at h1 h3
        rw [List.getElem?_set_ne hk] at h2 h4
        exact S.dis j k b sl1 sl2 hjk h1 h2 h3 h4 h5 h6
/-- a new thing stands apart from all own ones -/
theorem Sim.apart (S : Sim K T Z0 H0 Z H σ ρ) {a : Addr} (h : ¬ Prot H a) : ∀ (j : Nat) (sl' : Sl), ρ[j]? = some sl' → isOwn sl' = true → σ[j]? ≠ some (some (.ref a)) := fun j sl' h1 h2 h3 => by
  obtain ⟨b, e1, e2, _⟩ := S.own h1 h2
  rw [h3] at e1; cases e1
  exact h e2.prot.1
/-- a slot is forgotten -/
theorem Sim.forget (S : Sim K T Z0 H0 Z H σ ρ) (o : Option V) (i : Nat) : Sim K T Z0 H0 Z H (σ.set i o) (ρ.set i .un) := by
  refine ⟨S.g, S.tabs, by simp [S.len], fun j u sl1 h1 h2 => ?_, fun j b sl1 h1 h2 h3 => ?_, fun j k b sl1 sl2 hjk h1 h2 h3 h4 h5 h6 => ?_⟩
  · by_cases hj : i = j
    · subst hj
      have hi : i < σ.length := by have := (List.getElem?_eq_some_iff.mp h1).1; simpa using this
      rw [List.getElem?_set_self (by rw [← S.len]; exact hi)] at h2
      cases h2; exact .un
    · rw [List.getElem?_set_ne hj] at h1 h2
      exact S.slot j u sl1 h1 h2
  · by_cases hj : i = j
    · subst hj
      have hi : i < ρ.length := by have := (List.getElem?_eq_some_iff.mp h2).1; simpa using this
      rw [List.getElem?_set_self hi] at h2
      cases h2; cases h3
    · rw [List.getElem?_set_ne hj] at h1 h2
      exact S.new j b sl1 h1 h2 h3
  · have hj : i ≠ j := fun e => by
      subst e
      have hi : i < ρ.length := by have := (List.getElem?_eq_some_iff.mp h3).1; simpa using this
      rw [List.getElem?_set_self hi] at h3; cases h3; cases h5
    have hk : i ≠ k := fun e => by
      subst e
      have hi : i < ρ.length := by have := (List.getElem?_eq_some_iff.mp h4).1; simpa using this
      rw [List.getElem?_set_self hi] at h4; cases h4; cases h6
    rw [List.getElem?_set_ne hj] at h1 h3
    rw [List.getElem?_set_ne hk] at h2 h4
    exact S.dis j k b sl1 sl2 hjk h1 h2 h3 h4 h5 h6
/-- an own thing is written: only its slot sees it -/
theorem Sim.write (S : Sim K T Z0 H0 Z H σ ρ) {i : Nat} {a : Addr} {sl sl' : Sl} {o : HO} (hi : ρ[i]? = some sl) (hs : isOwn sl = true) (ha : σ[i]? = some (some (.ref a)))
    (hn : OwnAt K Z (upd H a o) a sl') : Sim K T Z0 H0 Z (upd H a o) σ (ρ.set i sl') := by
  obtain ⟨b, e1, e2, np⟩ := S.own hi hs
  rw [ha] at e1; cases e1
  have hz := e2.prot.2
  have hlen : i < ρ.length := (List.getElem?_eq_some_iff.mp hi).1
  have na : ∀ b u, Z b = some u → b ≠ a := fun b u e q => by rw [q, hz] at e; cases e
  obtain ⟨oa, p1, p2, p3⟩ := e2.prot.1
  have hext : ∀ b u, H0 b = some u → NoTb u → b ≠ a := fun b u e nt q => by
    subst q
    refine np ⟨u, e, nt, fun xs q => ?_⟩
    have := S.g.h _ _ e nt
    rw [p1] at this; cases this; exact p3 xs q
  have no : ∀ f, oa ≠ HO.ext f := fun f q => by
    cases e2 with
    | ow h1 _ _ => rw [p1] at h1; cases h1; cases q
    | oK h1 _ _ => rw [p1] at h1; cases h1; cases q
    | oT h1 _ _ => rw [p1] at h1; cases h1; cases q
  have g : Grow T Z0 H0 Z (upd H a o) := ⟨S.g.z, fun b u e nt => by rw [upd_ne (hext b u e nt)]; exact S.g.h b u e nt, fun b u e => by rw [upd_ne (na b u e)]; exact S.g.s b u e, S.g.n, S.g.p, fun _ => tabs_write p1 p2 no S.tabs⟩
  have other : ∀ (b : Addr) (sl1 : Sl), b ≠ a → OwnAt K Z H b sl1 → OwnAt K Z (upd H a o) b sl1 := fun b sl1 hb q => by
    cases q with
    | ow h1 h2 h3 => exact .ow (by rw [upd_ne hb]; exact h1) h2 h3
    | oK h1 h2 h3 => exact .oK (by rw [upd_ne hb]; exact h1) h2 h3
    | oT h1 h2 h3 => exact .oT (by rw [upd_ne hb]; exact h1) h2 h3
  have hs' := hn.own
  refine ⟨g, tabs_write p1 p2 no S.tabs, by simp [S.len], fun j u sl1 h1 h2 => ?_, fun j b sl1 h1 h2 h3 => ?_, fun j k b sl1 sl2 hjk h1 h2 h3 h4 h5 h6 => ?_⟩
  · by_cases hj : i = j
    · subst hj
      rw [List.getElem?_set_self hlen] at h2
      cases h2
      rw [ha] at h1; cases h1
      exact .own hn
    · rw [List.getElem?_set_ne hj] at h2
      have q := S.slot j u sl1 h1 h2
      cases q with
      | un => exact .un
      | im r => exact .im r
      | own q =>
        refine .own (other _ _ (fun e => ?_) q)
        subst e
        exact S.dis i j _ sl sl1 hj ha h1 hi h2 hs q.own
  · by_cases hj : i = j
    · subst hj
      rw [ha] at h1; cases h1
      exact np
    · rw [List.getElem?_set_ne hj] at h2
      exact S.new j b sl1 h1 h2 h3
  · have fix : ∀ m slm, (ρ.set i sl')[m]? = some slm → isOwn slm = true → ∃ slm', ρ[m]? = some slm' ∧ isOwn slm' = true := fun m slm e f => by
      by_cases hm : i = m
      · subst hm; exact ⟨sl, hi, hs⟩
      · rw [List.getElem?_set_ne hm] at e; exact ⟨slm, e, f⟩
    obtain ⟨s1, f1, f2⟩ := fix j sl1 h3 h5
    obtain ⟨s2, f3, f4⟩ := fix k sl2 h4 h6
    exact S.dis j k b s1 s2 hjk h1 h2 f1 f3 f2 f4
/-- an own thing is frozen: its slot holds data from now on -/
def frozen : Sl → Option D
  | .ow ds => some (.lst ds) | .oK kvs => some (.dK kvs) | .oT kvs => some (.dT kvs) | _ => none
theorem OwnAt.frz {a : Addr} {sl : Sl} {d : D} (h : OwnAt K Z H a sl) (hd : frozen sl = some d) : ∃ o, H a = some o ∧ NoTb o ∧ Rep K (upd Z a o) (.ref a) d := by
  cases h with
  | ow h1 h2 h3 => cases hd; exact ⟨_, h1, nt_lst _, .lst upd_same (Reps.le (sub_upd h2).le _ _ h3)⟩
  | oK h1 h2 h3 => cases hd; exact ⟨_, h1, nt_dK _, .dK (Rd.of upd_same) (RepsP.le (sub_upd h2).le _ _ h3)⟩
  | oT h1 h2 h3 => cases hd; exact ⟨_, h1, nt_dT _, .dT (Rd.of upd_same) (RepsQ.le (sub_upd h2).le _ _ h3)⟩
theorem Sim.freeze (S : Sim K T Z0 H0 Z H σ ρ) {i : Nat} {sl : Sl} {d : D} (hi : ρ[i]? = some sl) (hd : frozen sl = some d) : ∃ Z', Sim K T Z0 H0 Z' H σ (ρ.set i (.im d)) := by
  have hs : isOwn sl = true := by cases sl <;> first | rfl | cases hd
  obtain ⟨a, e1, e2, np⟩ := S.own hi hs
  obtain ⟨o, h1, h2, h3⟩ := e2.frz hd
  have hz := e2.prot.2
  have hlen : i < ρ.length := (List.getElem?_eq_some_iff.mp hi).1
  have other : ∀ (b : Addr) (sl1 : Sl), b ≠ a → OwnAt K Z H b sl1 → OwnAt K (upd Z a o) H b sl1 := fun b sl1 hb q => by
    cases q with
    | ow h1 h2 h3 => exact .ow h1 (by rw [upd_ne hb]; exact h2) (Reps.le (sub_upd hz).le _ _ h3)
    | oK h1 h2 h3 => exact .oK h1 (by rw [upd_ne hb]; exact h2) (RepsP.le (sub_upd hz).le _ _ h3)
    | oT h1 h2 h3 => exact .oT h1 (by rw [upd_ne hb]; exact h2) (RepsQ.le (sub_upd hz).le _ _ h3)
  refine ⟨upd Z a o, grow_frz S.sub S.nt hz h1 h2 S.g np, S.tabs, by simp [S.len], fun j u sl1 f1 f2 => ?_, fun j b sl1 f1 f2 f3 => ?_, fun j k b sl1 sl2 hjk f1 f2 f3 f4 f5 f6 => ?_⟩
  · by_cases hj : i = j
    · subst hj
      rw [List.getElem?_set_self hlen] at f2
      cases f2
      rw [e1] at f1; cases f1
      exact .im h3
    · rw [List.getElem?_set_ne hj] at f2
      have q := S.slot j u sl1 f1 f2
      cases q with
      | un => exact .un
      | im r => exact .im (Rep.le (sub_upd hz).le _ _ r)
      | own q =>
        refine .own (other _ _ (fun e => ?_) q)
        subst e
        exact S.dis i j _ sl sl1 hj e1 f1 hi f2 hs q.own
  · have hj : i ≠ j := fun e => by
      subst e
      rw [List.getElem?_set_self hlen] at f2; cases f2; cases f3
    rw [List.getElem?_set_ne hj] at f2
    exact S.new j b sl1 f1 f2 f3
  · have hj : i ≠ j := fun e => by
      subst e
      rw [List.getElem?_set_self hlen] at f3; cases f3; cases f5
    have hk : i ≠ k := fun e => by
      subst e
      rw [List.getElem?_set_self hlen] at f4; cases f4; cases f6
    rw [List.getElem?_set_ne hj] at f3
    rw [List.getElem?_set_ne hk] at f4
    exact S.dis j k b sl1 sl2 hjk f1 f2 f3 f4 f5 f6
end

/-! ### what a value is: frozen data; data to be looked at now; a new thing -/
inductive Md where
  | c | t | f
  deriving DecidableEq
section
variable (K : PySem.W.Frag) (Z H Z' H' : Hp)
/-- a thing at a, with frozen parts -/
inductive TopAt : Addr → D → Prop
  | lst {a : Addr} {vs : List V} {ds : List D} : H' a = some (.lst vs) → Reps K Z' vs ds → TopAt a (.lst ds)
  | dK {a : Addr} {vs : List (Key × V)} {ds : List (Key × D)} : H' a = some (.dK vs) → RepsP K Z' vs ds → TopAt a (.dK ds)
  | dT {a : Addr} {vs : List (List Key × V)} {ds : List (List Key × D)} : H' a = some (.dT vs) → RepsQ K Z' vs ds → TopAt a (.dT ds)
def Fin : Md → V → D → Prop
  | .c, v, d => Rep K Z' v d
  | .t, v, d => Rep K Z' v d ∨ ∃ a, v = .ref a ∧ TopAt K Z' H' a d
  | .f, v, d => ∃ a, v = .ref a ∧ TopAt K Z' H' a d ∧ Z' a = none ∧ ¬ Prot H a
end
section
variable {K : PySem.W.Frag} {T : List (Addr × Str)} {Z H Z' H' Z1 H1 : Hp} {v : V} {d : D}
theorem TopAt.grow (g : Grow T Z' H' Z1 H1) {a : Addr} (h : TopAt K Z' H' a d) : TopAt K Z1 H1 a d := by
  cases h with
  | lst h1 h2 => exact .lst (g.h _ _ h1 (nt_lst _)) (Reps.le g.z.le _ _ h2)
  | dK h1 h2 => exact .dK (g.h _ _ h1 (nt_dK _)) (RepsP.le g.z.le _ _ h2)
  | dT h1 h2 => exact .dT (g.h _ _ h1 (nt_dT _)) (RepsQ.le g.z.le _ _ h2)
theorem TopAt.rep {a : Addr} (s : Sub Z' H') (h : TopAt K Z' H' a d) : Rep K H' (.ref a) d := by
  cases h with
  | lst h1 h2 => exact .lst h1 (Reps.le s.le _ _ h2)
  | dK h1 h2 => exact .dK (Rd.of h1) (RepsP.le s.le _ _ h2)
  | dT h1 h2 => exact .dT (Rd.of h1) (RepsQ.le s.le _ _ h2)
/-- what may be looked at -/
abbrev Now (K : PySem.W.Frag) (Z' H' : Hp) (v : V) (d : D) : Prop := Fin K Z' Z' H' .t v d
theorem Now.rep (s : Sub Z' H') (h : Fin K H Z' H' .t v d) : Rep K H' v d := by
  rcases h with h | ⟨a, rfl, h⟩
  · exact Rep.le s.le _ _ h
  · exact h.rep s
theorem Now.grow (g : Grow T Z' H' Z1 H1) (h : Fin K H Z' H' .t v d) {Hx : Hp} : Fin K Hx Z1 H1 .t v d := by
  rcases h with h | ⟨a, rfl, h⟩
  · exact .inl (Rep.le g.z.le _ _ h)
  · exact .inr ⟨a, rfl, h.grow g⟩
theorem Fin.now {m : Md} (h : Fin K H Z' H' m v d) {Hx : Hp} : Fin K Hx Z' H' .t v d := by
  cases m with
  | c => exact .inl h
  | t => exact h
  | f => obtain ⟨a, rfl, h, _⟩ := h; exact .inr ⟨a, rfl, h⟩
theorem TopAt.at {a : Addr} (h : TopAt K Z' H' a d) : ∃ o, H' a = some o ∧ NoTb o ∧ (Z' a = none → Rep K (upd Z' a o) (.ref a) d) := by
  cases h with
  | lst h1 h2 => exact ⟨_, h1, nt_lst _, fun q => .lst upd_same (Reps.le (sub_upd q).le _ _ h2)⟩
  | dK h1 h2 => exact ⟨_, h1, nt_dK _, fun q => .dK (Rd.of upd_same) (RepsP.le (sub_upd q).le _ _ h2)⟩
  | dT h1 h2 => exact ⟨_, h1, nt_dT _, fun q => .dT (Rd.of upd_same) (RepsQ.le (sub_upd q).le _ _ h2)⟩
/-- a new thing is frozen -/
theorem Fin.frz {m : Md} (hm : m ≠ .t) (g : Grow T Z H Z' H') (h : Fin K H Z' H' m v d) : ∃ Z1, Grow T Z H Z1 H' ∧ Sub Z' Z1 ∧ Rep K Z1 v d := by
  cases m with
  | c => exact ⟨Z', g, Sub.refl _, h⟩
  | t => exact absurd rfl hm
  | f =>
    obtain ⟨a, rfl, h, hz, hp⟩ := h
    obtain ⟨o, h1, h2, h3⟩ := h.at
    exact ⟨upd Z' a o, grow_frz g.s g.n hz h1 h2 g hp, sub_upd hz, h3 hz⟩
end
end VS

set_option Elab.async false
set_option linter.all false
set_option maxRecDepth 100000
set_option maxHeartbeats 2000000
/-! VS3: what a reading tells (Den), by the kinds of syntax. -/
namespace VS
open PySem L2 LamX

/-- what a law's text fixes: the tables of code objects, the classes' addresses, the wish of an exception -/
structure Wh where
  T : List (Addr × Str)
  cl : Str → Addr
  E : XK
section
variable (K : PySem.W.Frag) (G : Wh)
def Ans (m : Md) (r : R D) (Z H : Hp) (Q : VK) : Prop :=
  match r with
  | .ok d => ∀ v Z' H', Grow G.T Z H Z' H' → Fin K H Z' H' m v d → Q v H'
  | .ex c => ∀ Z' H', Grow G.T Z H Z' H' → G.E (.ref (G.cl c)) none H'
  | .no => False
def AnsB (r : R Bool) (Z H : Hp) (Q : Bool → Hp → Prop) : Prop :=
  match r with
  | .ok b => ∀ Z' H', Grow G.T Z H Z' H' → Q b H'
  | .ex c => ∀ Z' H', Grow G.T Z H Z' H' → G.E (.ref (G.cl c)) none H'
  | .no => False
/-- values and data side by side -/
inductive Fins (m : Md) (Z' H' : Hp) : List V → List D → Prop
  | nil : Fins m Z' H' [] []
  | cons {v : V} {d : D} {vs : List V} {ds : List D} : Fin K H' Z' H' m v d → Fins m Z' H' vs ds → Fins m Z' H' (v :: vs) (d :: ds)
def AnsA (m : Md) (r : R (List D)) (Z H : Hp) (Q : List V → Hp → Prop) : Prop :=
  match r with
  | .ok ds => ∀ vs Z' H', Grow G.T Z H Z' H' → Fins K m Z' H' vs ds → Q vs H'
  | .ex c => ∀ Z' H', Grow G.T Z H Z' H' → G.E (.ref (G.cl c)) none H'
  | .no => False
end
section
variable {K : PySem.W.Frag} {G : Wh} {Z H Z1 H1 : Hp}
theorem Ans.grow {m : Md} {r : R D} {Q : VK} (h : Ans K G m r Z H Q) (g : Grow G.T Z H Z1 H1) : Ans K G m r Z1 H1 Q := by
  cases r with
  | ok d =>
    intro v Z' H' g' f
    refine h v Z' H' (g.trans g') ?_
    cases m with
    | c => exact f
    | t => exact f
    | f => obtain ⟨a, e, t, z, p⟩ := f; exact ⟨a, e, t, z, nprot_ext g.h p⟩
  | ex c => exact fun Z' H' g' => h Z' H' (g.trans g')
  | no => exact h
theorem AnsB.grow {r : R Bool} {Q : Bool → Hp → Prop} (h : AnsB G r Z H Q) (g : Grow G.T Z H Z1 H1) : AnsB G r Z1 H1 Q := by
  cases r with
  | ok d => exact fun Z' H' g' => h Z' H' (g.trans g')
  | ex c => exact fun Z' H' g' => h Z' H' (g.trans g')
  | no => exact h
theorem Fins.reps {Z' H' : Hp} : ∀ {vs : List V} {ds : List D}, Fins K .c Z' H' vs ds → Reps K Z' vs ds
  | _, _, .nil => .nil
  | _, _, .cons h t => .cons h (Fins.reps t)
end

/-- an expression's reading tells: its answer is g of the slots -/
structure Den (X : Cx) (G : Wh) (m : Md) (e : Expr) (g : Env → R D) : Prop where
  ex : ∃ t, PE X e t ∧ ∀ Z0 H0 Z H σ ρ Q, Sim X.K G.T Z0 H0 Z H σ ρ → Ans X.K G m (g ρ) Z H Q → t σ H Q
structure DenT (X : Cx) (G : Wh) (e : Expr) (g : Env → R Bool) : Prop where
  ex : ∃ t, PT X e t ∧ ∀ Z0 H0 Z H σ ρ Q, Sim X.K G.T Z0 H0 Z H σ ρ → AnsB G (g ρ) Z H Q → t σ H Q
structure DenA (X : Cx) (G : Wh) (m : Md) (es : List Expr) (g : Env → R (List D)) : Prop where
  ex : ∃ t, PA X es t ∧ ∀ Z0 H0 Z H σ ρ Q, Sim X.K G.T Z0 H0 Z H σ ρ → AnsA X.K G m (g ρ) Z H Q → t σ H Q
structure DenO (X : Cx) (G : Wh) (e : Option Expr) (g : Env → R (Option Int)) : Prop where
  ex : ∃ t, PO X e t ∧ ∀ Z0 H0 Z H σ ρ Q, Sim X.K G.T Z0 H0 Z H σ ρ → (match g ρ with
    | .ok o => ∀ Z' H', Grow G.T Z H Z' H' → Q o H'
    | .ex c => ∀ Z' H', Grow G.T Z H Z' H' → G.E (.ref (G.cl c)) none H'
    | .no => False) → t σ H Q

section
variable {X : Cx} {G : Wh} {m : Md} {e : Expr} {g : Env → R D}
/-- from what is new or frozen to what may be looked at -/
theorem Ans.now {r : R D} {Z H : Hp} {Q : VK} (h : Ans X.K G .t r Z H Q) : Ans X.K G m r Z H Q := by
  cases r with
  | ok d => exact fun v Z' H' g f => h v Z' H' g f.now
  | ex c => exact h
  | no => exact h
theorem Ans.frz {r : R D} {Z H : Hp} {Q : VK} (hm : m ≠ .t) (h : Ans X.K G .c r Z H Q) : Ans X.K G m r Z H Q := by
  cases r with
  | ok d =>
    intro v Z' H' g f
    obtain ⟨Z1, g1, _, r⟩ := f.frz hm g
    exact h v Z1 H' g1 r
  | ex c => exact h
  | no => exact h
theorem Den.now (h : Den X G m e g) : Den X G .t e g := by
  obtain ⟨t, p, q⟩ := h.ex
  exact ⟨t, p, fun Z0 H0 Z H σ ρ Q S a => q Z0 H0 Z H σ ρ Q S (Ans.now a)⟩
theorem Den.frz (hm : m ≠ .t) (h : Den X G m e g) : Den X G .c e g := by
  obtain ⟨t, p, q⟩ := h.ex
  exact ⟨t, p, fun Z0 H0 Z H σ ρ Q S a => q Z0 H0 Z H σ ρ Q S (Ans.frz hm a)⟩

/-! ### names, constants -/
def geV (i : Nat) : Env → R D := fun ρ => match ρ[i]? with
  | some (.im d) => .ok d | _ => .no
def geT (i : Nat) : Env → R D := fun ρ => match ρ[i]? with
  | some (.im d) => .ok d | some (.ow ds) => .ok (.lst ds) | some (.oK kvs) => .ok (.dK kvs) | some (.oT kvs) => .ok (.dT kvs) | _ => .no
theorem den_var {i : Nat} {x : Str} {pos : Pos} (hN : X.N[i]? = some x) (hv : Vis X.env.scope x) (hd : (x == ("__debug__" : Str)) = false) (hcd : (x == ("__classdict__" : Str)) = false) : Den X G .c (.Name x pos) (geV i) := by
  refine ⟨_, pe_var hN hv hd hcd, fun Z0 H0 Z H σ ρ Q S h => ?_⟩
  unfold geV at h
  split at h
  · rename_i d e
    obtain ⟨v, h1, h2⟩ := S.im e
    exact ⟨v, h1, h v Z H (.refl S.sub S.nt) h2⟩
  · exact h.elim
theorem OwnAt.top {K : PySem.W.Frag} {Z H : Hp} {a : Addr} {sl : Sl} {d : D} (h : OwnAt K Z H a sl) (hd : frozen sl = some d) : TopAt K Z H a d := by
  cases h with
  | ow h1 h2 h3 => cases hd; exact .lst h1 h3
  | oK h1 h2 h3 => cases hd; exact .dK h1 h3
  | oT h1 h2 h3 => cases hd; exact .dT h1 h3
theorem den_varT {i : Nat} {x : Str} {pos : Pos} (hN : X.N[i]? = some x) (hv : Vis X.env.scope x) (hd : (x == ("__debug__" : Str)) = false) (hcd : (x == ("__classdict__" : Str)) = false) : Den X G .t (.Name x pos) (geT i) := by
  refine ⟨_, pe_var hN hv hd hcd, fun Z0 H0 Z H σ ρ Q S h => ?_⟩
  have own : ∀ {sl d}, ρ[i]? = some sl → isOwn sl = true → frozen sl = some d → Ans X.K G .t (.ok d) Z H Q → tVar i σ H Q := fun {sl d} e o f h => by
    obtain ⟨a, h1, h2, _⟩ := S.own e o
    exact ⟨.ref a, h1, h _ Z H (.refl S.sub S.nt) (.inr ⟨a, rfl, h2.top f⟩)⟩
  unfold geT at h
  split at h
  · rename_i d e
    obtain ⟨v, h1, h2⟩ := S.im e
    exact ⟨v, h1, h v Z H (.refl S.sub S.nt) (.inl h2)⟩
  · exact own (by assumption) rfl rfl h
  · exact own (by assumption) rfl rfl h
  · exact own (by assumption) rfl rfl h
  · exact h.elim
theorem den_tC {v : V} {d : D} (hp : PE X e (tC v)) (r : ∀ Z, Rep X.K Z v d) : Den X G .c e (fun _ => .ok d) :=
  ⟨_, hp, fun Z0 H0 Z H σ ρ Q S h => h v Z H (.refl S.sub S.nt) (r Z)⟩

/-! ### operators by values -/
def RDen (K : PySem.W.Frag) (G : Wh) (r : R2) (m : Md) (f : D → D → R D) : Prop :=
  ∀ x y dx dy Z H Q, Sub Z H → (∀ a o, Z a = some o → NoTb o) → Fin K H Z H .t x dx → Fin K H Z H .t y dy → Ans K G m (f dx dy) Z H Q → r x y H Q
theorem ans_op {r : R2} {f : D → D → R D} {m1 m2 m : Md} {ta tb : TE} {ga gb : Env → R D} (hr : RDen X.K G r m f)
    (ha : ∀ Z0 H0 Z H σ ρ Q, Sim X.K G.T Z0 H0 Z H σ ρ → Ans X.K G m1 (ga ρ) Z H Q → ta σ H Q) (hb : ∀ Z0 H0 Z H σ ρ Q, Sim X.K G.T Z0 H0 Z H σ ρ → Ans X.K G m2 (gb ρ) Z H Q → tb σ H Q)
    {Z0 H0 Z H : Hp} {σ : L2.St} {ρ : Env} {Q : VK} (S : Sim X.K G.T Z0 H0 Z H σ ρ) (h : Ans X.K G m (do let x ← ga ρ; let y ← gb ρ; f x y) Z H Q) : tOp r ta tb σ H Q := by
  refine ha Z0 H0 Z H σ ρ _ S ?_
  cases ea : ga ρ with
  | no => rw [ea] at h; exact h
  | ex c => rw [ea] at h; exact h
  | ok dx =>
    rw [ea] at h
    intro x Z1 H1 g1 f1
    have S1 := S.grow g1
    refine hb Z0 H0 Z1 H1 σ ρ _ S1 ?_
    cases eb : gb ρ with
    | no => rw [eb] at h; exact h
    | ex c => rw [eb] at h; exact fun Z' H' g' => h Z' H' (g1.trans g')
    | ok dy =>
      rw [eb] at h
      intro y Z2 H2 g2 f2
      exact hr x y dx dy Z2 H2 Q g2.s g2.n (Now.grow g2 (f1.now (Hx := H))) f2.now (h.grow (g1.trans g2))
def geOp (f : D → D → R D) (ga gb : Env → R D) : Env → R D := fun ρ => do let x ← ga ρ; let y ← gb ρ; f x y
theorem den_op {op : Operator} {a b : Expr} {pos : Pos} {r : R2} {f : D → D → R D} {m1 m2 m : Md} {ga gb : Env → R D} (ho : OpR X (binaryOp op) r) (hr : RDen X.K G r m f) (ha : Den X G m1 a ga) (hb : Den X G m2 b gb) :
    Den X G m (.BinOp a op b pos) (geOp f ga gb) := by
  obtain ⟨ta, pa, qa⟩ := ha.ex
  obtain ⟨tb, pb, qb⟩ := hb.ex
  exact ⟨_, pe_op ho pa pb, fun Z0 H0 Z H σ ρ Q S h => ans_op hr qa qb S h⟩
theorem den_cmp {op : CmpOp} {a b : Expr} {pos : Pos} {r : R2} {f : D → D → R D} {m1 m2 m : Md} {ga gb : Env → R D} (ho : OpR X (compareOp op) r) (hr : RDen X.K G r m f) (ha : Den X G m1 a ga) (hb : Den X G m2 b gb) (hm : behindInMarks op b = false) :
    Den X G m (.Compare a [op] [b] pos) (geOp f ga gb) := by
  obtain ⟨ta, pa, qa⟩ := ha.ex
  obtain ⟨tb, pb, qb⟩ := hb.ex
  exact ⟨_, pe_cmpR ho pa pb hm, fun Z0 H0 Z H σ ρ Q S h => ans_op hr qa qb S h⟩
theorem den_ix {a b : Expr} {pos : Pos} {r : R2} {f : D → D → R D} {m1 m2 m : Md} {ga gb : Env → R D} (ho : IxR X r) (hr : RDen X.K G r m f) (ha : Den X G m1 a ga) (hb : Den X G m2 b gb) (hs : PlainIx b) :
    Den X G m (.Subscript a b pos) (geOp f ga gb) := by
  obtain ⟨ta, pa, qa⟩ := ha.ex
  obtain ⟨tb, pb, qb⟩ := hb.ex
  exact ⟨_, pe_ix ho pa pb hs, fun Z0 H0 Z H σ ρ Q S h => ans_op hr qa qb S h⟩

/-! ### tests -/
def boolOf (d : D) : R Bool := match d with
  | .bl b => .ok b | _ => .no
def geB (g : Env → R D) : Env → R Bool := fun ρ => do boolOf (← g ρ)
def geOfB (g : Env → R Bool) : Env → R D := fun ρ => do let b ← g ρ; pure (.bl b)
theorem ans_B {te : TE} {g : Env → R D} {m : Md} (hq : ∀ Z0 H0 Z H σ ρ Q, Sim X.K G.T Z0 H0 Z H σ ρ → Ans X.K G m (g ρ) Z H Q → te σ H Q)
    {Z0 H0 Z H : Hp} {σ : L2.St} {ρ : Env} {Q : Bool → Hp → Prop} (S : Sim X.K G.T Z0 H0 Z H σ ρ) (h : AnsB G (geB g ρ) Z H Q) : te σ H fun x H1 => ∃ c, x = .bl c ∧ Q c H1 := by
  refine hq Z0 H0 Z H σ ρ _ S ?_
  unfold geB at h
  cases ea : g ρ with
  | no => rw [ea] at h; exact h
  | ex c => rw [ea] at h; exact h
  | ok d =>
    rw [ea] at h
    cases d with
    | bl b =>
      intro v Z' H' g' f
      have := f.now (Hx := H)
      rcases this with r | ⟨a, _, q⟩
      · cases r; exact ⟨b, rfl, h Z' H' g'⟩
      · cases q
    | non => exact False.elim h
    | int _ => exact False.elim h
    | str _ => exact False.elim h
    | tup _ => exact False.elim h
    | lst _ => exact False.elim h
    | dK _ => exact False.elim h
    | dT _ => exact False.elim h
    | scr _ => exact False.elim h
theorem dent_val {e : Expr} (he : ∀ whole, isTrue e X.env whole = (do let v ← whole; standAt e.pos; holding [v] (truthy v))) (h : Den X G m e g) : DenT X G e (geB g) := by
  obtain ⟨t, p, q⟩ := h.ex
  exact ⟨_, pt_val p he, fun Z0 H0 Z H σ ρ Q S h => ans_B q S h⟩
theorem dent_cmp {op : CmpOp} {a b : Expr} {pos : Pos} {r : R2} {f : D → D → R D} {m1 m2 m : Md} {ga gb : Env → R D} (ho : OpR X (compareOp op) r) (hr : RDen X.K G r m f) (ha : Den X G m1 a ga) (hb : Den X G m2 b gb) (hm : behindInMarks op b = false) :
    DenT X G (.Compare a [op] [b] pos) (geB (geOp f ga gb)) := by
  obtain ⟨ta, pa, qa⟩ := ha.ex
  obtain ⟨tb, pb, qb⟩ := hb.ex
  exact ⟨_, pt_cmpR ho pa pb hm, fun Z0 H0 Z H σ ρ Q S h => ans_B (te := tOp r ta tb) (fun Z0 H0 Z H σ ρ Q S h => ans_op hr qa qb S h) S h⟩

/-! ### and, or, not -/
def gNot (g : Env → R Bool) : Env → R Bool := fun ρ => do let b ← g ρ; pure (!b)
def gAnd (g h : Env → R Bool) : Env → R Bool := fun ρ => do let b ← g ρ; if b then h ρ else pure false
def gOr (g h : Env → R Bool) : Env → R Bool := fun ρ => do let b ← g ρ; if b then pure true else h ρ
structure DenW (X : Cx) (G : Wh) (e : Expr) (g : Env → R Bool) : Prop where
  ex : ∃ t, PW X e t ∧ ∀ Z0 H0 Z H σ ρ Q, Sim X.K G.T Z0 H0 Z H σ ρ → AnsB G (g ρ) Z H Q → t σ H Q
theorem DenW.t {e : Expr} {g : Env → R Bool} (h : DenW X G e g) : DenT X G e g := by
  obtain ⟨t, p, q⟩ := h.ex
  exact ⟨t, p.pt, q⟩
theorem dent_not {a : Expr} {pos : Pos} {g : Env → R Bool} (h : DenT X G a g) : DenT X G (.UnaryOp .Not a pos) (gNot g) := by
  obtain ⟨t, p, q⟩ := h.ex
  refine ⟨_, pt_not p, fun Z0 H0 Z H σ ρ Q S h => ?_⟩
  refine q Z0 H0 Z H σ ρ _ S ?_
  unfold gNot at h
  cases ea : g ρ with
  | no => rw [ea] at h; exact h
  | ex c => rw [ea] at h; exact h
  | ok b => rw [ea] at h; exact h
theorem denw_one {a : Expr} {pos : Pos} {g : Env → R Bool} {op : BoolOp} (h : DenT X G a g) : DenW X G (.BoolOp op [a] pos) g := by
  obtain ⟨t, p, q⟩ := h.ex
  cases op with
  | And => exact ⟨t, pw_and1 p, q⟩
  | Or => exact ⟨t, pw_or1 p, q⟩
theorem denw_and {a b : Expr} {rest : List Expr} {pos : Pos} {g h : Env → R Bool} (ha : DenT X G a g) (hb : DenW X G (.BoolOp .And (b :: rest) pos) h) : DenW X G (.BoolOp .And (a :: b :: rest) pos) (gAnd g h) := by
  obtain ⟨t, p, q⟩ := ha.ex
  obtain ⟨t', p', q'⟩ := hb.ex
  refine ⟨_, pw_and p p', fun Z0 H0 Z H σ ρ Q S k => ?_⟩
  refine q Z0 H0 Z H σ ρ _ S ?_
  unfold gAnd at k
  cases ea : g ρ with
  | no => rw [ea] at k; exact k
  | ex c => rw [ea] at k; exact k
  | ok b =>
    rw [ea] at k
    intro Z1 H1 g1
    cases b with
    | true => exact q' Z0 H0 Z1 H1 σ ρ Q (S.grow g1) (AnsB.grow k g1)
    | false => exact k Z1 H1 g1
theorem denw_or {a b : Expr} {rest : List Expr} {pos : Pos} {g h : Env → R Bool} (ha : DenT X G a g) (hb : DenW X G (.BoolOp .Or (b :: rest) pos) h) : DenW X G (.BoolOp .Or (a :: b :: rest) pos) (gOr g h) := by
  obtain ⟨t, p, q⟩ := ha.ex
  obtain ⟨t', p', q'⟩ := hb.ex
  refine ⟨_, pw_or p p', fun Z0 H0 Z H σ ρ Q S k => ?_⟩
  refine q Z0 H0 Z H σ ρ _ S ?_
  unfold gOr at k
  cases ea : g ρ with
  | no => rw [ea] at k; exact k
  | ex c => rw [ea] at k; exact k
  | ok b =>
    rw [ea] at k
    intro Z1 H1 g1
    cases b with
    | false => exact q' Z0 H0 Z1 H1 σ ρ Q (S.grow g1) (AnsB.grow k g1)
    | true => exact k Z1 H1 g1
/-- .. as values -/
theorem ofB_ok {r : R Bool} {Z H : Hp} {Q : VK} (h : Ans X.K G .c (do let b ← r; pure (.bl b)) Z H Q) : AnsB G r Z H fun b H1 => Q (.bl b) H1 := by
  cases r with
  | ok b => exact fun Z' H' g => h _ Z' H' g (.bl b)
  | ex c => exact h
  | no => exact h
theorem den_notV {a : Expr} {pos : Pos} {g : Env → R D} (h : Den X G m a g) : Den X G .c (.UnaryOp .Not a pos) (geOfB (gNot (geB g))) := by
  obtain ⟨t, p, q⟩ := h.ex
  refine ⟨_, pe_not p, fun Z0 H0 Z H σ ρ Q S k => ?_⟩
  refine ans_B (Q := fun c H1 => Q (.bl (!c)) H1) q S ?_
  unfold geOfB gNot at k
  cases ea : geB g ρ with
  | no => rw [ea] at k; exact k
  | ex c => rw [ea] at k; exact k
  | ok b => rw [ea] at k; exact fun Z' H' g' => k _ Z' H' g' (.bl _)
theorem den_one {a : Expr} {pos : Pos} {g : Env → R D} {op : BoolOp} (h : Den X G m a g) : Den X G m (.BoolOp op [a] pos) g := by
  obtain ⟨t, p, q⟩ := h.ex
  exact ⟨_, pe_one p, q⟩
/-- the last of an and, or: whatever it is; the others are truths -/
def gAndV (g : Env → R D) (h : Env → R D) : Env → R D := fun ρ => do let b ← geB g ρ; if b then h ρ else pure (.bl false)
def gOrV (g : Env → R D) (h : Env → R D) : Env → R D := fun ρ => do let b ← geB g ρ; if b then pure (.bl true) else h ρ
theorem den_andV {a b : Expr} {rest : List Expr} {pos : Pos} {g h : Env → R D} {m' : Md} (hm : m' ≠ .f) (ha : Den X G m a g) (hb : Den X G m' (.BoolOp .And (b :: rest) pos) h) : Den X G m' (.BoolOp .And (a :: b :: rest) pos) (gAndV g h) := by
  obtain ⟨t, p, q⟩ := ha.ex
  obtain ⟨t', p', q'⟩ := hb.ex
  refine ⟨_, pe_and p p', fun Z0 H0 Z H σ ρ Q S k => ?_⟩
  refine ans_B (Q := fun c H1 => if c = true then t' σ H1 Q else Q (.bl false) H1) q S ?_
  unfold gAndV at k
  cases ea : geB g ρ with
  | no => rw [ea] at k; exact k
  | ex c => rw [ea] at k; exact k
  | ok b =>
    rw [ea] at k
    intro Z1 H1 g1
    cases b with
    | true => exact q' Z0 H0 Z1 H1 σ ρ Q (S.grow g1) (Ans.grow k g1)
    | false =>
      refine k (.bl false) Z1 H1 g1 ?_
      cases m' with
      | c => exact .bl _
      | t => exact .inl (.bl _)
      | f => exact absurd rfl hm
theorem den_orV {a b : Expr} {rest : List Expr} {pos : Pos} {g h : Env → R D} {m' : Md} (hm : m' ≠ .f) (ha : Den X G m a g) (hb : Den X G m' (.BoolOp .Or (b :: rest) pos) h) : Den X G m' (.BoolOp .Or (a :: b :: rest) pos) (gOrV g h) := by
  obtain ⟨t, p, q⟩ := ha.ex
  obtain ⟨t', p', q'⟩ := hb.ex
  refine ⟨_, pe_or p p', fun Z0 H0 Z H σ ρ Q S k => ?_⟩
  refine ans_B (Q := fun c H1 => if c = true then Q (.bl true) H1 else t' σ H1 Q) q S ?_
  unfold gOrV at k
  cases ea : geB g ρ with
  | no => rw [ea] at k; exact k
  | ex c => rw [ea] at k; exact k
  | ok b =>
    rw [ea] at k
    intro Z1 H1 g1
    cases b with
    | false => exact q' Z0 H0 Z1 H1 σ ρ Q (S.grow g1) (Ans.grow k g1)
    | true =>
      refine k (.bl true) Z1 H1 g1 ?_
      cases m' with
      | c => exact .bl _
      | t => exact .inl (.bl _)
      | f => exact absurd rfl hm
def geIf (c : Env → R Bool) (ga gb : Env → R D) : Env → R D := fun ρ => do let b ← c ρ; if b then ga ρ else gb ρ
theorem den_if {c a b : Expr} {pos : Pos} {gc : Env → R Bool} {ga gb : Env → R D} (hc : DenT X G c gc) (ha : Den X G m a ga) (hb : Den X G m b gb) : Den X G m (.IfExp c a b pos) (geIf gc ga gb) := by
  obtain ⟨t, p, q⟩ := hc.ex
  obtain ⟨ta, pa, qa⟩ := ha.ex
  obtain ⟨tb, pb, qb⟩ := hb.ex
  refine ⟨_, pe_ifExp p pa pb, fun Z0 H0 Z H σ ρ Q S k => ?_⟩
  refine q Z0 H0 Z H σ ρ _ S ?_
  unfold geIf at k
  cases ea : gc ρ with
  | no => rw [ea] at k; exact k
  | ex c => rw [ea] at k; exact k
  | ok b =>
    rw [ea] at k
    intro Z1 H1 g1
    cases b with
    | true => exact qa Z0 H0 Z1 H1 σ ρ Q (S.grow g1) (Ans.grow k g1)
    | false => exact qb Z0 H0 Z1 H1 σ ρ Q (S.grow g1) (Ans.grow k g1)

/-! ### argument lists -/
def gaNil : Env → R (List D) := fun _ => .ok []
def gaCons (g : Env → R D) (h : Env → R (List D)) : Env → R (List D) := fun ρ => do let d ← g ρ; let ds ← h ρ; pure (d :: ds)
theorem dena_nil : DenA X G m [] gaNil := ⟨_, pa_nil, fun Z0 H0 Z H σ ρ Q S h => h [] Z H (.refl S.sub S.nt) .nil⟩
theorem fin_self {m : Md} {K : PySem.W.Frag} {Z H H' : Hp} {v : V} {d : D} (hm : m ≠ .f) (h : Fin K H Z H' m v d) : Fin K H' Z H' m v d := by
  cases m with
  | c => exact h
  | t => exact h
  | f => exact absurd rfl hm
theorem fin_grow {m : Md} {K : PySem.W.Frag} {T : List (Addr × Str)} {H0 H1 Z H Z' H' : Hp} {v : V} {d : D} (hm : m ≠ .f) (g : Grow T Z H Z' H') (h : Fin K H0 Z H m v d) : Fin K H1 Z' H' m v d := by
  cases m with
  | c => exact Rep.le g.z.le _ _ h
  | t => exact Now.grow g h
  | f => exact absurd rfl hm
theorem dena_cons {es : List Expr} {g : Env → R D} {h : Env → R (List D)} (hm : m ≠ .f) (ha : Den X G m e g) (hr : DenA X G m es h) (hs : starEach (e :: es) X.env = (false, eval e X.env) :: starEach es X.env) : DenA X G m (e :: es) (gaCons g h) := by
  obtain ⟨t, p, q⟩ := ha.ex
  obtain ⟨tr, pr, qr⟩ := hr.ex
  refine ⟨_, pa_cons p pr hs, fun Z0 H0 Z H σ ρ Q S k => ?_⟩
  refine q Z0 H0 Z H σ ρ _ S ?_
  unfold gaCons at k
  cases ea : g ρ with
  | no => rw [ea] at k; exact k
  | ex c => rw [ea] at k; exact k
  | ok d =>
    rw [ea] at k
    intro v Z1 H1 g1 f1
    refine qr Z0 H0 Z1 H1 σ ρ _ (S.grow g1) ?_
    cases eb : h ρ with
    | no => rw [eb] at k; exact k
    | ex c => rw [eb] at k; exact fun Z' H' g' => k Z' H' (g1.trans g')
    | ok ds =>
      rw [eb] at k
      intro vs Z2 H2 g2 f2
      exact k (v :: vs) Z2 H2 (g1.trans g2) (.cons (fin_grow hm g2 f1) f2)
/-- what is done with a list of values -/
def ADen (K : PySem.W.Frag) (G : Wh) (r : List V → Hp → VK → Prop) (m1 m : Md) (f : List D → R D) : Prop :=
  ∀ vs ds Z H Q, Sub Z H → (∀ a o, Z a = some o → NoTb o) → Fins K m1 Z H vs ds → Ans K G m (f ds) Z H Q → r vs H Q
def geA (f : List D → R D) (ga : Env → R (List D)) : Env → R D := fun ρ => do let ds ← ga ρ; f ds
theorem ans_A {t : TA} {r : List V → Hp → VK → Prop} {m1 m : Md} {f : List D → R D} {ga : Env → R (List D)} (hq : ∀ Z0 H0 Z H σ ρ Q, Sim X.K G.T Z0 H0 Z H σ ρ → AnsA X.K G m1 (ga ρ) Z H Q → t σ H Q) (hr : ADen X.K G r m1 m f)
    {Z0 H0 Z H : Hp} {σ : L2.St} {ρ : Env} {Q : VK} (S : Sim X.K G.T Z0 H0 Z H σ ρ) (h : Ans X.K G m (geA f ga ρ) Z H Q) : t σ H fun vs H1 => r vs H1 Q := by
  refine hq Z0 H0 Z H σ ρ _ S ?_
  unfold geA at h
  cases ea : ga ρ with
  | no => rw [ea] at h; exact h
  | ex c => rw [ea] at h; exact h
  | ok ds =>
    rw [ea] at h
    intro vs Z1 H1 g1 f1
    exact hr vs ds Z1 H1 Q g1.s g1.n f1 (Ans.grow h g1)
theorem den_callB {x : Str} {id : String} {r : List V → Hp → VK → Prop} {m1 m : Md} {f : List D → R D} {es : List Expr} {ga : Env → R (List D)} {p pos : Pos} (hc : CallR X (.builtin id) r) (hr : ADen X.K G r m1 m f) (ha : DenA X G m1 (e :: es) ga)
    (hg : Gl X x) (hm : X.mg x = none) (hv : bootBuiltins x = some (.builtin id)) (hn : x ≠ "__name__") (hdb : (x == ("__debug__" : Str)) = false) (he : starEach (e :: es) X.env = (false, eval e X.env) :: starEach es X.env)
    (hpl : (backTo pos (starEach es X.env)).any (·.1) = false) : Den X G m (.Call (.Name x p) (e :: es) [] pos) (geA f ga) := by
  obtain ⟨t, pt, q⟩ := ha.ex
  exact ⟨_, pe_callB hc hg hm hv pt hn hdb he hpl, fun Z0 H0 Z H σ ρ Q S h => ans_A q hr S h⟩
theorem den_callTy {x : Str} {id : String} {r : List V → Hp → VK → Prop} {m1 m : Md} {f : List D → R D} {es : List Expr} {ga : Env → R (List D)} {p pos : Pos} (hc : CallR X (.type id) r) (hr : ADen X.K G r m1 m f) (ha : DenA X G m1 (e :: es) ga)
    (hg : Gl X x) (hm : X.mg x = none) (hv : bootBuiltins x = some (.type id)) (hn : x ≠ "__name__") (hdb : (x == ("__debug__" : Str)) = false) (he : starEach (e :: es) X.env = (false, eval e X.env) :: starEach es X.env)
    (hpl : (backTo pos (starEach es X.env)).any (·.1) = false) : Den X G m (.Call (.Name x p) (e :: es) [] pos) (geA f ga) := by
  obtain ⟨t, pt, q⟩ := ha.ex
  exact ⟨_, pe_callTy hc hg hm hv pt hn hdb he hpl, fun Z0 H0 Z H σ ρ Q S h => ans_A q hr S h⟩
def tupD (ds : List D) : R D := if ds.length ≤ sizeLine then .ok (.tup ds) else .no
def lstD (ds : List D) : R D := if ds.length ≤ sizeLine then .ok (.lst ds) else .no
theorem den_tup {es : List Expr} {k : Nat} {pos : Pos} {ga : Env → R (List D)} (h : DenA X G .c es ga) : Den X G .c (.Tuple es k pos) (geA tupD ga) := by
  obtain ⟨t, pt, q⟩ := h.ex
  refine ⟨_, pe_tup pt, fun Z0 H0 Z H σ ρ Q S h => ?_⟩
  refine ans_A (r := fun xs H1 Q => xs.length ≤ sizeLine ∧ ∀ p, H1 p = none → Q (.ref p) (upd H1 p (.tup xs))) q (fun vs ds Z H Q s n f h => ?_) S h
  unfold tupD at h
  have hl := f.reps.length
  split at h
  · rename_i hz
    exact ⟨by rw [hl]; exact hz, fun p hp => h _ (upd Z p (.tup vs)) _ (grow_newz s n hp (nt_tup _)) (.tup upd_same (Reps.le (sub_upd (sub_none s hp)).le _ _ f.reps))⟩
  · exact h.elim
theorem den_lst {es : List Expr} {pos : Pos} {ga : Env → R (List D)} (h : DenA X G .c es ga) : Den X G .f (.List es pos) (geA lstD ga) := by
  obtain ⟨t, pt, q⟩ := h.ex
  refine ⟨_, pe_lst pt, fun Z0 H0 Z H σ ρ Q S h => ?_⟩
  refine ans_A (r := fun xs H1 Q => xs.length ≤ sizeLine ∧ ∀ p, H1 p = none → Q (.ref p) (upd H1 p (.lst xs))) q (fun vs ds Z H Q s n f h => ?_) S h
  unfold lstD at h
  have hl := f.reps.length
  split at h
  · rename_i hz
    exact ⟨by rw [hl]; exact hz, fun p hp => h _ Z _ (grow_new s n hp) ⟨p, rfl, .lst upd_same f.reps, sub_none s hp, nprot_none hp⟩⟩
  · exact h.elim
end
end VS

set_option Elab.async false
set_option linter.all false
set_option maxRecDepth 100000
set_option maxHeartbeats 2000000
/-! VS4: operators on data. -/
namespace VS
open PySem L2 LamX

mutual
def toPy : D → PyData
  | .non => .none | .bl b => .bool b | .int i => .int i | .str s => .str s
  | .tup ds => .tuple (toPys ds) | .lst ds => .list (toPys ds) | .dK _ => .dict [] | .dT _ => .dict [] | .scr ns => .list (ns.map .int)
def toPys : List D → List PyData
  | [] => []
  | d :: ds => toPy d :: toPys ds
end
theorem toPys_map : ∀ ds : List D, toPys ds = ds.map toPy
  | [] => rfl
  | d :: ds => by rw [toPys, toPys_map ds]; rfl
section
variable {K : PySem.W.Frag} {Z : Hp}
theorem dp_ints : ∀ ns : List Int, DpAll K Z (ns.map V.int) (ns.map PyData.int)
  | [] => .nil
  | n :: ns => .cons (.int n) (dp_ints ns)
mutual
theorem Rep.dp : ∀ (d : D) (v : V), (toPy d).canLay0 = true → Rep K Z v d → Dp K Z v (toPy d)
  | .non, _, _, h => by cases h; exact .non
  | .bl b, _, _, h => by cases h; exact .bl b
  | .int i, _, _, h => by cases h; exact .int i
  | .str s, _, _, h => by cases h; exact .str s
  | .tup ds, _, c, h => by
    cases h with | tup h1 h2 => exact .tup (SqT.of h1) (Reps.dp ds _ (by simpa [toPy, PyData.canLay0] using c) h2)
  | .lst ds, _, c, h => by
    cases h with | lst h1 h2 => exact .lst (SqL.of h1) (Reps.dp ds _ (by simpa [toPy, PyData.canLay0] using c) h2)
  | .dK ds, _, c, h => by simp [toPy, PyData.canLay0] at c
  | .dT ds, _, c, h => by simp [toPy, PyData.canLay0] at c
  | .scr ns, _, c, h => by cases h with | scr h1 => exact .lst h1 (dp_ints ns)
theorem Reps.dp : ∀ (ds : List D) (vs : List V), PyData.canLayAll0 (toPys ds) = true → Reps K Z vs ds → DpAll K Z vs (toPys ds)
  | [], _, _, h => by cases h; exact .nil
  | d :: ds, _, c, h => by
    rw [toPys, PyData.canLayAll0, Bool.and_eq_true] at c
    cases h with | cons h1 h2 => exact .cons (Rep.dp d _ c.1 h1) (Reps.dp ds _ c.2 h2)
end
end

/-! ### what a value looked at is -/
section
variable {K : PySem.W.Frag} {Z H Hx : Hp} {x : V}
theorem now_int {i : Int} (h : Fin K Hx Z H .t x (.int i)) : x = .int i := by
  rcases h with h | ⟨_, _, h⟩
  · cases h; rfl
  · cases h
theorem now_str {s : Str} (h : Fin K Hx Z H .t x (.str s)) : x = .str s := by
  rcases h with h | ⟨_, _, h⟩
  · cases h; rfl
  · cases h
theorem now_bl {b : Bool} (h : Fin K Hx Z H .t x (.bl b)) : x = .bl b := by
  rcases h with h | ⟨_, _, h⟩
  · cases h; rfl
  · cases h
theorem now_non (h : Fin K Hx Z H .t x .non) : x = .non := by
  rcases h with h | ⟨_, _, h⟩
  · cases h; rfl
  · cases h
theorem now_tup {ds : List D} (s : Sub Z H) (h : Fin K Hx Z H .t x (.tup ds)) : ∃ a vs, x = .ref a ∧ Z a = some (.tup vs) ∧ H a = some (.tup vs) ∧ Reps K Z vs ds := by
  rcases h with h | ⟨_, _, h⟩
  · cases h with | tup h1 h2 => exact ⟨_, _, rfl, h1, s _ _ h1, h2⟩
  · cases h
theorem now_lst {ds : List D} (s : Sub Z H) (h : Fin K Hx Z H .t x (.lst ds)) : ∃ a vs, x = .ref a ∧ H a = some (.lst vs) ∧ Reps K Z vs ds := by
  rcases h with h | ⟨_, rfl, h⟩
  · cases h with | lst h1 h2 => exact ⟨_, _, rfl, s _ _ h1, h2⟩
  · cases h with | lst h1 h2 => exact ⟨_, _, rfl, h1, h2⟩
theorem now_dK {ds : List (Key × D)} (s : Sub Z H) (h : Fin K Hx Z H .t x (.dK ds)) : ∃ a vs, x = .ref a ∧ Rd H a (.dK vs) ∧ RepsP K Z vs ds := by
  rcases h with h | ⟨_, rfl, h⟩
  · cases h with | dK h1 h2 => exact ⟨_, _, rfl, rd_sub s h1, h2⟩
  · cases h with | dK h1 h2 => exact ⟨_, _, rfl, .inl h1, h2⟩
theorem now_dT {ds : List (List Key × D)} (s : Sub Z H) (h : Fin K Hx Z H .t x (.dT ds)) : ∃ a vs, x = .ref a ∧ Rd H a (.dT vs) ∧ RepsQ K Z vs ds := by
  rcases h with h | ⟨_, rfl, h⟩
  · cases h with | dT h1 h2 => exact ⟨_, _, rfl, rd_sub s h1, h2⟩
  · cases h with | dT h1 h2 => exact ⟨_, _, rfl, .inl h1, h2⟩
theorem now_scr {ns : List Int} (s : Sub Z H) (h : Fin K Hx Z H .t x (.scr ns)) : ∃ a, x = .ref a ∧ SqL K H a (ns.map V.int) := by
  rcases h with h | ⟨_, rfl, h⟩
  · cases h with | scr h1 => exact ⟨_, rfl, sqL_le s.le h1⟩
  · cases h
theorem now_scrZ {ns : List Int} (h : Fin K Hx Z H .t x (.scr ns)) : ∃ a, x = .ref a ∧ SqL K Z a (ns.map V.int) := by
  rcases h with h | ⟨_, rfl, h⟩
  · cases h with | scr h1 => exact ⟨_, rfl, h1⟩
  · cases h
end

/-! ### arithmetic -/
def addI : D → D → R D | .int i, .int j => .ok (.int (i + j)) | _, _ => .no
def subI : D → D → R D | .int i, .int j => .ok (.int (i - j)) | _, _ => .no
def okMul (i j : Int) : Prop := CMul i j ∨ CMulW i j
open Classical in
noncomputable def mulI : D → D → R D | .int i, .int j => if okMul i j then .ok (.int (i * j)) else .no | _, _ => .no
open Classical in
noncomputable def fdivI : D → D → R D | .int i, .int j => if CDivW i j then .ok (.int (i / j)) else .no | _, _ => .no
def modI : D → D → R D | .int i, .int j => if 0 < j then .ok (.int (i % j)) else .no | _, _ => .no
def addS : D → D → R D | .str i, .str j => if i.length + j.length ≤ sizeLine then .ok (.str (i ++ j)) else .no | _, _ => .no
def addT : D → D → R D | .tup i, .tup j => if i.length + j.length ≤ sizeLine then .ok (.tup (i ++ j)) else .no | _, _ => .no
def catL : D → D → R D | .lst i, .lst j => if i.length + j.length ≤ sizeLine then .ok (.lst (i ++ j)) else .no | _, _ => .no
def repL : D → D → R D | .lst i, .int k => if 0 ≤ k ∧ k < 1000000 ∧ i.length * k.toNat ≤ sizeLine then .ok (.lst (List.replicate k.toNat i).flatten) else .no | _, _ => .no
section
variable {X : Cx} {K : PySem.W.Frag} {G : Wh}
theorem ansC {Z H : Hp} {Q : VK} {d : D} (s : Sub Z H) (n : ∀ a o, Z a = some o → NoTb o) (h : Ans K G .c (.ok d) Z H Q) {v : V} (r : Rep K Z v d) : Q v H := h v Z H (.refl s n) r
theorem rd_addI : RDen K G (rI0 fun i j => .int (i + j)) .c addI := by
  intro x y dx dy Z H Q s n hx hy h
  unfold addI at h
  split at h
  · exact ⟨_, _, now_int hx, now_int hy, ansC s n h (.int _)⟩
  · exact h.elim
theorem rd_subI : RDen K G (rI0 fun i j => .int (i - j)) .c subI := by
  intro x y dx dy Z H Q s n hx hy h
  unfold subI at h
  split at h
  · exact ⟨_, _, now_int hx, now_int hy, ansC s n h (.int _)⟩
  · exact h.elim
theorem op_mulA : OpR X (binaryOp .Mult) (rI okMul fun i j => .int (i * j)) := opI fun _ _ _ _ _ _ _ hc q => by
  rcases hc with hc | hc
  · exact PyProof.Rows.mul_int q hc.ok
  · exact PyProof.Rows.mul_int q hc.ok
theorem rd_mulI : RDen K G (rI okMul fun i j => .int (i * j)) .c mulI := by
  intro x y dx dy Z H Q s n hx hy h
  unfold mulI at h
  split at h
  · split at h
    · rename_i hc
      exact ⟨_, _, now_int hx, now_int hy, hc, ansC s n h (.int _)⟩
    · exact h.elim
  · exact h.elim
theorem rd_fdivI : RDen K G (rI CDivW fun i j => .int (i / j)) .c fdivI := by
  intro x y dx dy Z H Q s n hx hy h
  unfold fdivI at h
  split at h
  · split at h
    · rename_i hc
      exact ⟨_, _, now_int hx, now_int hy, hc, ansC s n h (.int _)⟩
    · exact h.elim
  · exact h.elim
theorem rd_modI : RDen K G (rI (fun _ j => 0 < j) fun i j => .int (i % j)) .c modI := by
  intro x y dx dy Z H Q s n hx hy h
  unfold modI at h
  split at h
  · split at h
    · rename_i hc
      exact ⟨_, _, now_int hx, now_int hy, hc, ansC s n h (.int _)⟩
    · exact h.elim
  · exact h.elim
theorem rd_addS : RDen K G (fun x y H Q => ∃ i j, x = .str i ∧ y = .str j ∧ i.length + j.length ≤ sizeLine ∧ Q (.str (i ++ j)) H) .c addS := by
  intro x y dx dy Z H Q s n hx hy h
  unfold addS at h
  split at h
  · split at h
    · rename_i hc
      exact ⟨_, _, now_str hx, now_str hy, hc, ansC s n h (.str _)⟩
    · exact h.elim
  · exact h.elim
theorem rep_newT {Z H : Hp} {vs : List V} {ds : List D} {p : Addr} (s : Sub Z H) (hp : H p = none) (r : Reps K Z vs ds) : Rep K (upd Z p (.tup vs)) (.ref p) (.tup ds) :=
  .tup upd_same (Reps.le (sub_upd (sub_none s hp)).le _ _ r)
theorem ansT {Z H : Hp} {Q : VK} {ds : List D} {vs : List V} (s : Sub Z H) (n : ∀ a o, Z a = some o → NoTb o) (h : Ans K G .c (.ok (.tup ds)) Z H Q) (r : Reps K Z vs ds) : ∀ p, H p = none → Q (.ref p) (upd H p (.tup vs)) :=
  fun p hp => h _ _ _ (grow_newz s n hp (nt_tup _)) (rep_newT s hp r)
theorem ansL {Z H : Hp} {Q : VK} {ds : List D} {vs : List V} (s : Sub Z H) (n : ∀ a o, Z a = some o → NoTb o) (h : Ans K G .f (.ok (.lst ds)) Z H Q) (r : Reps K Z vs ds) : ∀ p, H p = none → Q (.ref p) (upd H p (.lst vs)) :=
  fun p hp => h _ Z _ (grow_new s n hp) ⟨p, rfl, .lst upd_same r, sub_none s hp, nprot_none hp⟩
theorem rd_addT : RDen K G (rCatA K) .c addT := by
  intro x y dx dy Z H Q s n hx hy h
  unfold addT at h
  split at h
  · rename_i i j
    split at h
    · rename_i hc
      obtain ⟨a, vs, rfl, hz, hh, r⟩ := now_tup s hx
      obtain ⟨b, us, rfl, hz2, hh2, r2⟩ := now_tup s hy
      have l1 := r.length
      have l2 := r2.length
      refine ⟨a, b, vs, us, rfl, rfl, SqT.of hh, SqT.of hh2, by omega, fun e => ?_, fun _ e => ?_, fun _ _ => ansT s n h (r.append r2)⟩
      · subst e
        cases r
        exact ansC s n h (.tup hz2 r2)
      · subst e
        cases r2
        rw [List.append_nil] at h
        exact ansC s n h (.tup hz r)
    · exact h.elim
  · exact h.elim
theorem rd_catL : RDen K G rCat .f catL := by
  intro x y dx dy Z H Q s n hx hy h
  unfold catL at h
  split at h
  · split at h
    · rename_i hc
      obtain ⟨a, vs, rfl, hh, r⟩ := now_lst s hx
      obtain ⟨b, us, rfl, hh2, r2⟩ := now_lst s hy
      have l1 := r.length
      have l2 := r2.length
      exact ⟨a, b, vs, us, rfl, rfl, hh, hh2, by omega, ansL s n h (r.append r2)⟩
    · exact h.elim
  · exact h.elim
theorem rd_repL : RDen K G rRep .f repL := by
  intro x y dx dy Z H Q s n hx hy h
  unfold repL at h
  split at h
  · split at h
    · rename_i hc
      obtain ⟨a, vs, rfl, hh, r⟩ := now_lst s hx
      have l1 := r.length
      exact ⟨a, _, vs, rfl, now_int hy, hh, by omega, by omega, by rw [l1]; exact hc.2.2, ansL s n h (r.rep _)⟩
    · exact h.elim
  · exact h.elim
theorem un_negA {Z H : Hp} {Q : VK} {x : V} {d : D} (s : Sub Z H) (n : ∀ a o, Z a = some o → NoTb o) (hx : Fin K H Z H .t x d) (h : Ans K G .c (subI (.int 0) d) Z H Q) : rU (fun i => .int (-i)) x H Q := by
  unfold subI at h
  split at h
  · rename_i i j e
    cases e
    refine ⟨_, now_int hx, ?_⟩
    have := ansC s n h (.int _)
    rwa [Int.zero_sub] at this
  · exact h.elim

/-! ### comparisons -/
def shp (d : D) : Bool := (toPy d).canLay0 && decide ((toPy d).depth ≤ 200)
def eqD (d e : D) : Bool := PyData.eqv (toPy d) (toPy e)
def cmEq : D → D → R D := fun d e => if shp d && shp e then .ok (.bl (eqD d e)) else .no
def cmNe : D → D → R D := fun d e => if shp d && shp e then .ok (.bl (!eqD d e)) else .no
def rEqS (K : PySem.W.Frag) (neg : Bool) : R2 := fun x y H Q => ∃ d e, Dp K H x d ∧ Dp K H y e ∧ d.canLay0 = true ∧ e.canLay0 = true ∧ d.depth ≤ 200 ∧ Q (.bl (if neg then !PyData.eqv d e else PyData.eqv d e)) H
theorem op_eqS (hu : X.A.units + 200 < cLine) : OpR X (compareOp .Eq) (rEqS X.K false) := by
  intro pins s σ H x y v u Q I rx ry h
  obtain ⟨d, e, hd, he, sd, se, hz, q⟩ := h
  obtain ⟨as, r1⟩ := Dp.reads I d x v hd rx
  obtain ⟨bs, r2⟩ := Dp.reads I e y u he ry
  exact SeqAt.compareEq_reads r1 r2 sd se (by have := Nat.min_le_left d.depth e.depth; omega) ⟨.bl _, H, I, rfl, q⟩
theorem op_neS (hu : X.A.units + 200 < cLine) : OpR X (compareOp .NotEq) (rEqS X.K true) := by
  intro pins s σ H x y v u Q I rx ry h
  obtain ⟨d, e, hd, he, sd, se, hz, q⟩ := h
  obtain ⟨as, r1⟩ := Dp.reads I d x v hd rx
  obtain ⟨bs, r2⟩ := Dp.reads I e y u he ry
  exact SeqAt.compareNe_reads r1 r2 sd se (by have := Nat.min_le_left d.depth e.depth; omega) ⟨.bl _, H, I, rfl, q⟩
theorem shp_iff {d : D} (h : shp d = true) : (toPy d).canLay0 = true ∧ (toPy d).depth ≤ 200 := by
  unfold shp at h
  rw [Bool.and_eq_true] at h
  exact ⟨h.1, of_decide_eq_true h.2⟩
theorem rd_eq : RDen K G (rEqS K false) .c cmEq := by
  intro x y dx dy Z H Q s n hx hy h
  unfold cmEq at h
  split at h
  · rename_i hc
    rw [Bool.and_eq_true] at hc
    obtain ⟨c1, d1⟩ := shp_iff hc.1
    obtain ⟨c2, d2⟩ := shp_iff hc.2
    exact ⟨_, _, Rep.dp _ _ c1 (Now.rep s hx), Rep.dp _ _ c2 (Now.rep s hy), c1, c2, d1, ansC s n h (.bl _)⟩
  · exact h.elim
theorem rd_ne : RDen K G (rEqS K true) .c cmNe := by
  intro x y dx dy Z H Q s n hx hy h
  unfold cmNe at h
  split at h
  · rename_i hc
    rw [Bool.and_eq_true] at hc
    obtain ⟨c1, d1⟩ := shp_iff hc.1
    obtain ⟨c2, d2⟩ := shp_iff hc.2
    exact ⟨_, _, Rep.dp _ _ c1 (Now.rep s hx), Rep.dp _ _ c2 (Now.rep s hy), c1, c2, d1, ansC s n h (.bl _)⟩
  · exact h.elim
/-- orders of ints, of texts -/
def cmI (p : Int → Int → Bool) : D → D → R D | .int i, .int j => .ok (.bl (p i j)) | _, _ => .no
def cmS (p : List Nat → List Nat → Bool) : D → D → R D | .str i, .str j => .ok (.bl (p i.cps.toList j.cps.toList)) | _, _ => .no
theorem rd_cmI {p : Int → Int → Bool} : RDen K G (rI0 fun i j => .bl (p i j)) .c (cmI p) := by
  intro x y dx dy Z H Q s n hx hy h
  unfold cmI at h
  split at h
  · exact ⟨_, _, now_int hx, now_int hy, ansC s n h (.bl _)⟩
  · exact h.elim
theorem rd_cmS {p : List Nat → List Nat → Bool} : RDen K G (fun x y H Q => ∃ i j, x = .str i ∧ y = .str j ∧ Q (.bl (p i.cps.toList j.cps.toList)) H) .c (cmS p) := by
  intro x y dx dy Z H Q s n hx hy h
  unfold cmS at h
  split at h
  · exact ⟨_, _, now_str hx, now_str hy, ansC s n h (.bl _)⟩
  · exact h.elim
/-- is None -/
def isN (d : D) : R D := .ok (.bl (match d with | .non => true | _ => false))
def notN (d : D) : R D := .ok (.bl (match d with | .non => false | _ => true))
theorem now_isN {Z H : Hp} {x : V} {d : D} (hx : Fin K H Z H .t x d) : decide (x = .non) = (match d with | .non => true | _ => false) := by
  rcases hx with h | ⟨a, rfl, h⟩
  · cases h <;> first | rfl | (exact decide_eq_false (fun q => by cases q))
  · cases h <;> exact decide_eq_false (fun q => by cases q)

/-! ### in -/
def inS1 (neg : Bool) (z : List Nat) : List Nat → R D
  | [c] => .ok (.bl (if neg then !decide (c ∈ z) else decide (c ∈ z)))
  | _ => .no
def inS (neg : Bool) : D → D → R D | .str x, .str z => inS1 neg z.cps.toList x.cps.toList | _, _ => .no
theorem one_str {x : Str} {c : Nat} (h : x.cps.toList = [c]) : x = ⟨#[c]⟩ := by
  cases x with | mk a => cases a; simp at h; subst h; rfl
theorem rd_inS : RDen K G (fun x y H Q => ∃ (c : Nat) (z : Str), x = .str ⟨#[c]⟩ ∧ y = .str z ∧ Q (.bl (decide (c ∈ z.cps.toList))) H) .c (inS false) := by
  intro x y dx dy Z H Q s n hx hy h
  unfold inS at h
  split at h
  · unfold inS1 at h
    split at h
    · rename_i e
      refine ⟨_, _, ?_, now_str hy, ansC s n h (.bl _)⟩
      rw [now_str hx, one_str e]
    · exact h.elim
  · exact h.elim
theorem rd_niS : RDen K G (fun x y H Q => ∃ (c : Nat) (z : Str), x = .str ⟨#[c]⟩ ∧ y = .str z ∧ Q (.bl (!decide (c ∈ z.cps.toList))) H) .c (inS true) := by
  intro x y dx dy Z H Q s n hx hy h
  unfold inS at h
  split at h
  · unfold inS1 at h
    split at h
    · rename_i e
      refine ⟨_, _, ?_, now_str hy, ansC s n h (.bl _)⟩
      rw [now_str hx, one_str e]
    · exact h.elim
  · exact h.elim
def flatD : D → Bool | .non => true | .bl _ => true | .int _ => true | .str _ => true | _ => false
def itemsD : D → Option (List D) | .lst ds => some ds | .tup ds => some ds | _ => none
def inF (neg : Bool) : D → D → R D := fun x y => match itemsD y with
  | some ds => if flatD x && ds.all flatD then .ok (.bl (if neg then !(ds.any fun d => eqD d x) else ds.any fun d => eqD d x)) else .no
  | none => .no
theorem flat_of {Z : Hp} {v : V} {d : D} (r : Rep K Z v d) (f : flatD d = true) : flatV v = true := by
  cases r <;> first | rfl | cases f
theorem flat_all {Z : Hp} : ∀ {vs : List V} {ds : List D}, Reps K Z vs ds → ds.all flatD = true → vs.all flatV = true
  | _, _, .nil, _ => rfl
  | _, _, .cons h t, f => by
    rw [List.all_cons, Bool.and_eq_true] at f
    rw [List.all_cons, flat_of h f.1, flat_all t f.2]; rfl
theorem eqV_eqD {Z Z' : Hp} {v w : V} {d e : D} (r : Rep K Z v d) (q : Rep K Z' w e) (f : flatD d = true) (f' : flatD e = true) : eqV v w = eqD d e := by
  cases r <;> cases q <;> first | rfl | cases f | cases f'
theorem any_eq {Z Z' : Hp} {w : V} {e : D} (q : Rep K Z' w e) (f' : flatD e = true) : ∀ {vs : List V} {ds : List D}, Reps K Z vs ds → ds.all flatD = true → inV w vs = ds.any fun d => eqD d e
  | _, _, .nil, _ => rfl
  | _, _, .cons h t, f => by
    rw [List.all_cons, Bool.and_eq_true] at f
    have := any_eq q f' t f.2
    unfold inV at this ⊢
    rw [List.any_cons, List.any_cons, this, eqV_eqD h q f.1 f']
theorem now_items {Z H : Hp} {y : V} {d : D} {ds : List D} (s : Sub Z H) (h : Fin K H Z H .t y d) (e : itemsD d = some ds) : ∃ a vs, y = .ref a ∧ (SqL K H a vs ∨ SqT K H a vs) ∧ Reps K Z vs ds := by
  cases d with
  | lst es => cases e; obtain ⟨a, vs, rfl, h1, h2⟩ := now_lst s h; exact ⟨a, vs, rfl, .inl (SqL.of h1), h2⟩
  | tup es => cases e; obtain ⟨a, vs, rfl, _, h1, h2⟩ := now_tup s h; exact ⟨a, vs, rfl, .inr (SqT.of h1), h2⟩
  | non => cases e
  | bl _ => cases e
  | int _ => cases e
  | str _ => cases e
  | dK _ => cases e
  | dT _ => cases e
  | scr _ => cases e
theorem rd_inF {neg : Bool} : RDen K G (rIn K neg) .c (inF neg) := by
  intro x y dx dy Z H Q s n hx hy h
  unfold inF at h
  split at h
  · rename_i ds e
    split at h
    · rename_i hc
      rw [Bool.and_eq_true] at hc
      obtain ⟨a, vs, rfl, hh, r⟩ := now_items s hy e
      have rx := Now.rep s hx
      refine ⟨a, vs, rfl, hh, flat_of rx hc.1, flat_all r hc.2, ?_⟩
      rw [any_eq rx hc.1 r hc.2]
      exact ansC s n h (.bl _)
    · exact h.elim
  · exact h.elim
end
end VS

set_option Elab.async false
set_option linter.all false
set_option maxRecDepth 100000
set_option maxHeartbeats 2000000
/-! VS5: places, slices, built-ins on data. -/
namespace VS
open PySem L2 LamX
section
variable {X : Cx} {K : PySem.W.Frag} {G : Wh}

/-! ### places -/
def ixL : D → D → R D | .lst ds, .int i => (match atI ds i with | some d => .ok d | none => .no) | _, _ => .no
def ixT : D → D → R D | .tup ds, .int i => (match atI ds i with | some d => .ok d | none => .no) | _, _ => .no
def ixS : D → D → R D | .str z, .int i => (if z.length ≤ sizeLine then (match atI z.cps.toList i with | some c => .ok (.str ⟨#[c]⟩) | none => .no) else .no) | _, _ => .no
def ixC : D → D → R D | .scr ns, .int i => (match atI ns i with | some n => .ok (.int n) | none => .no) | _, _ => .no
theorem atI_reps {Z : Hp} {vs : List V} {ds : List D} {i : Int} {d : D} (r : Reps K Z vs ds) (h : atI ds i = some d) : ∃ v, atI vs i = some v ∧ Rep K Z v d := by
  unfold atI at h ⊢
  rw [r.length]
  cases e : ixN ds.length i with
  | none => rw [e] at h; cases h
  | some j =>
    rw [e] at h
    obtain ⟨v, h1, h2⟩ := r.get (show ds[j]? = some d from h)
    exact ⟨v, h1, h2⟩
theorem rd_ixL : RDen K G (rIxL K) .c ixL := by
  intro x y dx dy Z H Q s n hx hy h
  unfold ixL at h
  split at h
  · rename_i ds i
    cases e : atI ds i with
    | none => rw [e] at h; exact h.elim
    | some d =>
      rw [e] at h
      obtain ⟨a, vs, rfl, hh, r⟩ := now_lst s hx
      obtain ⟨v, h1, h2⟩ := atI_reps r e
      exact ⟨a, vs, i, v, rfl, now_int hy, SqL.of hh, h1, ansC s n h h2⟩
  · exact h.elim
theorem rd_ixT : RDen K G (rIxT K) .c ixT := by
  intro x y dx dy Z H Q s n hx hy h
  unfold ixT at h
  split at h
  · rename_i ds i
    cases e : atI ds i with
    | none => rw [e] at h; exact h.elim
    | some d =>
      rw [e] at h
      obtain ⟨a, vs, rfl, _, hh, r⟩ := now_tup s hx
      obtain ⟨v, h1, h2⟩ := atI_reps r e
      exact ⟨a, vs, i, v, rfl, now_int hy, SqT.of hh, h1, ansC s n h h2⟩
  · exact h.elim
theorem rd_ixS : RDen K G rIxS .c ixS := by
  intro x y dx dy Z H Q s n hx hy h
  unfold ixS at h
  split at h
  · rename_i z i
    split at h
    · rename_i hz
      cases e : atI z.cps.toList i with
      | none => rw [e] at h; exact h.elim
      | some c =>
        rw [e] at h
        exact ⟨z, i, c, now_str hx, now_int hy, hz, e, ansC s n h (.str _)⟩
    · exact h.elim
  · exact h.elim
theorem atI_map {α β : Type} (f : α → β) {xs : List α} {i : Int} {v : α} (h : atI xs i = some v) : atI (xs.map f) i = some (f v) := by
  unfold atI at h ⊢
  rw [List.length_map]
  cases e : ixN xs.length i with
  | none => rw [e] at h; cases h
  | some j =>
    rw [e] at h
    show (xs.map f)[j]? = _
    rw [List.getElem?_map, show xs[j]? = some v from h]; rfl
theorem rd_ixC : RDen K G (rIxL K) .c ixC := by
  intro x y dx dy Z H Q s n hx hy h
  unfold ixC at h
  split at h
  · rename_i ns i
    cases e : atI ns i with
    | none => rw [e] at h; exact h.elim
    | some d =>
      rw [e] at h
      obtain ⟨a, rfl, hh⟩ := now_scr s hx
      exact ⟨a, _, i, _, rfl, now_int hy, hh, atI_map V.int e, ansC s n h (.int _)⟩
  · exact h.elim

/-! ### slices -/
def cut {α : Type} (xs : List α) (lo hi : Option Int) : List α := (xs.drop (HT.sIx xs.length 0 lo)).take (HT.sIx xs.length xs.length hi - HT.sIx xs.length 0 lo)
theorem cut_reps {Z : Hp} {vs : List V} {ds : List D} (r : Reps K Z vs ds) (lo hi : Option Int) : Reps K Z (cutV vs lo hi) (cut ds lo hi) := by
  unfold cutV cut
  rw [r.length]
  exact (r.drop _).take _
def slL : D → Option Int → Option Int → R D | .lst ds, lo, hi => .ok (.lst (cut ds lo hi)) | _, _, _ => .no
def slT : D → Option Int → Option Int → R D | .tup ds, lo, hi => .ok (.tup (cut ds lo hi)) | _, _, _ => .no
def slS : D → Option Int → Option Int → R D | .str z, lo, hi => (if z.length ≤ sizeLine then .ok (.str (cutS z lo hi)) else .no) | _, _, _ => .no
def SDen (K : PySem.W.Frag) (G : Wh) (r : V → Option Int → Option Int → Hp → VK → Prop) (m : Md) (f : D → Option Int → Option Int → R D) : Prop :=
  ∀ x lo hi dx Z H Q, Sub Z H → (∀ a o, Z a = some o → NoTb o) → Fin K H Z H .t x dx → Ans K G m (f dx lo hi) Z H Q → r x lo hi H Q
theorem sd_L : SDen K G (rSlL K) .f slL := by
  intro x lo hi dx Z H Q s n hx h
  unfold slL at h
  split at h
  · obtain ⟨a, vs, rfl, hh, r⟩ := now_lst s hx
    exact ⟨a, vs, rfl, SqL.of hh, ansL s n h (cut_reps r lo hi)⟩
  · exact h.elim
theorem cut_whole {α : Type} {xs : List α} {lo hi : Option Int} (h1 : HT.sIx xs.length 0 lo = 0) (h2 : HT.sIx xs.length xs.length hi = xs.length) : cut xs lo hi = xs := by
  unfold cut
  rw [h1, h2, List.drop_zero, Nat.sub_zero, List.take_length]
theorem sd_T : SDen K G (rSlA K) .c slT := by
  intro x lo hi dx Z H Q s n hx h
  unfold slT at h
  split at h
  · rename_i ds
    obtain ⟨a, vs, rfl, hz, hh, r⟩ := now_tup s hx
    refine ⟨a, vs, rfl, SqT.of hh, fun ⟨w1, w2⟩ => ?_, fun _ => ansT s n h (cut_reps r lo hi)⟩
    rw [r.length] at w1 w2
    rw [cut_whole w1 w2] at h
    exact ansC s n h (.tup hz r)
  · exact h.elim
theorem sd_S : SDen K G rSlS .c slS := by
  intro x lo hi dx Z H Q s n hx h
  unfold slS at h
  split at h
  · split at h
    · rename_i hz
      exact ⟨_, now_str hx, hz, ansC s n h (.str _)⟩
    · exact h.elim
  · exact h.elim
def goNone : Env → R (Option Int) := fun _ => .ok none
def goSome (g : Env → R D) : Env → R (Option Int) := fun ρ => do match ← g ρ with | .int i => pure (some i) | _ => .no
theorem deno_none : DenO X G none goNone := ⟨_, po_none, fun Z0 H0 Z H σ ρ Q S h => h Z H (.refl S.sub S.nt)⟩
theorem deno_some {e : Expr} {g : Env → R D} {m : Md} (h : Den X G m e g) : DenO X G (some e) (goSome g) := by
  obtain ⟨t, p, q⟩ := h.ex
  refine ⟨_, po_some p, fun Z0 H0 Z H σ ρ Q S k => ?_⟩
  refine q Z0 H0 Z H σ ρ _ S ?_
  unfold goSome at k
  cases ea : g ρ with
  | no => rw [ea] at k; exact k
  | ex c => rw [ea] at k; exact k
  | ok d =>
    rw [ea] at k
    cases d with
    | int i => exact fun v Z' H' g' f => ⟨i, now_int (f.now (Hx := H')), k Z' H' g'⟩
    | non => exact k.elim
    | bl _ => exact k.elim
    | str _ => exact k.elim
    | tup _ => exact k.elim
    | lst _ => exact k.elim
    | dK _ => exact k.elim
    | dT _ => exact k.elim
    | scr _ => exact k.elim
def geSl (f : D → Option Int → Option Int → R D) (g : Env → R D) (gl gh : Env → R (Option Int)) : Env → R D := fun ρ => do let x ← g ρ; let lo ← gl ρ; let hi ← gh ρ; f x lo hi
theorem den_sl {e : Expr} {lo hi : Option Expr} {r : V → Option Int → Option Int → Hp → VK → Prop} {m1 m : Md} {f : D → Option Int → Option Int → R D} {g : Env → R D} {gl gh : Env → R (Option Int)} {p2 pos : Pos}
    (hr : SlR X r) (hd : SDen X.K G r m f) (he : Den X G m1 e g) (hl : DenO X G lo gl) (hh : DenO X G hi gh) : Den X G m (.Subscript e (.Slice lo hi none p2) pos) (geSl f g gl gh) := by
  obtain ⟨t, p, q⟩ := he.ex
  obtain ⟨tl, pl, ql⟩ := hl.ex
  obtain ⟨th, ph, qh⟩ := hh.ex
  refine ⟨_, pe_slice hr p pl ph, fun Z0 H0 Z H σ ρ Q S k => ?_⟩
  refine q Z0 H0 Z H σ ρ _ S ?_
  unfold geSl at k
  cases ea : g ρ with
  | no => rw [ea] at k; exact k
  | ex c => rw [ea] at k; exact k
  | ok d =>
    rw [ea] at k
    intro v Z1 H1 g1 f1
    refine ql Z0 H0 Z1 H1 σ ρ _ (S.grow g1) ?_
    cases eb : gl ρ with
    | no => rw [eb] at k; exact k
    | ex c => rw [eb] at k; exact fun Z' H' g' => k Z' H' (g1.trans g')
    | ok l =>
      rw [eb] at k
      intro Z2 H2 g2
      refine qh Z0 H0 Z2 H2 σ ρ _ (S.grow (g1.trans g2)) ?_
      cases ec : gh ρ with
      | no => rw [ec] at k; exact k
      | ex c => rw [ec] at k; exact fun Z' H' g' => k Z' H' ((g1.trans g2).trans g')
      | ok u =>
        rw [ec] at k
        intro Z3 H3 g3
        exact hd v l u d Z3 H3 Q g3.s g3.n (Now.grow (g2.trans g3) (f1.now (Hx := H))) (Ans.grow k ((g1.trans g2).trans g3))
def revL : D → R D | .lst ds => .ok (.lst ds.reverse) | _ => .no
def ge1 (f : D → R D) (g : Env → R D) : Env → R D := fun ρ => do let x ← g ρ; f x
theorem den_revL {e : Expr} {k : Nat} {p1 p2 p3 pos : Pos} {m1 : Md} {g : Env → R D} (he : Den X G m1 e g) : Den X G .f (.Subscript e (.Slice none none (some (.UnaryOp .USub (.Constant (.int 1) k p1) p2)) p3) pos) (ge1 revL g) := by
  obtain ⟨t, p, q⟩ := he.ex
  refine ⟨_, pe_revL p, fun Z0 H0 Z H σ ρ Q S k => ?_⟩
  refine q Z0 H0 Z H σ ρ _ S ?_
  unfold ge1 at k
  cases ea : g ρ with
  | no => rw [ea] at k; exact k
  | ex c => rw [ea] at k; exact k
  | ok d =>
    rw [ea] at k
    intro v Z1 H1 g1 f1
    have k' : Ans X.K G .f (revL d) Z1 H1 Q := Ans.grow k g1
    unfold revL at k'
    split at k'
    · obtain ⟨a, vs, rfl, hh, r⟩ := now_lst g1.s (f1.now (Hx := H))
      exact ⟨a, vs, rfl, SqL.of hh, ansL g1.s g1.n k' r.reverse⟩
    · exact k'.elim

/-! ### built-ins of one value -/
def lenD : List D → R D
  | [.lst ds] => .ok (.int ds.length) | [.tup ds] => .ok (.int ds.length) | [.scr ns] => .ok (.int ns.length)
  | [.str z] => if z.length ≤ sizeLine then .ok (.int z.length) else .no | _ => .no
theorem fins1 {m : Md} {Z H : Hp} {vs : List V} {d : D} (h : Fins K m Z H vs [d]) : ∃ v, vs = [v] ∧ Fin K H Z H m v d := by
  cases h with | cons h t => cases t; exact ⟨_, rfl, h⟩
theorem fins2 {m : Md} {Z H : Hp} {vs : List V} {d e : D} (h : Fins K m Z H vs [d, e]) : ∃ v w, vs = [v, w] ∧ Fin K H Z H m v d ∧ Fin K H Z H m w e := by
  cases h with | cons h t => obtain ⟨w, rfl, q⟩ := fins1 t; exact ⟨_, _, rfl, h, q⟩
theorem ad_len : ADen K G (fun xs H Q => ∃ x n, xs = [x] ∧ LenV K x H n ∧ Q (.int n) H) .t .c lenD := by
  intro vs ds Z H Q s n f h
  unfold lenD at h
  split at h
  · obtain ⟨v, rfl, fv⟩ := fins1 f
    obtain ⟨a, us, rfl, hh, r⟩ := now_lst s fv
    exact ⟨_, _, rfl, .inl ⟨_, SqL.of hh, r.length.symm⟩, ansC s n h (.int _)⟩
  · obtain ⟨v, rfl, fv⟩ := fins1 f
    obtain ⟨a, us, rfl, _, hh, r⟩ := now_tup s fv
    exact ⟨_, _, rfl, .inr ⟨_, SqT.of hh, r.length.symm⟩, ansC s n h (.int _)⟩
  · obtain ⟨v, rfl, fv⟩ := fins1 f
    obtain ⟨a, rfl, hh⟩ := now_scr s fv
    exact ⟨_, _, rfl, .inl ⟨_, hh, (List.length_map (as := _) _).symm⟩, ansC s n h (.int _)⟩
  · split at h
    · rename_i hz
      obtain ⟨v, rfl, fv⟩ := fins1 f
      exact ⟨_, _, rfl, by rw [now_str fv]; exact ⟨hz, rfl⟩, ansC s n h (.int _)⟩
    · exact h.elim
  · exact h.elim
def lenDct : List D → R D | [.dK kvs] => .ok (.int kvs.length) | _ => .no
theorem RepsP.length {Z : Hp} : ∀ {ds : List (Key × D)} {vs : List (Key × V)}, RepsP K Z vs ds → vs.length = ds.length
  | [], _, h => by cases h; rfl
  | _ :: ds, _, h => by cases h with | cons _ t => simp [RepsP.length t]
theorem RepsQ.length {Z : Hp} : ∀ {ds : List (List Key × D)} {vs : List (List Key × V)}, RepsQ K Z vs ds → vs.length = ds.length
  | [], _, h => by cases h; rfl
  | _ :: ds, _, h => by cases h with | cons _ t => simp [RepsQ.length t]
def rLenD : List V → Hp → VK → Prop := fun xs H Q => ∃ a kvs, xs = [.ref a] ∧ Rd H a (.dK kvs) ∧ Q (.int kvs.length) H
theorem call_lenDct : CallR X (.builtin "len") rLenD := by
  intro pins s σ H xs us Q I r h
  obtain ⟨a, kvs, rfl, e, q⟩ := h
  obtain ⟨u, rfl, rx⟩ := vals1 r
  cases rx
  exact d_len I e fun t s' I' => ⟨.int _, H, I', ⟨t, rfl⟩, q⟩
theorem ad_lenDct : ADen K G rLenD .t .c lenDct := by
  intro vs ds Z H Q s n f h
  unfold lenDct at h
  split at h
  · obtain ⟨v, rfl, fv⟩ := fins1 f
    obtain ⟨a, us, rfl, hh, r⟩ := now_dK s fv
    rw [← r.length] at h
    exact ⟨a, us, rfl, hh, ansC s n h (.int _)⟩
  · exact h.elim
def listD : List D → R D | [.lst ds] => .ok (.lst ds) | [.tup ds] => .ok (.lst ds) | _ => .no
theorem ad_list : ADen K G (fun xs H Q => ∃ p ys, xs = [.ref p] ∧ (SqL K H p ys ∨ SqT K H p ys) ∧ ∀ l, H l = none → Q (.ref l) (upd H l (.lst ys))) .t .f listD := by
  intro vs ds Z H Q s n f h
  unfold listD at h
  split at h
  · obtain ⟨v, rfl, fv⟩ := fins1 f
    obtain ⟨a, us, rfl, hh, r⟩ := now_lst s fv
    exact ⟨a, us, rfl, .inl (SqL.of hh), ansL s n h r⟩
  · obtain ⟨v, rfl, fv⟩ := fins1 f
    obtain ⟨a, us, rfl, _, hh, r⟩ := now_tup s fv
    exact ⟨a, us, rfl, .inr (SqT.of hh), ansL s n h r⟩
  · exact h.elim
def keyV : Key → D | .inl i => .int i | .inr s => .str s
theorem rep_key {Z : Hp} (k : Key) : Rep K Z (kV k) (keyV k) := by
  cases k with
  | inl i => exact .int i
  | inr s => exact .str s
theorem reps_keys {Z : Hp} : ∀ {ds : List (Key × D)} {vs : List (Key × V)}, RepsP K Z vs ds → Reps K Z (vs.map fun kv => kV kv.1) (ds.map fun kd => keyV kd.1)
  | [], _, h => by cases h; exact .nil
  | (k, d) :: ds, _, h => by cases h with | cons _ t => exact .cons (rep_key k) (reps_keys t)
def listDct : List D → R D | [.dK kvs] => .ok (.lst (kvs.map fun kd => keyV kd.1)) | _ => .no
theorem ad_listDct : ADen K G (fun xs H Q => ∃ (a : Addr) (kvs : List (Key × V)), xs = [.ref a] ∧ Rd H a (.dK kvs) ∧ ∀ p, H p = none → Q (.ref p) (upd H p (.lst (kvs.map fun kv => kV kv.1)))) .t .f listDct := by
  intro vs ds Z H Q s n f h
  unfold listDct at h
  split at h
  · obtain ⟨v, rfl, fv⟩ := fins1 f
    obtain ⟨a, us, rfl, hh, r⟩ := now_dK s fv
    exact ⟨a, us, rfl, hh, ansL s n h (reps_keys r)⟩
  · exact h.elim
def tupOf : List D → R D | [.lst ds] => .ok (.tup ds) | [.tup ds] => .ok (.tup ds) | _ => .no
theorem ad_tuple : ADen K G (fun xs H Q => ∃ p ys, xs = [.ref p] ∧ ((SqL K H p ys ∧ ∀ l, H l = none → Q (.ref l) (upd H l (.tup ys))) ∨ (SqT K H p ys ∧ Q (.ref p) H))) .t .c tupOf := by
  intro vs ds Z H Q s n f h
  unfold tupOf at h
  split at h
  · obtain ⟨v, rfl, fv⟩ := fins1 f
    obtain ⟨a, us, rfl, hh, r⟩ := now_lst s fv
    exact ⟨a, us, rfl, .inl ⟨SqL.of hh, ansT s n h r⟩⟩
  · obtain ⟨v, rfl, fv⟩ := fins1 f
    obtain ⟨a, us, rfl, hz, hh, r⟩ := now_tup s fv
    exact ⟨a, us, rfl, .inr ⟨SqT.of hh, ansC s n h (.tup hz r)⟩⟩
  · exact h.elim
/-- all are ints; truths; texts -/
def intsD : List D → Option (List Int)
  | [] => some [] | .int i :: ds => (intsD ds).map (i :: ·) | _ :: _ => none
def blsD : List D → Option (List Bool)
  | [] => some [] | .bl b :: ds => (blsD ds).map (b :: ·) | _ :: _ => none
def strsD : List D → Option (List Str)
  | [] => some [] | .str b :: ds => (strsD ds).map (b :: ·) | _ :: _ => none
theorem ints_of {Z : Hp} : ∀ {ds : List D} {vs : List V} {ns : List Int}, Reps K Z vs ds → intsD ds = some ns → vs = ns.map V.int
  | [], _, _, h, e => by cases h; cases e; rfl
  | d :: ds, _, ns, h, e => by
    cases h with
    | cons h t =>
      cases d with
      | int i =>
        unfold intsD at e
        cases q : intsD ds with
        | none => rw [q] at e; cases e
        | some ms => rw [q] at e; cases e; cases h; rw [ints_of t q]; rfl
      | _ => cases e
theorem bls_of {Z : Hp} : ∀ {ds : List D} {vs : List V} {ns : List Bool}, Reps K Z vs ds → blsD ds = some ns → vs = ns.map V.bl
  | [], _, _, h, e => by cases h; cases e; rfl
  | d :: ds, _, ns, h, e => by
    cases h with
    | cons h t =>
      cases d with
      | bl i =>
        unfold blsD at e
        cases q : blsD ds with
        | none => rw [q] at e; cases e
        | some ms => rw [q] at e; cases e; cases h; rw [bls_of t q]; rfl
      | _ => cases e
theorem strs_of {Z : Hp} : ∀ {ds : List D} {vs : List V} {ns : List Str}, Reps K Z vs ds → strsD ds = some ns → vs = ns.map V.str
  | [], _, _, h, e => by cases h; cases e; rfl
  | d :: ds, _, ns, h, e => by
    cases h with
    | cons h t =>
      cases d with
      | str i =>
        unfold strsD at e
        cases q : strsD ds with
        | none => rw [q] at e; cases e
        | some ms => rw [q] at e; cases e; cases h; rw [strs_of t q]; rfl
      | _ => cases e
def sumD : List D → R D | [.lst ds] => (match intsD ds with | some ns => .ok (.int ns.sum) | none => .no) | _ => .no
theorem ad_sum : ADen K G (rSum K) .t .c sumD := by
  intro vs ds Z H Q s n f h
  unfold sumD at h
  split at h
  · rename_i es
    obtain ⟨v, rfl, fv⟩ := fins1 f
    obtain ⟨a, us, rfl, hh, r⟩ := now_lst s fv
    cases e : intsD es with
    | none => rw [e] at h; exact h.elim
    | some ns =>
      rw [e] at h
      exact ⟨a, ns, rfl, SqL.of (by rw [hh, ints_of r e]), ansC s n h (.int _)⟩
  · exact h.elim
def allD : List D → R D | [.lst ds] => (match blsD ds with | some bs => .ok (.bl (bs.all id)) | none => .no) | _ => .no
theorem ad_all : ADen K G (rAll K) .t .c allD := by
  intro vs ds Z H Q s n f h
  unfold allD at h
  split at h
  · rename_i es
    obtain ⟨v, rfl, fv⟩ := fins1 f
    obtain ⟨a, us, rfl, hh, r⟩ := now_lst s fv
    cases e : blsD es with
    | none => rw [e] at h; exact h.elim
    | some ns =>
      rw [e] at h
      exact ⟨a, ns, rfl, SqL.of (by rw [hh, bls_of r e]), ansC s n h (.bl _)⟩
  · exact h.elim
def maxI : List Int → Int
  | [] => 0 | [a] => a | a :: b :: r => let m := maxI (b :: r); if a < m then m else a
def minI : List Int → Int
  | [] => 0 | [a] => a | a :: b :: r => let m := minI (b :: r); if m < a then m else a
theorem maxI_is : ∀ (ns : List Int), ns ≠ [] → maxI ns ∈ ns ∧ ∀ y ∈ ns, y ≤ maxI ns
  | [], h => absurd rfl h
  | [a], _ => by simp [maxI]
  | a :: b :: r, _ => by
    obtain ⟨h1, h2⟩ := maxI_is (b :: r) (by simp)
    unfold maxI
    dsimp only
    split
    · exact ⟨List.mem_cons_of_mem _ h1, fun y hy => by
        rcases List.mem_cons.mp hy with rfl | hy
        · omega
        · exact h2 y hy⟩
    · exact ⟨List.mem_cons_self, fun y hy => by
        rcases List.mem_cons.mp hy with rfl | hy
        · omega
        · have := h2 y hy; omega⟩
theorem minI_is : ∀ (ns : List Int), ns ≠ [] → minI ns ∈ ns ∧ ∀ y ∈ ns, minI ns ≤ y
  | [], h => absurd rfl h
  | [a], _ => by simp [minI]
  | a :: b :: r, _ => by
    obtain ⟨h1, h2⟩ := minI_is (b :: r) (by simp)
    unfold minI
    dsimp only
    split
    · exact ⟨List.mem_cons_of_mem _ h1, fun y hy => by
        rcases List.mem_cons.mp hy with rfl | hy
        · omega
        · exact h2 y hy⟩
    · exact ⟨List.mem_cons_self, fun y hy => by
        rcases List.mem_cons.mp hy with rfl | hy
        · omega
        · have := h2 y hy; omega⟩
def maxL : List D → R D | [.lst ds] => (match intsD ds with | some (a :: ns) => .ok (.int (maxI (a :: ns))) | _ => .no) | _ => .no
def minL : List D → R D | [.lst ds] => (match intsD ds with | some (a :: ns) => .ok (.int (minI (a :: ns))) | _ => .no) | _ => .no
theorem ad_maxL : ADen K G (rMax K) .t .c maxL := by
  intro vs ds Z H Q s n f h
  unfold maxL at h
  split at h
  · rename_i es
    obtain ⟨v, rfl, fv⟩ := fins1 f
    obtain ⟨a, us, rfl, hh, r⟩ := now_lst s fv
    split at h
    · rename_i b ns e
      refine ⟨a, b :: ns, rfl, SqL.of (by rw [hh, ints_of r e]), by simp, fun m h1 h2 => ?_⟩
      obtain ⟨q1, q2⟩ := maxI_is (b :: ns) (by simp)
      have := h2 _ q1
      have := q2 _ h1
      have em : m = maxI (b :: ns) := by omega
      rw [em]
      exact ansC s n h (.int _)
    · exact h.elim
  · exact h.elim
theorem ad_minL : ADen K G (rMin K) .t .c minL := by
  intro vs ds Z H Q s n f h
  unfold minL at h
  split at h
  · rename_i es
    obtain ⟨v, rfl, fv⟩ := fins1 f
    obtain ⟨a, us, rfl, hh, r⟩ := now_lst s fv
    split at h
    · rename_i b ns e
      refine ⟨a, b :: ns, rfl, SqL.of (by rw [hh, ints_of r e]), by simp, fun m h1 h2 => ?_⟩
      obtain ⟨q1, q2⟩ := minI_is (b :: ns) (by simp)
      have := h2 _ q1
      have := q2 _ h1
      have em : m = minI (b :: ns) := by omega
      rw [em]
      exact ansC s n h (.int _)
    · exact h.elim
  · exact h.elim
def max2 : List D → R D | [.int i, .int j] => .ok (.int (if j > i then j else i)) | _ => .no
def min2 : List D → R D | [.int i, .int j] => .ok (.int (if j < i then j else i)) | _ => .no
theorem ad_max2 : ADen K G (fun xs H Q => ∃ i j, xs = [.int i, .int j] ∧ Q (.int (if j > i then j else i)) H) .t .c max2 := by
  intro vs ds Z H Q s n f h
  unfold max2 at h
  split at h
  · obtain ⟨v, w, rfl, fv, fw⟩ := fins2 f
    exact ⟨_, _, by rw [now_int fv, now_int fw], ansC s n h (.int _)⟩
  · exact h.elim
theorem ad_min2 : ADen K G (fun xs H Q => ∃ i j, xs = [.int i, .int j] ∧ Q (.int (if j < i then j else i)) H) .t .c min2 := by
  intro vs ds Z H Q s n f h
  unfold min2 at h
  split at h
  · obtain ⟨v, w, rfl, fv, fw⟩ := fins2 f
    exact ⟨_, _, by rw [now_int fv, now_int fw], ansC s n h (.int _)⟩
  · exact h.elim
def int1 : List D → R D | [.int i] => .ok (.int i) | [.bl k] => .ok (.int (if k then 1 else 0)) | _ => .no
theorem ad_int1 : ADen K G (fun xs H Q => (∃ i, xs = [.int i] ∧ Q (.int i) H) ∨ ∃ k, xs = [.bl k] ∧ Q (.int (if k then 1 else 0)) H) .t .c int1 := by
  intro vs ds Z H Q s n f h
  unfold int1 at h
  split at h
  · obtain ⟨v, rfl, fv⟩ := fins1 f
    exact .inl ⟨_, by rw [now_int fv], ansC s n h (.int _)⟩
  · obtain ⟨v, rfl, fv⟩ := fins1 f
    exact .inr ⟨_, by rw [now_bl fv], ansC s n h (.int _)⟩
  · exact h.elim
def intS : List D → R D | [.str a] => (match PySem.intText? a with | some n => if a.length ≤ 640 then .ok (.int n) else .no | none => .no) | _ => .no
theorem ad_intS : ADen K G (fun xs H Q => ∃ a n, xs = [.str a] ∧ PySem.intText? a = some n ∧ a.length ≤ 640 ∧ Q (.int n) H) .t .c intS := by
  intro vs ds Z H Q s n f h
  unfold intS at h
  split at h
  · obtain ⟨v, rfl, fv⟩ := fins1 f
    split at h
    · rename_i e
      split at h
      · rename_i hz
        exact ⟨_, _, by rw [now_str fv], e, hz, ansC s n h (.int _)⟩
      · exact h.elim
    · exact h.elim
  · exact h.elim
def strI : List D → R D | [.int i] => if i.natAbs.log2 < 1920 then .ok (.str (toString i)) else .no | _ => .no
theorem ad_strI : ADen K G (fun xs H Q => ∃ i, xs = [.int i] ∧ i.natAbs.log2 < 1920 ∧ Q (.str (toString i)) H) .t .c strI := by
  intro vs ds Z H Q s n f h
  unfold strI at h
  split at h
  · obtain ⟨v, rfl, fv⟩ := fins1 f
    split at h
    · rename_i hz
      exact ⟨_, by rw [now_int fv], hz, ansC s n h (.str _)⟩
    · exact h.elim
  · exact h.elim
end
end VS

set_option Elab.async false
set_option linter.all false
set_option maxRecDepth 100000
set_option maxHeartbeats 2000000
/-! VS6: dicts, methods, isinstance, calls of defs. -/
namespace VS
open PySem L2 LamX

/-! ### dicts by keys -/
section
variable {κ : Type} [DecidableEq κ] {α : Type}
def lk (kvs : List (κ × α)) (k : κ) : Option α := (kvs.find? fun kv => decide (kv.1 = k)).map (·.2)
def pk (kvs : List (κ × α)) (k : κ) (v : α) : List (κ × α) :=
  if (kvs.any fun kv => decide (kv.1 = k)) = true then kvs.map (fun kv => if kv.1 = k then (kv.1, v) else kv) else kvs ++ [(k, v)]
def mg (kvs more : List (κ × α)) : List (κ × α) := more.foldl (fun acc kv => pk acc kv.1 kv.2) kvs
end
section
variable {K : PySem.W.Frag} {Z : Hp}
theorem lk_P {k : Key} : ∀ {ds : List (Key × D)} {vs : List (Key × V)}, RepsP K Z vs ds →
    (∀ d, lk ds k = some d → ∃ v, valV vs k = some v ∧ Rep K Z v d) ∧ (lk ds k = none → valV vs k = none)
  | [], _, h => by cases h; exact ⟨(fun d e => by cases e), fun _ => rfl⟩
  | (j, d) :: ds, _, h => by
    cases h with
    | cons h t =>
      obtain ⟨i1, i2⟩ := lk_P (k := k) t
      by_cases e : j = k
      · have q : lk ((j, d) :: ds) k = some d := by simp [lk, List.find?_cons, e]
        rw [q, valV_pos e]
        exact ⟨fun d' e' => by cases e'; exact ⟨_, rfl, h⟩, fun e' => by cases e'⟩
      · have q : lk ((j, d) :: ds) k = lk ds k := by simp [lk, List.find?_cons, e]
        rw [q, valV_neg e]
        exact ⟨i1, i2⟩
theorem lk_Q {k : List Key} : ∀ {ds : List (List Key × D)} {vs : List (List Key × V)}, RepsQ K Z vs ds →
    (∀ d, lk ds k = some d → ∃ v, valV vs k = some v ∧ Rep K Z v d) ∧ (lk ds k = none → valV vs k = none)
  | [], _, h => by cases h; exact ⟨(fun d e => by cases e), fun _ => rfl⟩
  | (j, d) :: ds, _, h => by
    cases h with
    | cons h t =>
      obtain ⟨i1, i2⟩ := lk_Q (k := k) t
      by_cases e : j = k
      · have q : lk ((j, d) :: ds) k = some d := by simp [lk, List.find?_cons, e]
        rw [q, valV_pos e]
        exact ⟨fun d' e' => by cases e'; exact ⟨_, rfl, h⟩, fun e' => by cases e'⟩
      · have q : lk ((j, d) :: ds) k = lk ds k := by simp [lk, List.find?_cons, e]
        rw [q, valV_neg e]
        exact ⟨i1, i2⟩
theorem any_P {k : Key} : ∀ {ds : List (Key × D)} {vs : List (Key × V)}, RepsP K Z vs ds → (vs.any fun kv => decide (kv.1 = k)) = (ds.any fun kv => decide (kv.1 = k))
  | [], _, h => by cases h; rfl
  | (j, d) :: ds, _, h => by cases h with | cons _ t => rw [List.any_cons, List.any_cons, any_P t]
theorem any_Q {k : List Key} : ∀ {ds : List (List Key × D)} {vs : List (List Key × V)}, RepsQ K Z vs ds → (vs.any fun kv => decide (kv.1 = k)) = (ds.any fun kv => decide (kv.1 = k))
  | [], _, h => by cases h; rfl
  | (j, d) :: ds, _, h => by cases h with | cons _ t => rw [List.any_cons, List.any_cons, any_Q t]
theorem map_P {k : Key} {v : V} {d : D} (r : Rep K Z v d) : ∀ {ds : List (Key × D)} {vs : List (Key × V)}, RepsP K Z vs ds → RepsP K Z (vs.map fun kv => if kv.1 = k then (kv.1, v) else kv) (ds.map fun kv => if kv.1 = k then (kv.1, d) else kv)
  | [], _, h => by cases h; exact .nil
  | (j, d') :: ds, _, h => by
    cases h with
    | cons h t =>
      rw [List.map_cons, List.map_cons]
      by_cases e : j = k
      · rw [if_pos e, if_pos e]; exact .cons r (map_P r t)
      · rw [if_neg e, if_neg e]; exact .cons h (map_P r t)
theorem map_Q {k : List Key} {v : V} {d : D} (r : Rep K Z v d) : ∀ {ds : List (List Key × D)} {vs : List (List Key × V)}, RepsQ K Z vs ds → RepsQ K Z (vs.map fun kv => if kv.1 = k then (kv.1, v) else kv) (ds.map fun kv => if kv.1 = k then (kv.1, d) else kv)
  | [], _, h => by cases h; exact .nil
  | (j, d') :: ds, _, h => by
    cases h with
    | cons h t =>
      rw [List.map_cons, List.map_cons]
      by_cases e : j = k
      · rw [if_pos e, if_pos e]; exact .cons r (map_Q r t)
      · rw [if_neg e, if_neg e]; exact .cons h (map_Q r t)
theorem app_P : ∀ {ds es : List (Key × D)} {vs us : List (Key × V)}, RepsP K Z vs ds → RepsP K Z us es → RepsP K Z (vs ++ us) (ds ++ es)
  | [], _, _, _, h, q => by cases h; exact q
  | _ :: ds, _, _, _, h, q => by cases h with | cons h t => exact .cons h (app_P t q)
theorem app_Q : ∀ {ds es : List (List Key × D)} {vs us : List (List Key × V)}, RepsQ K Z vs ds → RepsQ K Z us es → RepsQ K Z (vs ++ us) (ds ++ es)
  | [], _, _, _, h, q => by cases h; exact q
  | _ :: ds, _, _, _, h, q => by cases h with | cons h t => exact .cons h (app_Q t q)
theorem pk_P {ds : List (Key × D)} {vs : List (Key × V)} (h : RepsP K Z vs ds) (k : Key) {v : V} {d : D} (r : Rep K Z v d) : RepsP K Z (putK vs k v) (pk ds k d) := by
  unfold putK pk
  rw [any_P h]
  split
  · exact map_P r h
  · exact app_P h (.cons r .nil)
theorem pk_Q {ds : List (List Key × D)} {vs : List (List Key × V)} (h : RepsQ K Z vs ds) (k : List Key) {v : V} {d : D} (r : Rep K Z v d) : RepsQ K Z (putK vs k v) (pk ds k d) := by
  unfold putK pk
  rw [any_Q h]
  split
  · exact map_Q r h
  · exact app_Q h (.cons r .nil)
theorem mg_P : ∀ {es : List (Key × D)} {us : List (Key × V)} {ds : List (Key × D)} {vs : List (Key × V)}, RepsP K Z us es → RepsP K Z vs ds → RepsP K Z (mergeK vs us) (mg ds es)
  | [], _, _, _, h, q => by cases h; exact q
  | _ :: es, _, _, _, h, q => by
    cases h with
    | @cons k _ _ _ _ h t =>
      have := mg_P t (pk_P q k h)
      exact this
end
/-- a key -/
def keyD : D → Option Key | .int i => some (.inl i) | .str s => some (.inr s) | _ => none
def keysD : List D → Option (List Key)
  | [] => some []
  | d :: ds => match keyD d, keysD ds with | some k, some ks => some (k :: ks) | _, _ => none
section
variable {K : PySem.W.Frag} {Z H : Hp}
theorem key_of {v : V} {d : D} {k : Key} (r : Rep K Z v d) (h : keyD d = some k) : v = kV k := by
  cases r with
  | int i => cases h; rfl
  | str s => cases h; rfl
  | _ => cases h
theorem keys_of : ∀ {ds : List D} {vs : List V} {ks : List Key}, Reps K Z vs ds → keysD ds = some ks → vs = ks.map kV
  | [], _, _, h, e => by cases h; cases e; rfl
  | d :: ds, _, ks, h, e => by
    cases h with
    | cons h t =>
      unfold keysD at e
      split at e
      · rename_i k' ks' e1 e2
        cases e
        rw [key_of h e1, keys_of t e2]; rfl
      · cases e
/-- the look-up in a dict of data -/
def look : D → D → Option (Option D)
  | .dK kvs, k => (keyD k).map fun k => lk kvs k
  | .dT kvs, .tup ks => (keysD ks).map fun k => lk kvs k
  | _, _ => none
theorem look_get {x y : V} {dx dy : D} {o : Option D} (s : Sub Z H) (hx : Fin K H Z H .t x dx) (hy : Fin K H Z H .t y dy) (h : look dx dy = some o) :
    ∃ a r, x = .ref a ∧ DGet H a y r ∧ IsD H a ∧ (∀ d, o = some d → ∃ v, r = some v ∧ Rep K Z v d) ∧ (o = none → r = none) := by
  unfold look at h
  split at h
  · rename_i kvs
    obtain ⟨a, vs, rfl, hh, r⟩ := now_dK s hx
    cases e : keyD dy with
    | none => rw [e] at h; cases h
    | some k =>
      rw [e] at h; cases h
      obtain ⟨l1, l2⟩ := lk_P (k := k) r
      refine ⟨a, valV vs k, rfl, .inl ⟨vs, k, hh, key_of (Now.rep s hy) e, rfl⟩, .inl ⟨_, hh⟩, fun d e => ?_, fun e => l2 e⟩
      obtain ⟨v, h1, h2⟩ := l1 d e
      exact ⟨v, h1, h2⟩
  · rename_i kvs ks
    obtain ⟨a, vs, rfl, hh, r⟩ := now_dT s hx
    obtain ⟨b, us, rfl, _, hb, rb⟩ := now_tup s hy
    cases e : keysD ks with
    | none => rw [e] at h; cases h
    | some k =>
      rw [e] at h; cases h
      obtain ⟨l1, l2⟩ := lk_Q (k := k) r
      refine ⟨a, valV vs k, rfl, .inr ⟨vs, k, b, hh, rfl, by rw [hb, keys_of rb e], rfl⟩, .inr ⟨_, hh⟩, fun d e => ?_, fun e => l2 e⟩
      obtain ⟨v, h1, h2⟩ := l1 d e
      exact ⟨v, h1, h2⟩
  · cases h
end
def ixD (d k : D) : R D := match look d k with | some (some v) => .ok v | _ => .no
def inD (neg : Bool) (k d : D) : R D := match look d k with | some o => .ok (.bl (if neg then !o.isSome else o.isSome)) | _ => .no
def getD2 (d k x : D) : R D := match look d k with | some o => .ok (o.getD x) | _ => .no
section
variable {X : Cx} {G : Wh}
theorem den_ixD {o i : Expr} {pos : Pos} {m1 m2 : Md} {go gi : Env → R D} (hu : X.A.units + 1 < cLine) (ho : Den X G m1 o go) (hi : Den X G m2 i gi) (hs : NoSl i) : Den X G .c (.Subscript o i pos) (geOp ixD go gi) := by
  obtain ⟨to, po, qo⟩ := ho.ex
  obtain ⟨ti, pi, qi⟩ := hi.ex
  refine ⟨_, pe_dget hu po pi hs, fun Z0 H0 Z H σ ρ Q S h => ?_⟩
  refine ans_op (r := fun x y H2 Q => ∃ a v, x = .ref a ∧ DGet H2 a y (some v) ∧ Q v H2) (fun x y dx dy Z H Q s n hx hy h => ?_) qo qi S h
  unfold ixD at h
  split at h
  · rename_i d e
    obtain ⟨a, r, rfl, g, _, h1, _⟩ := look_get s hx hy e
    obtain ⟨v, rfl, rv⟩ := h1 d rfl
    exact ⟨a, v, rfl, g, ansC s n h rv⟩
  · exact h.elim
theorem rd_swap {ta tb : TE} : True := trivial
theorem den_inD {i o : Expr} {pos : Pos} {m1 m2 : Md} {go gi : Env → R D} (hu : X.A.units + 1 < cLine) (hi : Den X G m2 i gi) (ho : Den X G m1 o go) (hb : behindInMarks .In o = false) : Den X G .c (.Compare i [.In] [o] pos) (geOp (inD false) gi go) := by
  obtain ⟨to, po, qo⟩ := ho.ex
  obtain ⟨ti, pi, qi⟩ := hi.ex
  refine ⟨_, pe_cmp (pc_din hu pi po) hb, fun Z0 H0 Z H σ ρ Q S h => ?_⟩
  refine ans_op (r := fun y x H2 Q => ∃ a o, x = .ref a ∧ DGet H2 a y o ∧ Q (.bl o.isSome) H2) (fun y x dy dx Z H Q s n hy hx h => ?_) qi qo S h
  unfold inD at h
  split at h
  · rename_i oo e
    obtain ⟨a, r, rfl, g, _, h1, h2⟩ := look_get s hx hy e
    refine ⟨a, r, rfl, g, ?_⟩
    have : r.isSome = oo.isSome := by
      cases oo with
      | none => rw [h2 rfl]; rfl
      | some d => obtain ⟨v, rfl, _⟩ := h1 d rfl; rfl
    rw [this]
    exact ansC s n h (.bl _)
  · exact h.elim
theorem den_niD {i o : Expr} {pos : Pos} {m1 m2 : Md} {go gi : Env → R D} (hu : X.A.units + 1 < cLine) (hi : Den X G m2 i gi) (ho : Den X G m1 o go) (hb : behindInMarks .NotIn o = false) : Den X G .c (.Compare i [.NotIn] [o] pos) (geOp (inD true) gi go) := by
  obtain ⟨to, po, qo⟩ := ho.ex
  obtain ⟨ti, pi, qi⟩ := hi.ex
  refine ⟨_, pe_cmp (pc_dnotin hu pi po) hb, fun Z0 H0 Z H σ ρ Q S h => ?_⟩
  refine ans_op (r := fun y x H2 Q => ∃ a o, x = .ref a ∧ DGet H2 a y o ∧ Q (.bl (!o.isSome)) H2) (fun y x dy dx Z H Q s n hy hx h => ?_) qi qo S h
  unfold inD at h
  split at h
  · rename_i oo e
    obtain ⟨a, r, rfl, g, _, h1, h2⟩ := look_get s hx hy e
    refine ⟨a, r, rfl, g, ?_⟩
    have : r.isSome = oo.isSome := by
      cases oo with
      | none => rw [h2 rfl]; rfl
      | some d => obtain ⟨v, rfl, _⟩ := h1 d rfl; rfl
    rw [this]
    exact ansC s n h (.bl _)
  · exact h.elim
/-- a comparison's test from its value's denotation -/
theorem dent_of {a b : Expr} {op : CmpOp} {pos : Pos} {m : Md} {t : TE} {g : Env → R D} (hc : PC X op a b t) (hb : behindInMarks op b = false)
    (q : ∀ Z0 H0 Z H σ ρ Q, Sim X.K G.T Z0 H0 Z H σ ρ → Ans X.K G m (g ρ) Z H Q → t σ H Q) : DenT X G (.Compare a [op] [b] pos) (geB g) :=
  ⟨_, pt_cmp hc hb, fun Z0 H0 Z H σ ρ Q S h => ans_B q S h⟩
def isDct : D → Bool | .dK _ => true | .dT _ => true | _ => false
def isLst : D → Bool | .lst _ => true | _ => false
def isStr : D → Bool | .str _ => true | _ => false
theorem isD_of {Z H Hx : Hp} {x : V} {d : D} (s : Sub Z H) (h : Fin X.K Hx Z H .t x d) (e : isDct d = true) : ∃ a, x = .ref a ∧ IsD H a := by
  cases d with
  | dK kvs => obtain ⟨a, vs, rfl, hh, r⟩ := now_dK s h; exact ⟨a, rfl, .inl ⟨_, hh⟩⟩
  | dT kvs => obtain ⟨a, vs, rfl, hh, r⟩ := now_dT s h; exact ⟨a, rfl, .inr ⟨_, hh⟩⟩
  | _ => cases e
def geGet (go ge gf : Env → R D) : Env → R D := fun ρ => do
  let x ← go ρ
  if isDct x then do
    let y ← ge ρ
    let z ← gf ρ
    getD2 x y z
  else .no
theorem den_get {o e f : Expr} {apos cpos : Pos} {m1 m2 : Md} {go ge gf : Env → R D} (hu : X.A.units + 1 < cLine) (ho : Den X G m1 o go) (he : Den X G m2 e ge) (hf : Den X G .c f gf) (m : M2 X o "get" apos e f cpos) :
    Den X G .c (.Call (.Attribute o "get" apos) [e, f] [] cpos) (geGet go ge gf) := by
  obtain ⟨to, po, qo⟩ := ho.ex
  obtain ⟨te, pe, qe⟩ := he.ex
  obtain ⟨tf, pf, qf⟩ := hf.ex
  refine ⟨_, pe_dget2 hu po pe pf m, fun Z0 H0 Z H σ ρ Q S k => ?_⟩
  refine qo Z0 H0 Z H σ ρ _ S ?_
  unfold geGet at k
  cases ea : go ρ with
  | no => rw [ea] at k; exact k
  | ex c => rw [ea] at k; exact k
  | ok d =>
    rw [ea] at k
    intro x Z1 H1 g1 f1
    rw [R.ok_bind] at k
    split at k
    · rename_i hd
      obtain ⟨a, rfl, isd⟩ := isD_of (X := X) g1.s (f1.now (Hx := H)) hd
      refine ⟨a, rfl, isd, ?_⟩
      refine qe Z0 H0 Z1 H1 σ ρ _ (S.grow g1) ?_
      cases eb : ge ρ with
      | no => rw [eb] at k; exact k
      | ex c => rw [eb] at k; exact fun Z' H' g' => k Z' H' (g1.trans g')
      | ok dy =>
        rw [eb] at k
        intro y Z2 H2 g2 f2
        refine qf Z0 H0 Z2 H2 σ ρ _ (S.grow (g1.trans g2)) ?_
        cases ec : gf ρ with
        | no => rw [ec] at k; exact k
        | ex c => rw [ec] at k; exact fun Z' H' g' => k Z' H' ((g1.trans g2).trans g')
        | ok dz =>
          rw [ec] at k
          intro z Z3 H3 g3 f3
          have k' : Ans X.K G .c (getD2 d dy dz) Z3 H3 Q := Ans.grow (show Ans X.K G .c (getD2 d dy dz) Z H Q from k) ((g1.trans g2).trans g3)
          unfold getD2 at k'
          split at k'
          · rename_i oo e
            obtain ⟨a', r, e1, g, _, h1, h2⟩ := look_get g3.s (Now.grow (g2.trans g3) (f1.now (Hx := H))) (Now.grow g3 (f2.now (Hx := H))) e
            cases e1
            refine ⟨r, g, ?_⟩
            cases oo with
            | none => rw [h2 rfl]; exact ansC g3.s g3.n k' f3
            | some dd => obtain ⟨v, rfl, rv⟩ := h1 dd rfl; exact ansC g3.s g3.n k' rv
          · exact k'.elim
    · exact k.elim

/-! ### methods of built-in types -/
/-- the receiver, then the arguments, then what the method does -/
def geM (chk : D → Bool) (f : D → List D → R D) (go : Env → R D) (ga : Env → R (List D)) : Env → R D := fun ρ => do
  let x ← go ρ
  if chk x then do
    let ds ← ga ρ
    f x ds
  else .no
def MDen (K : PySem.W.Frag) (G : Wh) (T : String) (r : V → List V → Hp → VK → Prop) (m : Md) (chk : D → Bool) (f : D → List D → R D) : Prop :=
  (∀ x dx Z H Hx, Sub Z H → Fin K Hx Z H .t x dx → chk dx = true → tyV K T x H) ∧
  ∀ x dx vs ds Z H Q, Sub Z H → (∀ a o, Z a = some o → NoTb o) → Fin K H Z H .t x dx → Fins K .t Z H vs ds → Ans K G m (f dx ds) Z H Q → r x vs H Q
theorem Fins.now {m : Md} {Z H : Hp} : ∀ {vs : List V} {ds : List D}, Fins X.K m Z H vs ds → Fins X.K .t Z H vs ds
  | _, _, .nil => .nil
  | _, _, .cons h t => .cons h.now (Fins.now t)
theorem den_m {o e : Expr} {es : List Expr} {apos cpos : Pos} {T id : String} {name : Str} {r : V → List V → Hp → VK → Prop} {m1 m2 m : Md} {chk : D → Bool} {f : D → List D → R D} {go : Env → R D} {ga : Env → R (List D)}
    (pa : PlainAttrs T) (slot : Slot T name id) (hty : typeOf (.builtin id) = pure (.type "method_descriptor")) (hm : MtR X id r) (hd : MDen X.K G T r m chk f) (ho : Den X G m1 o go) (ha : DenA X G m2 (e :: es) ga)
    (hbase : attributeBase o name X.env (eval o X.env) = eval o X.env)
    (hfew : ((backTo cpos (starEach (e :: es) X.env)).all (fun x => !x.1) && (backToKw cpos (keywordEach [] X.env)).all (fun x => x.1.isSome)
      && decide ((e :: es).length + ([] : List Keyword).length + (if ([] : List Keyword).isEmpty then 0 else 1) < 30)) = true)
    (hline : (apos.endLine == cpos.line) = true) (hs : starEach (e :: es) X.env = (false, eval e X.env) :: starEach es X.env) (hplain : (backTo cpos (starEach es X.env)).any (·.1) = false) :
    Den X G m (.Call (.Attribute o name apos) (e :: es) [] cpos) (geM chk f go ga) := by
  obtain ⟨to, po, qo⟩ := ho.ex
  obtain ⟨t, pt, qt⟩ := ha.ex
  refine ⟨_, pe_bm pa slot hty hm po pt hbase hfew hline hs hplain, fun Z0 H0 Z H σ ρ Q S k => ?_⟩
  refine qo Z0 H0 Z H σ ρ _ S ?_
  unfold geM at k
  cases ea : go ρ with
  | no => rw [ea] at k; exact k
  | ex c => rw [ea] at k; exact k
  | ok d =>
    rw [ea] at k
    intro x Z1 H1 g1 f1
    rw [R.ok_bind] at k
    split at k
    · rename_i hc
      refine ⟨hd.1 x d Z1 H1 H g1.s (f1.now (Hx := H)) hc, ?_⟩
      refine qt Z0 H0 Z1 H1 σ ρ _ (S.grow g1) ?_
      cases eb : ga ρ with
      | no => rw [eb] at k; exact k
      | ex c => rw [eb] at k; exact fun Z' H' g' => k Z' H' (g1.trans g')
      | ok ds =>
        rw [eb] at k
        intro vs Z2 H2 g2 f2
        exact hd.2 x d vs ds Z2 H2 Q g2.s g2.n (Now.grow g2 (f1.now (Hx := H))) (Fins.now f2) (Ans.grow (show Ans X.K G m (f d ds) Z H Q from k) (g1.trans g2))
    · exact k.elim

/-! ### isinstance -/
inductive Ty where
  | int | bool | str | list | tuple | dict
  deriving DecidableEq
def Ty.name : Ty → String | .int => "int" | .bool => "bool" | .str => "str" | .list => "list" | .tuple => "tuple" | .dict => "dict"
def tyD : D → Option Ty | .non => none | .bl _ => some .bool | .int _ => some .int | .str _ => some .str | .tup _ => some .tuple | .lst _ => some .list | .dK _ => some .dict | .dT _ => some .dict | .scr _ => some .list
/-- whether a value of the type t is of the class c -/
def isTy (d : D) (c : Ty) : Bool := match tyD d with | none => false | some t => t == c || (t == .bool && c == .int)
def tyName (d : D) : String := match tyD d with | none => "NoneType" | some t => t.name
theorem kit_isTy (d : D) (c : Ty) : PySem.W.kitOne X.K (.type (tyName d)) (.type c.name) = some (isTy d c) := by
  have : ∀ (t : Option Ty) (c : Ty), kitB (match t with | none => "NoneType" | some t => t.name) c.name = some (match t with | none => false | some t => t == c || (t == .bool && c == .int)) := by
    intro t c
    cases t with
    | none => cases c <;> decide +kernel
    | some t => cases t <;> cases c <;> decide +kernel
  exact kit_ty (this (tyD d) c)
theorem ty_of {Z H Hx : Hp} {x : V} {d : D} (s : Sub Z H) (h : Fin X.K Hx Z H .t x d) (hf : ∀ kvs, d ≠ .dT kvs) : TyX X.K H x (.type (tyName d)) := by
  cases d with
  | non => rw [now_non h]; exact .base .non
  | bl b => rw [now_bl h]; exact .base (.bl b)
  | int i => rw [now_int h]; exact .base (.int i)
  | str z => rw [now_str h]; exact .base (.str z)
  | tup ds => obtain ⟨a, vs, rfl, _, hh, _⟩ := now_tup s h; exact .base (.tup hh)
  | lst ds => obtain ⟨a, vs, rfl, hh, _⟩ := now_lst s h; exact .base (.lst hh)
  | dK kvs =>
    obtain ⟨a, vs, rfl, hh, _⟩ := now_dK s h
    rcases hh with hh | ⟨o, hh⟩
    · exact .base (.dK hh)
    · exact .fDict hh
  | dT kvs => exact absurd rfl (hf kvs)
  | scr ns =>
    obtain ⟨a, rfl, hh⟩ := now_scr s h
    rcases hh with (hh | ⟨o, hh⟩) | ⟨o, its, n, h1, h2, _⟩
    · exact .base (.lst hh)
    · exact .base (.frz hh)
    · exact .kList h1 h2
/-- isinstance(x, T): the class is read, the rest is by values -/
def isiD (c : Ty) (d : D) : R D := match d with | .dT _ => .no | _ => .ok (.bl (isTy d c))
theorem isiD_ok {c : Ty} {d : D} {Z H : Hp} {Q : VK} (h : Ans X.K G .c (isiD c d) Z H Q) : (∀ kvs, d ≠ .dT kvs) ∧ Ans X.K G .c (.ok (.bl (isTy d c))) Z H Q := by
  unfold isiD at h
  split at h
  · exact h.elim
  · rename_i hn; exact ⟨fun kvs e => hn kvs e, h⟩
theorem den_isi {x e : Expr} {c : Ty} {pi p2 pos : Pos} {xi xc : Str} {m1 : Md} {g : Env → R D} (he : Den X G m1 e g) (hc : PE X (.Name xc p2) (tC (.ty c.name)))
    (hg : Gl X xi) (hm : X.mg xi = none) (hv : bootBuiltins xi = some (.builtin "isinstance")) (hn : xi ≠ "__name__") (hdb : (xi == ("__debug__" : Str)) = false)
    (hs1 : starEach [e, .Name xc p2] X.env = (false, eval e X.env) :: starEach [.Name xc p2] X.env) (hs2 : starEach [.Name xc p2] X.env = (false, eval (.Name xc p2) X.env) :: starEach [] X.env) (hpl : (backTo pos (starEach [.Name xc p2] X.env)).any (·.1) = false) :
    Den X G .c (.Call (.Name xi pi) [e, .Name xc p2] [] pos) (ge1 (isiD c) g) := by
  obtain ⟨t, p, q⟩ := he.ex
  refine ⟨_, pe_callB call_isi hg hm hv (pa_cons p (pa_cons hc pa_nil hs2) hs1) hn hdb hs1 hpl, fun Z0 H0 Z H σ ρ Q S k => ?_⟩
  refine q Z0 H0 Z H σ ρ _ S ?_
  unfold ge1 at k
  cases ea : g ρ with
  | no => rw [ea] at k; exact k
  | ex c => rw [ea] at k; exact k
  | ok d =>
    rw [ea] at k
    intro v Z1 H1 g1 f1
    obtain ⟨hn, k'⟩ := isiD_ok (Ans.grow (show Ans X.K G .c (isiD c d) Z H Q from k) g1)
    exact ⟨v, .ty c.name, _, _, _, rfl, .ty _, ty_of g1.s (f1.now (Hx := H)) hn, kit_isTy d c, ansC g1.s g1.n k' (.bl _)⟩
end
end VS

set_option Elab.async false
set_option linter.all false
set_option maxRecDepth 100000
set_option maxHeartbeats 2000000
/-! VS7: statements, targets, loops, comprehensions, calls. -/
namespace VS
open PySem L2 LamX

inductive Out where
  | nx (ρ : Env) | rt (d : D) | bk (ρ : Env) | ct (ρ : Env) | ex (c : Str) | no

section
variable (K : PySem.W.Frag) (G : Wh)
def PostS (o : Out) (Z0 H0 : Hp) (D : Ends) : Prop :=
  match o with
  | .nx ρ => ∀ Z' H' σ', Sim K G.T Z0 H0 Z' H' σ' ρ → D.nx σ' H'
  | .bk ρ => ∀ Z' H' σ', Sim K G.T Z0 H0 Z' H' σ' ρ → D.bk σ' H'
  | .ct ρ => ∀ Z' H' σ', Sim K G.T Z0 H0 Z' H' σ' ρ → D.ct σ' H'
  | .rt d => ∀ v Z' H', Grow G.T Z0 H0 Z' H' → Tabs G.T H' → Rep K Z' v d → D.rt v H'
  | .ex c => ∀ Z' H', Grow G.T Z0 H0 Z' H' → Tabs G.T H' → G.E (.ref (G.cl c)) none H'
  | .no => False
end
structure DenS (X : Cx) (G : Wh) (st : Stmt) (f : Env → Out) : Prop where
  ex : ∃ t, PS X st t ∧ ∀ Z0 H0 Z H σ ρ D, Sim X.K G.T Z0 H0 Z H σ ρ → PostS X.K G (f ρ) Z0 H0 D → t D σ H
structure DenB (X : Cx) (G : Wh) (sts : List Stmt) (f : Env → Out) : Prop where
  ex : ∃ t, PSs X sts t ∧ ∀ Z0 H0 Z H σ ρ D, Sim X.K G.T Z0 H0 Z H σ ρ → PostS X.K G (f ρ) Z0 H0 D → t D σ H

section
variable {K : PySem.W.Frag} {T : List (Addr × Str)} {Z0 H0 Z H Z1 H1 Z' H' : Hp} {σ : L2.St} {ρ : Env}
/-- the base may be what is frozen by now -/
theorem Grow.back (a : Grow T Z0 H0 Z1 H1) (b : Grow T Z1 H0 Z' H') : Grow T Z0 H0 Z' H' := ⟨a.z.trans b.z, b.h, b.s, b.n, fun x h q => b.p x (a.p x h q) q, b.t⟩
theorem Grow.base (a : Grow T Z0 H0 Z1 H1) : Grow T Z1 H0 Z1 H1 := ⟨Sub.refl _, a.h, a.s, a.n, fun _ h _ => h, a.t⟩
theorem Sim.base (S : Sim K T Z0 H0 Z H σ ρ) : Sim K T Z H0 Z H σ ρ := ⟨S.g.base, S.tabs, S.len, S.slot, S.new, S.dis⟩
theorem Sim.back {σ' : L2.St} {ρ' : Env} (a : Grow T Z0 H0 Z1 H1) (S : Sim K T Z1 H0 Z' H' σ' ρ') : Sim K T Z0 H0 Z' H' σ' ρ' := ⟨a.back S.g, S.tabs, S.len, S.slot, S.new, S.dis⟩
theorem PostS.back {G : Wh} {o : Out} {D : Ends} (a : Grow G.T Z0 H0 Z1 H1) (h : PostS K G o Z0 H0 D) : PostS K G o Z1 H0 D := by
  cases o with
  | nx ρ => exact fun Z' H' σ' S => h Z' H' σ' (Sim.back a S)
  | bk ρ => exact fun Z' H' σ' S => h Z' H' σ' (Sim.back a S)
  | ct ρ => exact fun Z' H' σ' S => h Z' H' σ' (Sim.back a S)
  | rt d => exact fun v Z' H' g t r => h v Z' H' (a.back g) t r
  | ex c => exact fun Z' H' g t => h Z' H' (a.back g) t
  | no => exact h
end

section
variable {X : Cx} {G : Wh}
/-- an expression within a statement: what becomes of an exception -/
theorem post_ex {c : Str} {Z0 H0 Z H : Hp} {σ : L2.St} {ρ : Env} {D : Ends} (S : Sim X.K G.T Z0 H0 Z H σ ρ) (h : PostS X.K G (.ex c) Z0 H0 D) : ∀ Z' H', Grow G.T Z H Z' H' → G.E (.ref (G.cl c)) none H' :=
  fun Z' H' g => h Z' H' (S.g.trans g) (g.t S.tabs)

/-! ### blocks -/
def seqO (f g : Env → Out) : Env → Out := fun ρ => match f ρ with
  | .nx ρ' => g ρ' | .rt d => .rt d | .bk ρ' => .bk ρ' | .ct ρ' => .ct ρ' | .ex c => .ex c | .no => .no
theorem denb_nil : DenB X G [] .nx := ⟨_, pss_nil, fun Z0 H0 Z H σ ρ D S h => h Z H σ S⟩
theorem denb_cons {s : Stmt} {ss : List Stmt} {f g : Env → Out} (hs : DenS X G s f) (hr : DenB X G ss g) : DenB X G (s :: ss) (seqO f g) := by
  obtain ⟨t, p, q⟩ := hs.ex
  obtain ⟨u, p', q'⟩ := hr.ex
  refine ⟨_, pss_cons p p', fun Z0 H0 Z H σ ρ D S h => ?_⟩
  refine q Z0 H0 Z H σ ρ _ S ?_
  unfold seqO at h
  cases e : f ρ with
  | nx ρ' => rw [e] at h; exact fun Z' H' σ' S' => q' Z0 H0 Z' H' σ' ρ' D S' h
  | bk ρ' => rw [e] at h; exact h
  | ct ρ' => rw [e] at h; exact h
  | rt d => rw [e] at h; exact h
  | ex c => rw [e] at h; exact h
  | no => rw [e] at h; exact h
/-- a slot's own thing is frozen ahead of a statement -/
def frzSl (i : Nat) (ρ : Env) : Option Env := match ρ[i]? with
  | some sl => (match frozen sl with | some d => some (ρ.set i (.im d)) | none => none)
  | none => none
def frzO (i : Nat) (f : Env → Out) : Env → Out := fun ρ => match frzSl i ρ with | some ρ' => f ρ' | none => .no
theorem dens_frz {s : Stmt} {f : Env → Out} {i : Nat} (hs : DenS X G s f) : DenS X G s (frzO i f) := by
  obtain ⟨t, p, q⟩ := hs.ex
  refine ⟨t, p, fun Z0 H0 Z H σ ρ D S h => ?_⟩
  unfold frzO frzSl at h
  cases e : ρ[i]? with
  | none => rw [e] at h; exact h.elim
  | some sl =>
    rw [e] at h
    dsimp only at h
    cases e2 : frozen sl with
    | none => rw [e2] at h; exact h.elim
    | some d =>
      rw [e2] at h
      obtain ⟨Z', S'⟩ := S.freeze e e2
      exact q Z0 H0 Z' H σ _ D S' h

/-! ### simple statements -/
def ofR (r : R D) (k : D → Out) : Out := match r with | .ok d => k d | .ex c => .ex c | .no => .no
theorem dens_expr {e : Expr} {pos : Pos} {m : Md} {g : Env → R D} (he : Den X G m e g) (hs : swapsWith e none pos.line X.env = pure false) : DenS X G (.Expr e pos) (fun ρ => ofR (g ρ) fun _ => .nx ρ) := by
  obtain ⟨t, p, q⟩ := he.ex
  refine ⟨_, ps_expr p hs, fun Z0 H0 Z H σ ρ D S h => ?_⟩
  refine q Z0 H0 Z H σ ρ _ S ?_
  cases e : g ρ with
  | ok d => rw [e] at h; exact fun v Z' H' g' f => h Z' H' σ (S.grow g')
  | ex c => rw [e] at h; exact post_ex S h
  | no => rw [e] at h; exact h
theorem dens_ret {e : Expr} {pos : Pos} {g : Env → R D} (he : Den X G .c e g) : DenS X G (.Return (some e) pos) (fun ρ => ofR (g ρ) .rt) := by
  obtain ⟨t, p, q⟩ := he.ex
  refine ⟨_, ps_ret p, fun Z0 H0 Z H σ ρ D S h => ?_⟩
  refine q Z0 H0 Z H σ ρ _ S ?_
  cases e : g ρ with
  | ok d => rw [e] at h; exact fun v Z' H' g' f => h v Z' H' (S.g.trans g') (g'.t S.tabs) f
  | ex c => rw [e] at h; exact post_ex S h
  | no => rw [e] at h; exact h
theorem dens_pass {pos : Pos} : DenS X G (.Pass pos) .nx := ⟨_, ps_pass, fun Z0 H0 Z H σ ρ D S h => h Z H σ S⟩
theorem dens_cont {pos : Pos} : DenS X G (.Continue pos) .ct := ⟨_, ps_continue, fun Z0 H0 Z H σ ρ D S h => h Z H σ S⟩
theorem dens_brk {pos : Pos} : DenS X G (.Break pos) .bk := ⟨_, ps_break, fun Z0 H0 Z H σ ρ D S h => h Z H σ S⟩
def ifO (c : Env → R Bool) (f g : Env → Out) : Env → Out := fun ρ => match c ρ with
  | .ok b => if b then f ρ else g ρ | .ex c => .ex c | .no => .no
theorem dens_if {c : Expr} {a b : List Stmt} {pos : Pos} {gc : Env → R Bool} {f g : Env → Out} (hc : DenT X G c gc) (ha : DenB X G a f) (hb : DenB X G b g) : DenS X G (.If c a b pos) (ifO gc f g) := by
  obtain ⟨t, p, q⟩ := hc.ex
  obtain ⟨ta, pa, qa⟩ := ha.ex
  obtain ⟨tb, pb, qb⟩ := hb.ex
  refine ⟨_, ps_if p pa pb, fun Z0 H0 Z H σ ρ D S h => ?_⟩
  refine q Z0 H0 Z H σ ρ _ S ?_
  unfold ifO at h
  cases e : gc ρ with
  | ok b =>
    rw [e] at h
    intro Z' H' g'
    cases b with
    | true => exact qa Z0 H0 Z' H' σ ρ D (S.grow g') h
    | false => exact qb Z0 H0 Z' H' σ ρ D (S.grow g') h
  | ex c => rw [e] at h; exact post_ex S h
  | no => rw [e] at h; exact h

/-! ### targets -/
mutual
inductive Tg where
  | nm (i : Nat) | tp (ts : Tgs)
inductive Tgs where
  | nil | cons (t : Tg) (ts : Tgs)
end
mutual
def bindT : Tg → D → Env → R Env
  | .nm i, d, ρ => .ok (ρ.set i (.im d))
  | .tp ts, .tup ds, ρ => bindTs ts ds ρ
  | .tp _, _, _ => .no
def bindTs : Tgs → List D → Env → R Env
  | .nil, [], ρ => .ok ρ
  | .cons t ts, d :: ds, ρ => do bindTs ts ds (← bindT t d ρ)
  | _, _, _ => .no
end
mutual
def Tg.slots : Tg → List Nat
  | .nm i => [i] | .tp ts => ts.slots
def Tgs.slots : Tgs → List Nat
  | .nil => [] | .cons t ts => t.slots ++ ts.slots
end
def Tgs.len : Tgs → Nat
  | .nil => 0 | .cons _ ts => ts.len + 1
theorem bindTs_len : ∀ {ts : Tgs} {ds : List D} {ρ ρ' : Env}, bindTs ts ds ρ = .ok ρ' → ds.length = ts.len
  | .nil, [], _, _, _ => rfl
  | .nil, _ :: _, _, _, h => by simp [bindTs] at h
  | .cons t ts, [], _, _, h => by simp [bindTs] at h
  | .cons t ts, d :: ds, ρ, ρ', h => by
    unfold bindTs at h
    cases e : bindT t d ρ with
    | ok r => rw [e] at h; simp only [Tgs.len, List.length_cons]; rw [bindTs_len h]
    | ex c => rw [e] at h; cases h
    | no => rw [e] at h; cases h
/-- σ and σ' differ at most at the slots -/
def OnlyAt (l : List Nat) (σ σ' : L2.St) : Prop := σ'.length = σ.length ∧ ∀ j, j ∉ l → σ'[j]? = σ[j]?
theorem OnlyAt.refl (l : List Nat) (σ : L2.St) : OnlyAt l σ σ := ⟨rfl, fun _ _ => rfl⟩
theorem OnlyAt.trans {l l' : List Nat} {a b c : L2.St} (h : OnlyAt l a b) (k : OnlyAt l' b c) : OnlyAt (l ++ l') a c :=
  ⟨k.1.trans h.1, fun j hj => by
    rw [List.mem_append, not_or] at hj
    rw [k.2 j hj.2, h.2 j hj.1]⟩
structure DenG (X : Cx) (G : Wh) (tg : Expr) (t : Tg) : Prop where
  ex : ∃ g, PG X tg g ∧ ∀ Z0 H0 Z H σ ρ ρ' v d Q, Sim X.K G.T Z0 H0 Z H σ ρ → Rep X.K Z v d → bindT t d ρ = .ok ρ' → (∀ σ', OnlyAt t.slots σ σ' → Sim X.K G.T Z0 H0 Z H σ' ρ' → Q σ' H) → g v σ H Q
structure DenGs (X : Cx) (G : Wh) (tgs : List Expr) (ts : Tgs) : Prop where
  ex : ∃ g, PGs X tgs g ∧ ∀ Z0 H0 Z H σ ρ ρ' vs ds Q, Sim X.K G.T Z0 H0 Z H σ ρ → Reps X.K Z vs ds → bindTs ts ds ρ = .ok ρ' → (∀ σ', OnlyAt ts.slots σ σ' → Sim X.K G.T Z0 H0 Z H σ' ρ' → Q σ' H) → g vs σ H Q
theorem deng_nm {i : Nat} {x : Str} {pos : Pos} (hN : X.N.Nodup) (hi : X.N[i]? = some x) (hx : Loc X.env.scope x) (hf : X.fn x = true ∨ X.env.scope.names.lookup x = some .local) : DenG X G (.Name x pos) (.nm i) := by
  refine ⟨_, pg_name hN hi hx hf, fun Z0 H0 Z H σ ρ ρ' v d Q S r e k => ?_⟩
  unfold bindT at e
  cases e
  exact k _ ⟨by simp, fun j hj => by rw [List.getElem?_set_ne (by simpa [Tg.slots] using (fun q => hj (by simp [Tg.slots, q] : j ∈ (Tg.nm i).slots) : ¬ i = j))]⟩ (S.set r i)
theorem dengs_nil : DenGs X G [] .nil := by
  refine ⟨_, pgs_nil, fun Z0 H0 Z H σ ρ ρ' vs ds Q S r e k => ?_⟩
  cases ds with
  | nil => cases r; unfold bindTs at e; cases e; exact ⟨rfl, k σ (.refl _ _) S⟩
  | cons _ _ => unfold bindTs at e; cases e
theorem dengs_cons {e : Expr} {es : List Expr} {t : Tg} {ts : Tgs} (h : DenG X G e t) (hr : DenGs X G es ts) (hs : (assignEach (e :: es) X.env).map (·.2) = assign e X.env :: (assignEach es X.env).map (·.2)) : DenGs X G (e :: es) (.cons t ts) := by
  obtain ⟨g, p, q⟩ := h.ex
  obtain ⟨gs, ps, qs⟩ := hr.ex
  refine ⟨_, pgs_cons p ps hs, fun Z0 H0 Z H σ ρ ρ' vs ds Q S r e k => ?_⟩
  cases ds with
  | nil => unfold bindTs at e; cases e
  | cons d ds =>
    cases r with
    | @cons v vs _ _ r1 r2 =>
      unfold bindTs at e
      cases e1 : bindT t d ρ with
      | ok ρ1 =>
        rw [e1] at e
        refine ⟨v, vs, rfl, q Z0 H0 Z H σ ρ ρ1 v d _ S r1 e1 fun σ1 o1 S1 => ?_⟩
        exact qs Z0 H0 Z H σ1 ρ1 ρ' vs ds Q S1 r2 e fun σ2 o2 S2 => k σ2 (o1.trans o2) S2
      | ex c => rw [e1] at e; cases e
      | no => rw [e1] at e; cases e
theorem deng_tp {es : List Expr} {k : Nat} {pos : Pos} {ts : Tgs} {n : Nat} (hc : X.calm = true) (h : DenGs X G es ts) (hl : ts.len = n) (hn : (assignEach es X.env).length = n) (hst : (assignEach es X.env).findIdx? (·.1) = none) : DenG X G (.Tuple es k pos) (.tp ts) := by
  obtain ⟨g, p, q⟩ := h.ex
  refine ⟨_, pg_tup (n := n) hc p hn hst, fun Z0 H0 Z H σ ρ ρ' v d Q S r e k => ?_⟩
  cases d with
  | tup ds =>
    cases r with
    | @tup a vs _ h1 h2 =>
      unfold bindT at e
      exact ⟨a, vs, rfl, SqT.of (S.sub _ _ h1), by rw [h2.length, bindTs_len e, hl], q Z0 H0 Z H σ ρ ρ' vs ds Q S h2 e k⟩
  | _ => unfold bindT at e; cases e
def tgO (t : Tg) (g : Env → R D) : Env → Out := fun ρ => ofR (g ρ) fun d => match bindT t d ρ with | .ok ρ' => .nx ρ' | _ => .no
theorem dens_tg {tg e : Expr} {pos : Pos} {g : Env → R D} {t : Tg} (he : Den X G .c e g) (hg : DenG X G tg t) (hs : swapsWithSole [tg] e pos.line X.env = pure false) (hw : swappedStores [tg] e X.env = pure none)
    (h1 : (assignEach [tg] X.env).map (·.2) = [assign tg X.env]) : DenS X G (.Assign [tg] e pos) (tgO t g) := by
  obtain ⟨te, p, q⟩ := he.ex
  obtain ⟨gt, pt, qt⟩ := hg.ex
  refine ⟨_, ps_asg p pt hs hw h1, fun Z0 H0 Z H σ ρ D S h => ?_⟩
  refine q Z0 H0 Z H σ ρ _ S ?_
  unfold tgO at h
  cases e : g ρ with
  | ex c => rw [e] at h; exact post_ex S h
  | no => rw [e] at h; exact h
  | ok d =>
    rw [e] at h
    intro v Z' H' g' f
    have h' : PostS X.K G (match bindT t d ρ with | .ok ρ' => .nx ρ' | _ => .no) Z0 H0 D := h
    cases e2 : bindT t d ρ with
    | ok ρ' => rw [e2] at h'; exact qt Z0 H0 Z' H' σ ρ ρ' v d _ (S.grow g') f e2 fun σ' _ S' => h' Z' H' σ' S'
    | ex c => rw [e2] at h'; exact h'.elim
    | no => rw [e2] at h'; exact h'.elim
/-- a new thing becomes a slot's own -/
def slOf : D → Option Sl | .lst ds => some (.ow ds) | .dK kvs => some (.oK kvs) | .dT kvs => some (.oT kvs) | _ => none
def ownO (i : Nat) (g : Env → R D) : Env → Out := fun ρ => ofR (g ρ) fun d => match slOf d with | some sl => .nx (ρ.set i sl) | none => .no
theorem top_own {K : PySem.W.Frag} {Z H : Hp} {a : Addr} {d : D} {sl : Sl} (h : TopAt K Z H a d) (hz : Z a = none) (e : slOf d = some sl) : OwnAt K Z H a sl := by
  cases h with
  | lst h1 h2 => cases e; exact .ow h1 hz h2
  | dK h1 h2 => cases e; exact .oK h1 hz h2
  | dT h1 h2 => cases e; exact .oT h1 hz h2
theorem dens_own {i : Nat} {x : Str} {e : Expr} {g : Env → R D} {pos pos' : Pos} (hN : X.N.Nodup) (hi : X.N[i]? = some x) (hx : Loc X.env.scope x) (he : Den X G .f e g) (hs : swapsWith e (some (.Name x pos')) pos.line X.env = pure false)
    (hf : X.fn x = true ∨ X.env.scope.names.lookup x = some .local) : DenS X G (.Assign [.Name x pos'] e pos) (ownO i g) := by
  obtain ⟨te, p, q⟩ := he.ex
  refine ⟨_, ps_set hN hi hx p hs hf, fun Z0 H0 Z H σ ρ D S h => ?_⟩
  refine q Z0 H0 Z H σ ρ _ S ?_
  unfold ownO at h
  cases e : g ρ with
  | ex c => rw [e] at h; exact post_ex S h
  | no => rw [e] at h; exact h
  | ok d =>
    rw [e] at h
    intro v Z' H' g' f
    obtain ⟨a, rfl, ta, hz, np⟩ := f
    have h' : PostS X.K G (match slOf d with | some sl => .nx (ρ.set i sl) | none => .no) Z0 H0 D := h
    cases e2 : slOf d with
    | none => rw [e2] at h'; exact h'.elim
    | some sl =>
      rw [e2] at h'
      exact h' Z' H' _ ((S.grow g').setOwn (top_own ta hz e2) (nprot_ext S.g.h np) i fun j sl' _ h1 h2 => S.apart np j sl' h1 h2)
theorem dens_set {i : Nat} {x : Str} {e : Expr} {g : Env → R D} {pos pos' : Pos} (hN : X.N.Nodup) (hi : X.N[i]? = some x) (hx : Loc X.env.scope x) (he : Den X G .c e g) (hs : swapsWith e (some (.Name x pos')) pos.line X.env = pure false)
    (hf : X.fn x = true ∨ X.env.scope.names.lookup x = some .local) : DenS X G (.Assign [.Name x pos'] e pos) (fun ρ => ofR (g ρ) fun d => .nx (ρ.set i (.im d))) := by
  obtain ⟨te, p, q⟩ := he.ex
  refine ⟨_, ps_set hN hi hx p hs hf, fun Z0 H0 Z H σ ρ D S h => ?_⟩
  refine q Z0 H0 Z H σ ρ _ S ?_
  cases e : g ρ with
  | ex c => rw [e] at h; exact post_ex S h
  | no => rw [e] at h; exact h
  | ok d => rw [e] at h; exact fun v Z' H' g' f => h Z' H' _ ((S.grow g').set f i)
/-! ### a, b = x, y; a, b, c = x, y, z -/
def Apart (σ : L2.St) (ρ : Env) (a : Addr) : Prop := ∀ (j : Nat) (sl : Sl), ρ[j]? = some sl → isOwn sl = true → σ[j]? ≠ some (some (.ref a))
theorem Apart.set {σ : L2.St} {ρ : Env} {a : Addr} (h : Apart σ ρ a) (i : Nat) (v : V) (d : D) : Apart (σ.set i (some v)) (ρ.set i (.im d)) a := fun j sl h1 h2 h3 => by
  by_cases hj : i = j
  · subst hj
    have hi : i < ρ.length := by have := (List.getElem?_eq_some_iff.mp h1).1; simpa using this
    rw [List.getElem?_set_self hi] at h1
    cases h1; cases h2
  · rw [List.getElem?_set_ne hj] at h1 h3
    exact h j sl h1 h2 h3
theorem Apart.own {σ : L2.St} {ρ : Env} {a b : Addr} (h : Apart σ ρ a) (hb : b ≠ a) (i : Nat) (sl : Sl) : Apart (σ.set i (some (.ref b))) (ρ.set i sl) a := fun j sl1 h1 h2 h3 => by
  by_cases hj : i = j
  · subst hj
    have hi : i < σ.length := by have := (List.getElem?_eq_some_iff.mp h3).1; simpa using this
    rw [List.getElem?_set_self hi] at h3
    cases h3; exact hb rfl
  · rw [List.getElem?_set_ne hj] at h1 h3
    exact h j sl1 h1 h2 h3
/-- what is stored: frozen data, or a thing of its own -/
def slM (m : Md) (d : D) : Option Sl := match m with | .c => some (.im d) | .f => slOf d | .t => none
/-- an item's state behind all items: new ahead of H -/
inductive Item (K : PySem.W.Frag) (H Z' H' : Hp) : Md → V → D → Sl → Prop
  | c {v : V} {d : D} : Rep K Z' v d → Item K H Z' H' .c v d (.im d)
  | f {a : Addr} {d : D} {sl : Sl} : OwnAt K Z' H' a sl → ¬ Prot H a → Item K H Z' H' .f (.ref a) d sl
theorem item_of {m : Md} {H Hb Z' H' : Hp} {v : V} {d : D} {sl : Sl} (h : Fin X.K Hb Z' H' m v d) (e : slM m d = some sl) (x : ExtN H Hb) : Item X.K H Z' H' m v d sl := by
  cases m with
  | c => cases e; exact .c h
  | t => cases e
  | f => obtain ⟨a, rfl, ta, hz, np⟩ := h; exact .f (top_own ta hz e) (nprot_ext x np)
theorem Item.grow {m : Md} {H Z1 H1 Z2 H2 : Hp} {v : V} {d : D} {sl : Sl} (h : Item X.K H Z1 H1 m v d sl) (g : Grow G.T Z1 H1 Z2 H2) : Item X.K H Z2 H2 m v d sl := by
  cases h with
  | c r => exact .c (Rep.le g.z.le _ _ r)
  | f o np => exact .f (o.grow g) np
theorem Sim.item {m : Md} {Z0 H0 H Z' H' : Hp} {σ : L2.St} {ρ : Env} {v : V} {d : D} {sl : Sl} (S : Sim X.K G.T Z0 H0 Z' H' σ ρ) (x : ExtN H0 H) (h : Item X.K H Z' H' m v d sl) (ap : ∀ a, v = .ref a → m = .f → Apart σ ρ a) (i : Nat) :
    Sim X.K G.T Z0 H0 Z' H' (σ.set i (some v)) (ρ.set i sl) := by
  cases h with
  | c r => exact S.set r i
  | f o np => exact S.setOwn o (nprot_ext x np) i fun j sl' _ h1 h2 => ap _ rfl rfl j sl' h1 h2
theorem Apart.item {m : Md} {H Z' H' : Hp} {σ : L2.St} {ρ : Env} {v : V} {d : D} {sl : Sl} {a : Addr} (hp : Apart σ ρ a) (h : Item X.K H Z' H' m v d sl) (hne : m = .f → v ≠ .ref a) (i : Nat) : Apart (σ.set i (some v)) (ρ.set i sl) a := by
  cases h with
  | c r => exact hp.set i v d
  | f o np => exact hp.own (fun e => hne rfl (by rw [e])) i sl
def parO2 (i j : Nat) (m1 m2 : Md) (ga gb : Env → R D) : Env → Out := fun ρ => ofR (ga ρ) fun a => ofR (gb ρ) fun b =>
  match slM m1 a, slM m2 b with | some s1, some s2 => .nx ((ρ.set i s1).set j s2) | _, _ => .no
theorem ans_bind {m : Md} {e : Expr} {g : Env → R D} {k : D → Out} {te : TE} {Z0 H0 Z H : Hp} {σ : L2.St} {ρ : Env} {D : Ends} {Q : VK} (q : ∀ Z0 H0 Z H σ ρ Q, Sim X.K G.T Z0 H0 Z H σ ρ → Ans X.K G m (g ρ) Z H Q → te σ H Q)
    (S : Sim X.K G.T Z0 H0 Z H σ ρ) (h : PostS X.K G (ofR (g ρ) k) Z0 H0 D) (f : ∀ d, g ρ = .ok d → PostS X.K G (k d) Z0 H0 D → ∀ v Z' H', Grow G.T Z H Z' H' → Fin X.K H Z' H' m v d → Q v H') : te σ H Q := by
  refine q Z0 H0 Z H σ ρ Q S ?_
  cases e : g ρ with
  | ex c => rw [e] at h; exact post_ex S h
  | no => rw [e] at h; exact h
  | ok d => rw [e] at h; exact f d e h
theorem prot_f {m : Md} {Hb Z1 H1 : Hp} {v : V} {d : D} (h : Fin X.K Hb Z1 H1 m v d) (hm : m = .f) : ∃ a, v = .ref a ∧ Prot H1 a := by
  subst hm
  obtain ⟨a, rfl, ta, _, _⟩ := h
  refine ⟨a, rfl, ?_⟩
  cases ta with
  | lst h1 h2 => exact pr_lst h1
  | dK h1 h2 => exact pr_dK h1
  | dT h1 h2 => exact pr_dT h1
theorem nprot_f {m : Md} {Hb Z1 H1 : Hp} {v : V} {d : D} (h : Fin X.K Hb Z1 H1 m v d) (hm : m = .f) : ∀ a, v = .ref a → ¬ Prot Hb a := by
  subst hm
  obtain ⟨a, rfl, ta, _, np⟩ := h
  intro b e; cases e; exact np
theorem dens_par2 {i j : Nat} {x y : Str} {a b : Expr} {m1 m2 : Md} {ga gb : Env → R D} {px py pt pos : Pos} {kt k2 pt2} (hc : X.calm = true) (hN : X.N.Nodup) (hi : X.N[i]? = some x) (hj : X.N[j]? = some y) (hij : i ≠ j)
    (hx : X.env.scope.names.lookup x = some .local) (hy : X.env.scope.names.lookup y = some .local) (ha : Den X G m1 a ga) (hb : Den X G m2 b gb)
    (hs1 : starEach [a, b] X.env = (false, eval a X.env) :: starEach [b] X.env) (hs2 : starEach [b] X.env = (false, eval b X.env) :: starEach [] X.env)
    (hw : swappedStores [.Tuple [.Name x px, .Name y py] kt pt] (.Tuple [a, b] k2 pt2) X.env = pure (some [x, y]))
    (hs : swapsWithSole [.Tuple [.Name x px, .Name y py] kt pt] (.Tuple [a, b] k2 pt2) pos.line X.env = pure false) :
    DenS X G (.Assign [.Tuple [.Name x px, .Name y py] kt pt] (.Tuple [a, b] k2 pt2) pos) (parO2 i j m1 m2 ga gb) := by
  obtain ⟨ta, pa, qa⟩ := ha.ex
  obtain ⟨tb, pb, qb⟩ := hb.ex
  refine ⟨_, ps_par hc hN hi hj hij hx hy (pa_cons pa (pa_cons pb pa_nil hs2) hs1) hw hs, fun Z0 H0 Z H σ ρ D S h => ?_⟩
  refine ans_bind (e := a) qa S h fun d1 _ h1 v1 Z1 H1 g1 f1 => ?_
  have S1 := S.grow g1
  refine ans_bind (e := b) qb S1 h1 fun d2 _ h2 v2 Z2 H2 g2 f2 => ?_
  have h2' : PostS X.K G (match slM m1 d1, slM m2 d2 with | some s1, some s2 => .nx ((ρ.set i s1).set j s2) | _, _ => .no) Z0 H0 D := h2
  refine ⟨v1, v2, rfl, ?_⟩
  split at h2'
  · rename_i s1 s2 e1 e2
    have i1 := (item_of f1 e1 (ExtN.refl H)).grow g2
    have i2 := item_of f2 e2 g1.h
    have S2 := S1.grow g2
    have ap1 : ∀ a, v1 = .ref a → m1 = .f → Apart σ ρ a := fun a e hm => S.apart (nprot_f f1 hm a e)
    have ap2 : ∀ a, v2 = .ref a → m2 = .f → Apart (σ.set i (some v1)) (ρ.set i s1) a := fun a e hm =>
      Apart.item (S1.apart (nprot_f f2 hm a e)) i1 (fun hm1 e1 => by
        obtain ⟨a', e3, pr⟩ := prot_f f1 hm1
        rw [e1] at e3; cases e3
        exact nprot_f f2 hm a e pr) i
    exact h2' Z2 H2 _ ((S2.item S.g.h i1 ap1 i).item S.g.h i2 ap2 j)
  · exact h2'.elim
def parO3 (i j l : Nat) (m1 m2 m3 : Md) (ga gb gc : Env → R D) : Env → Out := fun ρ => ofR (ga ρ) fun a => ofR (gb ρ) fun b => ofR (gc ρ) fun c =>
  match slM m1 a, slM m2 b, slM m3 c with | some s1, some s2, some s3 => .nx (((ρ.set i s1).set j s2).set l s3) | _, _, _ => .no
theorem dens_par3 {i j l : Nat} {x y z : Str} {a b c : Expr} {m1 m2 m3 : Md} {ga gb gc : Env → R D} {px py pz pt pos : Pos} {kt k2 pt2} (hc : X.calm = true) (hN : X.N.Nodup) (hi : X.N[i]? = some x) (hj : X.N[j]? = some y) (hl : X.N[l]? = some z) (hij : i ≠ j) (hil : i ≠ l) (hjl : j ≠ l)
    (hx : X.env.scope.names.lookup x = some .local) (hy : X.env.scope.names.lookup y = some .local) (hz : X.env.scope.names.lookup z = some .local) (ha : Den X G m1 a ga) (hb : Den X G m2 b gb) (hcc : Den X G m3 c gc)
    (hs1 : starEach [a, b, c] X.env = (false, eval a X.env) :: starEach [b, c] X.env) (hs2 : starEach [b, c] X.env = (false, eval b X.env) :: starEach [c] X.env) (hs3 : starEach [c] X.env = (false, eval c X.env) :: starEach [] X.env)
    (hw : swappedStores [.Tuple [.Name x px, .Name y py, .Name z pz] kt pt] (.Tuple [a, b, c] k2 pt2) X.env = pure (some [x, y, z]))
    (hs : swapsWithSole [.Tuple [.Name x px, .Name y py, .Name z pz] kt pt] (.Tuple [a, b, c] k2 pt2) pos.line X.env = pure false) :
    DenS X G (.Assign [.Tuple [.Name x px, .Name y py, .Name z pz] kt pt] (.Tuple [a, b, c] k2 pt2) pos) (parO3 i j l m1 m2 m3 ga gb gc) := by
  obtain ⟨ta, pa, qa⟩ := ha.ex
  obtain ⟨tb, pb, qb⟩ := hb.ex
  obtain ⟨tc, pc, qc⟩ := hcc.ex
  refine ⟨_, ps_par3 hc hN hi hj hl hij hil hjl hx hy hz (pa_cons pa (pa_cons pb (pa_cons pc pa_nil hs3) hs2) hs1) hw hs, fun Z0 H0 Z H σ ρ D S h => ?_⟩
  refine ans_bind (e := a) qa S h fun d1 _ h1 v1 Z1 H1 g1 f1 => ?_
  have S1 := S.grow g1
  refine ans_bind (e := b) qb S1 h1 fun d2 _ h2 v2 Z2 H2 g2 f2 => ?_
  have S2 := S1.grow g2
  refine ans_bind (e := c) qc S2 h2 fun d3 _ h3 v3 Z3 H3 g3 f3 => ?_
  have h3' : PostS X.K G (match slM m1 d1, slM m2 d2, slM m3 d3 with | some s1, some s2, some s3 => .nx (((ρ.set i s1).set j s2).set l s3) | _, _, _ => .no) Z0 H0 D := h3
  refine ⟨v1, v2, v3, rfl, ?_⟩
  split at h3'
  · rename_i s1 s2 s3 e1 e2 e3
    have i1 := (item_of f1 e1 (ExtN.refl H)).grow (g2.trans g3)
    have i2 := (item_of f2 e2 g1.h).grow g3
    have i3 := item_of f3 e3 (g1.h.trans g2.h)
    have S3 := S2.grow g3
    have ap1 : ∀ a, v1 = .ref a → m1 = .f → Apart σ ρ a := fun a e hm => S.apart (nprot_f f1 hm a e)
    have ap2 : ∀ a, v2 = .ref a → m2 = .f → Apart (σ.set i (some v1)) (ρ.set i s1) a := fun a e hm =>
      Apart.item (S1.apart (nprot_f f2 hm a e)) i1 (fun hm1 e1 => by
        obtain ⟨a', e3, pr⟩ := prot_f f1 hm1
        rw [e1] at e3; cases e3
        exact nprot_f f2 hm a e pr) i
    have ap3 : ∀ a, v3 = .ref a → m3 = .f → Apart ((σ.set i (some v1)).set j (some v2)) ((ρ.set i s1).set j s2) a := fun a e hm =>
      Apart.item (Apart.item (S2.apart (nprot_f f3 hm a e)) i1 (fun hm1 e1 => by
        obtain ⟨a', e3, pr⟩ := prot_f f1 hm1
        rw [e1] at e3; cases e3
        exact nprot_f f3 hm a e (pr.ext g2.h)) i) i2 (fun hm2 e2 => by
        obtain ⟨a', e3, pr⟩ := prot_f f2 hm2
        rw [e2] at e3; cases e3
        exact nprot_f f3 hm a e pr) j
    exact h3' Z3 H3 _ (((S3.item S.g.h i1 ap1 i).item S.g.h i2 ap2 j).item S.g.h i3 ap3 l)
  · exact h3'.elim
end
end VS

set_option Elab.async false
set_option linter.all false
set_option maxRecDepth 100000
set_option maxHeartbeats 2000000
/-! VS8: what is walked, for, while, comprehensions, calls of defs. -/
namespace VS
open PySem L2 LamX

/-- the items ds are given, one a turn, while Z1 is frozen -/
def WalkD (K : PySem.W.Frag) (T : List (Addr × Str)) (J : It) (Z1 : Hp) (ds : List D) : Prop :=
  ∃ (Gp : Hp → Prop) (Y : Nat → Hp → V → Hp → Prop), Walk J ds.length Gp Y ∧ (∀ H', Sub Z1 H' → Gp H') ∧
    ∀ i Z' H' x H'', i < ds.length → Sub Z1 Z' → Sub Z' H' → (∀ a o, Z' a = some o → NoTb o) → Y i H' x H'' → ∃ Z'' d, Grow T Z' H' Z'' H'' ∧ ds[i]? = some d ∧ Rep K Z'' x d
structure DenI (X : Cx) (G : Wh) (tg iter : Expr) (g : Env → R (List D)) : Prop where
  ex : ∃ wi, PI X tg iter wi ∧ ∀ Z0 H0 Z H σ ρ Rk, Sim X.K G.T Z0 H0 Z H σ ρ → (match g ρ with
    | .ok ds => ∀ J Z1 H1, Grow G.T Z H Z1 H1 → WalkD X.K G.T J Z1 ds → Rk J H1
    | .ex c => ∀ Z' H', Grow G.T Z H Z' H' → G.E (.ref (G.cl c)) none H'
    | .no => False) → wi σ H Rk

section
variable {X : Cx} {G : Wh}
def gSeq (f : D → R (List D)) (g : Env → R D) : Env → R (List D) := fun ρ => do let d ← g ρ; f d
def itL : D → R (List D) | .lst ds => .ok ds | _ => .no
def itT : D → R (List D) | .tup ds => .ok ds | _ => .no
def itS : D → R (List D) | .str z => .ok (z.cps.toList.map fun c => .str ⟨#[c]⟩) | _ => .no
theorem seq_i {e : Expr} {g : Env → R D} {f : D → R (List D)} {te : TE} {Z0 H0 Z H : Hp} {σ : L2.St} {ρ : Env} {Rk : It → Hp → Prop} {Q : VK} {m : Md} (q : ∀ Z0 H0 Z H σ ρ Q, Sim X.K G.T Z0 H0 Z H σ ρ → Ans X.K G m (g ρ) Z H Q → te σ H Q)
    (S : Sim X.K G.T Z0 H0 Z H σ ρ) (h : match gSeq f g ρ with
    | .ok ds => ∀ J Z1 H1, Grow G.T Z H Z1 H1 → WalkD X.K G.T J Z1 ds → Rk J H1
    | .ex c => ∀ Z' H', Grow G.T Z H Z' H' → G.E (.ref (G.cl c)) none H'
    | .no => False) (k : ∀ d ds, f d = .ok ds → ∀ v Z' H', Grow G.T Z H Z' H' → Fin X.K H Z' H' m v d → (∀ J Z1 H1, Grow G.T Z' H' Z1 H1 → WalkD X.K G.T J Z1 ds → Rk J H1) → Q v H') (hf : ∀ d c, f d ≠ .ex c) : te σ H Q := by
  refine q Z0 H0 Z H σ ρ Q S ?_
  unfold gSeq at h
  cases e : g ρ with
  | ex c => rw [e] at h; exact h
  | no => rw [e] at h; exact h
  | ok d =>
    rw [e] at h
    rw [R.ok_bind] at h
    intro v Z' H' g' f'
    cases e2 : f d with
    | ok ds => rw [e2] at h; exact k d ds e2 v Z' H' g' f' fun J Z1 H1 g1 w => h J Z1 H1 (g'.trans g1) w
    | ex c => exact absurd e2 (hf d c)
    | no => rw [e2] at h; exact h.elim
theorem deni_list {tg e : Expr} {g : Env → R D} (he : Den X G .c e g) : DenI X G tg e (gSeq itL g) := by
  obtain ⟨t, p, q⟩ := he.ex
  refine ⟨_, pi_list p, fun Z0 H0 Z H σ ρ Rk S h => ?_⟩
  refine seq_i (e := e) q S h (fun d ds e v Z' H' g' f k => ?_) (fun d c => by unfold itL; split <;> (intro z; cases z))
  unfold itL at e
  split at e
  · cases e
    cases f with
    | @lst a vs _ h1 h2 =>
      refine ⟨a, rfl, ⟨vs, SqL.of (g'.s _ _ h1)⟩, k _ Z' H' (.refl g'.s g'.n) ⟨fun H => SqL X.K H a vs, _, by rw [← h2.length]; exact walk_list, fun H' s => SqL.of (s _ _ h1), fun i Z2 H2 x H3 hi s1 s2 n y => ?_⟩⟩
      obtain ⟨rfl, y⟩ := y
      obtain ⟨d, e1, e2⟩ := h2.getV y
      exact ⟨Z2, d, .refl s2 n, e1, Rep.le s1.le _ _ e2⟩
  · cases e
theorem deni_tup {tg e : Expr} {g : Env → R D} (he : Den X G .c e g) : DenI X G tg e (gSeq itT g) := by
  obtain ⟨t, p, q⟩ := he.ex
  refine ⟨_, pi_tup p, fun Z0 H0 Z H σ ρ Rk S h => ?_⟩
  refine seq_i (e := e) q S h (fun d ds e v Z' H' g' f k => ?_) (fun d c => by unfold itT; split <;> (intro z; cases z))
  unfold itT at e
  split at e
  · cases e
    cases f with
    | @tup a vs _ h1 h2 =>
      refine ⟨a, rfl, ⟨vs, SqT.of (g'.s _ _ h1)⟩, k _ Z' H' (.refl g'.s g'.n) ⟨fun H => SqT X.K H a vs, _, by rw [← h2.length]; exact walk_tup, fun H' s => SqT.of (s _ _ h1), fun i Z2 H2 x H3 hi s1 s2 n y => ?_⟩⟩
      obtain ⟨rfl, y⟩ := y
      obtain ⟨d, e1, e2⟩ := h2.getV y
      exact ⟨Z2, d, .refl s2 n, e1, Rep.le s1.le _ _ e2⟩
  · cases e
theorem deni_str {tg e : Expr} {g : Env → R D} (he : Den X G .c e g) : DenI X G tg e (gSeq itS g) := by
  obtain ⟨t, p, q⟩ := he.ex
  refine ⟨_, pi_str p, fun Z0 H0 Z H σ ρ Rk S h => ?_⟩
  refine seq_i (e := e) q S h (fun d ds e v Z' H' g' f k => ?_) (fun d c => by unfold itS; split <;> (intro z; cases z))
  unfold itS at e
  split at e
  · rename_i z
    cases e
    cases f with
    | str z =>
      refine ⟨z, rfl, k _ Z' H' (.refl g'.s g'.n) ⟨fun _ => True, _, by rw [List.length_map, Array.length_toList]; exact walk_str, fun _ _ => trivial, fun i Z2 H2 x H3 hi s1 s2 n y => ?_⟩⟩
      obtain ⟨rfl, c, y1, rfl⟩ := y
      refine ⟨Z2, .str ⟨#[c]⟩, .refl s2 n, ?_, .str _⟩
      rw [List.getElem?_map, Array.getElem?_toList, y1]; rfl
  · cases e
/-- the first n whole numbers from lo -/
def upto (lo : Int) (n : Nat) : List D := (List.range n).map fun (i : Nat) => .int (lo + i)
theorem upto_walk {K : PySem.W.Frag} {T : List (Addr × Str)} {Z : Hp} (lo : Int) (n : Nat) : WalkD K T (Itr lo n) Z (upto lo n) := by
  have hl : (upto lo n).length = n := by simp [upto]
  refine ⟨fun _ => True, _, by rw [hl]; exact walk_range, fun _ _ => trivial, fun i Z2 H2 x H3 hi s1 s2 nt y => ?_⟩
  obtain ⟨rfl, rfl⟩ := y
  rw [hl] at hi
  exact ⟨Z2, .int (lo + i), .refl s2 nt, by simp [upto, hi], .int _⟩
def rng1 : List D → R (List D) | [.int j] => if -(2 ^ 62) ≤ j ∧ j < 2 ^ 62 then .ok (upto 0 j.toNat) else .no | _ => .no
def rng2 : List D → R (List D) | [.int i, .int j] => if -(2 ^ 62) ≤ i ∧ i < 2 ^ 62 ∧ -(2 ^ 62) ≤ j ∧ j < 2 ^ 62 then .ok (upto i (j - i).toNat) else .no | _ => .no
def gSeqA (f : List D → R (List D)) (g : Env → R (List D)) : Env → R (List D) := fun ρ => do let d ← g ρ; f d
theorem seq_a {es : List Expr} {g : Env → R (List D)} {f : List D → R (List D)} {te : TA} {Z0 H0 Z H : Hp} {σ : L2.St} {ρ : Env} {Rk : It → Hp → Prop} {Q : List V → Hp → Prop} {m : Md} (q : ∀ Z0 H0 Z H σ ρ Q, Sim X.K G.T Z0 H0 Z H σ ρ → AnsA X.K G m (g ρ) Z H Q → te σ H Q)
    (S : Sim X.K G.T Z0 H0 Z H σ ρ) (h : match gSeqA f g ρ with
    | .ok ds => ∀ J Z1 H1, Grow G.T Z H Z1 H1 → WalkD X.K G.T J Z1 ds → Rk J H1
    | .ex c => ∀ Z' H', Grow G.T Z H Z' H' → G.E (.ref (G.cl c)) none H'
    | .no => False) (k : ∀ d ds, f d = .ok ds → ∀ v Z' H', Grow G.T Z H Z' H' → Fins X.K m Z' H' v d → (∀ J Z1 H1, Grow G.T Z' H' Z1 H1 → WalkD X.K G.T J Z1 ds → Rk J H1) → Q v H') (hf : ∀ d c, f d ≠ .ex c) : te σ H Q := by
  refine q Z0 H0 Z H σ ρ Q S ?_
  unfold gSeqA at h
  cases e : g ρ with
  | ex c => rw [e] at h; exact h
  | no => rw [e] at h; exact h
  | ok d =>
    rw [e] at h
    rw [R.ok_bind] at h
    intro v Z' H' g' f'
    cases e2 : f d with
    | ok ds => rw [e2] at h; exact k d ds e2 v Z' H' g' f' fun J Z1 H1 g1 w => h J Z1 H1 (g'.trans g1) w
    | ex c => exact absurd e2 (hf d c)
    | no => rw [e2] at h; exact h.elim
theorem deni_range1 {tg a : Expr} {p pos : Pos} {g : Env → R (List D)} {m : Md} (hg : Gl X "range") (hm : X.mg "range" = none) (ha : DenA X G m [a] g) (hs : starEach [a] X.env = [(false, eval a X.env)]) :
    DenI X G tg (.Call (.Name "range" p) [a] [] pos) (gSeqA rng1 g) := by
  obtain ⟨t, pt, q⟩ := ha.ex
  refine ⟨_, pi_range1 hg hm pt hs, fun Z0 H0 Z H σ ρ Rk S h => ?_⟩
  refine seq_a (es := [a]) q S h (fun d ds e v Z' H' g' f k => ?_) (fun d c => by unfold rng1; split <;> (try split) <;> (intro z; cases z))
  unfold rng1 at e
  split at e
  · split at e
    · rename_i hc
      cases e
      obtain ⟨x, rfl, fx⟩ := fins1 f
      exact ⟨_, by rw [now_int (fx.now (Hx := H'))], hc.1, hc.2, k _ Z' H' (.refl g'.s g'.n) (upto_walk _ _)⟩
    · cases e
  · cases e
theorem deni_range2 {tg a b : Expr} {p pos : Pos} {g : Env → R (List D)} {m : Md} (hg : Gl X "range") (hm : X.mg "range" = none) (ha : DenA X G m [a, b] g) (hs : starEach [a, b] X.env = [(false, eval a X.env), (false, eval b X.env)]) (hs2 : starEach [b] X.env = [(false, eval b X.env)]) :
    DenI X G tg (.Call (.Name "range" p) [a, b] [] pos) (gSeqA rng2 g) := by
  obtain ⟨t, pt, q⟩ := ha.ex
  refine ⟨_, pi_range2 hg hm pt hs hs2, fun Z0 H0 Z H σ ρ Rk S h => ?_⟩
  refine seq_a (es := [a, b]) q S h (fun d ds e v Z' H' g' f k => ?_) (fun d c => by unfold rng2; split <;> (try split) <;> (intro z; cases z))
  unfold rng2 at e
  split at e
  · split at e
    · rename_i hc
      cases e
      obtain ⟨x, y, rfl, fx, fy⟩ := fins2 f
      exact ⟨_, _, by rw [now_int (fx.now (Hx := H')), now_int (fy.now (Hx := H'))], ⟨hc.1, hc.2.1, hc.2.2.1, hc.2.2.2⟩, k _ Z' H' (.refl g'.s g'.n) (upto_walk _ _)⟩
    · cases e
  · cases e
/-- pairs of place and item; of two lists' items -/
def enumI : Int → List D → List D
  | _, [] => []
  | n, d :: ds => .tup [.int n, d] :: enumI (n + 1) ds
theorem enumI_len : ∀ (n : Int) (ds : List D), (enumI n ds).length = ds.length
  | _, [] => rfl
  | n, d :: ds => by simp [enumI, enumI_len (n + 1) ds]
theorem enumI_get : ∀ {ds : List D} {n : Int} {i : Nat} {d : D}, ds[i]? = some d → (enumI n ds)[i]? = some (.tup [.int (n + i), d])
  | [], _, _, _, h => by simp at h
  | d :: ds, n, 0, _, h => by simp at h; subst h; simp [enumI]
  | d :: ds, n, i + 1, e, h => by
    have := enumI_get (ds := ds) (n := n + 1) (i := i) (d := e) (by simpa using h)
    rw [enumI, List.getElem?_cons_succ, this]
    have e1 : n + 1 + (i : Int) = n + ((i + 1 : Nat) : Int) := by omega
    rw [e1]
def enumL (ds : List D) : List D := enumI 0 ds
theorem enumL_len (ds : List D) : (enumL ds).length = ds.length := enumI_len 0 ds
theorem enumL_get {ds : List D} {i : Nat} {d : D} (h : ds[i]? = some d) : (enumL ds)[i]? = some (.tup [.int i, d]) := by
  have := enumI_get (n := 0) h
  rwa [Int.zero_add] at this
def enm : List D → R (List D) | [.lst ds] => .ok (enumL ds) | _ => .no
theorem pair_new {K : PySem.W.Frag} {T : List (Addr × Str)} {Z2 H2 : Hp} {t : Addr} {x y : V} {d e : D} (s : Sub Z2 H2) (n : ∀ a o, Z2 a = some o → NoTb o) (ht : H2 t = none) (r1 : Rep K Z2 x d) (r2 : Rep K Z2 y e) :
    ∃ Z'', Grow T Z2 H2 Z'' (upd H2 t (.tup [x, y])) ∧ Rep K Z'' (.ref t) (.tup [d, e]) :=
  ⟨upd Z2 t (.tup [x, y]), grow_newz s n ht (nt_tup _), rep_newT s ht (.cons r1 (.cons r2 .nil))⟩
theorem deni_enum {e : Expr} {p pos tpos : Pos} {elts : List Expr} {kk : Nat} {g : Env → R (List D)} (hg : Gl X "enumerate") (hm : X.mg "enumerate" = none) (ha : DenA X G .c [e] g) (hs : starEach [e] X.env = [(false, eval e X.env)]) :
    DenI X G (.Tuple elts kk tpos) (.Call (.Name "enumerate" p) [e] [] pos) (gSeqA enm g) := by
  obtain ⟨t, pt, q⟩ := ha.ex
  refine ⟨_, pi_enum hg hm pt hs, fun Z0 H0 Z H σ ρ Rk S h => ?_⟩
  refine seq_a (es := [e]) q S h (fun d ds e v Z' H' g' f k => ?_) (fun d c => by unfold enm; split <;> (intro z; cases z))
  unfold enm at e
  split at e
  · rename_i es
    cases e
    obtain ⟨x, rfl, fx⟩ := fins1 f
    cases fx with
    | @lst a vs _ h1 h2 =>
      have hl := enumL_len es
      refine ⟨a, vs, rfl, SqL.of (g'.s _ _ h1), k _ Z' H' (.refl g'.s g'.n) ⟨fun H => SqL X.K H a vs, _, by rw [hl, ← h2.length]; exact walk_enum, fun H' s => SqL.of (s _ _ h1), fun i Z2 H2 x H3 hi s1 s2 n y => ?_⟩⟩
      obtain ⟨t, x1, y1, rfl, ht, rfl, e1, e2⟩ := y
      cases e1
      obtain ⟨d, e3, e4⟩ := h2.getV e2
      obtain ⟨Z'', g2, r2⟩ := pair_new (T := G.T) s2 n ht (.int (i : Int)) (Rep.le s1.le _ _ e4)
      exact ⟨Z'', _, g2, enumL_get e3, r2⟩
  · cases e
def zipD (ds es : List D) : List D := (ds.zip es).map fun p => .tup [p.1, p.2]
def zp : List D → R (List D) | [.lst ds, .lst es] => .ok (zipD ds es) | _ => .no
theorem deni_zip {e e2 : Expr} {p pos tpos : Pos} {elts : List Expr} {kk : Nat} {g : Env → R (List D)} (hg : Gl X "zip") (hm : X.mg "zip" = none) (ha : DenA X G .c [e, e2] g)
    (pz : ∀ t, PA X [e, e2] t → PI X (.Tuple elts kk tpos) (.Call (.Name "zip" p) [e, e2] [] pos) (iZip X.K t)) :
    DenI X G (.Tuple elts kk tpos) (.Call (.Name "zip" p) [e, e2] [] pos) (gSeqA zp g) := by
  obtain ⟨t, pt, q⟩ := ha.ex
  refine ⟨_, pz t pt, fun Z0 H0 Z H σ ρ Rk S h => ?_⟩
  refine seq_a (es := [e, e2]) q S h (fun d ds e v Z' H' g' f k => ?_) (fun d c => by unfold zp; split <;> (intro z; cases z))
  unfold zp at e
  split at e
  · rename_i es fs
    cases e
    obtain ⟨x, y, rfl, fx, fy⟩ := fins2 f
    cases fx with
    | @lst a vs _ h1 h2 =>
      cases fy with
      | @lst b us _ h3 h4 =>
        have hl : (zipD es fs).length = min vs.length us.length := by unfold zipD; rw [List.length_map, List.length_zip, h2.length, h4.length]
        refine ⟨a, b, vs, us, rfl, SqL.of (g'.s _ _ h1), SqL.of (g'.s _ _ h3), k _ Z' H' (.refl g'.s g'.n) ⟨fun H => SqL X.K H a vs ∧ SqL X.K H b us, _, walk_zip hl, fun H' s => ⟨SqL.of (s _ _ h1), SqL.of (s _ _ h3)⟩, fun i Z2 H2 x H3 hi s1 s2 n y => ?_⟩⟩
        obtain ⟨t, x1, y1, rfl, ht, rfl, e1, e2⟩ := y
        obtain ⟨d1, e3, e4⟩ := h2.getV e1
        obtain ⟨d2, e5, e6⟩ := h4.getV e2
        obtain ⟨Z'', g2, r2⟩ := pair_new (T := G.T) s2 n ht (Rep.le s1.le _ _ e4) (Rep.le s1.le _ _ e6)
        refine ⟨Z'', _, g2, ?_, r2⟩
        unfold zipD
        rw [List.getElem?_map, List.getElem?_zip_eq_some (z := (d1, d2)) |>.mpr ⟨e3, e5⟩]; rfl
  · cases e

/-! ### for -/
def runFor (b : D → Env → R Env) (f : Env → Out) : List D → Env → Out
  | [], ρ => .nx ρ
  | d :: ds, ρ => match b d ρ with
    | .ok ρ1 => (match f ρ1 with
      | .nx ρ2 => runFor b f ds ρ2 | .ct ρ2 => runFor b f ds ρ2 | .bk ρ2 => .nx ρ2 | .rt d => .rt d | .ex c => .ex c | .no => .no)
    | _ => .no
def forO (t : Tg) (gi : Env → R (List D)) (f : Env → Out) : Env → Out := fun ρ => match gi ρ with
  | .ok ds => runFor (bindT t) f ds ρ | .ex c => .ex c | .no => .no
theorem for_run {J : It} {ds : List D} {t : Tg} {f : Env → Out} {gt : TG} {tb : TS} {Z0 H0 Z1 H1 : Hp} {σ : L2.St} {ρ : Env} {D : Ends} (w : WalkD X.K G.T J Z1 ds)
    (qt : ∀ Z0 H0 Z H σ ρ ρ' v d Q, Sim X.K G.T Z0 H0 Z H σ ρ → Rep X.K Z v d → bindT t d ρ = .ok ρ' → (∀ σ', OnlyAt t.slots σ σ' → Sim X.K G.T Z0 H0 Z H σ' ρ' → Q σ' H) → gt v σ H Q)
    (qb : ∀ Z0 H0 Z H σ ρ D, Sim X.K G.T Z0 H0 Z H σ ρ → PostS X.K G (f ρ) Z0 H0 D → tb D σ H)
    (S : Sim X.K G.T Z0 H0 Z1 H1 σ ρ) (h : PostS X.K G (runFor (bindT t) f ds ρ) Z0 H0 D) :
    ∃ W : Nat → Nat → L2.St → Hp → Prop, (∃ m, W 0 m σ H1) ∧ ∀ i m σ H, W i m σ H →
      (J.stop i H ∧ D.nx σ H) ∨ (J.go i H ∧ ∃ N : L2.St → Hp → Prop, (∀ σ' H', N σ' H' → ∃ m', m' < m ∧ W (i + 1) m' σ' H') ∧ ∀ x H', J.yld i H x H' → gt x σ H' fun σ2 H2 => tb { D with nx := N, ct := N, bk := D.nx } σ2 H2) := by
  obtain ⟨Gp, Y, w, wG, wY⟩ := w
  refine for_it w (fun i σ H => ∃ Z ρ, Sim X.K G.T Z1 H0 Z H σ ρ ∧ PostS X.K G (runFor (bindT t) f (ds.drop i) ρ) Z0 H0 D) ⟨Z1, ρ, S.base, by rw [List.drop_zero]; exact h⟩
    (fun i σ H hi ⟨Z, ρ, S', _⟩ => wG H (S'.g.z.trans S'.sub)) (fun i x σ H H' hi ⟨Z, ρ, S', p⟩ y => ?_) (fun σ H ⟨Z, ρ, S', p⟩ => ?_)
  · obtain ⟨Z2, d, g2, hd, r⟩ := wY i Z H x H' hi S'.g.z S'.sub S'.nt y
    have hdrop : ds.drop i = d :: ds.drop (i + 1) := by
      obtain ⟨h1, h2⟩ := List.getElem?_eq_some_iff.mp hd
      rw [List.drop_eq_getElem_cons h1, h2]
    rw [hdrop] at p
    have S2 := S'.grow g2
    have p' : PostS X.K G (match bindT t d ρ with
      | .ok ρ1 => (match f ρ1 with
        | .nx ρ2 => runFor (bindT t) f (ds.drop (i + 1)) ρ2 | .ct ρ2 => runFor (bindT t) f (ds.drop (i + 1)) ρ2 | .bk ρ2 => .nx ρ2 | .rt d => .rt d | .ex c => .ex c | .no => .no)
      | _ => .no) Z0 H0 D := p
    cases e : bindT t d ρ with
    | ex c => rw [e] at p'; exact p'.elim
    | no => rw [e] at p'; exact p'.elim
    | ok ρ1 =>
      rw [e] at p'
      dsimp only at p'
      refine qt Z1 H0 Z2 H' σ ρ ρ1 x d _ S2 r e fun σ1 _ S3 => ?_
      refine qb Z1 H0 Z2 H' σ1 ρ1 _ S3 ?_
      cases e2 : f ρ1 with
      | nx ρ2 => rw [e2] at p'; exact fun Z' H' σ' S4 => ⟨Z', ρ2, S4, p'⟩
      | ct ρ2 => rw [e2] at p'; exact fun Z' H' σ' S4 => ⟨Z', ρ2, S4, p'⟩
      | bk ρ2 => rw [e2] at p'; exact fun Z' H' σ' S4 => p' Z' H' σ' (Sim.back S.g S4)
      | rt d => rw [e2] at p'; exact fun v Z' H' g t r => p' v Z' H' (S.g.back g) t r
      | ex c => rw [e2] at p'; exact fun Z' H' g t => p' Z' H' (S.g.back g) t
      | no => rw [e2] at p'; exact p'.elim
  · rw [List.drop_length] at p
    exact p Z H σ (Sim.back S.g S')
theorem dens_for {tg iter : Expr} {body : List Stmt} {pos : Pos} {t : Tg} {gi : Env → R (List D)} {f : Env → Out} (hp : PassesOwn (model X.prog X.w) X.A X.env X.xe) (hc : X.calm = true) (hi : DenI X G tg iter gi) (hg : DenG X G tg t) (hb : DenB X G body f)
    (hs : ∀ x, foldedSetIterable iter X.env x = pure x) : DenS X G (.For tg iter body [] pos) (forO t gi f) := by
  obtain ⟨wi, pi, qi⟩ := hi.ex
  obtain ⟨gt, pt, qt⟩ := hg.ex
  obtain ⟨tb, pb, qb⟩ := hb.ex
  refine ⟨_, ps_for hp hc pi pt pb hs, fun Z0 H0 Z H σ ρ D S h => ?_⟩
  refine qi Z0 H0 Z H σ ρ _ S ?_
  unfold forO at h
  cases e : gi ρ with
  | ex c => rw [e] at h; exact post_ex S h
  | no => rw [e] at h; exact h
  | ok ds =>
    rw [e] at h
    exact fun J Z1 H1 g1 w => for_run w qt qb (S.grow g1) h

/-! ### while -/
def runWhile (c : Env → R Bool) (f : Env → Out) : Nat → Env → Out
  | 0, _ => .no
  | n + 1, ρ => match c ρ with
    | .ok true => (match f ρ with
      | .nx ρ2 => runWhile c f n ρ2 | .ct ρ2 => runWhile c f n ρ2 | .bk ρ2 => .nx ρ2 | .rt d => .rt d | .ex c => .ex c | .no => .no)
    | .ok false => .nx ρ
    | .ex c => .ex c | .no => .no
theorem dens_while {c : Expr} {body : List Stmt} {pos : Pos} {gc : Env → R Bool} {f : Env → Out} {n : Nat} (hp : PassesOwn (model X.prog X.w) X.A X.env X.xe) (hc : DenT X G c gc) (hb : DenB X G body f) : DenS X G (.While c body [] pos) (runWhile gc f n) := by
  obtain ⟨tc, pc, qc⟩ := hc.ex
  obtain ⟨tb, pb, qb⟩ := hb.ex
  refine ⟨_, ps_while hp pc pb, fun Z0 H0 Z H σ ρ D S h => ?_⟩
  refine ⟨fun m σ H => ∃ Z ρ, Sim X.K G.T Z0 H0 Z H σ ρ ∧ PostS X.K G (runWhile gc f m ρ) Z0 H0 D, ⟨n, Z, ρ, S, h⟩, ?_⟩
  rintro m σ H ⟨Z, ρ, S, h⟩
  cases m with
  | zero => exact h.elim
  | succ m =>
    refine qc Z0 H0 Z H σ ρ _ S ?_
    unfold runWhile at h
    cases e : gc ρ with
    | ex c => rw [e] at h; exact post_ex S h
    | no => rw [e] at h; exact h
    | ok b =>
      rw [e] at h
      intro Z1 H1 g1
      cases b with
      | false => exact h Z1 H1 σ (S.grow g1)
      | true =>
        rw [if_pos rfl]
        refine ⟨fun σ' H' => ∃ Z ρ, Sim X.K G.T Z0 H0 Z H' σ' ρ ∧ PostS X.K G (runWhile gc f m ρ) Z0 H0 D, fun σ' H' w => ⟨m, Nat.lt_succ_self m, w⟩, ?_⟩
        refine qb Z0 H0 Z1 H1 σ ρ _ (S.grow g1) ?_
        dsimp only at h
        cases e2 : f ρ with
        | nx ρ2 => rw [e2] at h; exact fun Z' H' σ' S4 => ⟨Z', ρ2, S4, h⟩
        | ct ρ2 => rw [e2] at h; exact fun Z' H' σ' S4 => ⟨Z', ρ2, S4, h⟩
        | bk ρ2 => rw [e2] at h; exact h
        | rt d => rw [e2] at h; exact h
        | ex c => rw [e2] at h; exact h
        | no => rw [e2] at h; exact h
end
end VS

set_option Elab.async false
set_option linter.all false
set_option maxRecDepth 100000
set_option maxHeartbeats 2000000
/-! VS9: comprehensions; calls of defs; a def's promise. -/
namespace VS
open PySem L2 LamX PySem.Spec PyProof.Rows

/-! ### one reading for all contexts -/
def tDen (K : PySem.W.Frag) (G : Wh) (m : Md) (g : Env → R D) : TE := fun σ H Q => ∃ Z0 H0 Z ρ, Sim K G.T Z0 H0 Z H σ ρ ∧ Ans K G m (g ρ) Z H Q
def tDenT (K : PySem.W.Frag) (G : Wh) (g : Env → R Bool) : TT := fun σ H Q => ∃ Z0 H0 Z ρ, Sim K G.T Z0 H0 Z H σ ρ ∧ AnsB G (g ρ) Z H Q
def gDen (K : PySem.W.Frag) (G : Wh) (t : Tg) : TG := fun v σ H Q => ∃ Z0 H0 Z ρ ρ' d, Sim K G.T Z0 H0 Z H σ ρ ∧ Rep K Z v d ∧ bindT t d ρ = .ok ρ' ∧ (∀ σ', OnlyAt t.slots σ σ' → Sim K G.T Z0 H0 Z H σ' ρ' → Q σ' H)
section
variable {X : Cx} {G : Wh}
theorem Den.can {m : Md} {e : Expr} {g : Env → R D} (h : Den X G m e g) : PE X e (tDen X.K G m g) := by
  obtain ⟨t, p, q⟩ := h.ex
  exact ⟨fun pins s σ H Q I ⟨Z0, H0, Z, ρ, S, a⟩ => p.run pins s σ H Q I (q Z0 H0 Z H σ ρ Q S a)⟩
theorem DenT.can {e : Expr} {g : Env → R Bool} (h : DenT X G e g) : PT X e (tDenT X.K G g) := by
  obtain ⟨t, p, q⟩ := h.ex
  exact ⟨fun pins s σ H Q I ⟨Z0, H0, Z, ρ, S, a⟩ => p.run pins s σ H Q I (q Z0 H0 Z H σ ρ Q S a)⟩
theorem DenG.can {tg : Expr} {t : Tg} (h : DenG X G tg t) : PG X tg (gDen X.K G t) := by
  obtain ⟨g, p, q⟩ := h.ex
  refine ⟨fun pins s σ H v u Q I r ⟨Z0, H0, Z, ρ, ρ', d, S, rr, e, k⟩ => p.run pins s σ H v u Q I r (q Z0 H0 Z H σ ρ ρ' v d Q S rr e k)⟩
structure DenTs (X : Cx) (G : Wh) (ifs : List Expr) (g : Env → R Bool) : Prop where
  can : PTs X ifs (tDenT X.K G g)
theorem dents_nil : DenTs X G [] (fun _ => .ok true) := by
  refine ⟨⟨fun pins s σ H Q I ⟨Z0, H0, Z, ρ, S, a⟩ => pts_nil.run pins s σ H Q I (a Z H (.refl S.sub S.nt))⟩⟩
theorem dents_one {c : Expr} {g : Env → R Bool} (h : DenT X G c g) : DenTs X G [c] g := ⟨pts_one h.can⟩
end

/-! ### the slots of a block -/
def wipeE (ρ : Env) : List Nat → Env
  | [] => ρ
  | v :: vs => (wipeE ρ vs).set v .un
theorem wipe_at (σ : L2.St) (j : Nat) : ∀ vs : List Nat, (wipe σ vs)[j]? = if j ∈ vs then (σ[j]?).map fun _ => none else σ[j]?
  | [] => by simp [wipe]
  | v :: vs => by
    unfold wipe
    by_cases hv : v = j
    · subst hv
      rw [if_pos List.mem_cons_self]
      by_cases hl : v < σ.length
      · rw [List.getElem?_set_self (by rw [wipe_length]; exact hl), List.getElem?_eq_getElem hl]; rfl
      · rw [List.getElem?_eq_none (by simp [wipe_length]; omega), List.getElem?_eq_none (by omega)]; rfl
    · rw [List.getElem?_set_ne hv, wipe_at σ j vs]
      have : (j ∈ v :: vs) ↔ j ∈ vs := by simp [Ne.symm hv]
      by_cases h : j ∈ vs
      · rw [if_pos h, if_pos (this.mpr h)]
      · rw [if_neg h, if_neg (fun q => h (this.mp q))]
theorem wipe_only {σ σ' : L2.St} {vs l : List Nat} (h : OnlyAt l (wipe σ vs) σ') (hl : ∀ j ∈ l, j ∈ vs) : wipe σ' vs = wipe σ vs := by
  refine List.ext_getElem? fun j => ?_
  rw [wipe_at, wipe_at]
  have hlen : σ'.length = σ.length := by rw [h.1, wipe_length]
  by_cases hj : j ∈ vs
  · rw [if_pos hj, if_pos hj]
    by_cases hb : j < σ.length
    · rw [List.getElem?_eq_getElem hb, List.getElem?_eq_getElem (by omega)]; rfl
    · rw [List.getElem?_eq_none (by omega), List.getElem?_eq_none (by omega)]
  · rw [if_neg hj, if_neg hj, h.2 j (fun q => hj (hl j q)), wipe_at, if_neg hj]
theorem Sim.wipe {K : PySem.W.Frag} {T : List (Addr × Str)} {Z0 H0 Z H : Hp} {σ : L2.St} {ρ : Env} (S : Sim K T Z0 H0 Z H σ ρ) : ∀ vs : List Nat, Sim K T Z0 H0 Z H (L2.wipe σ vs) (wipeE ρ vs)
  | [] => S
  | v :: vs => by unfold L2.wipe wipeE; exact (S.wipe vs).forget none v

/-! ### comprehensions -/
def runComp (b : D → Env → R Env) (tt : Env → R Bool) (g : Env → R D) (ρ : Env) : List D → R (List D)
  | [] => .ok []
  | d :: ds => match b d ρ with
    | .ok ρ1 => (match tt ρ1 with
      | .ok true => (match g ρ1 with
        | .ok v => (match runComp b tt g ρ ds with | .ok r => .ok (v :: r) | _ => .no)
        | _ => .no)
      | .ok false => runComp b tt g ρ ds
      | _ => .no)
    | _ => .no
def compE (t : Tg) (vs : List Nat) (gi : Env → R (List D)) (tt : Env → R Bool) (g : Env → R D) : Env → R D := fun ρ => match gi ρ with
  | .ok ds => if ds.length ≤ sizeLine then (match runComp (bindT t) tt g (wipeE ρ vs) ds with | .ok r => .ok (.lst r) | _ => .no) else .no
  | .ex c => .ex c | .no => .no
theorem runComp_len {b : D → Env → R Env} {tt : Env → R Bool} {g : Env → R D} {ρ : Env} : ∀ {ds r : List D}, runComp b tt g ρ ds = .ok r → r.length ≤ ds.length
  | [], _, h => by cases h; exact Nat.le_refl _
  | d :: ds, r, h => by
    unfold runComp at h
    split at h
    · split at h
      · split at h
        · split at h
          · cases h
            rename_i e
            have := runComp_len e
            simp; omega
          · cases h
        · cases h
      · have := runComp_len h
        simp; omega
      · cases h
    · cases h
section
variable {X : Cx} {G : Wh}
/-- within a comprehension nothing raises -/
def Wh.calm (G : Wh) : Wh := { G with E := E0 }
theorem comp_run {J : It} {ds : List D} {t : Tg} {vs : List Nat} {tt : Env → R Bool} {g : Env → R D} {r : List D} {Z0 H0 Z1 H1 : Hp} {σ : L2.St} {ρ : Env} {Q : VK} {Dl : Addr} (w : WalkD X.K G.T J Z1 ds) (S : Sim X.K G.T Z0 H0 Z1 H1 σ ρ)
    (hD : H1 Dl = none) (hl : ds.length ≤ sizeLine) (hv : ∀ j ∈ t.slots, j ∈ vs) (hr : runComp (bindT t) tt g (wipeE ρ vs) ds = .ok r)
    (hQ : ∀ Z' H', Grow G.T Z1 H1 Z' H' → (∃ acc, H' Dl = some (.lst acc) ∧ Reps X.K Z' acc r) → Z' Dl = none → Q (.ref Dl) H') :
    ∃ W : Nat → Nat → Hp → Prop, (∃ m, W 0 m (upd H1 Dl (.lst []))) ∧ ∀ i m H, W i m H →
      (J.stop i H ∧ Q (.ref Dl) H) ∨ (J.go i H ∧ ∃ Nx : Hp → Prop, (∀ H', Nx H' → ∃ m', m' < m ∧ W (i + 1) m' H') ∧ ∀ x H', J.yld i H x H' → gDen X.K G.calm t x (wipe σ vs) H' fun σ2 H2 => wipe σ2 vs = wipe σ vs ∧ tDenT X.K G.calm tt σ2 H2 fun b H3 =>
        if b = true then tDen X.K G.calm .c g σ2 H3 fun y H4 => ∃ acc, H4 Dl = some (.lst acc) ∧ acc.length < sizeLine ∧ Nx (upd H4 Dl (.lst (acc ++ [y]))) else Nx H3) := by
  obtain ⟨Gp, Y, w, wG, wY⟩ := w
  have grow0 : Grow G.T Z1 H1 Z1 (upd H1 Dl (.lst [])) := grow_new S.sub S.nt hD
  refine lc_it w (fun i H => ∃ Z acc done rest, Grow G.T Z1 H1 Z H ∧ Tabs G.T H ∧ H Dl = some (.lst acc) ∧ Z Dl = none ∧ Reps X.K Z acc done ∧ done.length ≤ i ∧ runComp (bindT t) tt g (wipeE ρ vs) (ds.drop i) = .ok rest ∧ done ++ rest = r)
    ⟨Z1, [], [], r, grow0, grow0.t S.tabs, upd_same, sub_none S.sub hD, .nil, Nat.le_refl _, by rw [List.drop_zero]; exact hr, rfl⟩
    (fun i H hi ⟨Z, acc, dn, rest, g1, _⟩ => wG H (g1.z.trans g1.s)) (fun i x H H' hi ⟨Z, acc, dn, rest, g1, tb, ha, hz, hr, hdn, hc, hrr⟩ y => ?_) (fun H ⟨Z, acc, dn, rest, g1, tb, ha, hz, hrp, hdn, hc, hrr⟩ => ?_)
  · obtain ⟨Z2, d, g2, hd, rx⟩ := wY i Z H x H' hi g1.z g1.s g1.n y
    have hdrop : ds.drop i = d :: ds.drop (i + 1) := by
      obtain ⟨h1, h2⟩ := List.getElem?_eq_some_iff.mp hd
      rw [List.drop_eq_getElem_cons h1, h2]
    rw [hdrop] at hc
    have S2 : Sim X.K G.T Z0 H0 Z2 H' (wipe σ vs) (wipeE ρ vs) := (S.grow (g1.trans g2)).wipe vs
    have hc' : (match bindT t d (wipeE ρ vs) with
      | .ok ρ1 => (match tt ρ1 with
        | .ok true => (match g ρ1 with
          | .ok v => (match runComp (bindT t) tt g (wipeE ρ vs) (ds.drop (i + 1)) with | .ok r => R.ok (v :: r) | _ => .no)
          | _ => .no)
        | .ok false => runComp (bindT t) tt g (wipeE ρ vs) (ds.drop (i + 1))
        | _ => .no)
      | _ => .no) = .ok rest := hc
    cases e : bindT t d (wipeE ρ vs) with
    | ex c => rw [e] at hc'; cases hc'
    | no => rw [e] at hc'; cases hc'
    | ok ρ1 =>
      rw [e] at hc'
      dsimp only at hc'
      have hD2 : H' Dl = some (.lst acc) := g2.h _ _ ha (nt_lst _)
      have hz2 : Z2 Dl = none := g2.p _ hz (pr_lst ha)
      refine ⟨Z0, H0, Z2, wipeE ρ vs, ρ1, d, S2, rx, e, fun σ2 o2 S3 => ⟨wipe_only o2 hv, Z0, H0, Z2, ρ1, S3, ?_⟩⟩
      cases e2 : tt ρ1 with
      | ex c => rw [e2] at hc'; cases hc'
      | no => rw [e2] at hc'; cases hc'
      | ok b =>
        rw [e2] at hc'
        intro Z3 H3 g3
        have hD3 : H3 Dl = some (.lst acc) := g3.h _ _ hD2 (nt_lst _)
        have hz3 : Z3 Dl = none := g3.p _ hz2 (pr_lst hD2)
        cases b with
        | false =>
          rw [if_neg Bool.false_ne_true]
          exact ⟨Z3, acc, dn, rest, (g1.trans g2).trans g3, g3.t (g2.t tb), hD3, hz3, Reps.le (g2.z.trans g3.z).le _ _ hr, Nat.le_succ_of_le hdn, hc', hrr⟩
        | true =>
          rw [if_pos rfl]
          dsimp only at hc'
          refine ⟨Z0, H0, Z3, ρ1, S3.grow g3, ?_⟩
          cases e3 : g ρ1 with
          | ex c => rw [e3] at hc'; cases hc'
          | no => rw [e3] at hc'; cases hc'
          | ok v =>
            rw [e3] at hc'
            dsimp only at hc'
            intro y Z4 H4 g4 fy
            have hD4 : H4 Dl = some (.lst acc) := g4.h _ _ hD3 (nt_lst _)
            have hz4 : Z4 Dl = none := g4.p _ hz3 (pr_lst hD3)
            have gA := ((g1.trans g2).trans g3).trans g4
            have tb4 := g4.t (g3.t (g2.t tb))
            cases e4 : runComp (bindT t) tt g (wipeE ρ vs) (ds.drop (i + 1)) with
            | ex c => rw [e4] at hc'; cases hc'
            | no => rw [e4] at hc'; cases hc'
            | ok r' =>
              rw [e4] at hc'
              cases hc'
              have hra : Reps X.K Z4 acc dn := Reps.le ((g2.z.trans g3.z).trans g4.z).le _ _ hr
              have hla := hra.length
              refine ⟨acc, hD4, by omega, Z4, acc ++ [y], dn ++ [v], r', ⟨gA.z, fun b u e nt => ?_, fun b u e => ?_, gA.n, gA.p, fun _ => tabs_write hD4 (nt_lst _) (fun f q => by cases q) tb4⟩,
                tabs_write hD4 (nt_lst _) (fun f q => by cases q) tb4, upd_same, hz4, hra.append (.cons fy .nil), by simp; omega, rfl, by rw [← hrr]; simp⟩
              · have hb : b ≠ Dl := fun q => by rw [q, hD] at e; cases e
                rw [upd_ne hb]; exact gA.h b u e nt
              · have hb : b ≠ Dl := fun q => by rw [q, hz4] at e; cases e
                rw [upd_ne hb]; exact gA.s b u e
  · rw [List.drop_length] at hc
    cases hc
    rw [List.append_nil] at hrr
    subst hrr
    exact hQ Z H g1 ⟨acc, ha, hrp⟩ hz
theorem comp_ans {wi : TI} {t : Tg} {vs : List Nat} {gi : Env → R (List D)} {tt : Env → R Bool} {g : Env → R D} (hv : ∀ j ∈ t.slots, j ∈ vs)
    (qi : ∀ Z0 H0 Z H σ ρ Rk, Sim X.K G.T Z0 H0 Z H σ ρ → (match gi ρ with
    | .ok ds => ∀ J Z1 H1, Grow G.T Z H Z1 H1 → WalkD X.K G.T J Z1 ds → Rk J H1
    | .ex c => ∀ Z' H', Grow G.T Z H Z' H' → G.E (.ref (G.cl c)) none H'
    | .no => False) → wi σ H Rk)
    {Z0 H0 Z H : Hp} {σ : L2.St} {ρ : Env} {Q : VK} (S : Sim X.K G.T Z0 H0 Z H σ ρ) (h : Ans X.K G .f (compE t vs gi tt g ρ) Z H Q) : tLc wi (gDen X.K G.calm t) (tDenT X.K G.calm tt) (tDen X.K G.calm .c g) vs σ H Q := by
  refine qi Z0 H0 Z H σ ρ _ S ?_
  unfold compE at h
  cases e : gi ρ with
  | ex c => rw [e] at h; exact h
  | no => rw [e] at h; exact h
  | ok ds =>
    rw [e] at h
    intro J Z1 H1 g1 w Dl hD
    dsimp only at h
    split at h
    · rename_i hl
      cases e2 : runComp (bindT t) tt g (wipeE ρ vs) ds with
      | ex c => rw [e2] at h; exact h.elim
      | no => rw [e2] at h; exact h.elim
      | ok r =>
        rw [e2] at h
        refine comp_run w (S.grow g1) hD hl hv e2 fun Z' H' g' ⟨acc, ha, hr⟩ hz => ?_
        exact h _ Z' H' (g1.trans g') ⟨Dl, rfl, .lst ha hr, hz, nprot_ext g1.h (nprot_none hD)⟩
    · exact h.elim
section
variable {elt tg iter : Expr} {ifs : List Expr} {scope : Scope} {own : List (Str × Nat)} {pos : Pos} {t : Tg} {gi : Env → R (List D)} {tt : Env → R Bool} {g : Env → R D}
theorem den_comp (hc : X.calm = true) (hN : X.N.Nodup) (hi : DenI X G tg iter gi) (ok : BlkOk X.N X.env.scope scope own)
    (hg : ∀ (s : Shared) (H : Hp) (C : Addr) (cl : List (Str × Addr)) (fp : List Addr), DenG (X.blk s H scope (compEnvC scope cl C X.env) fp) G.calm tg t) (ht : ∀ (s : Shared) (H : Hp) (C : Addr) (cl : List (Str × Addr)) (fp : List Addr), DenTs (X.blk s H scope (compEnvC scope cl C X.env) fp) G.calm ifs tt)
    (he : ∀ (s : Shared) (H : Hp) (C : Addr) (cl : List (Str × Addr)) (fp : List Addr), Den (X.blk s H scope (compEnvC scope cl C X.env) fp) G.calm .c elt g) (hs : ∀ x, foldedSetIterable iter X.env x = pure x)
    (hv : ∀ j ∈ t.slots, j ∈ own.map (·.2)) : Den X G .f (.ListComp elt [⟨tg, iter, ifs, 0⟩] scope pos) (compE t (own.map (·.2)) gi tt g) := by
  obtain ⟨wi, pi, qi⟩ := hi.ex
  exact ⟨_, pe_lc (g := gDen X.K G.calm t) (tt := tDenT X.K G.calm tt) (te := tDen X.K G.calm .c g) hc hN pi ok (fun s H C cl fp => (hg s H C cl fp).can) (fun s H C cl fp => (ht s H C cl fp).can) (fun s H C cl fp => (he s H C cl fp).can) hs, fun Z0 H0 Z H σ ρ Q S h => comp_ans hv qi S h⟩
theorem dens_setComp {i : Nat} {y : Str} {py spos : Pos} (hc : X.calm = true) (hN : X.N.Nodup) (hy : X.N[i]? = some y) (hyl : X.env.scope.names.lookup y = some .local)
    (hsw : swapsWith (.ListComp elt [⟨tg, iter, ifs, 0⟩] scope pos) (some (.Name y py)) spos.line X.env = pure true) (hi : DenI X G tg iter gi) (ok : BlkOk X.N X.env.scope scope own)
    (hg : ∀ (s : Shared) (H : Hp) (C : Addr) (cl : List (Str × Addr)) (fp : List Addr), DenG (X.blk s H scope (compEnvC scope cl C X.env) fp) G.calm tg t) (ht : ∀ (s : Shared) (H : Hp) (C : Addr) (cl : List (Str × Addr)) (fp : List Addr), DenTs (X.blk s H scope (compEnvC scope cl C X.env) fp) G.calm ifs tt)
    (he : ∀ (s : Shared) (H : Hp) (C : Addr) (cl : List (Str × Addr)) (fp : List Addr), Den (X.blk s H scope (compEnvC scope cl C X.env) fp) G.calm .c elt g) (hs : ∀ x, foldedSetIterable iter X.env x = pure x)
    (hv : ∀ j ∈ t.slots, j ∈ own.map (·.2)) : DenS X G (.Assign [.Name y py] (.ListComp elt [⟨tg, iter, ifs, 0⟩] scope pos) spos) (ownO i (compE t (own.map (·.2)) gi tt g)) := by
  obtain ⟨wi, pi, qi⟩ := hi.ex
  refine ⟨_, ps_setLc (g := gDen X.K G.calm t) (tt := tDenT X.K G.calm tt) (te := tDen X.K G.calm .c g) hc hN hy hyl hsw pi ok (fun s H C cl fp => (hg s H C cl fp).can) (fun s H C cl fp => (ht s H C cl fp).can) (fun s H C cl fp => (he s H C cl fp).can) hs, fun Z0 H0 Z H σ ρ D S h => ?_⟩
  show tLc wi _ _ _ _ σ H _
  refine comp_ans (G := G) hv qi S ?_
  unfold ownO at h
  cases e : compE t (own.map (·.2)) gi tt g ρ with
  | ex c => rw [e] at h; exact post_ex S h
  | no => rw [e] at h; exact h
  | ok d =>
    rw [e] at h
    intro v Z' H' g' f
    obtain ⟨a, rfl, ta, hz, np⟩ := f
    have h' : PostS X.K G (match slOf d with | some sl => .nx (ρ.set i sl) | none => .no) Z0 H0 D := h
    cases e2 : slOf d with
    | none => rw [e2] at h'; exact h'.elim
    | some sl =>
      rw [e2] at h'
      exact h' Z' H' _ ((S.grow g').setOwn (top_own ta hz e2) (nprot_ext S.g.h np) i fun j sl' _ h1 h2 => S.apart np j sl' h1 h2)
end

/-! ### calls of defs -/
/-- a def's promise: its answer on data -/
def spD (K : PySem.W.Frag) (T : List (Addr × Str)) (cl : Str → Addr) (n : Nat) (F : List D → R D) : Sp := fun vs H Q E => ∃ Z ds, Sub Z H ∧ (∀ a o, Z a = some o → NoTb o) ∧ Tabs T H ∧ Reps K Z vs ds ∧ ds.length = n ∧
  match F ds with
  | .ok d => ∀ v Z' H', Grow T Z H Z' H' → Tabs T H' → Rep K Z' v d → Q v H'
  | .ex c => ∀ Z' H', Grow T Z H Z' H' → Tabs T H' → E (.ref (cl c)) none H'
  | .no => False
theorem den_call {x : Str} {f : Addr} {fd : FuncData} {ps : List Str} {k : Nat} {F : List D → R D} {p pos : Pos} {e : Expr} {es : List Expr} {ga : Env → R (List D)} {CX : CXT}
    (Fn : FnOk X.prog X.w X.K X.mg X.base CX k f fd ps (spD X.K G.T G.cl ps.length F)) (hr : Room k X.A) (hg : Gl X x) (hm : X.mg x = some (.ref f)) (hk : PySem.W.keepIn X.K (.ref f) = true) (hb : Binds X.K fd ps []) (hx : Passes CX X G.E)
    (ha : DenA X G .c (e :: es) ga) (hl : es.length + 1 = ps.length) (hdb : (x == ("__debug__" : Str)) = false) (he : starEach (e :: es) X.env = (false, eval e X.env) :: starEach es X.env) (hpl : (backTo pos (starEach es X.env)).any (·.1) = false)
    (hn : ∀ ρ ds, ga ρ = .ok ds → ds.length = ps.length) :
    Den X G .c (.Call (.Name x p) (e :: es) [] pos) (geA F ga) := by
  obtain ⟨t, pt, q⟩ := ha.ex
  refine ⟨_, pe_call Fn hr hg hm hk hb .nil hx pt hdb he hpl, fun Z0 H0 Z H σ ρ Q S h => ?_⟩
  refine q Z0 H0 Z H σ ρ _ S ?_
  unfold geA at h
  cases ea : ga ρ with
  | no => rw [ea] at h; exact h
  | ex c => rw [ea] at h; exact h
  | ok ds =>
    rw [ea] at h
    intro vs Z1 H1 g1 f1
    show spD X.K G.T G.cl ps.length F (vs ++ []) H1 Q G.E
    rw [List.append_nil]
    refine ⟨Z1, ds, g1.s, g1.n, g1.t S.tabs, f1.reps, hn ρ ds ea, ?_⟩
    have h' : Ans X.K G .c (F ds) Z H Q := h
    cases e2 : F ds with
    | ok d => rw [e2] at h'; exact fun v Z' H' g' _ r => h' v Z' H' (g1.trans g') r
    | ex c => rw [e2] at h'; exact fun Z' H' g' _ => h' Z' H' (g1.trans g')
    | no => rw [e2] at h'; exact h'
/-- the slots at a def's entry -/
def startE (n : Nat) (ds : List D) : Env := ds.map .im ++ List.replicate (n - ds.length) .un
def runDef (n : Nat) (f : Env → Out) (ds : List D) : R D := match f (startE n ds) with
  | .nx _ => .ok .non | .rt d => .ok d | .ex c => .ex c | _ => .no
theorem sim_start {K : PySem.W.Frag} {T : List (Addr × Str)} {Z H : Hp} {N : List Str} {vs : List V} {ds : List D} (s : Sub Z H) (nt : ∀ a o, Z a = some o → NoTb o) (tb : Tabs T H) (r : Reps K Z vs ds) (hn : vs.length ≤ N.length) :
    Sim K T Z H Z H (L2.start N vs) (startE N.length ds) := by
  have hl := r.length
  have own0 : ∀ (i : Nat) (sl : Sl), (startE N.length ds)[i]? = some sl → isOwn sl = false := fun i sl h => by
    unfold startE at h
    rcases List.mem_append.mp (List.mem_of_getElem? h) with h | h
    · obtain ⟨d, _, rfl⟩ := List.mem_map.mp h; rfl
    · rw [(List.mem_replicate.mp h).2]; rfl
  refine ⟨.refl s nt, tb, by unfold L2.start startE; simp [hl], fun i o sl h1 h2 => ?_, fun i a sl h1 h2 h3 => ?_, fun i j a sl sl' _ _ _ h4 _ h6 _ => ?_⟩
  · unfold L2.start at h1
    unfold startE at h2
    by_cases hi : i < ds.length
    · rw [List.getElem?_append_left (by simpa using hi), List.getElem?_map] at h2
      rw [List.getElem?_append_left (by simp [hl]; exact hi), List.getElem?_map] at h1
      cases e : ds[i]? with
      | none => rw [e] at h2; cases h2
      | some d =>
        rw [e] at h2; cases h2
        obtain ⟨v, e1, e2⟩ := r.get e
        rw [e1] at h1; cases h1
        exact .im e2
    · rw [List.getElem?_append_right (by simp; omega)] at h2
      rw [(List.mem_replicate.mp (List.mem_of_getElem? h2)).2]
      exact .un
  · rw [own0 i sl h2] at h3; cases h3
  · rw [own0 i sl h4] at h6; cases h6
end
section
variable {P : Program} {w : World} {K : PySem.W.Frag} {mg : Str → Option Value} {base : Heap}
/-- THE RULE for a def: its body tells f -/
theorem def_ok {x qual : Str} {st : Stmt} {f : Addr} {fd : FuncData} {N ps : List Str} {k : Nat} {T : List (Addr × Str)} {cl : Str → Addr} {fb : Env → Out} (F : Fun K x qual st f fd) (S : FnScope N ps (defScope st)) (hps : ps.length ≤ N.length)
    (hb : ∀ (cdv : Value) (A : Around) (outer : List PySem.Env) (s : Shared) (H : Hp) (E : XK), Room k (A.deeper (envOfC qual (defScope st) s.heap.objs.size f cdv)) →
      DenB (cxOf (L2.CX P w) P w K mg base N qual (defScope st) f cdv A outer s H E) ⟨T, cl, E⟩ (defBody st) fb) :
    FnOk P w K mg base (L2.CX P w) (k + 1) f fd ps (spD K T cl ps.length (runDef N.length fb)) := by
  refine F.okX S (fun vs H Q E h => ?_) (fun cdv A outer s H vs Q E hr h => ?_)
  · obtain ⟨Z, ds, _, _, _, r, hl, _⟩ := h
    rw [r.length, hl]
  · obtain ⟨Z, ds, hs, hn, ht, r, hl, h⟩ := h
    obtain ⟨t, p, q⟩ := (hb cdv A outer s H E hr).ex
    refine ⟨t, p, q Z H Z H _ (startE N.length ds) _ (sim_start hs hn ht r (by rw [r.length, hl]; exact hps)) ?_⟩
    unfold runDef at h
    cases e : fb (startE N.length ds) with
    | nx ρ => rw [e] at h; exact fun Z' H' σ' S' => h _ Z' H' S'.g S'.tabs .non
    | rt d => rw [e] at h; exact fun v Z' H' g t r => h v Z' H' g t r
    | ex c => rw [e] at h; exact fun Z' H' g t => h Z' H' g t
    | bk ρ => rw [e] at h; exact h.elim
    | ct ρ => rw [e] at h; exact h.elim
    | no => rw [e] at h; exact h.elim
end
end VS

set_option Elab.async false
set_option linter.all false
set_option maxRecDepth 100000
set_option maxHeartbeats 2000000
/-! VS10: own lists and dicts written; dicts walked under a lock. -/
namespace VS
open PySem L2 LamX
open PySem.AutoSeq1 in
theorem list_extend_tup (l : Addr) (items : Array Value) (n : Nat) (b : Addr) (items2 : Array Value) (n2 : Nat) (dd : Option Addr) (sl : Array (Option Value)) (hs0 : ¬(!items.isEmpty && Builtin.List.listTooLong (items.size + items2.size)) = true) (hs1 : items.size ≤ sizeLine) (hs2 : items.size + items2.size ≤ sizeLine + 1) :
    Meets (Builtin.«list.extend» ⟨[.ref l, .ref b], []⟩) (fun _ R s => s.heap.get? l = some { cls := .type "list", dict := none, data := .seq items n, slots := #[] } ∧ s.heap.get? b = some { cls := .type "tuple", dict := dd, data := .seq items2 n2, slots := sl } ∧ R (.ok (.ret Value.none)) { s with heap := s.heap.update l (Obj.mapSeq fun x => x ++ items2), toks := s.toks }) :=
  .of_wp fun prog w A R s h => by
    obtain ⟨hp, g, d, tk, os⟩ := s; obtain ⟨hl, hb, h⟩ := h; have f1 := idx_int; have f2 := sub_tuple_tuple; have f3 := sub_list_list; have f4 := sub_tuple_list; have f5 := sub_list_tuple;
    have hz' : (items ++ items2).size ≤ sizeLine + 1 := by rw [Array.size_append]; exact hs2
    wp_walk using (wpAny_updateSeq hl rfl (hz := hs1) (_hz' := hz')), wpAny_loadPart' hl, wpAny_loadPart' hb; exact ⟨_, rfl, h⟩
section
variable {X : Cx} {G : Wh}

/-! ### own lists -/
def appO (i : Nat) (g : Env → R D) : Env → Out := fun ρ => match ρ[i]? with
  | some (.ow ds) => ofR (g ρ) fun d => if ds.length < sizeLine then .nx (ρ.set i (.ow (ds ++ [d]))) else .no
  | _ => .no
theorem tyL {H : Hp} {a : Addr} {vs : List V} (h : H a = some (.lst vs)) : tyV X.K "list" (.ref a) H := Or.inl ⟨rfl, _, SqL.of h⟩
theorem own_list {Z0 H0 Z H : Hp} {σ : L2.St} {ρ : Env} (S : Sim X.K G.T Z0 H0 Z H σ ρ) {i : Nat} {ds : List D} (h : ρ[i]? = some (.ow ds)) : ∃ a vs, σ[i]? = some (some (.ref a)) ∧ H a = some (.lst vs) ∧ Z a = none ∧ Reps X.K Z vs ds := by
  obtain ⟨a, h1, h2, _⟩ := S.own h rfl
  cases h2 with | ow h3 h4 h5 => exact ⟨a, _, h1, h3, h4, h5⟩
theorem own_dK {Z0 H0 Z H : Hp} {σ : L2.St} {ρ : Env} (S : Sim X.K G.T Z0 H0 Z H σ ρ) {i : Nat} {ds : List (Key × D)} (h : ρ[i]? = some (.oK ds)) : ∃ a vs, σ[i]? = some (some (.ref a)) ∧ H a = some (.dK vs) ∧ Z a = none ∧ RepsP X.K Z vs ds := by
  obtain ⟨a, h1, h2, _⟩ := S.own h rfl
  cases h2 with | oK h3 h4 h5 => exact ⟨a, _, h1, h3, h4, h5⟩
theorem own_dT {Z0 H0 Z H : Hp} {σ : L2.St} {ρ : Env} (S : Sim X.K G.T Z0 H0 Z H σ ρ) {i : Nat} {ds : List (List Key × D)} (h : ρ[i]? = some (.oT ds)) : ∃ a vs, σ[i]? = some (some (.ref a)) ∧ H a = some (.dT vs) ∧ Z a = none ∧ RepsQ X.K Z vs ds := by
  obtain ⟨a, h1, h2, _⟩ := S.own h rfl
  cases h2 with | oT h3 h4 h5 => exact ⟨a, _, h1, h3, h4, h5⟩
theorem prot_nn {K : PySem.W.Frag} {T : List (Addr × Str)} {Z H Z' H' : Hp} (g : Grow T Z H Z' H') {a : Addr} (p : Prot H a) (h : Z a = none) : Z' a = none := g.p a h p
section
variable {x : Str} {e : Expr} {g : Env → R D} {i : Nat} {p1 apos cpos pos : Pos}
theorem dens_app (hN : X.N[i]? = some x) (hv : Vis X.env.scope x) (hd : (x == ("__debug__" : Str)) = false) (hcd : (x == ("__classdict__" : Str)) = false) (he : Den X G .c e g)
    (hbase : attributeBase (.Name x p1) "append" X.env (eval (.Name x p1) X.env) = eval (.Name x p1) X.env)
    (hfew : ((backTo cpos (starEach [e] X.env)).all (fun x => !x.1) && (backToKw cpos (keywordEach [] X.env)).all (fun x => x.1.isSome)
      && decide (([e] : List Expr).length + ([] : List Keyword).length + (if ([] : List Keyword).isEmpty then 0 else 1) < 30)) = true)
    (hline : (apos.endLine == cpos.line) = true) (hs : starEach [e] X.env = (false, eval e X.env) :: starEach [] X.env) (hplain : (backTo cpos (starEach [] X.env)).any (·.1) = false) :
    DenS X G (.Expr (.Call (.Attribute (.Name x p1) "append" apos) [e] [] cpos) pos) (appO i g) := by
  obtain ⟨t, p, q⟩ := he.ex
  refine ⟨_, ps_expr (pe_bm PySem.F.plainAttrs_list PySem.F.slot_list_append PySem.F.type_list_append mt_append (pe_var hN hv hd hcd) (pa_cons p pa_nil hs) hbase hfew hline hs hplain) rfl, fun Z0 H0 Z H σ ρ D S h => ?_⟩
  unfold appO at h
  split at h
  · rename_i ds ei
    obtain ⟨a, vs, e1, e2, e3, e4⟩ := own_list S ei
    refine ⟨.ref a, e1, tyL e2, ?_⟩
    refine ans_bind (e := e) q S h fun d _ h1 v Z1 H1 g1 f1 => ?_
    have S1 := S.grow g1
    have h3 : H1 a = some (.lst vs) := g1.h _ _ e2 (nt_lst _)
    have z3 : Z1 a = none := g1.p _ e3 (pr_lst e2)
    split at h1
    · rename_i hl
      have hlen := e4.length
      refine ⟨a, vs, v, rfl, rfl, h3, by omega, ?_⟩
      exact h1 Z1 _ σ (S1.write ei rfl e1 (.ow upd_same z3 ((Reps.le g1.z.le _ _ e4).append (.cons f1 .nil))))
    · exact h1.elim
  · exact h.elim
def extO (i : Nat) (g : Env → R D) : Env → Out := fun ρ => match ρ[i]? with
  | some (.ow ds) => ofR (g ρ) fun d => match itemsD d with
    | some es => if ds.length + es.length ≤ sizeLine then .nx (ρ.set i (.ow (ds ++ es))) else .no
    | none => .no
  | _ => .no
def rExtA (K : PySem.W.Frag) : V → List V → Hp → VK → Prop := fun x vs H Q => ∃ l b xs zs, x = .ref l ∧ vs = [.ref b] ∧ H l = some (.lst xs) ∧ (H b = some (.lst zs) ∨ SqT K H b zs) ∧ xs.length + zs.length ≤ sizeLine ∧ Q .non (upd H l (.lst (xs ++ zs)))
theorem mt_extA : MtR X "list.extend" (rExtA X.K) := by
  intro pins s σ H x vs v us Q I rx rv h
  obtain ⟨l, b, xs, zs, rfl, rfl, hH, hB, hz, q⟩ := h
  rcases hB with hB | hB
  · exact mt_extend pins s σ H _ _ v us Q I rx rv ⟨l, b, xs, zs, rfl, rfl, hH, hB, hz, q⟩
  cases rx
  obtain ⟨u, rfl, ru⟩ := rv.one
  cases ru
  obtain ⟨z, its, n, r, hl, e⟩ := I.lstM hH
  obtain ⟨its2, r2, ⟨o2, ho2, hc2, n2, hd2⟩, hz2⟩ := I.tuple hB
  have hl2 := r2.length
  have hsz : its.toArray.size + its2.toArray.size ≤ sizeLine := by rw [List.size_toArray, List.size_toArray]; omega
  have hlong : ¬ (!its.toArray.isEmpty && Builtin.List.listTooLong (its.toArray.size + its2.toArray.size)) = true := by
    rw [notLongL hsz, Bool.and_false]
    exact Bool.false_ne_true
  obtain ⟨oc, od, dt, sl⟩ := o2
  simp only at hc2 hd2
  subst hc2 hd2
  refine call_meets PySem.F.slot_list_extend ⟨_, e, rfl⟩ PySem.F.entry_list_extend (PySem.F.args_list_extend_2 _ _)
    (list_extend_tup l its.toArray n b its2.toArray n2 od sl hlong (by rw [List.size_toArray]; omega) (by omega)) ⟨e, ho2, ?_⟩
  refine ⟨.non, _, I.lset (its' := its ++ its2) hH e (by simp) (r.append r2) ?_, rfl, q⟩
  rw [List.length_append]
  omega
theorem dens_ext {m1 : Md} (hN : X.N[i]? = some x) (hv : Vis X.env.scope x) (hd : (x == ("__debug__" : Str)) = false) (hcd : (x == ("__classdict__" : Str)) = false) (he : Den X G m1 e g)
    (hbase : attributeBase (.Name x p1) "extend" X.env (eval (.Name x p1) X.env) = eval (.Name x p1) X.env)
    (hfew : ((backTo cpos (starEach [e] X.env)).all (fun x => !x.1) && (backToKw cpos (keywordEach [] X.env)).all (fun x => x.1.isSome)
      && decide (([e] : List Expr).length + ([] : List Keyword).length + (if ([] : List Keyword).isEmpty then 0 else 1) < 30)) = true)
    (hline : (apos.endLine == cpos.line) = true) (hs : starEach [e] X.env = (false, eval e X.env) :: starEach [] X.env) (hplain : (backTo cpos (starEach [] X.env)).any (·.1) = false) :
    DenS X G (.Expr (.Call (.Attribute (.Name x p1) "extend" apos) [e] [] cpos) pos) (extO i g) := by
  obtain ⟨t, p, q⟩ := he.ex
  refine ⟨_, ps_expr (pe_bm PySem.F.plainAttrs_list PySem.F.slot_list_extend PySem.F.type_list_extend mt_extA (pe_var hN hv hd hcd) (pa_cons p pa_nil hs) hbase hfew hline hs hplain) rfl, fun Z0 H0 Z H σ ρ D S h => ?_⟩
  unfold extO at h
  split at h
  · rename_i ds ei
    obtain ⟨a, vs, e1, e2, e3, e4⟩ := own_list S ei
    refine ⟨.ref a, e1, tyL e2, ?_⟩
    refine ans_bind (e := e) q S h fun d _ h1 v Z1 H1 g1 f1 => ?_
    have S1 := S.grow g1
    have h3 : H1 a = some (.lst vs) := g1.h _ _ e2 (nt_lst _)
    have z3 : Z1 a = none := g1.p _ e3 (pr_lst e2)
    have h1' : PostS X.K G (match itemsD d with
      | some es => if ds.length + es.length ≤ sizeLine then .nx (ρ.set i (.ow (ds ++ es))) else .no
      | none => .no) Z0 H0 D := h1
    split at h1'
    · rename_i es ee
      split at h1'
      · rename_i hl
        have hlen := e4.length
        have fin : ∀ b us, v = .ref b → (H1 b = some (.lst us) ∨ SqT X.K H1 b us) → Reps X.K Z1 us es → rExtA X.K (.ref a) [v] H1 (fun _ H2 => D.nx σ H2) := fun b us ev hb r => by
          have hl2 := r.length
          subst ev
          exact ⟨a, b, vs, us, rfl, rfl, h3, hb, by omega, h1' Z1 _ σ (S1.write ei rfl e1 (.ow upd_same z3 ((Reps.le g1.z.le _ _ e4).append r)))⟩
        have fn := f1.now (Hx := H1)
        cases d with
        | lst es' => cases ee; obtain ⟨b, us, rfl, q1, q2⟩ := now_lst g1.s fn; exact fin b us rfl (.inl q1) q2
        | tup es' => cases ee; obtain ⟨b, us, rfl, _, q1, q2⟩ := now_tup g1.s fn; exact fin b us rfl (.inr (SqT.of q1)) q2
        | non => cases ee
        | bl _ => cases ee
        | int _ => cases ee
        | str _ => cases ee
        | dK _ => cases ee
        | dT _ => cases ee
        | scr _ => cases ee
      · exact h1'.elim
    · exact h1'.elim
  · exact h.elim
/-- y = xs.pop(); xs.pop() -/
def popO (i : Nat) (j : Option Nat) : Env → Out := fun ρ => match ρ[i]? with
  | some (.ow ds) => (match ds[ds.length - 1]? with
    | some d => (match j with | some j => if i = j then .no else .nx ((ρ.set i (.ow ds.dropLast)).set j (.im d)) | none => .nx (ρ.set i (.ow ds.dropLast)))
    | none => .no)
  | _ => .no
theorem pop_run {Z0 H0 Z H : Hp} {σ : L2.St} {ρ : Env} (S : Sim X.K G.T Z0 H0 Z H σ ρ) {ds : List D} {d : D} (ei : ρ[i]? = some (.ow ds)) (ed : ds[ds.length - 1]? = some d) :
    ∃ a vs v, σ[i]? = some (some (.ref a)) ∧ H a = some (.lst vs) ∧ vs[vs.length - 1]? = some v ∧ Rep X.K Z v d ∧ Sim X.K G.T Z0 H0 Z (upd H a (.lst vs.dropLast)) σ (ρ.set i (.ow ds.dropLast)) := by
  obtain ⟨a, vs, e1, e2, e3, e4⟩ := own_list S ei
  obtain ⟨v, e5, e6⟩ := e4.get ed
  exact ⟨a, vs, v, e1, e2, by rw [e4.length]; exact e5, e6, S.write ei rfl e1 (.ow upd_same e3 e4.dropLast)⟩
theorem dens_popE (hN : X.N[i]? = some x) (hv : Vis X.env.scope x) (hd : (x == ("__debug__" : Str)) = false) (hcd : (x == ("__classdict__" : Str)) = false)
    (hbase : attributeBase (.Name x p1) "pop" X.env (eval (.Name x p1) X.env) = eval (.Name x p1) X.env) (hline : (apos.endLine == cpos.line) = true) :
    DenS X G (.Expr (.Call (.Attribute (.Name x p1) "pop" apos) [] [] cpos) pos) (popO i none) := by
  refine ⟨_, ps_expr (pe_bm0 PySem.F.plainAttrs_list PySem.F.slot_list_pop PySem.F.type_list_pop mt_pop (pe_var hN hv hd hcd) hbase hline) rfl, fun Z0 H0 Z H σ ρ D S h => ?_⟩
  unfold popO at h
  split at h
  · rename_i ds ei
    split at h
    · rename_i d ed
      obtain ⟨a, vs, v, e1, e2, e3, e4, S'⟩ := pop_run S ei ed
      exact ⟨.ref a, e1, tyL e2, a, vs, v, rfl, rfl, e2, e3, h Z _ σ S'⟩
    · exact h.elim
  · exact h.elim
theorem dens_popA {j : Nat} {y : Str} {py : Pos} (hN : X.N[i]? = some x) (hv : Vis X.env.scope x) (hd : (x == ("__debug__" : Str)) = false) (hcd : (x == ("__classdict__" : Str)) = false)
    (hbase : attributeBase (.Name x p1) "pop" X.env (eval (.Name x p1) X.env) = eval (.Name x p1) X.env) (hline : (apos.endLine == cpos.line) = true)
    (hnd : X.N.Nodup) (hj : X.N[j]? = some y) (hy : Loc X.env.scope y) (hf : X.fn y = true ∨ X.env.scope.names.lookup y = some .local) :
    DenS X G (.Assign [.Name y py] (.Call (.Attribute (.Name x p1) "pop" apos) [] [] cpos) pos) (popO i (some j)) := by
  refine ⟨_, ps_set hnd hj hy (pe_bm0 PySem.F.plainAttrs_list PySem.F.slot_list_pop PySem.F.type_list_pop mt_pop (pe_var hN hv hd hcd) hbase hline) rfl hf, fun Z0 H0 Z H σ ρ D S h => ?_⟩
  unfold popO at h
  split at h
  · rename_i ds ei
    split at h
    · rename_i d ed
      obtain ⟨a, vs, v, e1, e2, e3, e4, S'⟩ := pop_run S ei ed
      dsimp only at h
      split at h
      · exact h.elim
      · exact ⟨.ref a, e1, tyL e2, a, vs, v, rfl, rfl, e2, e3, h Z _ _ (S'.set e4 j)⟩
    · exact h.elim
  · exact h.elim
/-- xs[k] = e -/
def setO (i : Nat) (g gk : Env → R D) : Env → Out := fun ρ => ofR (g ρ) fun d => match ρ[i]? with
  | some (.ow ds) => ofR (gk ρ) fun k => match k with
    | .int k => (match ixN ds.length k with | some j => .nx (ρ.set i (.ow (ds.set j d))) | none => .no)
    | _ => .no
  | _ => .no
theorem dens_setL {ix : Expr} {gk : Env → R D} {m2 : Md} {pt : Pos} (hN : X.N[i]? = some x) (hv : Vis X.env.scope x) (hd : (x == ("__debug__" : Str)) = false) (hcd : (x == ("__classdict__" : Str)) = false) (he : Den X G .c e g) (hk : Den X G m2 ix gk)
    (ps : ∀ te to ti, PE X e te → PE X (.Name x p1) to → PE X ix ti → PS X (.Assign [.Subscript (.Name x p1) ix pt] e pos) (tAsg te (gSub to ti rSetL))) :
    DenS X G (.Assign [.Subscript (.Name x p1) ix pt] e pos) (setO i g gk) := by
  obtain ⟨t, p, q⟩ := he.ex
  obtain ⟨tk, pk, qk⟩ := hk.ex
  refine ⟨_, ps _ _ _ p (pe_var hN hv hd hcd) pk, fun Z0 H0 Z H σ ρ D S h => ?_⟩
  refine ans_bind (e := e) q S h fun d _ h1 v Z1 H1 g1 f1 => ?_
  have S1 := S.grow g1
  have h1' : PostS X.K G (match ρ[i]? with
    | some (.ow ds) => ofR (gk ρ) fun k => match k with
      | .int k => (match ixN ds.length k with | some j => .nx (ρ.set i (.ow (ds.set j d))) | none => .no)
      | _ => .no
    | _ => .no) Z0 H0 D := h1
  split at h1'
  · rename_i ds ei
    obtain ⟨a, vs, e1, e2, e3, e4⟩ := own_list S1 ei
    refine ⟨.ref a, e1, ?_⟩
    refine ans_bind (e := ix) qk S1 h1' fun k _ h2 w Z2 H2 g2 f2 => ?_
    have S2 := S1.grow g2
    have h3 : H2 a = some (.lst vs) := g2.h _ _ e2 (nt_lst _)
    have z3 : Z2 a = none := g2.p _ e3 (pr_lst e2)
    cases k with
    | int k =>
      have h2' : PostS X.K G (match ixN ds.length k with | some j => .nx (ρ.set i (.ow (ds.set j d))) | none => .no) Z0 H0 D := h2
      split at h2'
      · rename_i j ej
        refine ⟨a, vs, k, j, rfl, now_int (f2.now (Hx := H1)), h3, by rw [e4.length]; exact ej, ?_⟩
        exact h2' Z2 _ σ (S2.write ei rfl e1 (.ow upd_same z3 ((Reps.le g2.z.le _ _ e4).set j (Rep.le g2.z.le _ _ f1))))
      · exact h2'.elim
    | non => exact (show False from h2).elim
    | bl _ => exact (show False from h2).elim
    | str _ => exact (show False from h2).elim
    | tup _ => exact (show False from h2).elim
    | lst _ => exact (show False from h2).elim
    | dK _ => exact (show False from h2).elim
    | dT _ => exact (show False from h2).elim
    | scr _ => exact (show False from h2).elim
  · exact h1'.elim
/-- d[k] = e -/
def putS (sl : Sl) (k d : D) : Option Sl := match sl with
  | .oK kvs => (keyD k).bind fun k => if kvs.length < sizeLine then some (.oK (pk kvs k d)) else none
  | .oT kvs => (match k with | .tup ks => (keysD ks).bind fun k => if kvs.length < sizeLine then some (.oT (pk kvs k d)) else none | _ => none)
  | _ => none
def putO (i : Nat) (g gk : Env → R D) : Env → Out := fun ρ => ofR (g ρ) fun d => match ρ[i]? with
  | some sl => if isOwn sl then ofR (gk ρ) fun k => match putS sl k d with | some sl' => .nx (ρ.set i sl') | none => .no else .no
  | _ => .no
theorem dens_put {ix : Expr} {gk : Env → R D} {m2 : Md} {pt : Pos} (hu : X.A.units + 1 < cLine) (hN : X.N[i]? = some x) (hv : Vis X.env.scope x) (hd : (x == ("__debug__" : Str)) = false) (hcd : (x == ("__classdict__" : Str)) = false) (he : Den X G .c e g) (hk : Den X G m2 ix gk)
    (hs : swapsWith e (some (.Subscript (.Name x p1) ix pt)) pos.line X.env = pure false) :
    DenS X G (.Assign [.Subscript (.Name x p1) ix pt] e pos) (putO i g gk) := by
  obtain ⟨t, p, q⟩ := he.ex
  obtain ⟨tk, pk', qk⟩ := hk.ex
  refine ⟨_, ps_dput hu (pe_var hN hv hd hcd) pk' p hs, fun Z0 H0 Z H σ ρ D S h => ?_⟩
  refine ans_bind (e := e) q S h fun d _ h1 v Z1 H1 g1 f1 => ?_
  have S1 := S.grow g1
  have h1' : PostS X.K G (match ρ[i]? with
    | some sl => if isOwn sl then ofR (gk ρ) fun k => match putS sl k d with | some sl' => .nx (ρ.set i sl') | none => .no else .no
    | _ => .no) Z0 H0 D := h1
  cases ei : ρ[i]? with
  | none => rw [ei] at h1'; exact h1'.elim
  | some sl =>
    rw [ei] at h1'
    dsimp only at h1'
    split at h1'
    · rename_i ho
      obtain ⟨a, e1, e2, _⟩ := S1.own ei ho
      refine ⟨.ref a, e1, ?_⟩
      refine ans_bind (e := ix) qk S1 h1' fun k _ h2 w Z2 H2 g2 f2 => ?_
      have S2 := S1.grow g2
      have e3 := e2.grow g2
      have h2' : PostS X.K G (match putS sl k d with | some sl' => .nx (ρ.set i sl') | none => .no) Z0 H0 D := h2
      cases ep : putS sl k d with
      | none => rw [ep] at h2'; exact h2'.elim
      | some sl' =>
        rw [ep] at h2'
        unfold putS at ep
        have rk := Now.rep g2.s (f2.now (Hx := H2))
        have rd := Rep.le g2.z.le _ _ f1
        split at ep
        · rename_i kvs
          cases ek : keyD k with
          | none => rw [ek] at ep; cases ep
          | some kk =>
            rw [ek] at ep
            dsimp only [Option.bind] at ep
            split at ep
            · rename_i hl
              cases ep
              cases e3 with
              | @oK vs _ q1 q2 q3 =>
                refine ⟨a, _, rfl, .inl ⟨vs, kk, q1, key_of rk ek, by rw [q3.length]; exact hl, rfl⟩, h2' Z2 _ σ (S2.write ei rfl e1 (.oK upd_same q2 (pk_P q3 kk rd)))⟩
            · cases ep
        · rename_i kvs
          cases k with
          | tup ks =>
            dsimp only at ep
            cases ek : keysD ks with
            | none => rw [ek] at ep; cases ep
            | some kk =>
              rw [ek] at ep
              dsimp only [Option.bind] at ep
              split at ep
              · rename_i hl
                cases ep
                obtain ⟨b, us, rfl, _, hb, rb⟩ := now_tup g2.s (f2.now (Hx := H2))
                cases e3 with
                | @oT vs _ q1 q2 q3 =>
                  refine ⟨a, _, rfl, .inr ⟨vs, kk, b, q1, rfl, by rw [hb, keys_of rb ek], by rw [q3.length]; exact hl, rfl⟩, h2' Z2 _ σ (S2.write ei rfl e1 (.oT upd_same q2 (pk_Q q3 kk rd)))⟩
              · cases ep
          | non => cases ep
          | bl _ => cases ep
          | int _ => cases ep
          | str _ => cases ep
          | lst _ => cases ep
          | dK _ => cases ep
          | dT _ => cases ep
          | scr _ => cases ep
        · cases ep
    · exact h1'.elim
end

/-! ### dicts made -/
theorem den_newK {pos : Pos} : Den X G .f (.Dict [] [] pos) (fun _ => .ok (.dK [])) :=
  ⟨_, pe_dnewK, fun Z0 H0 Z H σ ρ Q S h p hp => h _ Z _ (grow_new S.sub S.nt hp) ⟨p, rfl, .dK upd_same .nil, sub_none S.sub hp, nprot_none hp⟩⟩
theorem den_newT {pos : Pos} : Den X G .f (.Dict [] [] pos) (fun _ => .ok (.dT [])) :=
  ⟨_, pe_dnewT, fun Z0 H0 Z H σ ρ Q S h p hp => h _ Z _ (grow_new S.sub S.nt hp) ⟨p, rfl, .dT upd_same .nil, sub_none S.sub hp, nprot_none hp⟩⟩
end
end VS

set_option Elab.async false
set_option linter.all false
set_option maxRecDepth 100000
set_option maxHeartbeats 2000000
/-! VS11: dicts walked under a lock. -/
namespace VS
open PySem L2 LamX

/-- what a dict's slot holds: the dict at d, of the kind u -/
inductive DctU : HO → Prop
  | K (vs : List (Key × V)) : DctU (.dK vs)
  | T (vs : List (List Key × V)) : DctU (.dT vs)
theorem DctU.plain {u : HO} (h : DctU u) : Plain u := by cases h <;> trivial
theorem DctU.mut {u : HO} (h : DctU u) : Mut (some u) := by cases h <;> trivial
theorem DctU.nt {u : HO} (h : DctU u) : NoTb u := by cases h <;> (intro ps q; cases q)
theorem DctU.ntup {u : HO} (h : DctU u) : ∀ xs, u ≠ .tup xs := by cases h <;> (intro ps q; cases q)
theorem DctU.nlst {u : HO} (h : DctU u) : ∀ xs, u ≠ .lst xs := by cases h <;> (intro ps q; cases q)
theorem DctU.next {u : HO} (h : DctU u) : ∀ f, u ≠ .ext f := by cases h <;> (intro ps q; cases q)
theorem DctU.nfrz {u : HO} (h : DctU u) : ∀ o w, u ≠ .frz o w := by cases h <;> (intro o w q; cases q)
theorem nt_frz (o : Obj) (u : HO) : NoTb (.frz o u) := fun _ q => by cases q
section
variable {K : PySem.W.Frag} {Z Z' : Hp} {d : Addr} {u : HO} {od : Obj}
theorem lock_le (hu : DctU u) (h : Z d = some u) : RdLe Z (upd Z d (.frz od u)) where
  l := fun a vs e => by
    have : a ≠ d := fun q => by subst q; rw [h] at e; exact hu.nlst vs (Option.some.inj e)
    rw [upd_ne this]; exact e
  u := fun a vs e => by
    have : a ≠ d := fun q => by subst q; rw [h] at e; exact hu.ntup vs (Option.some.inj e)
    rw [upd_ne this]; exact e
  r := fun a w pw e => by
    by_cases ha : a = d
    · subst ha
      rcases e with e | ⟨o, e⟩
      · rw [h] at e; cases e; exact .inr ⟨od, upd_same⟩
      · rw [h] at e; exact absurd (Option.some.inj e) (hu.nfrz o w)
    · rcases e with e | ⟨o, e⟩
      · exact .inl (by rw [upd_ne ha]; exact e)
      · exact .inr ⟨o, by rw [upd_ne ha]; exact e⟩
theorem unlock_le (hu : DctU u) (h : Z d = some (.frz od u)) : RdLe Z (upd Z d u) where
  l := fun a vs e => by
    have : a ≠ d := fun q => by subst q; rw [h] at e; cases e
    rw [upd_ne this]; exact e
  u := fun a vs e => by
    have : a ≠ d := fun q => by subst q; rw [h] at e; cases e
    rw [upd_ne this]; exact e
  r := fun a w pw e => by
    by_cases ha : a = d
    · subst ha
      rcases e with e | ⟨o, e⟩
      · rw [h] at e; cases e; exact pw.elim
      · rw [h] at e; cases e; exact .inl upd_same
    · rcases e with e | ⟨o, e⟩
      · exact .inl (by rw [upd_ne ha]; exact e)
      · exact .inr ⟨o, by rw [upd_ne ha]; exact e⟩
end
section
variable {K : PySem.W.Frag} {T : List (Addr × Str)} {Z0 H0 Z H : Hp} {σ : L2.St} {ρ : Env} {d : Addr} {u : HO}
theorem OwnAt.re {Z Z' H H' : Hp} {a : Addr} {sl : Sl} (h : OwnAt K Z H a sl) (le : RdLe Z Z') (hH : H' a = H a) (hZ : Z a = none → Z' a = none) : OwnAt K Z' H' a sl := by
  cases h with
  | ow h1 h2 h3 => exact .ow (hH.trans h1) (hZ h2) (Reps.le le _ _ h3)
  | oK h1 h2 h3 => exact .oK (hH.trans h1) (hZ h2) (RepsP.le le _ _ h3)
  | oT h1 h2 h3 => exact .oT (hH.trans h1) (hZ h2) (RepsQ.le le _ _ h3)
theorem SimSl.re {Z Z' H H' : Hp} {o : Option V} {sl : Sl} (h : SimSl K Z H o sl) (le : RdLe Z Z') (hH : ∀ a, Z a = none → H' a = H a) (hZ : ∀ a, Z a = none → Z' a = none) : SimSl K Z' H' o sl := by
  cases h with
  | un => exact .un
  | im r => exact .im (Rep.le le _ _ r)
  | own q => exact .own (q.re le (hH _ q.prot.2) (hZ _))
open Classical in
/-- the state while d is locked, and the way back -/
theorem Sim.lock (S : Sim K T Z0 H0 Z H σ ρ) (hu : DctU u) (hd : Z d = some u) (od : Obj) :
    ∃ Hb : Hp, Sim K T (upd Z d (.frz od u)) Hb (upd Z d (.frz od u)) (upd H d (.frz od u)) σ ρ ∧
      (∀ Z' H', Grow T (upd Z d (.frz od u)) Hb Z' H' → Z' d = some (.frz od u) ∧ H' d = some (.frz od u) ∧ Grow T Z0 H0 (upd Z' d u) (upd H' d u) ∧ (Tabs T H' → Tabs T (upd H' d u))) ∧
      (∀ Z' H' σ' ρ', Sim K T (upd Z d (.frz od u)) Hb Z' H' σ' ρ' → Sim K T Z0 H0 (upd Z' d u) (upd H' d u) σ' ρ') := by
  have hH : H d = some u := S.sub _ _ hd
  let Hb : Hp := fun a => if a = d ∧ H0 d = some u then some (.frz od u) else H0 a
  have hb_ne : ∀ a, a ≠ d → Hb a = H0 a := fun a h => by show (if a = d ∧ H0 d = some u then _ else _) = _; rw [if_neg (fun q => h q.1)]
  have hb_d : H0 d = some u → Hb d = some (.frz od u) := fun h => by show (if d = d ∧ H0 d = some u then _ else _) = _; rw [if_pos ⟨rfl, h⟩]
  have hb_n : H0 d ≠ some u → Hb d = H0 d := fun h => by show (if d = d ∧ H0 d = some u then _ else _) = _; rw [if_neg (fun q => h q.2)]
  have h0d : ∀ o, H0 d = some o → NoTb o → o = u := fun o e nt => by have := S.g.h _ _ e nt; rw [hH] at this; exact (Option.some.inj this).symm
  have tabL : Tabs T (upd H d (.frz od u)) := tabs_write hH hu.nt hu.next S.tabs
  have gl : Grow T (upd Z d (.frz od u)) Hb (upd Z d (.frz od u)) (upd H d (.frz od u)) := by
    refine ⟨Sub.refl _, fun a o e nt => ?_, fun a o e => ?_, fun a o e => ?_, fun a h _ => h, fun _ => tabL⟩
    · by_cases ha : a = d
      · subst ha
        by_cases h : H0 a = some u
        · rw [hb_d h] at e; cases e; exact upd_same
        · rw [hb_n h] at e; exact absurd (by rw [e, h0d o e nt]) h
      · rw [hb_ne a ha] at e; rw [upd_ne ha]; exact S.g.h a o e nt
    · by_cases ha : a = d
      · subst ha; rw [upd_same] at e; cases e; exact upd_same
      · rw [upd_ne ha] at e; rw [upd_ne ha]; exact S.sub a o e
    · by_cases ha : a = d
      · subst ha; rw [upd_same] at e; cases e; exact nt_frz _ _
      · rw [upd_ne ha] at e; exact S.nt a o e
  have own_ne : ∀ a, Z a = none → a ≠ d := fun a h q => by rw [q, hd] at h; cases h
  refine ⟨Hb, ⟨gl, tabL, S.len, fun i o sl h1 h2 => (S.slot i o sl h1 h2).re (lock_le hu hd) (fun a h => upd_ne (own_ne a h)) (fun a h => by rw [upd_ne (own_ne a h)]; exact h), fun i a sl h1 h2 h3 => ?_, S.dis⟩, fun Z' H' g => ?_, fun Z' H' σ' ρ' S' => ?_⟩
  · intro ⟨o, e, nt, nu⟩
    obtain ⟨b, q1, q2, _⟩ := S.own h2 h3
    rw [h1] at q1; cases q1
    rw [hb_ne _ (own_ne _ q2.prot.2)] at e
    exact S.new i _ sl h1 h2 h3 ⟨o, e, nt, nu⟩
  all_goals
    have back : ∀ Z' H', Grow T (upd Z d (.frz od u)) Hb Z' H' → Z' d = some (.frz od u) ∧ H' d = some (.frz od u) ∧ Grow T Z0 H0 (upd Z' d u) (upd H' d u) ∧ (Tabs T H' → Tabs T (upd H' d u)) := fun Z' H' g => by
      have hz : Z' d = some (.frz od u) := g.z _ _ upd_same
      have hh : H' d = some (.frz od u) := g.s _ _ hz
      have tb : Tabs T H' → Tabs T (upd H' d u) := fun t => tabs_write hh (nt_frz _ _) (fun f q => by cases q) t
      refine ⟨hz, hh, ⟨fun a o e => ?_, fun a o e nt => ?_, fun a o e => ?_, fun a o e => ?_, fun a h p => ?_, fun t0 => tb (g.t ?_)⟩, tb⟩
      · by_cases ha : a = d
        · subst ha; have := S.g.z _ _ e; rw [hd] at this; cases this; exact upd_same
        · rw [upd_ne ha]; exact g.z _ _ (by rw [upd_ne ha]; exact S.g.z _ _ e)
      · by_cases ha : a = d
        · subst ha; rw [h0d o e nt]; exact upd_same
        · rw [upd_ne ha]; exact g.h a o (by rw [hb_ne a ha]; exact e) nt
      · by_cases ha : a = d
        · subst ha; rw [upd_same] at e; cases e; exact upd_same
        · rw [upd_ne ha] at e; rw [upd_ne ha]; exact g.s a o e
      · by_cases ha : a = d
        · subst ha; rw [upd_same] at e; cases e; exact hu.nt
        · rw [upd_ne ha] at e; exact g.n a o e
      · have hz0 : Z a = none := S.g.p a h p
        have ha := own_ne a hz0
        rw [upd_ne ha]
        refine g.p a (by rw [upd_ne ha]; exact hz0) ?_
        obtain ⟨o, e, nt, nu⟩ := p
        exact ⟨o, by rw [hb_ne a ha]; exact e, nt, nu⟩
      · by_cases h : H0 d = some u
        · have := tabs_write (o := .frz od u) h hu.nt hu.next t0
          have e : upd H0 d (.frz od u) = Hb := by
            funext a
            by_cases ha : a = d
            · subst ha; rw [upd_same, hb_d h]
            · rw [upd_ne ha, hb_ne a ha]
          rw [e] at this; exact this
        · have e : H0 = Hb := by
            funext a
            by_cases ha : a = d
            · subst ha; rw [hb_n h]
            · rw [hb_ne a ha]
          rw [← e]; exact t0
  · exact back Z' H' g
  · obtain ⟨hz, hh, g0, tb⟩ := back Z' H' S'.g
    have ne : ∀ a, Z' a = none → a ≠ d := fun a h q => by rw [q, hz] at h; cases h
    refine ⟨g0, tb S'.tabs, S'.len, fun i o sl h1 h2 => (S'.slot i o sl h1 h2).re (unlock_le hu hz) (fun a h => upd_ne (ne a h)) (fun a h => by rw [upd_ne (ne a h)]; exact h), fun i a sl h1 h2 h3 => ?_, S'.dis⟩
    intro ⟨o, e, nt, nu⟩
    obtain ⟨b, q1, q2, _⟩ := S'.own h2 h3
    rw [h1] at q1; cases q1
    exact S'.new i _ sl h1 h2 h3 ⟨o, by rw [hb_ne _ (ne _ q2.prot.2)]; exact e, nt, nu⟩
end

/-! ### the keys -/
def keysOf : D → Option (List D)
  | .dK kvs => some (kvs.map fun kd => keyV kd.1)
  | .dT kvs => some (kvs.map fun kd => .tup (kd.1.map keyV))
  | _ => none
section
variable {X : Cx} {G : Wh}
theorem RepsP.getK {K : PySem.W.Frag} {Z : Hp} : ∀ {ds : List (Key × D)} {vs : List (Key × V)} {i : Nat} {k : Key} {v : V}, RepsP K Z vs ds → vs[i]? = some (k, v) → ∃ d, ds[i]? = some (k, d)
  | [], _, _, _, _, h, e => by cases h; simp at e
  | (j, d) :: ds, _, 0, _, _, h, e => by cases h with | cons h t => simp at e; obtain ⟨rfl, _⟩ := e; exact ⟨d, rfl⟩
  | (j, d) :: ds, _, i + 1, _, _, h, e => by cases h with | cons h t => simp at e; obtain ⟨d', q⟩ := RepsP.getK t e; exact ⟨d', by simpa using q⟩
theorem RepsQ.getK {K : PySem.W.Frag} {Z : Hp} : ∀ {ds : List (List Key × D)} {vs : List (List Key × V)} {i : Nat} {k : List Key} {v : V}, RepsQ K Z vs ds → vs[i]? = some (k, v) → ∃ d, ds[i]? = some (k, d)
  | [], _, _, _, _, h, e => by cases h; simp at e
  | (j, d) :: ds, _, 0, _, _, h, e => by cases h with | cons h t => simp at e; obtain ⟨rfl, _⟩ := e; exact ⟨d, rfl⟩
  | (j, d) :: ds, _, i + 1, _, _, h, e => by cases h with | cons h t => simp at e; obtain ⟨d', q⟩ := RepsQ.getK t e; exact ⟨d', by simpa using q⟩
theorem reps_keyV {K : PySem.W.Frag} {Z : Hp} : ∀ ks : List Key, Reps K Z (ks.map kV) (ks.map keyV)
  | [] => .nil
  | k :: ks => .cons (rep_key k) (reps_keyV ks)
/-- the walk over a locked dict -/
theorem keys_walk {Z : Hp} {a : Addr} {o : Obj} {d : D} {ks : List D} (hk : keysOf d = some ks) {u : HO} (hz : Z a = some (.frz o u)) (hr : (∃ vs kvs, u = .dK vs ∧ d = .dK kvs ∧ RepsP X.K Z vs kvs) ∨ (∃ vs kvs, u = .dT vs ∧ d = .dT kvs ∧ RepsQ X.K Z vs kvs)) :
    (∃ kvs, u = .dK kvs ∧ WalkD X.K G.T (Itk a o kvs) Z ks) ∨ (∃ kvs, u = .dT kvs ∧ WalkD X.K G.T (Itkt a o kvs) Z ks) := by
  rcases hr with ⟨vs, kvs, rfl, rfl, r⟩ | ⟨vs, kvs, rfl, rfl, r⟩
  · cases hk
    refine .inl ⟨vs, rfl, fun H => H a = some (.frz o (.dK vs)), _, by rw [List.length_map, ← r.length]; exact walk_keys, fun H' s => s _ _ hz, fun i Z2 H2 x H3 hi s1 s2 n y => ?_⟩
    obtain ⟨rfl, k, v, e1, rfl⟩ := y
    obtain ⟨d, e2⟩ := r.getK e1
    exact ⟨Z2, keyV k, .refl s2 n, by rw [List.getElem?_map, e2]; rfl, rep_key k⟩
  · cases hk
    refine .inr ⟨vs, rfl, fun H => H a = some (.frz o (.dT vs)), _, by rw [List.length_map, ← r.length]; exact walk_keysT, fun H' s => s _ _ hz, fun i Z2 H2 x H3 hi s1 s2 n y => ?_⟩
    obtain ⟨rfl, k, v, q, e1, rfl, hq⟩ := y
    obtain ⟨d, e2⟩ := r.getK e1
    have eg : (kvs.map fun kd => D.tup (kd.1.map keyV))[i]? = some (.tup (k.map keyV)) := by rw [List.getElem?_map, e2]; rfl
    cases e3 : Z2 q with
    | some w =>
      have := s2 _ _ e3
      rw [hq] at this; cases this
      exact ⟨Z2, _, .refl s2 n, eg, .tup e3 (reps_keyV k)⟩
    | none =>
      refine ⟨upd Z2 q (.tup (k.map kV)), _, grow_frz s2 n e3 hq (nt_tup _) (.refl s2 n) (fun ⟨w, e, _, nu⟩ => ?_), eg, .tup upd_same (reps_keyV k)⟩
      rw [hq] at e; cases e; exact nu _ rfl
/-- the dict of a frozen slot -/
theorem dct_slot {Z0 H0 Z H : Hp} {σ : L2.St} {ρ : Env} (S : Sim X.K G.T Z0 H0 Z H σ ρ) {i : Nat} {d : D} {ks : List D} (ei : ρ[i]? = some (.im d)) (hk : keysOf d = some ks) :
    ∃ a u, σ[i]? = some (some (.ref a)) ∧ DctU u ∧ (Z a = some u ∨ ∃ o, Z a = some (.frz o u)) ∧ ((∃ vs kvs, u = .dK vs ∧ d = .dK kvs ∧ RepsP X.K Z vs kvs) ∨ (∃ vs kvs, u = .dT vs ∧ d = .dT kvs ∧ RepsQ X.K Z vs kvs)) := by
  obtain ⟨v, h1, h2⟩ := S.im ei
  cases d with
  | dK kvs => cases h2 with | @dK a vs _ q1 q2 => exact ⟨a, _, h1, .K vs, q1, .inl ⟨vs, kvs, rfl, rfl, q2⟩⟩
  | dT kvs => cases h2 with | @dT a vs _ q1 q2 => exact ⟨a, _, h1, .T vs, q1, .inr ⟨vs, kvs, rfl, rfl, q2⟩⟩
  | non => cases hk
  | bl _ => cases hk
  | int _ => cases hk
  | str _ => cases hk
  | tup _ => cases hk
  | lst _ => cases hk
  | scr _ => cases hk
def noEx : Out → Out | .ex _ => .no | .bk _ => .no | .ct _ => .no | o => o
def forDO (t : Tg) (i : Nat) (f : Env → Out) : Env → Out := fun ρ => match ρ[i]? with
  | some (.im d) => (match keysOf d with | some ks => noEx (runFor (bindT t) f ks ρ) | none => .no)
  | _ => .no
theorem ps_or {st : Stmt} {t u : TS} (h : PS X st t) (k : PS X st u) : PS X st (fun D σ H => t D σ H ∨ u D σ H) :=
  ⟨fun pins s σ H D I q => q.elim (h.run pins s σ H D I) (k.run pins s σ H D I)⟩
theorem pe_or {e : Expr} {t u : TE} (h : PE X e t) (k : PE X e u) : PE X e (fun σ H Q => t σ H Q ∨ u σ H Q) :=
  ⟨fun pins s σ H Q I q => q.elim (h.run pins s σ H Q I) (k.run pins s σ H Q I)⟩
theorem post_noEx {K : PySem.W.Frag} {o : Out} {Z0 H0 : Hp} {D : Ends} (h : PostS K G (noEx o) Z0 H0 D) : PostS K G o Z0 H0 D ∧ (∀ c, o ≠ .ex c) ∧ (∀ c, o ≠ .bk c) ∧ (∀ c, o ≠ .ct c) := by
  cases o with
  | ex c => exact h.elim
  | bk c => exact h.elim
  | ct c => exact h.elim
  | nx ρ => exact ⟨h, (fun c q => by cases q), (fun c q => by cases q), (fun c q => by cases q)⟩
  | rt d => exact ⟨h, (fun c q => by cases q), (fun c q => by cases q), (fun c q => by cases q)⟩
  | no => exact h.elim
theorem iKeys_run {Z0 H0 Z H : Hp} {σ : L2.St} {ρ : Env} (S : Sim X.K G.T Z0 H0 Z H σ ρ) {i : Nat} {a : Addr} {o : Obj} {d : D} {ks : List D} {u : HO} {Rk : It → Hp → Prop} (e1 : σ[i]? = some (some (.ref a))) (hk : keysOf d = some ks) (hz : Z a = some (.frz o u))
    (hr : (∃ vs kvs, u = .dK vs ∧ d = .dK kvs ∧ RepsP X.K Z vs kvs) ∨ (∃ vs kvs, u = .dT vs ∧ d = .dT kvs ∧ RepsQ X.K Z vs kvs)) (hR : ∀ J, WalkD X.K G.T J Z ks → Rk J H) : iKeys (tVar i) σ H Rk := by
  refine ⟨.ref a, e1, a, o, rfl, ?_⟩
  rcases keys_walk (G := G) hk hz hr with ⟨kvs, rfl, w⟩ | ⟨kvs, rfl, w⟩
  · exact .inl ⟨kvs, S.sub _ _ hz, hR _ w⟩
  · exact .inr ⟨kvs, S.sub _ _ hz, hR _ w⟩
theorem rep_re {K : PySem.W.Frag} {Z Z' : Hp} {u : HO} {d : D} (le : RdLe Z Z') (hr : (∃ vs kvs, u = .dK vs ∧ d = .dK kvs ∧ RepsP K Z vs kvs) ∨ (∃ vs kvs, u = .dT vs ∧ d = .dT kvs ∧ RepsQ K Z vs kvs)) :
    (∃ vs kvs, u = .dK vs ∧ d = .dK kvs ∧ RepsP K Z' vs kvs) ∨ (∃ vs kvs, u = .dT vs ∧ d = .dT kvs ∧ RepsQ K Z' vs kvs) := by
  rcases hr with ⟨vs, kvs, rfl, rfl, r⟩ | ⟨vs, kvs, rfl, rfl, r⟩
  · exact .inl ⟨vs, kvs, rfl, rfl, RepsP.le le _ _ r⟩
  · exact .inr ⟨vs, kvs, rfl, rfl, RepsQ.le le _ _ r⟩
theorem dens_forD {tg : Expr} {x : Str} {p1 pos : Pos} {body : List Stmt} {t : Tg} {i : Nat} {f : Env → Out} (hp : PassesOwn (model X.prog X.w) X.A X.env X.xe) (hc : X.calm = true)
    (hN : X.N[i]? = some x) (hv : Vis X.env.scope x) (hd : (x == ("__debug__" : Str)) = false) (hcd : (x == ("__classdict__" : Str)) = false) (hg : DenG X G tg t) (hb : DenB X G body f) : DenS X G (.For tg (.Name x p1) body [] pos) (forDO t i f) := by
  obtain ⟨gt, pt, qt⟩ := hg.ex
  obtain ⟨tb, pb, qb⟩ := hb.ex
  have pf : PS X (.For tg (.Name x p1) body [] pos) (tFor (iKeys (tVar i)) gt tb) := ps_for hp hc (pi_keys (pe_var hN hv hd hcd)) pt pb (fun _ => rfl)
  refine ⟨_, ps_or (ps_lock pf) pf, fun Z0 H0 Z H σ ρ D S h => ?_⟩
  unfold forDO at h
  split at h
  · rename_i d ei
    cases hk : keysOf d with
    | none => rw [hk] at h; exact h.elim
    | some ks =>
      rw [hk] at h
      obtain ⟨h, nex, nbk, nct⟩ := post_noEx (G := G) h
      obtain ⟨a, u, e1, hu, hz, hr⟩ := dct_slot S ei hk
      rcases hz with hz | ⟨o, hz⟩
      · refine .inl ⟨a, u, S.sub _ _ hz, hu.mut, fun od => ?_⟩
        obtain ⟨Hb, Sl', bk1, bk2⟩ := S.lock hu hz od
        refine iKeys_run (G := G) Sl' e1 hk upd_same (rep_re (lock_le hu hz) hr) fun J w => ?_
        refine for_run (G := G) w qt qb Sl' ?_
        cases e2 : runFor (bindT t) f ks ρ with
        | nx ρ' =>
          rw [e2] at h
          exact fun Z' H' σ' S' => ⟨(bk1 Z' H' S'.g).2.1, h _ _ σ' (bk2 Z' H' σ' ρ' S')⟩
        | rt d' =>
          rw [e2] at h
          intro v Z' H' g tb' r
          obtain ⟨q1, q2, q3, q4⟩ := bk1 Z' H' g
          exact ⟨q2, h v _ _ q3 (q4 tb') (Rep.le (unlock_le hu q1) _ _ r)⟩
        | ex c => exact absurd e2 (nex c)
        | bk c => exact absurd e2 (nbk c)
        | ct c => exact absurd e2 (nct c)
        | no => rw [e2] at h; exact h.elim
      · exact .inr (iKeys_run (G := G) S e1 hk hz hr fun J w => for_run (G := G) w qt qb S h)
  · exact h.elim
/-! [.. for k in d], d a frozen slot's dict -/
def compDE (t : Tg) (vs : List Nat) (i : Nat) (tt : Env → R Bool) (g : Env → R D) : Env → R D := fun ρ => match ρ[i]? with
  | some (.im d) => (match keysOf d with
    | some ks => compE t vs (fun _ => .ok ks) tt g ρ
    | none => .no)
  | _ => .no
section
variable {elt tg : Expr} {ifs : List Expr} {scope : Scope} {own : List (Str × Nat)} {pos p1 : Pos} {t : Tg} {tt : Env → R Bool} {g : Env → R D} {x : Str} {i : Nat}
theorem den_compD (hc : X.calm = true) (hnd : X.N.Nodup) (hN : X.N[i]? = some x) (hv : Vis X.env.scope x) (hd : (x == ("__debug__" : Str)) = false) (hcd : (x == ("__classdict__" : Str)) = false) (ok : BlkOk X.N X.env.scope scope own)
    (hg : ∀ (s : Shared) (H : Hp) (C : Addr) (cl : List (Str × Addr)) (fp : List Addr), DenG (X.blk s H scope (compEnvC scope cl C X.env) fp) G.calm tg t) (ht : ∀ (s : Shared) (H : Hp) (C : Addr) (cl : List (Str × Addr)) (fp : List Addr), DenTs (X.blk s H scope (compEnvC scope cl C X.env) fp) G.calm ifs tt)
    (he : ∀ (s : Shared) (H : Hp) (C : Addr) (cl : List (Str × Addr)) (fp : List Addr), Den (X.blk s H scope (compEnvC scope cl C X.env) fp) G.calm .c elt g)
    (hvs : ∀ j ∈ t.slots, j ∈ own.map (·.2)) : Den X G .f (.ListComp elt [⟨tg, .Name x p1, ifs, 0⟩] scope pos) (compDE t (own.map (·.2)) i tt g) := by
  have pc : PE X (.ListComp elt [⟨tg, .Name x p1, ifs, 0⟩] scope pos) (tLc (iKeys (tVar i)) (gDen X.K G.calm t) (tDenT X.K G.calm tt) (tDen X.K G.calm .c g) (own.map (·.2))) :=
    pe_lc hc hnd (pi_keys (pe_var hN hv hd hcd)) ok (fun s H C cl fp => (hg s H C cl fp).can) (fun s H C cl fp => (ht s H C cl fp).can) (fun s H C cl fp => (he s H C cl fp).can) (fun _ => rfl)
  refine ⟨_, pe_or (pe_lock pc) pc, fun Z0 H0 Z H σ ρ Q S h => ?_⟩
  unfold compDE at h
  split at h
  · rename_i d ei
    cases hk : keysOf d with
    | none => rw [hk] at h; exact h.elim
    | some ks =>
      rw [hk] at h
      dsimp only at h
      unfold compE at h
      dsimp only at h
      split at h
      · rename_i hl
        cases e2 : runComp (bindT t) tt g (wipeE ρ (own.map (·.2))) ks with
        | ex c => rw [e2] at h; exact h.elim
        | no => rw [e2] at h; exact h.elim
        | ok r =>
          rw [e2] at h
          obtain ⟨a, u, e1, hu, hz, hr⟩ := dct_slot S ei hk
          rcases hz with hz | ⟨o, hz⟩
          · refine .inl ⟨a, u, S.sub _ _ hz, hu.mut, fun od => ?_⟩
            obtain ⟨Hb, Sl', bk1, bk2⟩ := S.base.lock hu hz od
            refine iKeys_run (G := G) Sl' e1 hk upd_same (rep_re (lock_le hu hz) hr) fun J w Dl hD => ?_
            refine comp_run (G := G) (Q := fun v H' => H' a = some (.frz od u) ∧ Q v (upd H' a u)) w Sl' hD hl hvs e2 fun Z' H' g' ⟨acc, ha, hra⟩ hzD => ?_
            obtain ⟨q1, q2, q3, q4⟩ := bk1 Z' H' (Sl'.g.trans g')
            have hDa : Dl ≠ a := fun q => by rw [q, upd_same] at hD; cases hD
            refine ⟨q2, ?_⟩
            have hD0 : H Dl = none := by rw [upd_ne hDa] at hD; exact hD
            have gz : Grow G.T Z H (upd Z' a u) (upd H' a u) := by
              refine ⟨q3.z, fun b o e nt => ?_, q3.s, q3.n, fun b hb pb => ?_, fun _ => q4 (g'.t Sl'.tabs)⟩
              · by_cases hb : b = a
                · subst hb; rw [S.sub _ _ hz] at e; cases e; exact upd_same
                · rw [upd_ne hb]; exact g'.h b o (by rw [upd_ne hb]; exact e) nt
              · have hba : b ≠ a := fun q => by rw [q, hz] at hb; cases hb
                rw [upd_ne hba]
                obtain ⟨o, eo, nt, nu⟩ := pb
                exact g'.p b (by rw [upd_ne hba]; exact hb) ⟨o, by rw [upd_ne hba]; exact eo, nt, nu⟩
            exact h _ _ _ gz ⟨Dl, rfl, .lst (by rw [upd_ne hDa]; exact ha) (Reps.le (unlock_le hu q1) _ _ hra), by rw [upd_ne hDa]; exact hzD, nprot_none hD0⟩
          · refine .inr (iKeys_run (G := G) S e1 hk hz hr fun J w Dl hD => ?_)
            refine comp_run (G := G) w S hD hl hvs e2 fun Z' H' g' ⟨acc, ha, hra⟩ hzD => ?_
            exact h _ Z' H' g' ⟨Dl, rfl, .lst ha hra, hzD, nprot_none hD⟩
      · exact h.elim
  · exact h.elim
end
end
end VS

set_option Elab.async false
set_option linter.all false
set_option maxRecDepth 100000
set_option maxHeartbeats 2000000
/-! VS12: sorted of lists, of sets made of lists. -/
namespace VS
open PySem L2 LamX
/-! ### sorted(list) of any data that can be set in order -/
def encB (b : V × D) : PyData := toPy b.2
def leD (d e : D) : Bool := PySem.W.dataLe false toPy d e
def srtL (ds : List D) : List D := ds.mergeSort leD
def tupCons : PyData → Bool | .tuple (_ :: _) => true | _ => false
def noTupNon : PyData → Bool | .tuple _ => false | .none => false | _ => true
def okSort (ds : List D) : Bool := ds.all shp && (ds.all fun d => decide ((toPy d).depth ≤ 100)) && (ds.all fun d => ds.all fun e => PySem.W.alike (toPy d) (toPy e)) && ((ds.all fun d => tupCons (toPy d)) || ds.all fun d => noTupNon (toPy d))
def RV (v : Value) (b : V × D) : Prop := RelV b.1 v
theorem each_of : ∀ {bs : List (V × D)} {us : List Value}, Vals (bs.map (·.1)) us → PySem.W.EachIs RV us bs
  | [], _, h => by cases h; exact .nil
  | b :: bs, _, h => by cases h with | cons r t => exact .cons r (each_of t)
theorem of_each : ∀ {bs : List (V × D)} {us : List Value}, PySem.W.EachIs RV us bs → Vals (bs.map (·.1)) us
  | [], _, h => by cases h; exact .nil
  | b :: bs, _, h => by cases h with | cons r t => exact .cons r (of_each t)
def rSortD (K : PySem.W.Frag) : List V → Hp → VK → Prop := fun vs H Q => ∃ (a : Addr) (bs : List (V × D)), vs = [V.ref a] ∧ SqL K H a (bs.map (·.1)) ∧ (∀ b ∈ bs, Dp K H b.1 (toPy b.2)) ∧ okSort (bs.map (·.2)) = true ∧
  ∀ p, H p = none → Q (.ref p) (upd H p (.lst ((bs.mergeSort fun b c => leD b.2 c.2).map (·.1))))
theorem okSort_alike {ds : List D} (h : okSort ds = true) : PySem.W.AllAlike (ds.map toPy) := by
  unfold okSort at h
  simp only [Bool.and_eq_true, Bool.or_eq_true, List.all_eq_true] at h
  intro d hd e he
  obtain ⟨d', h1, rfl⟩ := List.mem_map.mp hd
  obtain ⟨e', h2, rfl⟩ := List.mem_map.mp he
  exact h.1.2 d' h1 e' h2
theorem okSort_sortable {ds : List D} (h : okSort ds = true) : PySem.W.Sortable (ds.map toPy) := by
  unfold okSort at h
  simp only [Bool.and_eq_true, Bool.or_eq_true, List.all_eq_true] at h
  rcases h.2 with q | q
  · refine .inl fun d hd => ?_
    obtain ⟨d', h1, rfl⟩ := List.mem_map.mp hd
    have := q d' h1
    unfold tupCons at this
    split at this
    · rename_i e; exact ⟨_, _, e⟩
    · cases this
  · refine .inr fun d hd => ?_
    obtain ⟨d', h1, rfl⟩ := List.mem_map.mp hd
    have := q d' h1
    unfold noTupNon at this
    split at this
    · cases this
    · cases this
    · rename_i e1 e2; exact ⟨e2, fun xs q => e1 xs q⟩
theorem okSort_shp {ds : List D} (h : okSort ds = true) : ∀ d ∈ ds, (toPy d).canLay0 = true ∧ (toPy d).depth ≤ 100 := by
  unfold okSort at h
  simp only [Bool.and_eq_true, Bool.or_eq_true, List.all_eq_true] at h
  exact fun d hd => ⟨(shp_iff (h.1.1.1 d hd)).1, of_decide_eq_true (h.1.1.2 d hd)⟩
section
variable {X : Cx} {G : Wh}
theorem cr_sortD (hu : X.A.units + 200 < cLine) : CallR X (.builtin "sorted") (rSortD X.K) := by
  intro pins s σ H vs us Q I r h
  obtain ⟨a, bs, rfl, hs, hdp, hok, q⟩ := h
  obtain ⟨its, rv, hl, hz⟩ := I.list hs
  rw [Vals.ref1 r]
  have e := each_of rv
  have em : (bs.map encB) = (bs.map (·.2)).map toPy := by rw [List.map_map]; rfl
  have er : PySem.W.EachIs (fun v b => ∃ as, PySem.Reads s.heap v (encB b) as) its bs := by
    refine (PySem.W.each_mem e).mono fun v b ⟨rb, hb⟩ => ?_
    exact Dp.reads I _ _ _ (hdp b hb) rb
  refine PySem.W.sorted_data hl.isList e er (by rw [em]; exact okSort_alike hok) (by rw [em]; exact okSort_sortable hok) (by rw [← List.length_map (f := Prod.fst)]; exact hz) (fun b hb => ?_) fun out ho h2 => ?_
  · have := (okSort_shp hok b.2 (List.mem_map.mpr ⟨b, hb, rfl⟩)).2
    show X.A.units + 2 + (toPy b.2).depth < cLine
    omega
  · have hv := of_each h2
    obtain ⟨ep, he'⟩ := PyProof.Rows.sortedAll_at s.heap its out.toArray
    have hlen : ((bs.mergeSort (PySem.W.dataLe false encB)).map (·.1)).length ≤ sizeLine := by
      rw [List.length_map, List.length_mergeSort]
      rw [List.length_map] at hz
      exact hz
    exact ⟨.ref _, upd H (s.heap.objs.size + 1) (.lst ((bs.mergeSort (PySem.W.dataLe false encB)).map (·.1))), I.laid (t' := s.toks) (fun _ _ => PyProof.Rows.sortedAll_old) (Nat.le_succ _) ⟨hlen, out, ep, hv, he'⟩, rfl, q _ (I.hok.fresh (Nat.le_succ _))⟩
def sortD : List D → R D | [.lst ds] => (if okSort ds then .ok (.lst (srtL ds)) else .no) | _ => .no
theorem reps_zip {K : PySem.W.Frag} {Z : Hp} : ∀ {vs : List V} {ds : List D}, Reps K Z vs ds → ∃ bs : List (V × D), bs.map (·.1) = vs ∧ bs.map (·.2) = ds ∧ ∀ b ∈ bs, Rep K Z b.1 b.2
  | _, _, .nil => ⟨[], rfl, rfl, fun b h => by cases h⟩
  | _, _, .cons h t => by
    obtain ⟨bs, h1, h2, h3⟩ := reps_zip t
    exact ⟨(_, _) :: bs, by rw [List.map_cons, h1], by rw [List.map_cons, h2], fun b hb => by
      rcases List.mem_cons.mp hb with rfl | hb
      · exact h
      · exact h3 b hb⟩
theorem zip_reps {K : PySem.W.Frag} {Z : Hp} : ∀ {bs : List (V × D)}, (∀ b ∈ bs, Rep K Z b.1 b.2) → Reps K Z (bs.map (·.1)) (bs.map (·.2))
  | [], _ => .nil
  | b :: bs, h => .cons (h b List.mem_cons_self) (zip_reps fun c hc => h c (List.mem_cons_of_mem _ hc))
theorem ad_sort {K : PySem.W.Frag} : ADen K G (rSortD K) .t .f sortD := by
  intro vs ds Z H Q s n f h
  unfold sortD at h
  split at h
  · split at h
    · rename_i ds hok
      obtain ⟨v, rfl, fv⟩ := fins1 f
      obtain ⟨a, us, rfl, hh, r⟩ := now_lst s fv
      obtain ⟨bs, rfl, rfl, hb⟩ := reps_zip r
      refine ⟨a, bs, rfl, SqL.of hh, fun b hbm => ?_, hok, fun p hp => ?_⟩
      · exact Rep.dp _ _ (okSort_shp hok b.2 (List.mem_map.mpr ⟨b, hbm, rfl⟩)).1 (Rep.le s.le _ _ (hb b hbm))
      · have e : srtL (bs.map (·.2)) = (bs.mergeSort fun b c => leD b.2 c.2).map (·.2) := by
          unfold srtL
          exact (List.map_mergeSort (r := fun b c : V × D => leD b.2 c.2) (s := leD) (f := fun b : V × D => b.2) (fun _ _ _ _ => rfl)).symm
        rw [e] at h
        exact ansL s n h (zip_reps fun b hb' => hb b (List.mem_mergeSort.mp hb')) p hp
    · exact h.elim
  · exact h.elim
end
end VS

set_option Elab.async false
set_option linter.all false
set_option maxRecDepth 100000
set_option maxHeartbeats 4000000
/-! VS13: sets of ints and texts made of a list, sorted. -/
namespace VS
open PySem PySem.Spec PyProof.Rows L2 LamX

def kOf (e : Int × Value) : Key := match e.2 with | .int k _ => .inl k | .str x _ => .inr x | _ => .inl 0
def KE1 (w : World) (e : Int × Value) : Prop := RelV (kV (kOf e)) e.2 ∧ e.1 = keyH w (kOf e)
theorem kOf_rel {k : Key} {v : Value} (h : Int) (r : RelV (kV k) v) : kOf (h, v) = k := by
  cases k with
  | inl i => obtain ⟨t, rfl⟩ := r; rfl
  | inr x => obtain ⟨t, rfl⟩ := r; rfl
/-- a set's table: its keys in ks, its order to be asked -/
def SetQ (w : World) (h : Heap) (a : Addr) (ks : List Key) : Prop :=
  ∃ o es ep t, h.get? a = some o ∧ o.ExactSet ∧ o.data = .set es ep t ∧ (∀ e ∈ es.toList, KE1 w e) ∧ (es.toList.map kOf).Perm ks ∧ ks.Nodup ∧
    es.size < scanBound ∧ t.fits es.size = true ∧ Ris t.place.toList ∧ (w.params.followText "set-order" = true ∨ t.led = true)
theorem SetQ.keep {w : World} {h h' : Heap} {a : Addr} {ks : List Key} (R : SetQ w h a ks) (k : ∀ o, h.get? a = some o → h'.get? a = some o) : SetQ w h' a ks := by
  obtain ⟨o, es, ep, t, ho, r⟩ := R; exact ⟨o, es, ep, t, k o ho, r⟩
theorem SetQ.perm {w : World} {h : Heap} {a : Addr} {ks ks' : List Key} (R : SetQ w h a ks) (p : ks.Perm ks') : SetQ w h a ks' := by
  obtain ⟨o, es, ep, t, ho, hx, hd, g, pk, nd, r⟩ := R; exact ⟨o, es, ep, t, ho, hx, hd, g, pk.trans p, p.nodup_iff.mp nd, r⟩
section
variable {P : Program} {w : World} {A : Around} {E : Value → Shared → Prop} {s : Shared} {a : Addr} {ks : List Key}
theorem ke_elems {l : List (Int × Value)} (g : ∀ e ∈ l, KE1 w e) : ElemsOf (mixKind P w) l := fun e he => ⟨⟨kOf e, kV_is (g e he).1, (g e he).2⟩, key_scan (g e he).1⟩
theorem ke_is {e : Int × Value} (g : KE1 w e) (k : Key) : (mixKind P w).is k e.2 = true ↔ kOf e = k := by
  constructor
  · intro h; exact (mixKind P w).inj _ _ _ (kV_is g.1) h
  · rintro rfl; exact kV_is g.1
theorem ke_mem {l : List (Int × Value)} (g : ∀ e ∈ l, KE1 w e) (k : Key) : k ∈ l.map kOf ↔ ∃ e ∈ l, (mixKind P w).is k e.2 = true := by
  rw [List.mem_map]
  exact ⟨fun ⟨e, he, q⟩ => ⟨e, he, (ke_is (g e he) k).2 q⟩, fun ⟨e, he, q⟩ => ⟨e, he, (ke_is (g e he) k).1 q⟩⟩
theorem putTail {g : Bool → Sem Unit} (hg : ∀ (b : Bool) (z : Shared) (Q' : Unit → Shared → Prop), Q' () z → wpAny (model P w) A (g b) Q' E z)
    {o : Obj} {es : Array (Int × Value)} {ep : Nat} {t : SetTable} (ho : s.heap.get? a = some o) (hex : o.ExactSet) (hd : o.data = .set es ep t)
    {fs : Array (Int × Value)} {t2 : SetTable} (g1 : ∀ e ∈ fs.toList, KE1 w e) (m1 : (fs.toList.map kOf).Perm ks) (nd1 : ks.Nodup)
    (hb1 : fs.size < scanBound) (hf2 : t2.fits fs.size = true) (hr : Ris t2.place.toList) (hl : w.params.followText "set-order" = true ∨ t2.led = true) {dm : Bool} {R : Option Bool → Shared → Prop}
    (hR : ∀ h', Heap.SameBut a s.heap h' → SetQ w h' a ks → R (some true) { s with heap := h' }) :
    wpAny (model P w) A (do storeSet a fs t2
                            if (!dm && t2.tooFull) = true then do g (relayAll t2 fs (SetTable.grown fs.size)).2.2
                                                                  storeSet a (relayAll t2 fs (SetTable.grown fs.size)).1 (relayAll t2 fs (SetTable.grown fs.size)).2.1
                                                                  pure (some true)
                              else pure (some true)) R E s := by
  refine wpAny_bind (wpAny_storeSet_of ho hd ?_ (fits_of_scanBound hb1))
  have at1 := store_at (es' := fs) (t' := t2) ho hd
  have same1 := Heap.SameBut.update s.heap a (Obj.putSet fs t2)
  split
  · have pm := relayAll_perm t2 fs (SetTable.grown fs.size)
    have fit3 := relayAll_fits t2 fs (SetTable.grown fs.size)
    have ris3 := relayAll_ris t2 fs (SetTable.grown fs.size)
    have led3 := relayAll_led t2 fs (SetTable.grown fs.size)
    generalize relayAll t2 fs (SetTable.grown fs.size) = Y at pm fit3 ris3 led3 ⊢
    obtain ⟨gs, t3, gave⟩ := Y
    dsimp only at pm fit3 ris3 led3 ⊢
    have sz : gs.size = fs.size := by rw [← Array.length_toList, pm.length_eq, Array.length_toList]
    have hb2 : gs.size < scanBound := by rw [sz]; exact hb1
    refine wpAny_bind (hg _ _ _ ?_)
    refine wpAny_bind (wpAny_storeSet_of at1 rfl ?_ (fits_of_scanBound hb2))
    refine wpAny_pure (hR _ (same1.trans (Heap.SameBut.update _ a _)) ?_)
    exact ⟨_, gs, _, t3, store_at (es' := gs) (t' := t3) at1 rfl, hex, rfl, fun e he => g1 e (pm.mem_iff.mp he), (pm.map kOf).trans m1, nd1, hb2, fit3, ris3, hl.imp id fun z => by rw [led3]; exact z⟩
  · exact wpAny_pure (hR _ same1 ⟨_, fs, _, t2, at1, hex, rfl, g1, m1, nd1, hb1, hf2, hr, hl⟩)

def hasK (ks : List Key) (k : Key) : Bool := ks.any fun j => decide (j = k)
theorem hasK_iff {ks : List Key} {k : Key} : hasK ks k = true ↔ k ∈ ks := by
  unfold hasK
  rw [List.any_eq_true]
  exact ⟨fun ⟨x, h, e⟩ => of_decide_eq_true e ▸ h, fun h => ⟨k, h, decide_eq_true rfl⟩⟩
def insK (ks : List Key) (k : Key) : List Key := if hasK ks k then ks else k :: ks
theorem putHashed {k : Key} {v : Value} {Q : Bool → Shared → Prop} (R : SetQ w s.heap a ks) (rv : RelV (kV k) v) (room : ks.length + 1 < scanBound)
    (hQ : ∀ h' b, Heap.SameBut a s.heap h' → SetQ w h' a (insK ks k) → Q b { s with heap := h' }) :
    wpAny (model P w) A (setAddHashed a v ((mixKind P w).hash k)) Q E s := by
  obtain ⟨o, es, ep, t, ho, hex, hd, g, pk, nd, hb, hf, hr, hl⟩ := R
  have key1 : (mixKind P w).is k v = true := kV_is rv
  have scan1 : v.scannable = true := key_scan rv
  have hel : ElemsOf (mixKind P w) es.toList := ke_elems g
  have hn : es.size = ks.length := by rw [← pk.length_eq, List.length_map, Array.length_toList]
  unfold setAddHashed setAddHashedIn
  refine wpAny_holding (wpAny_bind (wpAny_setState_of ho hd hf ?_))
  dsimp only
  rw [byScan_of scan1 hb hel]
  simp only [↓reduceIte]
  unfold setAddByScan
  refine wpAny_bind ?_
  refine wpAny_bind (wpAny_rule ?_)
  refine wpAny_bind (wpAny_setScan_of key1 ho hd hf hel ?_)
  cases hfi : List.findIdx? (fun e => (mixKind P w).is k e.2) es.toList with
  | some j =>
    dsimp only
    obtain ⟨hj, pj, _⟩ := List.findIdx?_eq_some_iff_getElem.mp hfi
    have mem : k ∈ ks := pk.mem_iff.mp ((ke_mem (P := P) g k).2 ⟨es.toList[j], List.getElem_mem hj, pj⟩)
    refine wpAny_pure (wpAny_pure ?_)
    refine hQ s.heap _ (Heap.SameBut.refl a s.heap) ?_
    unfold insK
    rw [if_pos (hasK_iff.mpr mem)]
    exact ⟨o, es, ep, t, ho, hex, hd, g, pk, nd, hb, hf, hr, hl⟩
  | none =>
    dsimp only
    have nmem : k ∉ ks := fun z => by
      obtain ⟨e, he, q⟩ := (ke_mem (P := P) g k).1 (pk.mem_iff.mpr z)
      have c := List.findIdx?_eq_none_iff.mp hfi e he
      rw [q] at c; cases c
    have gw : ∀ (b : Bool) {z : Shared} {Q' : Unit → Shared → Prop}, Q' () z → wpAny (model P w) A (match b with | true => rule "set.scan.the-table-gave-way" | false => pure ()) Q' E z :=
      fun b z Q' q => by cases b <;> first | exact wpAny_pure q | exact wpAny_rule q
    have pm := layNew_perm t es ((mixKind P w).hash k) v
    have fit1 := layNew_fits t es ((mixKind P w).hash k) v
    have ris1 := layNew_ris t es ((mixKind P w).hash k) v hr
    have led1 := layNew_led t es ((mixKind P w).hash k) v
    generalize layNew t es ((mixKind P w).hash k) v = Y at pm fit1 ris1 led1 ⊢
    obtain ⟨fs, t1, dm, gave⟩ := Y
    dsimp only at pm fit1 ris1 led1 ⊢
    rw [Array.toList_push] at pm
    have pc : fs.toList.Perm (((mixKind P w).hash k, v) :: es.toList) := pm.trans (List.perm_append_singleton _ _)
    have kk : kOf ((mixKind P w).hash k, v) = k := kOf_rel _ rv
    have g1 : ∀ e ∈ fs.toList, KE1 w e := fun e he => by
      rcases List.mem_cons.mp (pc.mem_iff.mp he) with z | z
      · rw [z]; exact ⟨by rw [kk]; exact rv, by rw [kk]; rfl⟩
      · exact g e z
    have pk1 : (fs.toList.map kOf).Perm (k :: ks) := by
      have := pc.map kOf
      rw [List.map_cons, kk] at this
      exact this.trans (pk.cons k)
    have nd1 : (k :: ks).Nodup := List.nodup_cons.mpr ⟨nmem, nd⟩
    have sz : fs.size = ks.length + 1 := by rw [← Array.length_toList, pc.length_eq, List.length_cons, Array.length_toList, hn]
    have hb1 : fs.size < scanBound := by rw [sz]; exact room
    have hled : w.params.followText "set-order" = true ∨ t1.led = true := hl.imp id fun z => by rw [led1]; exact z
    have done : ∀ h', Heap.SameBut a s.heap h' → SetQ w h' a (k :: ks) → Q true { s with heap := h' } := fun h' sb r => hQ h' _ sb (by unfold insK; rw [if_neg (fun z => nmem (hasK_iff.mp z))]; exact r)
    refine wpAny_bind (gw _ ?_)
    split
    · refine wpAny_bind ?_
      rw [hashByValue_scannable 8 scan1]
      refine wpAny_pure ?_
      refine putTail ?_ ho hex hd g1 pk1 nd1 hb1 ?_ ?_ ?_ ?_
      · intro b z Q' q; cases b <;> first | exact wpAny_pure q | exact wpAny_rule q
      · first | (split <;> first | exact fit1 | exact SetTable.fits_plain_off fit1) | exact fit1
      · first | (split <;> exact ris1) | exact ris1
      · first | (split <;> exact hled) | exact hled
      · intro h' sb r; dsimp only; exact wpAny_pure (done h' sb r)
    · refine wpAny_bind (wpAny_pure ?_)
      simp only [↓reduceIte]
      refine putTail ?_ ho hex hd g1 pk1 nd1 hb1 fit1 ris1 hled ?_
      · intro b z Q' q; cases b <;> first | exact wpAny_pure q | exact wpAny_rule q
      · intro h' sb r; dsimp only; exact wpAny_pure (done h' sb r)
end

def newSetO (w : World) : Obj := { cls := .type "set", dict := none, data := .set #[] 0 (.fresh 0 0 (!w.params.followText "set-order")) }
theorem newSetQ {w : World} {h : Heap} {a : Addr} (ho : h.get? a = some (newSetO w)) : SetQ w h a [] :=
  ⟨_, #[], 0, _, ho, ⟨rfl, rfl, rfl⟩, rfl, (fun e he => by simp at he), (by simp), List.nodup_nil, (by decide), (by rfl), List.Pairwise.nil, by
    show _ ∨ (!w.params.followText "set-order") = true
    cases w.params.followText "set-order" <;> first | exact .inl rfl | exact .inr rfl⟩
theorem insK_len (ks : List Key) (k : Key) : (insK ks k).length ≤ ks.length + 1 := by
  unfold insK; split <;> simp
section
variable {P : Program} {w : World} {A : Around} {E : Value → Shared → Prop} {s : Shared}
theorem updKeys {I : Addr} {fp wr : List Addr} {G : Array GenState → Array GenState → Prop} {n : Nat} {Pv : Nat → Value → Prop} {St : Nat → Shared → Prop} {R : Result → Shared → Prop}
    (W : WalksS P w A.in1 I fp wr G n Pv St) (S : Addr) (hSf : S ∉ fp) (ks : List Key) (hn : n = ks.length) (room : ks.length + 1 < scanBound) (hval : ∀ i v, Pv i v → ∃ k, ks[i]? = some k ∧ RelV (kV k) v) :
    ∀ (m i : Nat) (s : Shared), n - i = m → i ≤ n → St i s → SetQ w s.heap S ((ks.take i).foldl insK []) → ((ks.take i).foldl insK []).length ≤ i →
      (∀ z, Moved (S :: wr) G s z → SetQ w z.heap S (ks.foldl insK []) → R (.ok (.ret .none)) z) → codeAny (model P w) A (.builtin "set.update.loop" ⟨[.ref S, .ref I], []⟩) R s := by
  have hSw : S ∉ wr := fun h => hSf (W.sub _ h)
  have sub1 : ∀ b ∈ wr, b ∈ S :: wr := fun b hb => List.mem_cons_of_mem _ hb
  intro m
  induction m with
  | zero =>
    intro i s hm hi hst hS hle hR
    obtain rfl : i = n := by omega
    refine codeAny_builtin F.entry_set_update_loop ?_
    rw [Around.under_plainId F.plain_set_update_loop _]
    show wpAny _ A.in1 (pyNext (.ref I) >>= _) _ _ s
    refine wpAny_bind (W.done s _ _ hst fun z hz => ?_)
    show wpAny _ A.in1 (ret Value.none) _ _ z
    rw [List.take_of_length_le (by omega)] at hS
    exact wpAny_pure (hR z (hz.mono sub1) (hS.keep fun o e => hz.heap S o hSw e))
  | succ m ih =>
    intro i s hm hi hst hS hle hR
    have lt : i < n := by omega
    refine codeAny_builtin F.entry_set_update_loop ?_
    rw [Around.under_plainId F.plain_set_update_loop _]
    show wpAny _ A.in1 (pyNext (.ref I) >>= _) _ _ s
    refine wpAny_bind (W.item i s _ _ lt hst fun v z hP hst' hz => ?_)
    obtain ⟨k, hk, rv⟩ := hval i v hP
    have hS1 : SetQ w z.heap S ((ks.take i).foldl insK []) := hS.keep fun o e => hz.heap S o hSw e
    have nx : (ks.take (i + 1)).foldl insK [] = insK ((ks.take i).foldl insK []) k := by rw [List.take_add_one, hk, List.foldl_append]; rfl
    show wpAny _ A.in1 (holding [v] (setAdd S v) >>= _) _ _ z
    refine wpAny_bind (wpAny_holding ?_)
    unfold setAdd
    refine wpAny_holding ?_
    refine wpAny_bind ((mixKind P w).pyHash (k := k) (kV_is rv) ?_)
    refine putHashed (s := { z with toks := z.toks + 1 }) hS1 rv (by omega) fun h' b sb hS2 => ?_
    rw [← nx] at hS2
    have hle2 : ((ks.take (i + 1)).foldl insK []).length ≤ i + 1 := by
      rw [nx]
      have := insK_len ((ks.take i).foldl insK []) k
      omega
    refine wpAny_pure ⟨plainId_quiet F.plain_set_update_loop _, ih (i + 1) _ (by omega) lt (W.frame _ z _ _ hst' (Nat.le_succ _) fun b hb o e => ?_) hS2 hle2 fun z2 hm2 hq => ?_⟩
    · rw [sb.2 b (fun h : b = S => hSf (by rw [← h]; exact hb))]; exact e
    · refine hR z2 (Moved.trans W.gtrans ((hz.mono sub1).then_heap (Nat.le_succ _) fun b o hb e => ?_) hm2) hq
      rw [sb.2 b (fun h : b = S => hb (by rw [h]; exact List.mem_cons_self))]; exact e
theorem vals_at {ks : List Key} {us : List Value} (r : Vals (ks.map kV) us) {i : Nat} {v : Value} (h : us[i]? = some v) : ∃ k, ks[i]? = some k ∧ RelV (kV k) v := by
  induction ks generalizing us i with
  | nil => cases r; simp at h
  | cons k ks ih =>
    cases r with
    | cons r1 r2 =>
      cases i with
      | zero => simp at h; subst h; exact ⟨k, rfl, r1⟩
      | succ i => simp at h; obtain ⟨k', h1, h2⟩ := ih r2 h; exact ⟨k', by simpa using h1, h2⟩
theorem callSet {l : Addr} {items : Array Value} (ks : List Key) {Q : Value → Shared → Prop} (hh : A.handled = none) (hl : s.heap.IsList l items) (hv : Vals (ks.map kV) items.toList) (room : ks.length + 1 < scanBound)
    (h : ∀ (h' : Heap) (tk : Nat), SetQ w h' s.heap.objs.size (ks.foldl insK []) → (∀ b o, s.heap.get? b = some o → h'.get? b = some o) → Q (.ref s.heap.objs.size) { s with heap := h', toks := tk }) :
    wpAny (model P w) A (call (.type "set") [.ref l]) Q E s := by
  have sz : items.size = ks.length := by rw [← Array.length_toList, ← hv.length, List.length_map]
  obtain ⟨c0, tl0, mro0⟩ := F.called_set.mro
  have made0 := F.called_set.made
  have sub0 := F.called_set.sub
  refine wpAny_call (codeAny_of_tree ?_)
  show wpAny _ _ (callAny (.type "set") _) _ _ _
  refine wpAny_pure ⟨Code.quiet_builtin _ (by decide +kernel), codeAny_builtin F.entry_type_call ?_⟩
  rw [Around.under_plain (weight_type_call_type "set" [.ref l] []) rfl]
  have n0 := F.called_set.notType
  have n1 := F.called_set.canCreate
  have n2 := F.typeCall_set_1 (.ref l)
  repeat (any_goals (first | assumption | wp_step))
  refine codeAny_mono (code_set_led1 (.ref l) (E := E) (Q₁ := fun obj s₁ => obj = .ref s.heap.objs.size ∧ s₁ = { s with heap := s.heap.push (newSetO w) }) ⟨rfl, rfl⟩) fun r s₁ hr => ?_
  cases r with
  | error e => exact hr
  | ok fl =>
    cases fl with
    | ret obj =>
      obtain ⟨rfl, rfl⟩ := hr
      have hS : (s.heap.push (newSetO w)).get? s.heap.objs.size = some (newSetO w) := Heap.get?_push_size _ rfl
      have hT : Shared.TypeIs { s with heap := s.heap.push (newSetO w) } (.ref s.heap.objs.size) "set" := ⟨_, hS, rfl⟩
      have i0 := F.called_set.init.lookup
      have i1 := F.called_set.init.bind (.ref s.heap.objs.size)
      repeat (any_goals (first | assumption | wp_step))
      refine codeAny_mono (codeAny_call_builtin (R := wants (fun r s₂ => r = .none ∧ ∃ h' tk, s₂ = { s with heap := h', toks := tk } ∧ SetQ w h' s.heap.objs.size (ks.foldl insK []) ∧
          (∀ b o, s.heap.get? b = some o → h'.get? b = some o)) E) F.called_set.init.plain F.entry_set_init (check_set_init_1 hT ?_)) fun r₂ s₂ hr₂ => ?_
      · obtain ⟨ol, hol, hcl, nl, hdl⟩ := hl
        obtain ⟨c1, c2, c3, c4⟩ := ol
        simp only at hcl hdl
        subst hcl hdl
        have hol' : (s.heap.push (newSetO w)).get? l = some { cls := .type "list", dict := c2, data := .seq items nl, slots := c4 } := Heap.get?_push_of_some _ hol
        have t1 := F.sub_list_set
        have t2 := F.sub_list_frozenset
        have t3 : (Value.type "list" == Value.type "dict") = false := by decide
        have hl1 : (s.heap.push (newSetO w)).IsList l items := ⟨_, hol', rfl, nl, rfl⟩
        unfold Builtin.«set.__init__» noKeywords Builtin.Frozenset.updateFrom
        generalize hPI : pyIter = PI
        wp_walk
        subst hPI
        refine wpAny_pyIter_list hl1 ?_
        refine wpAny_bind (wpAny_runValue ?_)
        have hlS : l < s.heap.objs.size := Heap.lt_size hol
        have hh3 : A.in1.in1.in1.handled = none := by simp [hh]
        have hneI : l ≠ (s.heap.push (newSetO w)).objs.size := by
          rw [Heap.size_push]; exact Nat.ne_of_lt (Nat.lt_succ_of_lt hlS)
        have hSf : s.heap.objs.size ∉ [(s.heap.push (newSetO w)).objs.size, l] := by
          rw [Heap.size_push]; simp only [List.mem_cons, List.mem_singleton, List.not_mem_nil, or_false, not_or]
          exact ⟨Nat.ne_of_lt (Nat.lt_succ_self _), Nat.ne_of_gt hlS⟩
        have hval : ∀ (i : Nat) (v : Value), items[i]? = some v → ∃ k, ks[i]? = some k ∧ RelV (kV k) v := fun i v e => vals_at hv (by rw [Array.getElem?_toList]; exact e)
        refine updKeys ((Walks.list hh3 _ l hneI items).toS) s.heap.objs.size hSf ks sz room hval (items.size - 0) 0 _ (by omega) (Nat.zero_le _) ⟨⟨_, Heap.get?_push_size _ rfl, rfl, rfl⟩, (hl1.push _)⟩ ?hS0 (by simp) ?hR
        case hS0 =>
          exact newSetQ (Heap.get?_push_of_some _ hS)
        case hR =>
          intro z hm hS'
          obtain ⟨h', g2, d', tk', os'⟩ := z
          have eg : g2 = s.gens := hm.gens
          have ed : d' = s.drawn := hm.drawn
          have eo : os' = s.os := hm.os
          subst eg ed eo
          show wpAny _ _ _ _ _ _
          refine wpAny_pure ?_
          show wpAny _ _ (ret Value.none) _ _ _
          refine wpAny_pure ⟨rfl, h', tk', rfl, hS', fun b o e => ?_⟩
          have hb0 : b < s.heap.objs.size := Heap.lt_size e
          have hb2 : b ≠ (s.heap.push (newSetO w)).objs.size := by
            rw [Heap.size_push]; exact Nat.ne_of_lt (Nat.lt_succ_of_lt hb0)
          exact hm.heap b o (by simp only [List.mem_cons, List.mem_singleton, List.not_mem_nil, or_false, not_or]; exact ⟨Nat.ne_of_lt hb0, hb2⟩) (Heap.get?_push_of_some _ (Heap.get?_push_of_some _ e))
      · cases r₂ with
        | error e => exact hr₂
        | ok fl₂ =>
          cases fl₂ with
          | ret r =>
            obtain ⟨rfl, h', tk, rfl, hS', hk'⟩ := hr₂
            repeat (any_goals (first | assumption | wp_step))
            exact h _ _ hS' hk'
          | _ => exact hr₂.elim
    | _ => exact hr.elim
end
end VS

set_option Elab.async false
set_option linter.all false
set_option maxRecDepth 100000
set_option maxHeartbeats 4000000
/-! VS14: sorted(set(list)), sorted(dict), raise. -/
namespace VS
open PySem PySem.Spec PyProof.Rows L2 LamX

/-! ### keys in order -/
def leK : Key → Key → Bool
  | .inl i, .inl j => decide (i ≤ j) | .inr x, .inr y => decide (x.cps.toList ≤ y.cps.toList) | .inl _, .inr _ => true | .inr _, .inl _ => false
theorem leK_trans : ∀ a b c : Key, leK a b = true → leK b c = true → leK a c = true
  | .inl i, .inl j, .inl k, h, q => by simp [leK] at *; omega
  | .inr x, .inr y, .inr z, h, q => by simp only [leK, decide_eq_true_eq] at *; exact List.le_trans h q
  | .inl _, .inl _, .inr _, _, _ => rfl
  | .inl _, .inr _, .inr _, _, _ => rfl
  | .inl _, .inr _, .inl _, _, q => by cases q
  | .inr _, .inl _, _, h, _ => by cases h
  | .inr _, .inr _, .inl _, _, q => by cases q
theorem leK_total : ∀ a b : Key, (leK a b || leK b a) = true
  | .inl i, .inl j => by simp [leK]; omega
  | .inr x, .inr y => by simp only [leK, Bool.or_eq_true, decide_eq_true_eq]; exact List.le_total _ _
  | .inl _, .inr _ => rfl
  | .inr _, .inl _ => rfl
theorem leK_anti : ∀ a b : Key, leK a b = true → leK b a = true → a = b
  | .inl i, .inl j, h, q => by simp [leK] at *; omega
  | .inr x, .inr y, h, q => by
    simp only [leK, decide_eq_true_eq] at *
    have e := List.le_antisymm h q
    cases x; cases y
    exact congrArg Sum.inr (congrArg Str.mk (Array.ext' e))
  | .inl _, .inr _, _, q => by cases q
  | .inr _, .inl _, h, _ => by cases h
def srtK (ks : List Key) : List Key := ks.mergeSort leK
theorem srtK_perm (ks : List Key) : (srtK ks).Perm ks := List.mergeSort_perm _ _
theorem srtK_pw (ks : List Key) : (srtK ks).Pairwise fun a b => leK a b = true := List.pairwise_mergeSort leK_trans leK_total ks
theorem srtK_of_perm {ks ks' : List Key} (p : ks.Perm ks') : srtK ks = srtK ks' :=
  List.Perm.eq_of_pairwise (fun a b _ _ h q => leK_anti a b h q) (srtK_pw _) (srtK_pw _) (((srtK_perm ks).trans p).trans (srtK_perm ks').symm)
def isL : Key → Bool | .inl _ => true | .inr _ => false
def sameK (ks : List Key) : Bool := ks.all isL || ks.all fun k => !isL k
def encK (k : Key) : PyData := toPy (keyV k)
theorem sort_congr {α : Type} {l : List α} {r s : α → α → Bool} (h : ∀ a ∈ l, ∀ b ∈ l, r a b = s a b) : l.mergeSort r = l.mergeSort s := by
  have := List.map_mergeSort (r := r) (s := s) (f := id) (l := l) h
  simpa using this
theorem le_encK {ks : List Key} (h : sameK ks = true) : ∀ a ∈ ks, ∀ b ∈ ks, PySem.W.dataLe false encK a b = leK a b := fun a ha b hb => by
  unfold sameK at h
  rw [PySem.W.dataLe_eq]
  simp only [cond_false]
  simp only [Bool.or_eq_true, List.all_eq_true] at h
  rcases h with h | h
  · cases a with
    | inr _ => have := h _ ha; cases this
    | inl i =>
      cases b with
      | inr _ => have := h _ hb; cases this
      | inl j => show (!PySem.W.dataLt (.int j) (.int i)) = _; rw [PySem.W.dataLt_int]; exact PySem.W.not_lt_int i j
  · cases a with
    | inl _ => have := h _ ha; cases this
    | inr i =>
      cases b with
      | inl _ => have := h _ hb; cases this
      | inr j => show (!PySem.W.dataLt (.str j) (.str i)) = _; rw [PySem.W.dataLt_str]; exact PySem.W.not_lt_str _ _
theorem srtK_data {ks : List Key} (h : sameK ks = true) : ks.mergeSort (PySem.W.dataLe false encK) = srtK ks := sort_congr (le_encK h)
theorem sameK_alike {ks : List Key} (h : sameK ks = true) : PySem.W.AllAlike (ks.map encK) := fun d hd e he => by
  obtain ⟨a, ha, rfl⟩ := List.mem_map.mp hd
  obtain ⟨b, hb, rfl⟩ := List.mem_map.mp he
  unfold sameK at h
  simp only [Bool.or_eq_true, List.all_eq_true] at h
  rcases h with h | h <;> have h1 := h _ ha <;> have h2 := h _ hb <;> cases a <;> cases b <;> first | (cases h1; done) | (cases h2; done) | rfl
theorem encK_sortable (ks : List Key) : PySem.W.Sortable (ks.map encK) := .inr fun d hd => by
  obtain ⟨a, ha, rfl⟩ := List.mem_map.mp hd
  cases a <;> exact ⟨(fun q => by cases q), (fun xs q => by cases q)⟩
theorem sameK_perm {ks ks' : List Key} (p : ks.Perm ks') (h : sameK ks = true) : sameK ks' = true := by
  unfold sameK at *
  rw [Bool.or_eq_true] at *
  rcases h with h | h
  · left; rw [List.all_eq_true] at *; exact fun x hx => h x (p.mem_iff.mpr hx)
  · right; rw [List.all_eq_true] at *; exact fun x hx => h x (p.mem_iff.mpr hx)
theorem encK_depth (k : Key) : (encK k).depth ≤ 1 := by cases k <;> exact Nat.zero_le _

/-! ### sorted(set(list)) -/
section
variable {P : Program} {w : World} {A : Around} {E : Value → Shared → Prop} {s : Shared} {a : Addr} {ks : List Key}
def RK (v : Value) (k : Key) : Prop := RelV (kV k) v
theorem eachK_of : ∀ {ks : List Key} {us : List Value}, Vals (ks.map kV) us → PySem.W.EachIs RK us ks
  | [], _, h => by cases h; exact .nil
  | b :: bs, _, h => by cases h with | cons r t => exact .cons r (eachK_of t)
theorem of_eachK : ∀ {ks : List Key} {us : List Value}, PySem.W.EachIs RK us ks → Vals (ks.map kV) us
  | [], _, h => by cases h; exact .nil
  | b :: bs, _, h => by cases h with | cons r t => exact .cons r (of_eachK t)
theorem rk_reads {h : Heap} {v : Value} {k : Key} (r : RK v k) : ∃ as, PySem.Reads h v (encK k) as ∧ as = [] := by
  cases k with
  | inl i => obtain ⟨t, rfl⟩ := r; exact ⟨_, PySem.Reads.int i t, rfl⟩
  | inr x => obtain ⟨t, rfl⟩ := r; exact ⟨_, PySem.Reads.str x t, rfl⟩
theorem vals_of_es {es : List (Int × Value)} (g : ∀ e ∈ es, KE1 w e) {vs : List Value} (pm : vs.Perm (es.map (·.2))) : ∃ ks' : List Key, ks'.Perm (es.map kOf) ∧ Vals (ks'.map kV) vs := by
  have key : ∀ (l : List Value), (∀ v ∈ l, RelV (kV (kOf (0, v))) v) → Vals ((l.map fun v => kOf (0, v)).map kV) l := fun l => by
    induction l with
    | nil => exact fun _ => .nil
    | cons v l ih => exact fun h => .cons (h v List.mem_cons_self) (ih fun u hu => h u (List.mem_cons_of_mem _ hu))
  refine ⟨vs.map fun v => kOf (0, v), ?_, key vs fun v hv => ?_⟩
  · have q := pm.map fun v => kOf (0, v)
    rw [List.map_map] at q
    exact q
  · obtain ⟨e, he, rfl⟩ := List.mem_map.mp (pm.mem_iff.mp hv)
    exact (g e he).1
theorem sortedQ {Q : Value → Shared → Prop} (R : SetQ w s.heap a ks) (hh : A.handled = none) (hsz : ks.length ≤ sizeLine) (hsm : sameK ks = true) (hu : A.units + 200 < cLine)
    (hQ : ∀ z p (out : Array Value) (c : Nat), (∀ b o, s.heap.get? b = some o → z.heap.get? b = some o) → z.gens = s.gens → z.os = s.os → s.heap.objs.size ≤ p →
      z.heap.get? p = some (seqObj "list" out c) → Vals ((srtK ks).map kV) out.toList → Q (.ref p) z) : wpAny (model P w) A (call (.builtin "sorted") [.ref a]) Q E s := by
  obtain ⟨o, es, ep, t, ho, hex, hd, g, pk, nd, hb, hf, hr, hl⟩ := R
  refine Calls.call_function_entry kind_sorted plain_sorted entry_sorted (args_sorted1 _) ?_
  unfold Builtin.«sorted»
  refine wpAny_bind (m := checkCount "sorted" 1 1 _) (wpAny_pure ?_)
  refine wpAny_bind (collect_set (A := A.in1) hh ⟨o, ho, hex.1, hd⟩ hf hb hr hl fun z vs k1 hz g1 o1 pm => ?_)
  obtain ⟨ks', pk', rv⟩ := vals_of_es g pm
  have pks : ks'.Perm ks := pk'.trans pk
  have hvl : vs.length = ks.length := by rw [← rv.length, List.length_map, pks.length_eq]
  refine wpAny_bind (wpAny_newList ?_ (by rw [hvl]; exact hsz))
  have hoL : (z.heap.push (seqObj "list" vs.toArray 0)).get? z.heap.objs.size = some (seqObj "list" vs.toArray 0) := Heap.get?_push_size _ rfl
  refine wpAny_bind (wpAny_holding ?_)
  have sm' : sameK ks' = true := sameK_perm pks.symm hsm
  have e1 : PySem.W.EachIs RK vs ks' := eachK_of rv
  refine PySem.W.list_sort_data (enc := encK) hoL e1 (e1.mono fun v k r => by obtain ⟨as, h1, h2⟩ := rk_reads r; exact ⟨as, h1, by rw [h2]; simp⟩) (sameK_alike sm') (encK_sortable _) (by rw [pks.length_eq]; exact hsz) (fun k _ => ?_) fun out ho2 h2 => ?_
  · have := encK_depth k
    show A.units + 1 + 1 + (encK k).depth < cLine
    omega
  · rw [srtK_data sm'] at h2
    obtain ⟨c, hc⟩ := sortedHeap_at (vs := vs) (out := out.toArray) hoL
    refine wpAny_pure ⟨_, rfl, hQ _ z.heap.objs.size out.toArray c (fun b u e => ?_) g1 o1 hz hc ?_⟩
    · have q := k1 b u e
      have hlt := Heap.lt_size q
      show (sortedHeap (z.heap.push (seqObj "list" vs.toArray 0)) z.heap.objs.size vs out.toArray).get? b = some u
      rw [sortedHeap_old (Nat.ne_of_lt hlt) (by rw [size_push']; exact Nat.lt_succ_of_lt hlt)]
      exact Heap.get?_push_of_some _ q
    · rw [← srtK_of_perm pks]; exact of_eachK h2
end

/-! ### as rules -/
def SetQO (w : World) (a : Addr) (ks : List Key) : HO := .ext fun h => SetQ w h a ks
def rSetQ (K : PySem.W.Frag) (w : World) : List V → Hp → VK → Prop := fun xs H Q => ∃ (l : Addr) (ks : List Key), xs = [V.ref l] ∧ SqL K H l (ks.map kV) ∧ ks.length + 1 < scanBound ∧ ∀ a, H a = none → Q (.ref a) (upd H a (SetQO w a (ks.foldl insK [])))
def rSortQ (w : World) : List V → Hp → VK → Prop := fun xs H Q => ∃ (a : Addr) (ks : List Key), xs = [V.ref a] ∧ H a = some (SetQO w a ks) ∧ ks.length ≤ sizeLine ∧ sameK ks = true ∧ ∀ p, H p = none → Q (.ref p) (upd H p (.lst ((srtK ks).map kV)))
section
variable {X : Cx} {G : Wh}
theorem setQO_new {w : World} {P : Program} {H : Hp} {h : Heap} {a : Addr} {ks : List Key} (R : SetQ w h a ks) : ObjOk P w H h a (SetQO w a ks) := by
  have ⟨o, _, _, _, ho, _⟩ := R
  exact ⟨R, ⟨o, ho⟩, fun h1 h2 p k => SetQ.keep p k⟩
theorem cr_setQ (hc : X.calm = true) : CallR X (.type "set") (rSetQ X.K X.w) := by
  intro pins s σ H xs us Q I r h
  obtain ⟨l, ks, rfl, hl, room, q⟩ := h
  rw [Vals.ref1 r]
  obtain ⟨its, rv, pl, hz⟩ := I.list hl
  refine callSet ks (I.ok.hd hc) pl.isList (by simpa using rv) room fun h' tk R k => ?_
  exact ⟨.ref s.heap.objs.size, upd H s.heap.objs.size (SetQO X.w s.heap.objs.size (ks.foldl insK [])), I.laid (t' := tk) k (Nat.le_refl _) (setQO_new R), rfl, q _ (I.hok.fresh (Nat.le_refl _))⟩
theorem cr_sortQ (hc : X.calm = true) (hu : X.A.units + 200 < cLine) : CallR X (.builtin "sorted") (rSortQ X.w) := by
  intro pins s σ H xs us Q I r h
  obtain ⟨a, ks, rfl, ha, hsz, hsm, q⟩ := h
  have R : SetQ X.w s.heap a ks := (I.hok a _ ha).1
  rw [Vals.ref1 r]
  refine sortedQ R (I.ok.hd hc) hsz hsm hu fun z p out c k g o hp hg hv => ?_
  have hlen : ((srtK ks).map kV).length ≤ sizeLine := by rw [List.length_map, (srtK_perm ks).length_eq]; exact hsz
  have J : Inv X pins σ (upd H p (.lst ((srtK ks).map kV))) { s with heap := z.heap, gens := z.gens, drawn := z.drawn, toks := z.toks } :=
    I.call (ch := []) (Un.laid k hp (I.hok.fresh hp)) (I.hok.laid k hp ⟨hlen, out.toList, c, hv, hg⟩) (by rw [g]; exact I.bare) (fun _ z => nomatch z)
  have e : z = { s with heap := z.heap, gens := z.gens, drawn := z.drawn, toks := z.toks } := by
    cases z; cases s; cases o; rfl
  rw [e]
  exact ⟨.ref p, _, J, rfl, q p (I.hok.fresh hp)⟩
/-- the items as keys -/
def keysL : List D → Option (List Key) := keysD
theorem reps_of_keys {K : PySem.W.Frag} {Z : Hp} : ∀ ks : List Key, Reps K Z (ks.map kV) (ks.map keyV)
  | [] => .nil
  | k :: ks => .cons (rep_key k) (reps_of_keys ks)
def sortKs (ks : List Key) : R D := if ks.length + 1 < scanBound ∧ sameK ks = true then .ok (.lst ((srtK (ks.foldl insK [])).map keyV)) else .no
def sortSet : D → R D
  | .lst ds => match keysD ds with
    | some ks => sortKs ks
    | none => .no
  | _ => .no
theorem mem_insK {ks : List Key} {k j : Key} : j ∈ insK ks k ↔ j ∈ ks ∨ j = k := by
  unfold insK
  split
  · rename_i h
    exact ⟨.inl, fun q => q.elim id fun e => e ▸ hasK_iff.mp h⟩
  · rw [List.mem_cons]; exact Or.comm
theorem mem_foldK {l : List Key} : ∀ {ks : List Key} {j : Key}, j ∈ l.foldl insK ks ↔ j ∈ ks ∨ j ∈ l := by
  induction l with
  | nil => intro ks j; simp
  | cons k l ih => intro ks j; rw [List.foldl_cons, ih, mem_insK, List.mem_cons, or_assoc]
theorem foldK_len {l : List Key} : ∀ {ks : List Key}, (l.foldl insK ks).length ≤ ks.length + l.length := by
  induction l with
  | nil => intro ks; simp
  | cons k l ih =>
    intro ks
    have h1 := ih (ks := insK ks k)
    have h2 := insK_len ks k
    rw [List.foldl_cons, List.length_cons]
    omega
theorem sameK_sub {ks ks' : List Key} (h : sameK ks = true) (s : ∀ k ∈ ks', k ∈ ks) : sameK ks' = true := by
  unfold sameK at *
  rw [Bool.or_eq_true] at *
  rcases h with h | h
  · left; rw [List.all_eq_true] at *; exact fun x hx => h x (s x hx)
  · right; rw [List.all_eq_true] at *; exact fun x hx => h x (s x hx)
theorem den_sortSet {e : Expr} {g : Env → R D} {m1 : Md} {p p2 q pos : Pos} (hc : X.calm = true) (hu : X.A.units + 200 < cLine) (he : Den X G m1 e g) (hg : Gl X "sorted") (hm : X.mg "sorted" = none) (hg2 : Gl X "set") (hm2 : X.mg "set" = none)
    (hs : starEach [e] X.env = (false, eval e X.env) :: starEach [] X.env) (hpl : (backTo q (starEach [] X.env)).any (·.1) = false) (hpl2 : (backTo pos (starEach [] X.env)).any (·.1) = false)
    (hs2 : starEach [.Call (.Name "set" p2) [e] [] q] X.env = (false, eval (.Call (.Name "set" p2) [e] [] q) X.env) :: starEach [] X.env) :
    Den X G .f (.Call (.Name "sorted" p) [.Call (.Name "set" p2) [e] [] q] [] pos) (ge1 sortSet g) := by
  obtain ⟨t, pt, qt⟩ := he.ex
  refine ⟨_, pe_callB (cr_sortQ hc hu) hg hm (by decide +kernel) (pa_cons (pe_callTy (cr_setQ hc) hg2 hm2 (by decide +kernel) (pa_cons pt pa_nil hs) (by decide) (by decide +kernel) hs hpl) pa_nil hs2) (by decide) (by decide +kernel) hs2 hpl2, fun Z0 H0 Z H σ ρ Q S h => ?_⟩
  refine qt Z0 H0 Z H σ ρ _ S ?_
  unfold ge1 at h
  cases ea : g ρ with
  | no => rw [ea] at h; exact h
  | ex c => rw [ea] at h; exact h
  | ok d =>
    rw [ea] at h
    intro v Z1 H1 g1 f1
    have h1 : Ans X.K G .f (sortSet d) Z1 H1 Q := Ans.grow h g1
    unfold sortSet at h1
    split at h1
    · rename_i ds
      split at h1
      · rename_i ks ek
        unfold sortKs at h1
        split at h1
        · rename_i hcond
          obtain ⟨a, vs, rfl, hh, r⟩ := now_lst g1.s (f1.now (Hx := H))
          have ev := keys_of r ek
          subst ev
          refine ⟨a, ks, rfl, SqL.of hh, hcond.1, fun b hb => ?_⟩
          have hsub : ∀ k ∈ ks.foldl insK [], k ∈ ks := fun k hk => (mem_foldK.mp hk).elim (fun z => by cases z) id
          have hl := foldK_len (l := ks) (ks := [])
          refine ⟨b, ks.foldl insK [], rfl, upd_same, by rw [sizeLine_eq]; have := hcond.1; unfold scanBound at this; simp at hl; omega, sameK_sub hcond.2 hsub, fun p hp => ?_⟩
          have gA : Grow G.T Z1 H1 Z1 (upd H1 b (SetQO X.w b (ks.foldl insK []))) := grow_new g1.s g1.n hb
          have h2 := Ans.grow h1 gA
          exact ansL gA.s gA.n h2 (reps_of_keys _) p hp
        · exact h1.elim
      · exact h1.elim
    · exact h1.elim
end
end VS

set_option Elab.async false
set_option linter.all false
set_option maxRecDepth 100000
set_option maxHeartbeats 4000000
/-! VS15: chains of comparisons, constants of the module, sorted(dict), statements that are not reached. -/
namespace VS
open PySem L2 LamX
section
variable {X : Cx} {G : Wh}
/-- a statement that is never reached -/
theorem dens_no {st : Stmt} : DenS X G st (fun _ => .no) := ⟨fun _ _ _ => False, ⟨fun pins s σ H D I h => h.elim⟩, fun Z0 H0 Z H σ ρ D S h => h⟩
theorem denb_no {sts : List Stmt} : DenB X G sts (fun _ => .no) := ⟨fun _ _ _ => False, ⟨fun pins s σ H D I h => h.elim⟩, fun Z0 H0 Z H σ ρ D S h => h⟩
theorem den_no {e : Expr} {m : Md} : Den X G m e (fun _ => .no) := ⟨fun _ _ _ => False, ⟨fun pins s σ H Q I h => h.elim⟩, fun Z0 H0 Z H σ ρ Q S h => h⟩
theorem den_glob {x : Str} {v : V} {d : D} {u : Value} {pos : Pos} (hg : Gl X x) (hm : X.mg x = some u) (r : RelV v u) (hd : (x == ("__debug__" : Str)) = false) (rp : ∀ Z, Rep X.K Z v d) : Den X G .c (.Name x pos) (fun _ => .ok d) :=
  den_tC (pe_glob hg hm r hd) rp
theorem den_globI {x : Str} {i : Int} {pos : Pos} (hg : Gl X x) (hm : ∃ t, X.mg x = some (.int i t)) (hd : (x == ("__debug__" : Str)) = false) : Den X G .c (.Name x pos) (fun _ => .ok (.int i)) := by
  obtain ⟨t, hm⟩ := hm
  exact den_glob (v := .int i) hg hm ⟨t, rfl⟩ hd fun Z => .int i
theorem den_globS {x z : Str} {pos : Pos} (hg : Gl X x) (hm : ∃ t, X.mg x = some (.str z t)) (hd : (x == ("__debug__" : Str)) = false) : Den X G .c (.Name x pos) (fun _ => .ok (.str z)) := by
  obtain ⟨t, hm⟩ := hm
  exact den_glob (v := .str z) hg hm ⟨t, rfl⟩ hd fun Z => .str z
/-- a op b op' c -/
def geChain (f f' : D → D → R D) (ga gb gc : Env → R D) : Env → R D := fun ρ => do
  let x ← ga ρ
  let y ← gb ρ
  let k ← geB (fun _ => f x y) ρ
  if k then do let z ← gc ρ; f' y z else pure (.bl false)
theorem ans_chain {r r' : R2} {f f' : D → D → R D} {m1 m2 m3 : Md} {ta tb tc : TE} {ga gb gc : Env → R D} (hr : RDen X.K G r .c f) (hr' : RDen X.K G r' .c f')
    (ha : ∀ Z0 H0 Z H σ ρ Q, Sim X.K G.T Z0 H0 Z H σ ρ → Ans X.K G m1 (ga ρ) Z H Q → ta σ H Q) (hb : ∀ Z0 H0 Z H σ ρ Q, Sim X.K G.T Z0 H0 Z H σ ρ → Ans X.K G m2 (gb ρ) Z H Q → tb σ H Q)
    (hc : ∀ Z0 H0 Z H σ ρ Q, Sim X.K G.T Z0 H0 Z H σ ρ → Ans X.K G m3 (gc ρ) Z H Q → tc σ H Q)
    {Z0 H0 Z H : Hp} {σ : L2.St} {ρ : Env} {Q : VK} (S : Sim X.K G.T Z0 H0 Z H σ ρ) (h : Ans X.K G .c (geChain f f' ga gb gc ρ) Z H Q) : tChain r r' ta tb tc σ H Q := by
  unfold geChain at h
  refine ha Z0 H0 Z H σ ρ _ S ?_
  cases ea : ga ρ with
  | no => rw [ea] at h; exact h
  | ex c => rw [ea] at h; exact h
  | ok dx =>
    rw [ea] at h
    intro x Z1 H1 g1 f1
    refine hb Z0 H0 Z1 H1 σ ρ _ (S.grow g1) ?_
    cases eb : gb ρ with
    | no => rw [eb] at h; exact h
    | ex c => rw [eb] at h; exact fun Z' H' g' => h Z' H' (g1.trans g')
    | ok dy =>
      rw [eb] at h
      intro y Z2 H2 g2 f2
      have g12 := g1.trans g2
      refine hr x y dx dy Z2 H2 _ g2.s g2.n (Now.grow g2 (f1.now (Hx := H))) f2.now ?_
      have h2 : Ans X.K G .c (do let k ← geB (fun _ => f dx dy) ρ; if k then (do let z ← gc ρ; f' dy z) else pure (.bl false)) Z2 H2 Q := Ans.grow h g12
      unfold geB at h2
      cases ef : f dx dy with
      | no => rw [ef] at h2; exact h2
      | ex c => rw [ef] at h2; exact h2
      | ok d =>
        rw [ef] at h2
        cases d with
        | bl k =>
          intro v Z3 H3 g3 f3
          cases f3
          refine ⟨k, rfl, ?_⟩
          cases k with
          | false => rw [if_neg Bool.false_ne_true]; exact h2 _ Z3 H3 g3 (.bl _)
          | true =>
            rw [if_pos rfl]
            refine hc Z0 H0 Z3 H3 σ ρ _ ((S.grow g12).grow g3) ?_
            have h3 : Ans X.K G .c (do let z ← gc ρ; f' dy z) Z3 H3 Q := Ans.grow h2 g3
            cases ec : gc ρ with
            | no => rw [ec] at h3; exact h3
            | ex c => rw [ec] at h3; exact h3
            | ok dz =>
              rw [ec] at h3
              intro z Z4 H4 g4 f4
              exact hr' y z dy dz Z4 H4 Q g4.s g4.n (Now.grow (g3.trans g4) (f2.now (Hx := H))) f4.now (Ans.grow h3 g4)
        | non => exact False.elim h2
        | int _ => exact False.elim h2
        | str _ => exact False.elim h2
        | tup _ => exact False.elim h2
        | lst _ => exact False.elim h2
        | dK _ => exact False.elim h2
        | dT _ => exact False.elim h2
        | scr _ => exact False.elim h2
section
variable {op op' : CmpOp} {a b c : Expr} {pos : Pos} {r r' : R2} {f f' : D → D → R D} {m1 m2 m3 : Md} {ga gb gc : Env → R D}
theorem den_chain (ho : OpR X (compareOp op) r) (ho' : OpR X (compareOp op') r') (hr : RDen X.K G r .c f) (hr' : RDen X.K G r' .c f') (ha : Den X G m1 a ga) (hb : Den X G m2 b gb) (hc : Den X G m3 c gc) (hm : lastMarks [op, op'] [b, c] = false) :
    Den X G .c (.Compare a [op, op'] [b, c] pos) (geChain f f' ga gb gc) := by
  obtain ⟨ta, pa, qa⟩ := ha.ex
  obtain ⟨tb, pb, qb⟩ := hb.ex
  obtain ⟨tc, pc, qc⟩ := hc.ex
  exact ⟨_, pe_chain ho ho' pa pb pc hm, fun Z0 H0 Z H σ ρ Q S h => ans_chain hr hr' qa qb qc S h⟩
theorem dent_chain (ho : OpR X (compareOp op) r) (ho' : OpR X (compareOp op') r') (hr : RDen X.K G r .c f) (hr' : RDen X.K G r' .c f') (ha : Den X G m1 a ga) (hb : Den X G m2 b gb) (hc : Den X G m3 c gc) (hm : lastMarks [op, op'] [b, c] = false) :
    DenT X G (.Compare a [op, op'] [b, c] pos) (geB (geChain f f' ga gb gc)) := by
  obtain ⟨ta, pa, qa⟩ := ha.ex
  obtain ⟨tb, pb, qb⟩ := hb.ex
  obtain ⟨tc, pc, qc⟩ := hc.ex
  refine ⟨_, pt_chain ho ho' pa pb pc hm, fun Z0 H0 Z H σ ρ Q S h => ?_⟩
  exact ans_B (te := tChain r r' ta tb tc) (m := .c) (fun Z0 H0 Z H σ ρ Q S h => ans_chain hr hr' qa qb qc S h) S h
end
/-! ### sorted(d), fewer than 64 keys -/
def keyI : Key → Int | .inl i => i | .inr _ => 0
def keyT : Key → Str | .inl _ => Str.empty | .inr x => x
def rSortDct : List V → Hp → VK → Prop := fun xs H Q => ∃ (a : Addr) (kvs : List (Key × V)), xs = [.ref a] ∧ Rd H a (.dK kvs) ∧ kvs.length < 64 ∧ sameK (kvs.map (·.1)) = true ∧ ∀ p, H p = none → Q (.ref p) (upd H p (.lst ((srtK (kvs.map (·.1))).map kV)))
theorem all_inl {ks : List Key} (h : ks.all isL = true) : ks = (ks.map keyI).map Sum.inl := by
  induction ks with
  | nil => rfl
  | cons k ks ih =>
    rw [List.all_cons, Bool.and_eq_true] at h
    cases k with
    | inl i => simp only [List.map_cons, keyI]; rw [← ih h.2]
    | inr x => cases h.1
theorem all_inr {ks : List Key} (h : (ks.all fun k => !isL k) = true) : ks = (ks.map keyT).map Sum.inr := by
  induction ks with
  | nil => rfl
  | cons k ks ih =>
    rw [List.all_cons, Bool.and_eq_true] at h
    cases k with
    | inl i => cases h.1
    | inr x => simp only [List.map_cons, keyT]; rw [← ih h.2]
theorem srtK_inl {ks : List Key} {ys : List Int} (p : (ys.map Sum.inl).Perm ks) (h : ys.Pairwise (· ≤ ·)) : ys.map (Sum.inl : Int → Key) = srtK ks := by
  refine List.Perm.eq_of_pairwise (fun a b _ _ h q => leK_anti a b h q) ?_ (srtK_pw ks) (p.trans (srtK_perm ks).symm)
  rw [List.pairwise_map]
  exact h.imp fun q => decide_eq_true q
theorem ltCps_eq : ∀ a b : List Nat, PySem.Spec.ltCps a b = decide (a < b)
  | [], [] => by simp [PySem.Spec.ltCps]
  | [], _ :: _ => by simp [PySem.Spec.ltCps]
  | _ :: _, [] => by simp [PySem.Spec.ltCps]
  | a :: r, b :: t => by
    rw [PySem.Spec.ltCps, ltCps_eq r t, Bool.eq_iff_iff]
    simp [List.cons_lt_cons_iff]
theorem nlt_le {x y : Str} (h : (!PySem.Spec.ltCps x.cps.toList y.cps.toList) = true) : leK (.inr y) (.inr x) = true := by
  rw [ltCps_eq, Bool.not_eq_true', decide_eq_false_iff_not] at h
  exact decide_eq_true (List.not_lt.mp h)
theorem risingS_all : ∀ {ys : List Str} {p : Str}, PyProof.Rows.risingS p ys = true → (p :: ys).Pairwise fun a b => leK (.inr a) (.inr b) = true
  | [], p, _ => List.pairwise_singleton _ _
  | x :: r, p, h => by
    unfold PyProof.Rows.risingS at h
    rw [Bool.and_eq_true] at h
    have ih := risingS_all h.2
    refine List.pairwise_cons.mpr ⟨fun y hy => ?_, ih⟩
    have h1 := nlt_le h.1
    rcases List.mem_cons.mp hy with rfl | hy
    · exact h1
    · exact leK_trans _ _ _ h1 ((List.pairwise_cons.mp ih).1 y hy)
theorem srtK_inr {ks : List Key} {ys : List Str} (p : (ys.map Sum.inr).Perm ks) (h : PyProof.Rows.sortedS ys = true) : ys.map (Sum.inr : Str → Key) = srtK ks := by
  refine List.Perm.eq_of_pairwise (fun a b _ _ h q => leK_anti a b h q) ?_ (srtK_pw ks) (p.trans (srtK_perm ks).symm)
  rw [List.pairwise_map]
  cases ys with
  | nil => exact .nil
  | cons x r => exact risingS_all h
theorem callR_or {f : Value} {r r' : List V → Hp → VK → Prop} (h : CallR X f r) (h' : CallR X f r') : CallR X f (fun xs H Q => r xs H Q ∨ r' xs H Q) := by
  intro pins s σ H xs us Q I rv q
  rcases q with q | q
  · exact h pins s σ H xs us Q I rv q
  · exact h' pins s σ H xs us Q I rv q
theorem callR_mono {f : Value} {r r' : List V → Hp → VK → Prop} (h : CallR X f r) (k : ∀ xs H Q, r' xs H Q → r xs H Q) : CallR X f r' := by
  intro pins s σ H xs us Q I rv q
  exact h pins s σ H xs us Q I rv (k _ _ _ q)
theorem kV_maps (ks : List Key) : (ks.all isL = true → ks.map kV = (ks.map keyI).map V.int) ∧ ((ks.all fun k => !isL k) = true → ks.map kV = (ks.map keyT).map V.str) := by
  constructor
  · intro h; conv => lhs; rw [all_inl h]
    rw [List.map_map]; rfl
  · intro h; conv => lhs; rw [all_inr h]
    rw [List.map_map]; rfl
theorem cr_sortDct (hc : X.calm = true) : CallR X (.builtin "sorted") rSortDct := by
  refine callR_mono (callR_or (call_sortedD hc) (call_sortedDI hc)) fun xs H Q ⟨a, kvs, e, hd, hl, hs, q⟩ => ?_
  unfold sameK at hs
  rw [Bool.or_eq_true] at hs
  rcases hs with hs | hs
  · refine .inr ⟨a, kvs, (kvs.map (·.1)).map keyI, e, hd, all_inl hs, by simpa using hl, fun ys p pm pw hp => ?_⟩
    have e1 : ys.map (Sum.inl : Int → Key) = srtK (kvs.map (·.1)) := srtK_inl (by
      have := pm.map (Sum.inl : Int → Key)
      rw [← all_inl hs] at this
      exact this) pw
    have := q p hp
    rw [← e1, List.map_map] at this
    exact this
  · refine .inl ⟨a, kvs, (kvs.map (·.1)).map keyT, e, hd, all_inr hs, by simpa using hl, fun ys p pm pw hp => ?_⟩
    have e1 : ys.map (Sum.inr : Str → Key) = srtK (kvs.map (·.1)) := srtK_inr (by
      have := pm.map (Sum.inr : Str → Key)
      rw [← all_inr hs] at this
      exact this) pw
    have := q p hp
    rw [← e1, List.map_map] at this
    exact this
def sortDct : List D → R D
  | [.dK kvs] => if kvs.length < 64 ∧ sameK (kvs.map (·.1)) = true then .ok (.lst ((srtK (kvs.map (·.1))).map keyV)) else .no
  | _ => .no
theorem keysP {K : PySem.W.Frag} {Z : Hp} : ∀ {vs : List (Key × V)} {ds : List (Key × D)}, RepsP K Z vs ds → vs.map (·.1) = ds.map (·.1)
  | _, _, .nil => rfl
  | _, _, .cons _ t => by rw [List.map_cons, List.map_cons, keysP t]
theorem ad_sortDct {K : PySem.W.Frag} : ADen K G rSortDct .t .f sortDct := by
  intro vs ds Z H Q s n f h
  unfold sortDct at h
  split at h
  · split at h
    · rename_i kvs hc
      obtain ⟨v, rfl, fv⟩ := fins1 f
      obtain ⟨a, us, rfl, hh, r⟩ := now_dK s fv
      refine ⟨a, us, rfl, hh, by rw [r.length]; exact hc.1, by rw [keysP r]; exact hc.2, fun p hp => ?_⟩
      rw [keysP r]
      exact ansL s n h (reps_of_keys _) p hp
    · exact h.elim
  · exact h.elim
end
end VS

set_option Elab.async false
set_option linter.all false
set_option maxRecDepth 100000
set_option maxHeartbeats 4000000
/-! VN16: defs of the text; the law's end. -/
namespace VS
open PySem PySem.Spec PyProof.Rows L2 LamX
abbrev FnP (K : PySem.W.Frag) (x : Str) (st : Stmt) (f : Addr) (fd : FuncData) : Prop := FunD K x x (defArgs st) (defBody st) (defScope st) [] [] f fd
section
variable {P : Program} {w : World} {K : PySem.W.Frag} {mg : Str → Option Value} {base : Heap}
/-- THE RULE for a def: its body tells fb -/
theorem def_okD {x : Str} {st : Stmt} {f : Addr} {fd : FuncData} {N ps : List Str} {k : Nat} {T : List (Addr × Str)} {cl : Str → Addr} {fb : Env → Out} (F : FnP K x st f fd) (S : FnScope N ps (defScope st)) (hps : ps.length ≤ N.length)
    (hb : ∀ (cdv : Value) (A : Around) (outer : List PySem.Env) (s : Shared) (H : Hp) (E : XK), Room k (A.deeper (envOfC x (defScope st) s.heap.objs.size f cdv)) →
      DenB (cxOf (L2N.CX P w) P w K mg base N x (defScope st) f cdv A outer s H E) ⟨T, cl, E⟩ (defBody st) fb) :
    FnOk P w K mg base (L2N.CX P w) (k + 1) f fd ps (spD K T cl ps.length (runDef N.length fb)) := by
  refine F.ok S (fun vs H Q E h => ?_) (fun cdv A outer s H vs Q E hr h => ?_)
  · obtain ⟨Z, ds, _, _, _, r, hl, _⟩ := h
    rw [r.length, hl]
  · obtain ⟨Z, ds, hs, hn, ht, r, hl, h⟩ := h
    obtain ⟨t, p, q⟩ := (hb cdv A outer s H E hr).ex
    refine ⟨t, p, q Z H Z H _ (startE N.length ds) _ (sim_start hs hn ht r (by rw [r.length, hl]; exact hps)) ?_⟩
    unfold runDef at h
    cases e : fb (startE N.length ds) with
    | nx ρ => rw [e] at h; exact fun Z' H' σ' S' => h _ Z' H' S'.g S'.tabs .non
    | rt d => rw [e] at h; exact fun v Z' H' g t r => h v Z' H' g t r
    | ex c => rw [e] at h; exact fun Z' H' g t => h Z' H' g t
    | bk ρ => rw [e] at h; exact h.elim
    | ct ρ => rw [e] at h; exact h.elim
    | no => rw [e] at h; exact h.elim
def noF : List D → R D := fun _ => .no
theorem def_no {x : Str} {st : Stmt} {f : Addr} {fd : FuncData} {N ps : List Str} {k : Nat} {T : List (Addr × Str)} {cl : Str → Addr} (F : FnP K x st f fd) (S : FnScope N ps (defScope st)) :
    FnOk P w K mg base (L2N.CX P w) (k + 1) f fd ps (spD K T cl ps.length noF) :=
  F.ok S (fun vs H Q E ⟨_, _, _, _, _, _, _, h⟩ => h.elim) fun cdv A outer s H vs Q E hr ⟨_, _, _, _, _, _, _, h⟩ => h.elim
theorem fnOk0 {f : Addr} {fd : FuncData} {ps : List Str} {k : Nat} {sp : Sp} (F : FnOk P w K mg base (L2N.CX P w) k f fd ps sp) : FnOk P w K mg base CX0 k f fd ps (fun vs H Q _ => sp vs H Q E0) :=
  ⟨fun vs H Q E h => F.len vs H Q E0 h, fun A outer s H args us vs Q E hr he hb hv hs => codeAny_mono (F.run A outer s H args us vs Q E0 hr he hb hv hs) fun r s' q => by
    cases r with
    | ok fl => cases fl <;> exact q
    | error e =>
      obtain ⟨_, _, _, _, _, _, _, _, _, _, _, _, z⟩ := q
      exact z.elim⟩
section
variable {N : List Str} {qual : Str} {scope : Scope} {f : Addr} {cd : Value} {A : Around} {outer : List PySem.Env} {s : Shared} {H : Hp} {E : XK}
abbrev bodyX (P : Program) (w : World) (K : PySem.W.Frag) (mg : Str → Option Value) (base : Heap) (N : List Str) (qual : Str) (scope : Scope) (f : Addr) (cd : Value) (A : Around) (outer : List PySem.Env) (s : Shared) (H : Hp) (E : XK) : Cx :=
  cxOf (L2N.CX P w) P w K mg base N qual scope f cd A outer s H E
theorem body_takes : L2N.Takes (bodyX P w K mg base N qual scope f cd A outer s H E) (fun cls d _ H => E cls d H) := L2N.takes_of rfl rfl rfl rfl
theorem body_pass : Passes (L2N.CX P w) (bodyX P w K mg base N qual scope f cd A outer s H E) E := L2N.passes_call body_takes fun _ _ _ _ h => h
theorem body_own : PassesOwn (model P w) (bodyX P w K mg base N qual scope f cd A outer s H E).A (bodyX P w K mg base N qual scope f cd A outer s H E).env (bodyX P w K mg base N qual scope f cd A outer s H E).xe := passes_of rfl
end
end
section
variable {X : Cx} {G : Wh}
theorem den_neg {a : Expr} {pos : Pos} {m : Md} {g : Env → R D} (h : Den X G m a g) : Den X G .c (.UnaryOp .USub a pos) (ge1 (subI (.int 0)) g) := by
  obtain ⟨t, p, q⟩ := h.ex
  refine ⟨_, pe_un un_neg p, fun Z0 H0 Z H σ ρ Q S k => ?_⟩
  refine q Z0 H0 Z H σ ρ _ S ?_
  unfold ge1 at k
  cases ea : g ρ with
  | no => rw [ea] at k; exact k
  | ex c => rw [ea] at k; exact k
  | ok d =>
    rw [ea] at k
    intro v Z1 H1 g1 f1
    exact un_negA g1.s g1.n (f1.now (Hx := H)) (Ans.grow (show Ans X.K G .c (subI (.int 0) d) Z H Q from k) g1)
end
/-! ### constants -/
def gI (i : Int) : Env → R D := fun _ => .ok (.int i)
def gS (z : Str) : Env → R D := fun _ => .ok (.str z)
def gB (b : Bool) : Env → R D := fun _ => .ok (.bl b)
def gN : Env → R D := fun _ => .ok .non
section
variable {X : Cx} {G : Wh}
theorem dI {i : Int} {j : Nat} {pos : Pos} : Den X G .c (.Constant (.int i) j pos) (gI i) := den_tC pe_int fun _ => .int i
theorem dS {z : Str} {j : Nat} {pos : Pos} : Den X G .c (.Constant (.str z) j pos) (gS z) := den_tC pe_str fun _ => .str z
theorem dB {b : Bool} {j : Nat} {pos : Pos} : Den X G .c (.Constant (.bool b) j pos) (gB b) := den_tC pe_bl fun _ => .bl b
theorem dN {j : Nat} {pos : Pos} : Den X G .c (.Constant .none j pos) gN := den_tC pe_non fun _ => .non
theorem dGI {x : Str} {i : Int} {pos : Pos} (hg : Gl X x) (hm : ∃ t, X.mg x = some (.int i t)) (hd : (x == ("__debug__" : Str)) = false) : Den X G .c (.Name x pos) (gI i) := den_globI hg hm hd
theorem dGS {x z : Str} {pos : Pos} (hg : Gl X x) (hm : ∃ t, X.mg x = some (.str z t)) (hd : (x == ("__debug__" : Str)) = false) : Den X G .c (.Name x pos) (gS z) := den_globS hg hm hd
end
/-- no exception is told: within a comprehension -/
theorem takes00 {X : Cx} : L2N.Takes X (fun _ _ _ _ => False) := fun _ _ x => by
  obtain ⟨_, _, _, _, _, _, _, _, _, _, _, _, _, _, _, _, z⟩ := x
  exact z.elim
theorem passLN {X : Cx} : Passes (L2N.CX X.prog X.w) X E0 := L2N.passes_call takes00 (fun _ _ _ _ z => z)
end VS

set_option Elab.async false
set_option linter.all false
set_option maxRecDepth 100000
set_option maxHeartbeats 4000000
/-! VN17: the rules with their small conditions filled in. -/
namespace VS
open PySem PySem.Spec PyProof.Rows L2 LamX
section
variable {X : Cx} {G : Wh} {m m1 m2 : Md} {a b e : Expr} {ga gb g : VS.Env → R D} {pos : Pos}
theorem denb_one {s : Stmt} {f : VS.Env → Out} (h : DenS X G s f) : DenB X G [s] f := by
  obtain ⟨t, p, q⟩ := h.ex
  exact ⟨_, pss_one p, q⟩
theorem v {i : Nat} {x : Str} (hN : X.N[i]? = some x := by rfl) (hv : Vis X.env.scope x := by first | exact .inl (by rfl) | exact .inr (.inl (by rfl)) | exact .inr (.inr (by rfl))) (hd : (x == ("__debug__" : Str)) = false := by rfl) (hcd : (x == ("__classdict__" : Str)) = false := by rfl) :
    Den X G .c (.Name x pos) (geV i) := den_var hN hv hd hcd
theorem vt {i : Nat} {x : Str} (hN : X.N[i]? = some x := by rfl) (hv : Vis X.env.scope x := by first | exact .inl (by rfl) | exact .inr (.inl (by rfl)) | exact .inr (.inr (by rfl))) (hd : (x == ("__debug__" : Str)) = false := by rfl) (hcd : (x == ("__classdict__" : Str)) = false := by rfl) :
    Den X G .t (.Name x pos) (geT i) := den_varT hN hv hd hcd
theorem cI {x : Str} {i : Int} (hm : ∃ t, X.mg x = some (.int i t)) (hg : Gl X x := by rfl) (hd : (x == ("__debug__" : Str)) = false := by rfl) : Den X G .c (.Name x pos) (gI i) := dGI hg hm hd
theorem cS {x z : Str} (hm : ∃ t, X.mg x = some (.str z t)) (hg : Gl X x := by rfl) (hd : (x == ("__debug__" : Str)) = false := by rfl) : Den X G .c (.Name x pos) (gS z) := dGS hg hm hd
/-! operators -/
section
variable (ha : Den X G m1 a ga) (hb : Den X G m2 b gb)
include ha hb
theorem addi : Den X G .c (.BinOp a .Add b pos) (geOp addI ga gb) := den_op op_add rd_addI ha hb
theorem subi : Den X G .c (.BinOp a .Sub b pos) (geOp subI ga gb) := den_op op_sub rd_subI ha hb
theorem muli : Den X G .c (.BinOp a .Mult b pos) (geOp mulI ga gb) := den_op op_mulA rd_mulI ha hb
theorem fdivi : Den X G .c (.BinOp a .FloorDiv b pos) (geOp fdivI ga gb) := den_op op_fdivW rd_fdivI ha hb
theorem modi : Den X G .c (.BinOp a .Mod b pos) (geOp modI ga gb) := den_op op_mod rd_modI ha hb
theorem adds : Den X G .c (.BinOp a .Add b pos) (geOp addS ga gb) := den_op op_add_str rd_addS ha hb
theorem addt : Den X G .c (.BinOp a .Add b pos) (geOp addT ga gb) := den_op op_catA rd_addT ha hb
theorem catl : Den X G .f (.BinOp a .Add b pos) (geOp catL ga gb) := den_op op_cat rd_catL ha hb
theorem repl : Den X G .f (.BinOp a .Mult b pos) (geOp repL ga gb) := den_op op_rep rd_repL ha hb
/-! comparisons -/
theorem lti (hm : behindInMarks .Lt b = false := by rfl) : Den X G .c (.Compare a [.Lt] [b] pos) (geOp (cmI fun i j => decide (i < j)) ga gb) := den_cmp op_lt rd_cmI ha hb hm
theorem lei (hm : behindInMarks .LtE b = false := by rfl) : Den X G .c (.Compare a [.LtE] [b] pos) (geOp (cmI fun i j => decide (i ≤ j)) ga gb) := den_cmp op_le rd_cmI ha hb hm
theorem gti (hm : behindInMarks .Gt b = false := by rfl) : Den X G .c (.Compare a [.Gt] [b] pos) (geOp (cmI fun i j => decide (j < i)) ga gb) := den_cmp op_gt rd_cmI ha hb hm
theorem gei (hm : behindInMarks .GtE b = false := by rfl) : Den X G .c (.Compare a [.GtE] [b] pos) (geOp (cmI fun i j => decide (j ≤ i)) ga gb) := den_cmp op_ge rd_cmI ha hb hm
theorem lts (hm : behindInMarks .Lt b = false := by rfl) : Den X G .c (.Compare a [.Lt] [b] pos) (geOp (cmS fun i j => decide (i < j)) ga gb) := den_cmp op_lt_str rd_cmS ha hb hm
theorem eqa (hu : X.A.units + 200 < cLine) (hm : behindInMarks .Eq b = false := by rfl) : Den X G .c (.Compare a [.Eq] [b] pos) (geOp cmEq ga gb) := den_cmp (op_eqS hu) rd_eq ha hb hm
theorem nea (hu : X.A.units + 200 < cLine) (hm : behindInMarks .NotEq b = false := by rfl) : Den X G .c (.Compare a [.NotEq] [b] pos) (geOp cmNe ga gb) := den_cmp (op_neS hu) rd_ne ha hb hm
theorem ins (hm : behindInMarks .In b = false := by rfl) : Den X G .c (.Compare a [.In] [b] pos) (geOp (inS false) ga gb) := den_cmp op_in_sign rd_inS ha hb hm
theorem inf (hm : behindInMarks .In b = false := by rfl) : Den X G .c (.Compare a [.In] [b] pos) (geOp (inF false) ga gb) := den_cmp op_in_seq rd_inF ha hb hm
theorem nif (hm : behindInMarks .NotIn b = false := by rfl) : Den X G .c (.Compare a [.NotIn] [b] pos) (geOp (inF true) ga gb) := den_cmp op_notIn_seq rd_inF ha hb hm
theorem ind (hu : X.A.units + 1 < cLine) (hm : behindInMarks .In b = false := by rfl) : Den X G .c (.Compare a [.In] [b] pos) (geOp (inD false) ga gb) := den_inD hu ha hb hm
theorem nid (hu : X.A.units + 1 < cLine) (hm : behindInMarks .NotIn b = false := by rfl) : Den X G .c (.Compare a [.NotIn] [b] pos) (geOp (inD true) ga gb) := den_niD hu ha hb hm
/-! .. as tests -/
theorem tlti (hm : behindInMarks .Lt b = false := by rfl) : DenT X G (.Compare a [.Lt] [b] pos) (geB (geOp (cmI fun i j => decide (i < j)) ga gb)) := dent_cmp op_lt rd_cmI ha hb hm
theorem tlei (hm : behindInMarks .LtE b = false := by rfl) : DenT X G (.Compare a [.LtE] [b] pos) (geB (geOp (cmI fun i j => decide (i ≤ j)) ga gb)) := dent_cmp op_le rd_cmI ha hb hm
theorem tgti (hm : behindInMarks .Gt b = false := by rfl) : DenT X G (.Compare a [.Gt] [b] pos) (geB (geOp (cmI fun i j => decide (j < i)) ga gb)) := dent_cmp op_gt rd_cmI ha hb hm
theorem tgei (hm : behindInMarks .GtE b = false := by rfl) : DenT X G (.Compare a [.GtE] [b] pos) (geB (geOp (cmI fun i j => decide (j ≤ i)) ga gb)) := dent_cmp op_ge rd_cmI ha hb hm
theorem tlts (hm : behindInMarks .Lt b = false := by rfl) : DenT X G (.Compare a [.Lt] [b] pos) (geB (geOp (cmS fun i j => decide (i < j)) ga gb)) := dent_cmp op_lt_str rd_cmS ha hb hm
theorem teqa (hu : X.A.units + 200 < cLine) (hm : behindInMarks .Eq b = false := by rfl) : DenT X G (.Compare a [.Eq] [b] pos) (geB (geOp cmEq ga gb)) := dent_cmp (op_eqS hu) rd_eq ha hb hm
theorem tnea (hu : X.A.units + 200 < cLine) (hm : behindInMarks .NotEq b = false := by rfl) : DenT X G (.Compare a [.NotEq] [b] pos) (geB (geOp cmNe ga gb)) := dent_cmp (op_neS hu) rd_ne ha hb hm
theorem tins (hm : behindInMarks .In b = false := by rfl) : DenT X G (.Compare a [.In] [b] pos) (geB (geOp (inS false) ga gb)) := dent_cmp op_in_sign rd_inS ha hb hm
theorem tinf (hm : behindInMarks .In b = false := by rfl) : DenT X G (.Compare a [.In] [b] pos) (geB (geOp (inF false) ga gb)) := dent_cmp op_in_seq rd_inF ha hb hm
theorem tnif (hm : behindInMarks .NotIn b = false := by rfl) : DenT X G (.Compare a [.NotIn] [b] pos) (geB (geOp (inF true) ga gb)) := dent_cmp op_notIn_seq rd_inF ha hb hm
theorem tind (hu : X.A.units + 1 < cLine) (hm : behindInMarks .In b = false := by rfl) : DenT X G (.Compare a [.In] [b] pos) (geB (geOp (inD false) ga gb)) := by
  obtain ⟨ta, pa, qa⟩ := ha.ex
  obtain ⟨tb, pb, qb⟩ := hb.ex
  refine dent_of (m := .c) (pc_din hu pa pb) hm fun Z0 H0 Z H σ ρ Q S h => ?_
  refine ans_op (r := fun y x H2 Q => ∃ a o, x = .ref a ∧ DGet H2 a y o ∧ Q (.bl o.isSome) H2) (fun y x dy dx Z H Q s n hy hx h => ?_) qa qb S h
  unfold inD at h
  split at h
  · rename_i oo e
    obtain ⟨a, r, rfl, g, _, h1, h2⟩ := look_get s hx hy e
    refine ⟨a, r, rfl, g, ?_⟩
    have : r.isSome = oo.isSome := by
      cases oo with
      | none => rw [h2 rfl]; rfl
      | some d => obtain ⟨v, rfl, _⟩ := h1 d rfl; rfl
    rw [this]
    exact ansC s n h (.bl _)
  · exact h.elim
theorem tnid (hu : X.A.units + 1 < cLine) (hm : behindInMarks .NotIn b = false := by rfl) : DenT X G (.Compare a [.NotIn] [b] pos) (geB (geOp (inD true) ga gb)) := by
  obtain ⟨ta, pa, qa⟩ := ha.ex
  obtain ⟨tb, pb, qb⟩ := hb.ex
  refine dent_of (m := .c) (pc_dnotin hu pa pb) hm fun Z0 H0 Z H σ ρ Q S h => ?_
  refine ans_op (r := fun y x H2 Q => ∃ a o, x = .ref a ∧ DGet H2 a y o ∧ Q (.bl (!o.isSome)) H2) (fun y x dy dx Z H Q s n hy hx h => ?_) qa qb S h
  unfold inD at h
  split at h
  · rename_i oo e
    obtain ⟨a, r, rfl, g, _, h1, h2⟩ := look_get s hx hy e
    refine ⟨a, r, rfl, g, ?_⟩
    have : r.isSome = oo.isSome := by
      cases oo with
      | none => rw [h2 rfl]; rfl
      | some d => obtain ⟨v, rfl, _⟩ := h1 d rfl; rfl
    rw [this]
    exact ansC s n h (.bl _)
  · exact h.elim
/-! places -/
theorem ixl (hs : PlainIx b := by intro _ _; rfl) : Den X G .c (.Subscript a b pos) (geOp ixL ga gb) := den_ix ix_list rd_ixL ha hb hs
theorem ixt (hs : PlainIx b := by intro _ _; rfl) : Den X G .c (.Subscript a b pos) (geOp ixT ga gb) := den_ix ix_tup rd_ixT ha hb hs
theorem ixs (hs : PlainIx b := by intro _ _; rfl) : Den X G .c (.Subscript a b pos) (geOp ixS ga gb) := den_ix ix_str rd_ixS ha hb hs
theorem ixc (hs : PlainIx b := by intro _ _; rfl) : Den X G .c (.Subscript a b pos) (geOp ixC ga gb) := den_ix ix_list rd_ixC ha hb hs
theorem ixd (hu : X.A.units + 1 < cLine) (hs : NoSl b := by intro _ _; rfl) : Den X G .c (.Subscript a b pos) (geOp ixD ga gb) := den_ixD hu ha hb hs
end
/-! chains of ints -/
section
variable {c : Expr} {gc : VS.Env → R D} {m3 : Md} (ha : Den X G m1 a ga) (hb : Den X G m2 b gb) (hc : Den X G m3 c gc)
include ha hb hc
theorem chle (hm : lastMarks [.LtE, .LtE] [b, c] = false := by with_unfolding_all rfl) : Den X G .c (.Compare a [.LtE, .LtE] [b, c] pos) (geChain (cmI fun i j => decide (i ≤ j)) (cmI fun i j => decide (i ≤ j)) ga gb gc) := den_chain op_le op_le rd_cmI rd_cmI ha hb hc hm
theorem tchle (hm : lastMarks [.LtE, .LtE] [b, c] = false := by with_unfolding_all rfl) : DenT X G (.Compare a [.LtE, .LtE] [b, c] pos) (geB (geChain (cmI fun i j => decide (i ≤ j)) (cmI fun i j => decide (i ≤ j)) ga gb gc)) := dent_chain op_le op_le rd_cmI rd_cmI ha hb hc hm
theorem tchlt (hm : lastMarks [.LtE, .Lt] [b, c] = false := by with_unfolding_all rfl) : DenT X G (.Compare a [.LtE, .Lt] [b, c] pos) (geB (geChain (cmI fun i j => decide (i ≤ j)) (cmI fun i j => decide (i < j)) ga gb gc)) := dent_chain op_le op_lt rd_cmI rd_cmI ha hb hc hm
end
theorem tv (h : Den X G m e g) (he : ∀ whole, isTrue e X.env whole = (do let v ← whole; standAt e.pos; holding [v] (truthy v)) := by intro whole; rfl) : DenT X G e (geB g) := dent_val he h
theorem room2 {k : Nat} {A : Around} (r : Room k A) : A.units + 200 < cLine := by have := r.un; omega
theorem room1 {k : Nat} {A : Around} (r : Room k A) : A.units + 1 < cLine := by have := r.un; omega
/-! arguments -/
theorem a0 : DenA X G m [] gaNil := dena_nil
theorem a1 {es : List Expr} {h : VS.Env → R (List D)} (ha : Den X G .c e g) (hr : DenA X G .c es h) (hs : starEach (e :: es) X.env = (false, eval e X.env) :: starEach es X.env := by rfl) : DenA X G .c (e :: es) (gaCons g h) := dena_cons (fun q => by cases q) ha hr hs
theorem at1 {es : List Expr} {h : VS.Env → R (List D)} (ha : Den X G .t e g) (hr : DenA X G .t es h) (hs : starEach (e :: es) X.env = (false, eval e X.env) :: starEach es X.env := by rfl) : DenA X G .t (e :: es) (gaCons g h) := dena_cons (fun q => by cases q) ha hr hs
def Len (n : Nat) (ga : VS.Env → R (List D)) : Prop := ∀ ρ ds, ga ρ = .ok ds → ds.length = n
theorem l0 : Len 0 gaNil := fun ρ ds h => by cases h; rfl
theorem l1 {n : Nat} {h : VS.Env → R (List D)} (k : Len n h) : Len (n + 1) (gaCons g h) := fun ρ ds e => by
  unfold gaCons at e
  cases e1 : g ρ with
  | ok d =>
    rw [e1] at e
    cases e2 : h ρ with
    | ok es => rw [e2] at e; cases e; rw [List.length_cons, k ρ es e2]
    | ex c => rw [e2] at e; cases e
    | no => rw [e2] at e; cases e
  | ex c => rw [e1] at e; cases e
  | no => rw [e1] at e; cases e
section
variable {es : List Expr} {ha' : VS.Env → R (List D)} {p : Pos} {x : Str}
/-- a built-in by name -/
theorem cb {id : String} {r : List V → Hp → VK → Prop} {f : List D → R D} (hc : CallR X (.builtin id) r) (hr : ADen X.K G r m1 m f) (ha : DenA X G m1 (e :: es) ha') (hm : X.mg x = none) (hg : Gl X x := by rfl)
    (hv : bootBuiltins x = some (.builtin id) := by decide +kernel) (hn : x ≠ "__name__" := by decide) (hdb : (x == ("__debug__" : Str)) = false := by rfl) (he : starEach (e :: es) X.env = (false, eval e X.env) :: starEach es X.env := by rfl)
    (hpl : (backTo pos (starEach es X.env)).any (·.1) = false := by rfl) : Den X G m (.Call (.Name x p) (e :: es) [] pos) (geA f ha') := den_callB hc hr ha hg hm hv hn hdb he hpl
theorem cy {id : String} {r : List V → Hp → VK → Prop} {f : List D → R D} (hc : CallR X (.type id) r) (hr : ADen X.K G r m1 m f) (ha : DenA X G m1 (e :: es) ha') (hm : X.mg x = none) (hg : Gl X x := by rfl)
    (hv : bootBuiltins x = some (.type id) := by decide +kernel) (hn : x ≠ "__name__" := by decide) (hdb : (x == ("__debug__" : Str)) = false := by rfl) (he : starEach (e :: es) X.env = (false, eval e X.env) :: starEach es X.env := by rfl)
    (hpl : (backTo pos (starEach es X.env)).any (·.1) = false := by rfl) : Den X G m (.Call (.Name x p) (e :: es) [] pos) (geA f ha') := den_callTy hc hr ha hg hm hv hn hdb he hpl
/-- a def of the text -/
theorem cf {P : Program} {w : World} {K : PySem.W.Frag} {mg : Str → Option Value} {base : Heap} {T : List (Addr × Str)} {cl : Str → Addr} {f : Addr} {fd : FuncData} {ps : List Str} {k n : Nat} {F : List D → R D} (Fn : FnOk P w K mg base (L2N.CX P w) k f fd ps (spD K T cl n F)) (hm : mg x = some (.ref f)) (hk : PySem.W.keepIn K (.ref f) = true) (hb : Binds K fd ps [])
    (ha : DenA X G .c (e :: es) ha') (ln : Len n ha') (h8 : ps.length = n := by rfl) (h1 : X.prog = P := by rfl) (h2 : X.w = w := by rfl) (h3 : X.K = K := by rfl) (h4 : X.mg = mg := by rfl) (h5 : X.base = base := by rfl) (h6 : G.T = T := by rfl) (h7 : G.cl = cl := by rfl)
    (hr : Room k X.A := by assumption) (hx : Passes (L2N.CX X.prog X.w) X G.E := by first | exact body_pass | exact passLN) (hg : Gl X x := by rfl) (hl : es.length + 1 = ps.length := by rfl) (hdb : (x == ("__debug__" : Str)) = false := by rfl)
    (he : starEach (e :: es) X.env = (false, eval e X.env) :: starEach es X.env := by rfl) (hpl : (backTo pos (starEach es X.env)).any (·.1) = false := by rfl) : Den X G .c (.Call (.Name x p) (e :: es) [] pos) (geA F ha') := by
  subst h1 h2 h3 h4 h5 h6 h7 h8
  exact den_call Fn hr hg hm hk hb hx ha hl hdb he hpl ln
end
/-! targets -/
theorem tn {i : Nat} {x : Str} (hN : decide X.N.Nodup = true := by kernel_rfl) (hi : X.N[i]? = some x := by rfl) (hx : Loc X.env.scope x := by first | exact .inl (by rfl) | exact .inr (by rfl)) (hf : X.fn x = true ∨ X.env.scope.names.lookup x = some .local := by first | exact .inl (by rfl) | exact .inr (by rfl)) : DenG X G (.Name x pos) (.nm i) := deng_nm (of_decide_eq_true hN) hi hx hf
theorem t0 : DenGs X G [] .nil := dengs_nil
theorem t1 {es : List Expr} {t : Tg} {ts : Tgs} (h : DenG X G e t) (hr : DenGs X G es ts) (hs : (assignEach (e :: es) X.env).map (·.2) = assign e X.env :: (assignEach es X.env).map (·.2) := by rfl) : DenGs X G (e :: es) (.cons t ts) := dengs_cons h hr hs
theorem tt {es : List Expr} {k : Nat} {ts : Tgs} (h : DenGs X G es ts) (hc : X.calm = true := by rfl) (hn : (assignEach es X.env).length = ts.len := by rfl) (hst : (assignEach es X.env).findIdx? (·.1) = none := by rfl) : DenG X G (.Tuple es k pos) (.tp ts) := deng_tp hc h rfl hn hst
/-! statements -/
theorem sx (he : Den X G m e g) (hs : swapsWith e none pos.line X.env = pure false := by rfl) : DenS X G (.Expr e pos) (fun ρ => ofR (g ρ) fun _ => .nx ρ) := dens_expr he hs
theorem ss {i : Nat} {x : Str} {pos' : Pos} (he : Den X G .c e g) (hN : decide X.N.Nodup = true := by kernel_rfl) (hi : X.N[i]? = some x := by rfl) (hx : Loc X.env.scope x := by first | exact .inl (by rfl) | exact .inr (by rfl)) (hs : swapsWith e (some (.Name x pos')) pos.line X.env = pure false := by rfl)
    (hf : X.fn x = true ∨ X.env.scope.names.lookup x = some .local := by first | exact .inl (by rfl) | exact .inr (by rfl)) : DenS X G (.Assign [.Name x pos'] e pos) (fun ρ => ofR (g ρ) fun d => .nx (ρ.set i (.im d))) := dens_set (of_decide_eq_true hN) hi hx he hs hf
theorem so {i : Nat} {x : Str} {pos' : Pos} (he : Den X G .f e g) (hN : decide X.N.Nodup = true := by kernel_rfl) (hi : X.N[i]? = some x := by rfl) (hx : Loc X.env.scope x := by first | exact .inl (by rfl) | exact .inr (by rfl)) (hs : swapsWith e (some (.Name x pos')) pos.line X.env = pure false := by rfl)
    (hf : X.fn x = true ∨ X.env.scope.names.lookup x = some .local := by first | exact .inl (by rfl) | exact .inr (by rfl)) : DenS X G (.Assign [.Name x pos'] e pos) (ownO i g) := dens_own (of_decide_eq_true hN) hi hx he hs hf
theorem sfor {tg iter : Expr} {body : List Stmt} {t : Tg} {gi : VS.Env → R (List D)} {f : VS.Env → Out} (hp : PassesOwn (model X.prog X.w) X.A X.env X.xe) (hi : DenI X G tg iter gi) (hg : DenG X G tg t) (hb : DenB X G body f) (hc : X.calm = true := by rfl)
    (hs : ∀ x, foldedSetIterable iter X.env x = pure x := by intro x; rfl) : DenS X G (.For tg iter body [] pos) (forO t gi f) := dens_for hp hc hi hg hb hs
theorem sford {tg : Expr} {x : Str} {p1 : Pos} {body : List Stmt} {t : Tg} {i : Nat} {f : VS.Env → Out} (hp : PassesOwn (model X.prog X.w) X.A X.env X.xe) (hg : DenG X G tg t) (hb : DenB X G body f) (hc : X.calm = true := by rfl)
    (hN : X.N[i]? = some x := by rfl) (hv : Vis X.env.scope x := by first | exact .inl (by rfl) | exact .inr (.inl (by rfl)) | exact .inr (.inr (by rfl))) (hd : (x == ("__debug__" : Str)) = false := by rfl) (hcd : (x == ("__classdict__" : Str)) = false := by rfl) : DenS X G (.For tg (.Name x p1) body [] pos) (forDO t i f) := dens_forD hp hc hN hv hd hcd hg hb
theorem r1 {a : Expr} {ha' : VS.Env → R (List D)} {p : Pos} {tg : Expr} (ha : DenA X G .c [a] ha') (hm : X.mg "range" = none) (hg : Gl X "range" := by rfl) (hs : starEach [a] X.env = [(false, eval a X.env)] := by rfl) : DenI X G tg (.Call (.Name "range" p) [a] [] pos) (gSeqA rng1 ha') := deni_range1 hg hm ha hs
theorem r2 {a b : Expr} {ha' : VS.Env → R (List D)} {p : Pos} {tg : Expr} (ha : DenA X G .c [a, b] ha') (hm : X.mg "range" = none) (hg : Gl X "range" := by rfl) (hs : starEach [a, b] X.env = [(false, eval a X.env), (false, eval b X.env)] := by rfl)
    (hs2 : starEach [b] X.env = [(false, eval b X.env)] := by rfl) : DenI X G tg (.Call (.Name "range" p) [a, b] [] pos) (gSeqA rng2 ha') := deni_range2 hg hm ha hs hs2
section
variable {x : Str} {i : Nat} {p1 apos cpos : Pos}
theorem sapp (he : Den X G .c e g) (hN : X.N[i]? = some x := by rfl) (hv : Vis X.env.scope x := by first | exact .inl (by rfl) | exact .inr (.inl (by rfl)) | exact .inr (.inr (by rfl))) (hd : (x == ("__debug__" : Str)) = false := by rfl) (hcd : (x == ("__classdict__" : Str)) = false := by rfl)
    (hbase : attributeBase (.Name x p1) "append" X.env (eval (.Name x p1) X.env) = eval (.Name x p1) X.env := by rfl)
    (hfew : ((backTo cpos (starEach [e] X.env)).all (fun x => !x.1) && (backToKw cpos (keywordEach [] X.env)).all (fun x => x.1.isSome) && decide (([e] : List Expr).length + ([] : List Keyword).length + (if ([] : List Keyword).isEmpty then 0 else 1) < 30)) = true := by rfl)
    (hline : (apos.endLine == cpos.line) = true := by rfl) (hs : starEach [e] X.env = (false, eval e X.env) :: starEach [] X.env := by rfl) (hplain : (backTo cpos (starEach [] X.env)).any (·.1) = false := by rfl) :
    DenS X G (.Expr (.Call (.Attribute (.Name x p1) "append" apos) [e] [] cpos) pos) (appO i g) := dens_app hN hv hd hcd he hbase hfew hline hs hplain
theorem sext (he : Den X G m1 e g) (hN : X.N[i]? = some x := by rfl) (hv : Vis X.env.scope x := by first | exact .inl (by rfl) | exact .inr (.inl (by rfl)) | exact .inr (.inr (by rfl))) (hd : (x == ("__debug__" : Str)) = false := by rfl) (hcd : (x == ("__classdict__" : Str)) = false := by rfl)
    (hbase : attributeBase (.Name x p1) "extend" X.env (eval (.Name x p1) X.env) = eval (.Name x p1) X.env := by rfl)
    (hfew : ((backTo cpos (starEach [e] X.env)).all (fun x => !x.1) && (backToKw cpos (keywordEach [] X.env)).all (fun x => x.1.isSome) && decide (([e] : List Expr).length + ([] : List Keyword).length + (if ([] : List Keyword).isEmpty then 0 else 1) < 30)) = true := by rfl)
    (hline : (apos.endLine == cpos.line) = true := by rfl) (hs : starEach [e] X.env = (false, eval e X.env) :: starEach [] X.env := by rfl) (hplain : (backTo cpos (starEach [] X.env)).any (·.1) = false := by rfl) :
    DenS X G (.Expr (.Call (.Attribute (.Name x p1) "extend" apos) [e] [] cpos) pos) (extO i g) := dens_ext hN hv hd hcd he hbase hfew hline hs hplain
theorem spop {j : Nat} {y : Str} {py : Pos} (hN : X.N[i]? = some x := by rfl) (hv : Vis X.env.scope x := by first | exact .inl (by rfl) | exact .inr (.inl (by rfl)) | exact .inr (.inr (by rfl))) (hd : (x == ("__debug__" : Str)) = false := by rfl) (hcd : (x == ("__classdict__" : Str)) = false := by rfl)
    (hbase : attributeBase (.Name x p1) "pop" X.env (eval (.Name x p1) X.env) = eval (.Name x p1) X.env := by rfl) (hline : (apos.endLine == cpos.line) = true := by rfl) (hnd : decide X.N.Nodup = true := by kernel_rfl) (hj : X.N[j]? = some y := by rfl) (hy : Loc X.env.scope y := by first | exact .inl (by rfl) | exact .inr (by rfl))
    (hf : X.fn y = true ∨ X.env.scope.names.lookup y = some .local := by first | exact .inl (by rfl) | exact .inr (by rfl)) :
    DenS X G (.Assign [.Name y py] (.Call (.Attribute (.Name x p1) "pop" apos) [] [] cpos) pos) (popO i (some j)) := dens_popA hN hv hd hcd hbase hline (of_decide_eq_true hnd) hj hy hf
theorem sput {ix : Expr} {gk : VS.Env → R D} {pt : Pos} (hu : X.A.units + 1 < cLine) (he : Den X G .c e g) (hk : Den X G m2 ix gk) (hN : X.N[i]? = some x := by rfl) (hv : Vis X.env.scope x := by first | exact .inl (by rfl) | exact .inr (.inl (by rfl)) | exact .inr (.inr (by rfl)))
    (hd : (x == ("__debug__" : Str)) = false := by rfl) (hcd : (x == ("__classdict__" : Str)) = false := by rfl) (hs : swapsWith e (some (.Subscript (.Name x p1) ix pt)) pos.line X.env = pure false := by rfl) :
    DenS X G (.Assign [.Subscript (.Name x p1) ix pt] e pos) (putO i g gk) := dens_put hu hN hv hd hcd he hk hs
theorem m_get {o f : Expr} {go gf : VS.Env → R D} (hu : X.A.units + 1 < cLine) (ho : Den X G m1 o go) (he : Den X G m2 e g) (hf : Den X G .c f gf) (hbase : attributeBase o "get" X.env (eval o X.env) = eval o X.env := by rfl)
    (hfew : ((backTo cpos (starEach [e, f] X.env)).all (fun x => !x.1) && (backToKw cpos (keywordEach [] X.env)).all (fun x => x.1.isSome) && decide (([e, f] : List Expr).length + ([] : List Keyword).length + (if ([] : List Keyword).isEmpty then 0 else 1) < 30)) = true := by rfl)
    (hline : (apos.endLine == cpos.line) = true := by rfl) (htr : backTo cpos (starEach [e, f] X.env) = [(false, eval e X.env), (false, eval f X.env)] := by rfl) :
    Den X G .c (.Call (.Attribute o "get" apos) [e, f] [] cpos) (geGet go g gf) := den_get hu ho he hf ⟨hbase, hfew, hline, htr⟩
theorem isi {c : Ty} {pi p2 : Pos} {xc : Str} (he : Den X G m1 e g) (hmi : X.mg "isinstance" = none) (hmc : X.mg xc = none) (hgi : Gl X "isinstance" := by rfl) (hgc : Gl X xc := by rfl) (hvc : bootBuiltins xc = some (.type c.name) := by decide +kernel) (hnc : xc ≠ "__name__" := by decide)
    (hdc : (xc == ("__debug__" : Str)) = false := by rfl) (hs1 : starEach [e, .Name xc p2] X.env = (false, eval e X.env) :: starEach [.Name xc p2] X.env := by rfl) (hs2 : starEach [.Name xc p2] X.env = (false, eval (.Name xc p2) X.env) :: starEach [] X.env := by rfl) (hpl : (backTo pos (starEach [.Name xc p2] X.env)).any (·.1) = false := by rfl) :
    Den X G .c (.Call (.Name "isinstance" pi) [e, .Name xc p2] [] pos) (ge1 (isiD c) g) := den_isi (x := e) he (pe_bltn hgc hmc hvc rfl hnc hdc) hgi hmi (by decide +kernel) (by decide) (by rfl) hs1 hs2 hpl
theorem ssrt {p p2 q : Pos} (hu : X.A.units + 200 < cLine) (he : Den X G m1 e g) (hm : X.mg "sorted" = none) (hm2 : X.mg "set" = none) (hc : X.calm = true := by rfl) (hg : Gl X "sorted" := by rfl) (hg2 : Gl X "set" := by rfl) (hs : starEach [e] X.env = (false, eval e X.env) :: starEach [] X.env := by rfl)
    (hpl : (backTo q (starEach [] X.env)).any (·.1) = false := by rfl) (hpl2 : (backTo pos (starEach [] X.env)).any (·.1) = false := by rfl) (hs2 : starEach [.Call (.Name "set" p2) [e] [] q] X.env = (false, eval (.Call (.Name "set" p2) [e] [] q) X.env) :: starEach [] X.env := by rfl) :
    Den X G .f (.Call (.Name "sorted" p) [.Call (.Name "set" p2) [e] [] q] [] pos) (ge1 sortSet g) := den_sortSet hc hu he hg hm hg2 hm2 hs hpl hpl2 hs2
end
theorem slt {lo hi : Option Expr} {gl gh : VS.Env → R (Option Int)} {p2 : Pos} (he : Den X G m1 e g) (hl : DenO X G lo gl) (hh : DenO X G hi gh) : Den X G .c (.Subscript e (.Slice lo hi none p2) pos) (geSl slT g gl gh) := den_sl sl_tupA sd_T he hl hh
theorem sll {lo hi : Option Expr} {gl gh : VS.Env → R (Option Int)} {p2 : Pos} (he : Den X G m1 e g) (hl : DenO X G lo gl) (hh : DenO X G hi gh) : Den X G .f (.Subscript e (.Slice lo hi none p2) pos) (geSl slL g gl gh) := den_sl sl_list sd_L he hl hh
/-! comprehensions -/
section
variable {elt tg iter : Expr} {ifs : List Expr} {scope : Scope} {own : List (Str × Nat)} {t : Tg} {gi : VS.Env → R (List D)} {tst : VS.Env → R Bool} {x : Str} {p1 : Pos} {i : Nat}
theorem comp (hi : DenI X G tg iter gi) (hg : ∀ (s : Shared) (H : Hp) (C : Addr) (cl : List (Str × Addr)) (fp : List Addr), DenG (X.blk s H scope (compEnvC scope cl C X.env) fp) G.calm tg t)
    (ht : ∀ (s : Shared) (H : Hp) (C : Addr) (cl : List (Str × Addr)) (fp : List Addr), DenTs (X.blk s H scope (compEnvC scope cl C X.env) fp) G.calm ifs tst) (he : ∀ (s : Shared) (H : Hp) (C : Addr) (cl : List (Str × Addr)) (fp : List Addr), Den (X.blk s H scope (compEnvC scope cl C X.env) fp) G.calm .c elt g)
    {vs : List Nat} (own : List (Str × Nat)) (hq : own.map (·.2) = vs := by rfl) (ok : blkC X.N X.env.scope scope own = true := by kernel_rfl) (hv : ∀ j ∈ t.slots, j ∈ vs := by decide) (hc : X.calm = true := by rfl) (hN : decide X.N.Nodup = true := by kernel_rfl) (hs : ∀ x, foldedSetIterable iter X.env x = pure x := by intro x; rfl) :
    Den X G .f (.ListComp elt [⟨tg, iter, ifs, 0⟩] scope pos) (compE t vs gi tst g) := by subst hq; exact den_comp hc (of_decide_eq_true hN) hi (blkOk_by ok) hg ht he hs hv
theorem compd (hg : ∀ (s : Shared) (H : Hp) (C : Addr) (cl : List (Str × Addr)) (fp : List Addr), DenG (X.blk s H scope (compEnvC scope cl C X.env) fp) G.calm tg t)
    (ht : ∀ (s : Shared) (H : Hp) (C : Addr) (cl : List (Str × Addr)) (fp : List Addr), DenTs (X.blk s H scope (compEnvC scope cl C X.env) fp) G.calm ifs tst) (he : ∀ (s : Shared) (H : Hp) (C : Addr) (cl : List (Str × Addr)) (fp : List Addr), Den (X.blk s H scope (compEnvC scope cl C X.env) fp) G.calm .c elt g)
    {vs : List Nat} (own : List (Str × Nat)) (hq : own.map (·.2) = vs := by rfl) (ok : blkC X.N X.env.scope scope own = true := by kernel_rfl) (hvs : ∀ j ∈ t.slots, j ∈ vs := by decide) (hc : X.calm = true := by rfl) (hnd : decide X.N.Nodup = true := by kernel_rfl)
    (hN : X.N[i]? = some x := by rfl) (hv : Vis X.env.scope x := by first | exact .inl (by rfl) | exact .inr (.inl (by rfl)) | exact .inr (.inr (by rfl))) (hd : (x == ("__debug__" : Str)) = false := by rfl) (hcd : (x == ("__classdict__" : Str)) = false := by rfl) :
    Den X G .f (.ListComp elt [⟨tg, .Name x p1, ifs, 0⟩] scope pos) (compDE t vs i tst g) := by subst hq; exact den_compD hc (of_decide_eq_true hnd) hN hv hd hcd (blkOk_by ok) hg ht he hvs
theorem scomp {y : Str} {j : Nat} {py spos : Pos} (hi : DenI X G tg iter gi) (hg : ∀ (s : Shared) (H : Hp) (C : Addr) (cl : List (Str × Addr)) (fp : List Addr), DenG (X.blk s H scope (compEnvC scope cl C X.env) fp) G.calm tg t)
    (ht : ∀ (s : Shared) (H : Hp) (C : Addr) (cl : List (Str × Addr)) (fp : List Addr), DenTs (X.blk s H scope (compEnvC scope cl C X.env) fp) G.calm ifs tst) (he : ∀ (s : Shared) (H : Hp) (C : Addr) (cl : List (Str × Addr)) (fp : List Addr), Den (X.blk s H scope (compEnvC scope cl C X.env) fp) G.calm .c elt g)
    {vs : List Nat} (own : List (Str × Nat)) (hq : own.map (·.2) = vs := by rfl) (ok : blkC X.N X.env.scope scope own = true := by kernel_rfl) (hv : ∀ j ∈ t.slots, j ∈ vs := by decide) (hc : X.calm = true := by rfl) (hN : decide X.N.Nodup = true := by kernel_rfl) (hs : ∀ x, foldedSetIterable iter X.env x = pure x := by intro x; rfl)
    (hy : X.N[j]? = some y := by rfl) (hyl : X.env.scope.names.lookup y = some .local := by rfl) (hsw : swapsWith (.ListComp elt [⟨tg, iter, ifs, 0⟩] scope pos) (some (.Name y py)) spos.line X.env = pure true := by rfl) :
    DenS X G (.Assign [.Name y py] (.ListComp elt [⟨tg, iter, ifs, 0⟩] scope pos) spos) (ownO j (compE t vs gi tst g)) := by subst hq; exact dens_setComp hc (of_decide_eq_true hN) hy hyl hsw hi (blkOk_by ok) hg ht he hs hv
end
end
end VS

set_option Elab.async false
set_option linter.all false
set_option maxRecDepth 100000
set_option maxHeartbeats 4000000
/-! VN18: parallel assignments, targets, with their small conditions. -/
namespace VS
open PySem PySem.Spec PyProof.Rows L2 LamX
section
variable {X : Cx} {G : Wh} {m m1 m2 m3 : Md} {a b c e : Expr} {ga gb gc g : VS.Env → R D} {pos : Pos}
theorem sp2 {i j : Nat} {x y : Str} {px py pt : Pos} {kt k2 pt2} (ha : Den X G m1 a ga) (hb : Den X G m2 b gb) (hc : X.calm = true := by rfl) (hN : decide X.N.Nodup = true := by kernel_rfl) (hi : X.N[i]? = some x := by rfl) (hj : X.N[j]? = some y := by rfl) (hij : i ≠ j := by decide)
    (hx : X.env.scope.names.lookup x = some .local := by rfl) (hy : X.env.scope.names.lookup y = some .local := by rfl)
    (hs1 : starEach [a, b] X.env = (false, eval a X.env) :: starEach [b] X.env := by rfl) (hs2 : starEach [b] X.env = (false, eval b X.env) :: starEach [] X.env := by rfl)
    (hw : swappedStores [.Tuple [.Name x px, .Name y py] kt pt] (.Tuple [a, b] k2 pt2) X.env = pure (some [x, y]) := by rfl)
    (hs : swapsWithSole [.Tuple [.Name x px, .Name y py] kt pt] (.Tuple [a, b] k2 pt2) pos.line X.env = pure false := by rfl) :
    DenS X G (.Assign [.Tuple [.Name x px, .Name y py] kt pt] (.Tuple [a, b] k2 pt2) pos) (parO2 i j m1 m2 ga gb) := dens_par2 hc (of_decide_eq_true hN) hi hj hij hx hy ha hb hs1 hs2 hw hs
theorem sp3 {i j l : Nat} {x y z : Str} {px py pz pt : Pos} {kt k2 pt2} (ha : Den X G m1 a ga) (hb : Den X G m2 b gb) (hcc : Den X G m3 c gc) (hc : X.calm = true := by rfl) (hN : decide X.N.Nodup = true := by kernel_rfl) (hi : X.N[i]? = some x := by rfl) (hj : X.N[j]? = some y := by rfl) (hl : X.N[l]? = some z := by rfl) (hij : i ≠ j := by decide) (hil : i ≠ l := by decide) (hjl : j ≠ l := by decide)
    (hx : X.env.scope.names.lookup x = some .local := by rfl) (hy : X.env.scope.names.lookup y = some .local := by rfl) (hz : X.env.scope.names.lookup z = some .local := by rfl)
    (hs1 : starEach [a, b, c] X.env = (false, eval a X.env) :: starEach [b, c] X.env := by rfl) (hs2 : starEach [b, c] X.env = (false, eval b X.env) :: starEach [c] X.env := by rfl) (hs3 : starEach [c] X.env = (false, eval c X.env) :: starEach [] X.env := by rfl)
    (hw : swappedStores [.Tuple [.Name x px, .Name y py, .Name z pz] kt pt] (.Tuple [a, b, c] k2 pt2) X.env = pure (some [x, y, z]) := by rfl)
    (hs : swapsWithSole [.Tuple [.Name x px, .Name y py, .Name z pz] kt pt] (.Tuple [a, b, c] k2 pt2) pos.line X.env = pure false := by rfl) :
    DenS X G (.Assign [.Tuple [.Name x px, .Name y py, .Name z pz] kt pt] (.Tuple [a, b, c] k2 pt2) pos) (parO3 i j l m1 m2 m3 ga gb gc) := dens_par3 hc (of_decide_eq_true hN) hi hj hl hij hil hjl hx hy hz ha hb hcc hs1 hs2 hs3 hw hs
theorem stg {tg : Expr} {t : Tg} (he : Den X G .c e g) (hg : DenG X G tg t) (hs : swapsWithSole [tg] e pos.line X.env = pure false := by rfl) (hw : swappedStores [tg] e X.env = pure none := by rfl) (h1 : (assignEach [tg] X.env).map (·.2) = [assign tg X.env] := by rfl) : DenS X G (.Assign [tg] e pos) (tgO t g) := dens_tg he hg hs hw h1
/-! .. with cells: by a tuple -/
theorem sq2 {i j : Nat} {x y : Str} {px py pt : Pos} {kt k2 pt2} (ha : Den X G m1 a ga) (hb : Den X G m2 b gb) (hc : X.calm = true := by rfl) (hN : decide X.N.Nodup = true := by kernel_rfl) (hi : X.N[i]? = some x := by rfl) (hj : X.N[j]? = some y := by rfl) (hij : i ≠ j := by decide)
    (hx : Loc X.env.scope x := by first | exact .inl (by rfl) | exact .inr (by rfl)) (hy : Loc X.env.scope y := by first | exact .inl (by rfl) | exact .inr (by rfl)) (fx : X.fn x = true := by rfl) (fy : X.fn y = true := by rfl)
    (hs1 : starEach [a, b] X.env = (false, eval a X.env) :: starEach [b] X.env := by rfl) (hs2 : starEach [b] X.env = (false, eval b X.env) :: starEach [] X.env := by rfl)
    (hw : swappedStores [.Tuple [.Name x px, .Name y py] kt pt] (.Tuple [a, b] k2 pt2) X.env = pure none := by rfl)
    (hs : swapsWithSole [.Tuple [.Name x px, .Name y py] kt pt] (.Tuple [a, b] k2 pt2) pos.line X.env = pure false := by rfl)
    (he : (assignEach [.Tuple [.Name x px, .Name y py] kt pt] X.env).map (·.2) = [assign (.Tuple [.Name x px, .Name y py] kt pt) X.env] := by rfl)
    (hn : (assignEach [.Name x px, .Name y py] X.env).length = 2 := by rfl) (hst : (assignEach [.Name x px, .Name y py] X.env).findIdx? (·.1) = none := by rfl)
    (e1 : (assignEach [.Name x px, .Name y py] X.env).map (·.2) = assign (.Name x px) X.env :: (assignEach [.Name y py] X.env).map (·.2) := by rfl)
    (e2 : (assignEach [.Name y py] X.env).map (·.2) = assign (.Name y py) X.env :: (assignEach [] X.env).map (·.2) := by rfl) :
    DenS X G (.Assign [.Tuple [.Name x px, .Name y py] kt pt] (.Tuple [a, b] k2 pt2) pos) (parO2 i j m1 m2 ga gb) := by
  have nd := of_decide_eq_true hN
  obtain ⟨ta, pa, qa⟩ := ha.ex
  obtain ⟨tb, pb, qb⟩ := hb.ex
  refine ⟨_, ps_asg (pe_tup (pa_cons pa (pa_cons pb pa_nil hs2) hs1)) (pg_tup (n := 2) hc (pgs_cons (pg_name nd hi hx (.inl fx)) (pgs_cons (pg_name nd hj hy (.inl fy)) pgs_nil e2) e1) hn hst) hs hw he, fun Z0 H0 Z H σ ρ D S h => ?_⟩
  show ta σ H _
  refine ans_bind (e := a) qa S h fun d1 _ h1 v1 Z1 H1 g1 f1 => ?_
  have S1 := S.grow g1
  show tb σ H1 _
  refine ans_bind (e := b) qb S1 h1 fun d2 _ h2 v2 Z2 H2 g2 f2 => ?_
  have h2' : PostS X.K G (match slM m1 d1, slM m2 d2 with | some s1, some s2 => .nx ((ρ.set i s1).set j s2) | _, _ => .no) Z0 H0 D := h2
  refine ⟨by show 2 ≤ sizeLine; rw [sizeLine_eq]; omega, fun p hp => ⟨p, [v1, v2], rfl, SqT.of upd_same, rfl, v1, [v2], rfl, v2, [], rfl, rfl, ?_⟩⟩
  split at h2'
  · rename_i s1 s2 e1 e2
    have g3 : Grow G.T Z2 H2 Z2 (upd H2 p (.tup [v1, v2])) := grow_new g2.s g2.n hp
    have i1 := (item_of f1 e1 (ExtN.refl H)).grow (g2.trans g3)
    have i2 := (item_of f2 e2 g1.h).grow g3
    have S2 := (S1.grow g2).grow g3
    have ap1 : ∀ a, v1 = .ref a → m1 = .f → Apart σ ρ a := fun a e hm => S.apart (nprot_f f1 hm a e)
    have ap2 : ∀ a, v2 = .ref a → m2 = .f → Apart (σ.set i (some v1)) (ρ.set i s1) a := fun a e hm =>
      Apart.item (S1.apart (nprot_f f2 hm a e)) i1 (fun hm1 e1 => by
        obtain ⟨a', e3, pr⟩ := prot_f f1 hm1
        rw [e1] at e3; cases e3
        exact nprot_f f2 hm a e pr) i
    exact h2' Z2 _ _ ((S2.item S.g.h i1 ap1 i).item S.g.h i2 ap2 j)
  · exact h2'.elim
theorem sq3 {i j l : Nat} {x y z : Str} {px py pz pt : Pos} {kt k2 pt2} (ha : Den X G m1 a ga) (hb : Den X G m2 b gb) (hcc : Den X G m3 c gc) (hc : X.calm = true := by rfl) (hN : decide X.N.Nodup = true := by kernel_rfl) (hi : X.N[i]? = some x := by rfl) (hj : X.N[j]? = some y := by rfl) (hl : X.N[l]? = some z := by rfl) (hij : i ≠ j := by decide) (hil : i ≠ l := by decide) (hjl : j ≠ l := by decide)
    (hx : Loc X.env.scope x := by first | exact .inl (by rfl) | exact .inr (by rfl)) (hy : Loc X.env.scope y := by first | exact .inl (by rfl) | exact .inr (by rfl)) (hz : Loc X.env.scope z := by first | exact .inl (by rfl) | exact .inr (by rfl)) (fx : X.fn x = true := by rfl) (fy : X.fn y = true := by rfl) (fz : X.fn z = true := by rfl)
    (hs1 : starEach [a, b, c] X.env = (false, eval a X.env) :: starEach [b, c] X.env := by rfl) (hs2 : starEach [b, c] X.env = (false, eval b X.env) :: starEach [c] X.env := by rfl) (hs3 : starEach [c] X.env = (false, eval c X.env) :: starEach [] X.env := by rfl)
    (hw : swappedStores [.Tuple [.Name x px, .Name y py, .Name z pz] kt pt] (.Tuple [a, b, c] k2 pt2) X.env = pure none := by rfl)
    (hs : swapsWithSole [.Tuple [.Name x px, .Name y py, .Name z pz] kt pt] (.Tuple [a, b, c] k2 pt2) pos.line X.env = pure false := by rfl)
    (he : (assignEach [.Tuple [.Name x px, .Name y py, .Name z pz] kt pt] X.env).map (·.2) = [assign (.Tuple [.Name x px, .Name y py, .Name z pz] kt pt) X.env] := by rfl)
    (hn : (assignEach [.Name x px, .Name y py, .Name z pz] X.env).length = 3 := by rfl) (hst : (assignEach [.Name x px, .Name y py, .Name z pz] X.env).findIdx? (·.1) = none := by rfl)
    (e1 : (assignEach [.Name x px, .Name y py, .Name z pz] X.env).map (·.2) = assign (.Name x px) X.env :: (assignEach [.Name y py, .Name z pz] X.env).map (·.2) := by rfl)
    (e2 : (assignEach [.Name y py, .Name z pz] X.env).map (·.2) = assign (.Name y py) X.env :: (assignEach [.Name z pz] X.env).map (·.2) := by rfl)
    (e3 : (assignEach [.Name z pz] X.env).map (·.2) = assign (.Name z pz) X.env :: (assignEach [] X.env).map (·.2) := by rfl) :
    DenS X G (.Assign [.Tuple [.Name x px, .Name y py, .Name z pz] kt pt] (.Tuple [a, b, c] k2 pt2) pos) (parO3 i j l m1 m2 m3 ga gb gc) := by
  have nd := of_decide_eq_true hN
  obtain ⟨ta, pa, qa⟩ := ha.ex
  obtain ⟨tb, pb, qb⟩ := hb.ex
  obtain ⟨tc, pc, qc⟩ := hcc.ex
  refine ⟨_, ps_asg (pe_tup (pa_cons pa (pa_cons pb (pa_cons pc pa_nil hs3) hs2) hs1)) (pg_tup (n := 3) hc (pgs_cons (pg_name nd hi hx (.inl fx)) (pgs_cons (pg_name nd hj hy (.inl fy)) (pgs_cons (pg_name nd hl hz (.inl fz)) pgs_nil e3) e2) e1) hn hst) hs hw he, fun Z0 H0 Z H σ ρ D S h => ?_⟩
  show ta σ H _
  refine ans_bind (e := a) qa S h fun d1 _ h1 v1 Z1 H1 g1 f1 => ?_
  have S1 := S.grow g1
  show tb σ H1 _
  refine ans_bind (e := b) qb S1 h1 fun d2 _ h2 v2 Z2 H2 g2 f2 => ?_
  have S2 := S1.grow g2
  show tc σ H2 _
  refine ans_bind (e := c) qc S2 h2 fun d3 _ h3 v3 Z3 H3 g3 f3 => ?_
  have h3' : PostS X.K G (match slM m1 d1, slM m2 d2, slM m3 d3 with | some s1, some s2, some s3 => .nx (((ρ.set i s1).set j s2).set l s3) | _, _, _ => .no) Z0 H0 D := h3
  refine ⟨by show 3 ≤ sizeLine; rw [sizeLine_eq]; omega, fun p hp => ⟨p, [v1, v2, v3], rfl, SqT.of upd_same, rfl, v1, [v2, v3], rfl, v2, [v3], rfl, v3, [], rfl, rfl, ?_⟩⟩
  split at h3'
  · rename_i s1 s2 s3 e1 e2 e3
    have g4 : Grow G.T Z3 H3 Z3 (upd H3 p (.tup [v1, v2, v3])) := grow_new g3.s g3.n hp
    have i1 := (item_of f1 e1 (ExtN.refl H)).grow ((g2.trans g3).trans g4)
    have i2 := (item_of f2 e2 g1.h).grow (g3.trans g4)
    have i3 := (item_of f3 e3 (g1.h.trans g2.h)).grow g4
    have S3 := (S2.grow g3).grow g4
    have ap1 : ∀ a, v1 = .ref a → m1 = .f → Apart σ ρ a := fun a e hm => S.apart (nprot_f f1 hm a e)
    have ap2 : ∀ a, v2 = .ref a → m2 = .f → Apart (σ.set i (some v1)) (ρ.set i s1) a := fun a e hm =>
      Apart.item (S1.apart (nprot_f f2 hm a e)) i1 (fun hm1 e1 => by
        obtain ⟨a', e3, pr⟩ := prot_f f1 hm1
        rw [e1] at e3; cases e3
        exact nprot_f f2 hm a e pr) i
    have ap3 : ∀ a, v3 = .ref a → m3 = .f → Apart ((σ.set i (some v1)).set j (some v2)) ((ρ.set i s1).set j s2) a := fun a e hm =>
      Apart.item (Apart.item (S2.apart (nprot_f f3 hm a e)) i1 (fun hm1 e1 => by
        obtain ⟨a', e3, pr⟩ := prot_f f1 hm1
        rw [e1] at e3; cases e3
        exact nprot_f f3 hm a e (pr.ext g2.h)) i) i2 (fun hm2 e2 => by
        obtain ⟨a', e3, pr⟩ := prot_f f2 hm2
        rw [e2] at e3; cases e3
        exact nprot_f f3 hm a e pr) j
    exact h3' Z3 _ _ (((S3.item S.g.h i1 ap1 i).item S.g.h i2 ap2 j).item S.g.h i3 ap3 l)
  · exact h3'.elim
end
theorem law_sp {K : PySem.W.Frag} {cl : Str → Addr} {F : List D → R D} {H : Hp} {a : Addr} {ns : List Int} (ho : Only H) (hS : SqL K H a (ns.map V.int)) (h : F [.scr ns] = .ok (.bl true)) : spD K [] cl 1 F [.ref a] H (fun v _ => v = .bl true) E0 := by
  refine ⟨H, [.scr ns], Sub.refl H, fun b o e => ?_, (fun p hp => by cases hp), .cons (.scr hS) .nil, rfl, ?_⟩
  · rcases ho b with q | ⟨o', xs, q⟩
    · rw [q] at e; cases e
    · rw [q] at e; cases e; exact fun ps z => by cases z
  · rw [h]
    intro v Z' H' _ _ r
    cases r; rfl
end VS

set_option Elab.async false
set_option linter.all false
set_option maxRecDepth 100000
set_option maxHeartbeats 4000000
/-! VR3: range with a step; the plain reading is by rangeSize. -/
namespace VS
open PySem PySem.Spec PyProof.Rows L2 LamX
def uptoC (lo c : Int) (n : Nat) : List D := (List.range n).map fun (i : Nat) => .int (lo + (i : Nat) * c)
theorem uptoC_walk {K : PySem.W.Frag} {T : List (Addr × Str)} {Z : Hp} (lo c : Int) (n : Nat) : WalkD K T (Itc lo c n) Z (uptoC lo c n) := by
  have hl : (uptoC lo c n).length = n := by simp [uptoC]
  refine ⟨fun _ => True, _, by rw [hl]; exact walk_rangeC, fun _ _ => trivial, fun i Z2 H2 x H3 hi s1 s2 nt y => ?_⟩
  obtain ⟨rfl, rfl⟩ := y
  rw [hl] at hi
  exact ⟨Z2, .int (lo + (i : Nat) * c), .refl s2 nt, by simp [uptoC, hi], .int _⟩
def rng3 : List D → R (List D)
  | [.int i, .int j, .int c] => if c ≠ 0 ∧ c.natAbs < 1073741824 ∧ Builtin.Range.small i j c = true then .ok (uptoC i c (Builtin.Range.rangeSize i j c).toNat) else .no
  | _ => .no
theorem fins3' {K : PySem.W.Frag} {m : Md} {Z H : Hp} {vs : List V} {d e f : D} (h : Fins K m Z H vs [d, e, f]) : ∃ v w x, vs = [v, w, x] ∧ Fin K H Z H m v d ∧ Fin K H Z H m w e ∧ Fin K H Z H m x f := by
  cases h with | cons h t => obtain ⟨w, x, rfl, q, r⟩ := fins2 t; exact ⟨_, _, _, rfl, h, q, r⟩
section
variable {X : Cx} {G : Wh}
theorem deni_range3 {tg a b c : Expr} {p pos : Pos} {g : Env → R (List D)} (hg : Gl X "range") (hm : X.mg "range" = none) (ha : DenA X G .c [a, b, c] g)
    (hs : starEach [a, b, c] X.env = (false, eval a X.env) :: starEach [b, c] X.env) (hpl : (backTo pos (starEach [b, c] X.env)).any (·.1) = false) :
    DenI X G tg (.Call (.Name "range" p) [a, b, c] [] pos) (gSeqA rng3 g) := by
  obtain ⟨t, pt, q⟩ := ha.ex
  refine ⟨_, pi_range3 hg hm pt hs hpl, fun Z0 H0 Z H σ ρ Rk S h => ?_⟩
  refine seq_a (es := [a, b, c]) q S h (fun d ds e v Z' H' g' f k => ?_) (fun d c => by unfold rng3; split <;> (try split) <;> (intro z; cases z))
  unfold rng3 at e
  split at e
  · split at e
    · rename_i hc
      cases e
      obtain ⟨x, y, z, rfl, fx, fy, fz⟩ := fins3' f
      exact ⟨_, _, _, _, by rw [now_int (fx.now (Hx := H')), now_int (fy.now (Hx := H')), now_int (fz.now (Hx := H'))], ⟨hc.1, hc.2.1, hc.2.2, PyProof.Rows.rangeSize_toNat _ _ _⟩, k _ Z' H' (.refl g'.s g'.n) (uptoC_walk _ _ _)⟩
    · cases e
  · cases e
theorem r3 {a b c : Expr} {ha' : VS.Env → R (List D)} {p pos : Pos} {tg : Expr} (ha : DenA X G .c [a, b, c] ha') (hm : X.mg "range" = none) (hg : Gl X "range" := by rfl)
    (hs : starEach [a, b, c] X.env = (false, eval a X.env) :: starEach [b, c] X.env := by rfl) (hpl : (backTo pos (starEach [b, c] X.env)).any (·.1) = false := by rfl) : DenI X G tg (.Call (.Name "range" p) [a, b, c] [] pos) (gSeqA rng3 ha') := deni_range3 hg hm ha hs hpl
end
end VS

set_option Elab.async false
set_option linter.all false
set_option maxRecDepth 100000
set_option maxHeartbeats 4000000
/-! VX1: powers, dict of pairs, written dicts, list and sorted of dicts with tuple keys, xs.pop(0). -/
namespace VS
open PySem PySem.Spec PyProof.Rows L2 LamX
section
variable {K : PySem.W.Frag} {G : Wh}
def powI : D → D → R D | .int i, .int j => if 0 ≤ j ∧ j ≤ 1000000 ∧ i.natAbs < 2 ^ 64 then .ok (.int (i ^ j.toNat)) else .no | _, _ => .no
theorem rd_powI : RDen K G (rI CPow fun i j => .int (i ^ j.toNat)) .c powI := by
  intro x y dx dy Z H Q s n hx hy h
  unfold powI at h
  split at h
  · split at h
    · rename_i hc
      exact ⟨_, _, now_int hx, now_int hy, hc, ansC s n h (.int _)⟩
    · exact h.elim
  · exact h.elim
theorem ansK {Z H : Hp} {Q : VK} {ds : List (Key × D)} {vs : List (Key × V)} (s : Sub Z H) (n : ∀ a o, Z a = some o → NoTb o) (h : Ans K G .f (.ok (.dK ds)) Z H Q) (r : RepsP K Z vs ds) : ∀ p, H p = none → Q (.ref p) (upd H p (.dK vs)) :=
  fun p hp => h _ Z _ (grow_new s n hp) ⟨p, rfl, .dK upd_same r, sub_none s hp, nprot_none hp⟩
/-! dict of a list of pairs -/
def pairD : D → Option (Key × D) | .tup [k, v] => (keyD k).map (·, v) | _ => none
def pairsD : List D → Option (List (Key × D))
  | [] => some [] | d :: ds => match pairD d, pairsD ds with | some p, some ps => some (p :: ps) | _, _ => none
def dictP : List D → R D | [.lst ds] => (match pairsD ds with | some kvs => .ok (.dK (mg [] kvs)) | none => .no) | _ => .no
theorem pairs_rep {Z H : Hp} (s : Sub Z H) : ∀ {ds : List D} {vs : List V} {kvs : List (Key × D)}, Reps K Z vs ds → pairsD ds = some kvs →
    ∃ (ps : List Addr) (us : List (Key × V)), vs = ps.map V.ref ∧ Paired (fun p kv => SqT K H p [kV kv.1, kv.2]) ps us ∧ RepsP K Z us kvs
  | [], _, _, h, e => by cases h; cases e; exact ⟨[], [], rfl, .nil, .nil⟩
  | d :: ds, _, kvs, h, e => by
    cases h with
    | @cons v vs _ _ h t =>
      unfold pairsD at e
      split at e
      · rename_i p ps e1 e2
        cases e
        obtain ⟨qs, us, rfl, q1, q2⟩ := pairs_rep s t e2
        unfold pairD at e1
        split at e1
        · rename_i k w
          cases ek : keyD k with
          | none => rw [ek] at e1; cases e1
          | some k' =>
            rw [ek] at e1; cases e1
            cases h with
            | @tup a ws _ hz hr =>
              cases hr with
              | cons r1 r2 =>
                cases r2 with
                | cons r2 r3 =>
                  cases r3
                  rw [key_of r1 ek] at hz
                  exact ⟨a :: qs, (k', _) :: us, rfl, .cons (SqT.of (s _ _ hz)) q1, .cons r2 q2⟩
        · cases e1
      · cases e
abbrev rDictP (K : PySem.W.Frag) : List V → Hp → VK → Prop := fun xs H Q => ∃ (a : Addr) (ps : List Addr) (kvs : List (Key × V)), xs = [.ref a] ∧ SqL K H a (ps.map V.ref) ∧ Paired (fun p kv => SqT K H p [kV kv.1, kv.2]) ps kvs ∧
    ∀ p, H p = none → Q (.ref p) (upd H p (.dK (mergeK [] kvs)))
theorem ad_dictP : ADen K G (rDictP K) .t .f dictP := by
  intro vs ds Z H Q s n f h
  unfold dictP at h
  split at h
  · rename_i es
    split at h
    · rename_i kvs e
      obtain ⟨v, rfl, fv⟩ := fins1 f
      obtain ⟨a, us, rfl, hh, r⟩ := now_lst s fv
      obtain ⟨ps, ws, rfl, q1, q2⟩ := pairs_rep s r e
      exact ⟨a, ps, ws, rfl, SqL.of hh, q1, ansK s n h (mg_P q2 .nil)⟩
    · exact h.elim
  · exact h.elim
/-! list of a dict with tuple keys -/
def tupK (k : List Key) : D := .tup (k.map keyV)
def listDctT : List D → R D | [.dT kvs] => .ok (.lst (kvs.map fun kd => tupK kd.1)) | _ => .no
theorem frz_keys {T : List (Addr × Str)} : ∀ {vs : List (List Key × V)} {bs : List Addr} {Z H : Hp}, Sub Z H → (∀ a o, Z a = some o → NoTb o) → IsKeys H vs bs →
    ∃ Z', Grow T Z H Z' H ∧ ∀ (i : Nat) (b : Addr) (v : List Key × V), bs[i]? = some b → vs[i]? = some v → Rep K Z' (.ref b) (tupK v.1)
  | [], [], Z, H, s, n, _ => ⟨Z, .refl s n, fun i b v e _ => by simp at e⟩
  | [], _ :: _, _, _, _, _, h => by cases h
  | _ :: _, [], _, _, _, _, h => by cases h
  | v :: vs, b :: bs, Z, H, s, n, h => by
    cases h with
    | cons h t =>
      obtain ⟨Z', g, k⟩ := frz_keys (T := T) s n t
      have fin : ∀ Z2, Grow T Z H Z2 H → Rep K Z2 (.ref b) (tupK v.1) → Sub Z' Z2 → ∃ Z', Grow T Z H Z' H ∧ ∀ (i : Nat) (c : Addr) (w : List Key × V), (b :: bs)[i]? = some c → (v :: vs)[i]? = some w → Rep K Z' (.ref c) (tupK w.1) := fun Z2 g2 r sb =>
        ⟨Z2, g2, fun i c w e1 e2 => by
          cases i with
          | zero => simp at e1 e2; subst e1 e2; exact r
          | succ i => simp at e1 e2; exact Rep.le sb.le _ _ (k i c w e1 e2)⟩
      cases e : Z' b with
      | some w =>
        have := g.s _ _ e
        rw [h] at this; cases this
        exact fin Z' g (.tup e (reps_keyV _)) (Sub.refl _)
      | none => exact fin _ (grow_frz g.s g.n e h (nt_tup _) g (fun ⟨w, e, _, nu⟩ => by rw [h] at e; cases e; exact nu _ rfl)) (.tup upd_same (reps_keyV _)) (sub_upd e)
theorem reps_at {Z : Hp} : ∀ {vs : List V} {ds : List D}, vs.length = ds.length → (∀ (i : Nat) (v : V) (d : D), vs[i]? = some v → ds[i]? = some d → Rep K Z v d) → Reps K Z vs ds
  | [], [], _, _ => .nil
  | [], _ :: _, h, _ => by cases h
  | _ :: _, [], h, _ => by cases h
  | v :: vs, d :: ds, h, k => .cons (k 0 v d rfl rfl) (reps_at (by simpa using h) fun i v d e1 e2 => k (i + 1) v d (by simpa using e1) (by simpa using e2))
theorem isKeys_len {H : Hp} : ∀ {vs : List (List Key × V)} {bs : List Addr}, IsKeys H vs bs → bs.length = vs.length
  | _, _, .nil => rfl
  | _, _, .cons _ t => by rw [List.length_cons, List.length_cons, isKeys_len t]
theorem keysQ {Z : Hp} : ∀ {vs : List (List Key × V)} {ds : List (List Key × D)}, RepsQ K Z vs ds → vs.map (·.1) = ds.map (·.1)
  | _, _, .nil => rfl
  | _, _, .cons _ t => by rw [List.map_cons, List.map_cons, keysQ t]
abbrev rListDT : List V → Hp → VK → Prop := fun xs H Q => ∃ d kvs, xs = [V.ref d] ∧ Rd H d (.dT kvs) ∧ ∀ p bs, H p = none → IsKeys H kvs bs → Q (.ref p) (upd H p (.lst (bs.map V.ref)))
theorem ad_listDctT : ADen K G rListDT .t .f listDctT := by
  intro vs ds Z H Q s n f h
  unfold listDctT at h
  split at h
  · rename_i kvs
    obtain ⟨v, rfl, fv⟩ := fins1 f
    obtain ⟨a, us, rfl, hh, r⟩ := now_dT s fv
    refine ⟨a, us, rfl, hh, fun p bs hp hk => ?_⟩
    obtain ⟨Z', g, k⟩ := frz_keys (T := G.T) (K := K) s n hk
    have hl := isKeys_len hk
    have kq := keysQ r
    have hl2 := r.length
    have rr : Reps K Z' (bs.map V.ref) (kvs.map fun kd => tupK kd.1) := by
      refine reps_at (by rw [List.length_map, List.length_map, hl, hl2]) fun i v d e1 e2 => ?_
      rw [List.getElem?_map] at e1 e2
      cases e3 : bs[i]? with
      | none => rw [e3] at e1; cases e1
      | some b =>
        rw [e3] at e1; cases e1
        cases e4 : kvs[i]? with
        | none => rw [e4] at e2; cases e2
        | some kd =>
          rw [e4] at e2; cases e2
          have e5 : (us.map (·.1))[i]? = some kd.1 := by rw [kq, List.getElem?_map, e4]; rfl
          rw [List.getElem?_map] at e5
          cases e6 : us[i]? with
          | none => rw [e6] at e5; cases e5
          | some u =>
            rw [e6] at e5
            have e7 : u.1 = kd.1 := Option.some.inj e5
            have := k i b u e3 e6
            rw [e7] at this; exact this
    exact ansL (Z := Z') g.s g.n (Ans.grow h g) rr p hp
  · exact h.elim
end
/-! xs.pop(0) to a target -/
def pop0O (i : Nat) (t : Tg) : Env → Out := fun ρ => match ρ[i]? with
  | some (.ow (d :: ds)) => (match bindT t d (ρ.set i (.ow ds)) with | .ok ρ' => .nx ρ' | _ => .no)
  | _ => .no
section
variable {X : Cx} {G : Wh} {x : Str} {i : Nat} {p1 p2 apos cpos pos : Pos}
theorem dens_pop0 {tg : Expr} {t : Tg} {kk : Nat} (hN : X.N[i]? = some x) (hv : Vis X.env.scope x) (hd : (x == ("__debug__" : Str)) = false) (hcd : (x == ("__classdict__" : Str)) = false)
    (hbase : attributeBase (.Name x p1) "pop" X.env (eval (.Name x p1) X.env) = eval (.Name x p1) X.env)
    (hfew : ((backTo cpos (starEach [.Constant (.int 0) kk p2] X.env)).all (fun x => !x.1) && (backToKw cpos (keywordEach [] X.env)).all (fun x => x.1.isSome)
      && decide (([.Constant (.int 0) kk p2] : List Expr).length + ([] : List Keyword).length + (if ([] : List Keyword).isEmpty then 0 else 1) < 30)) = true)
    (hline : (apos.endLine == cpos.line) = true) (hst : starEach [.Constant (.int 0) kk p2] X.env = (false, eval (.Constant (.int 0) kk p2) X.env) :: starEach [] X.env) (hplain : (backTo cpos (starEach [] X.env)).any (·.1) = false)
    (hg : DenG X G tg t) (hs : swapsWithSole [tg] (.Call (.Attribute (.Name x p1) "pop" apos) [.Constant (.int 0) kk p2] [] cpos) pos.line X.env = pure false) (hw : swappedStores [tg] (.Call (.Attribute (.Name x p1) "pop" apos) [.Constant (.int 0) kk p2] [] cpos) X.env = pure none)
    (h1 : (assignEach [tg] X.env).map (·.2) = [assign tg X.env]) :
    DenS X G (.Assign [tg] (.Call (.Attribute (.Name x p1) "pop" apos) [.Constant (.int 0) kk p2] [] cpos) pos) (pop0O i t) := by
  obtain ⟨gt, pt, qt⟩ := hg.ex
  refine ⟨_, ps_asg (pe_bm PySem.F.plainAttrs_list PySem.F.slot_list_pop PySem.F.type_list_pop mt_popAt (pe_var hN hv hd hcd) (pa_cons pe_int pa_nil hst) hbase hfew hline hst hplain) pt hs hw h1, fun Z0 H0 Z H σ ρ D S h => ?_⟩
  unfold pop0O at h
  split at h
  · rename_i d ds ei
    split at h
    · rename_i ρ' eb
      obtain ⟨a, vs, e1, e2, e3, e4⟩ := own_list S ei
      cases e4 with
      | @cons v vs _ _ r1 r2 =>
        have S' := S.write ei rfl e1 (.ow upd_same e3 r2 : OwnAt X.K Z (upd H a (.lst vs)) a (.ow ds))
        refine ⟨.ref a, e1, tyL e2, a, v :: vs, 0, 0, v, rfl, rfl, e2, by decide, by decide, by rw [List.length_cons]; simp [seqIndex?], rfl, ?_⟩
        exact qt Z0 H0 Z _ σ _ ρ' v d _ S' r1 eb fun σ' _ S2 => h Z _ σ' S2
    · exact h.elim
  · exact h.elim
end
end VS
namespace VS
open PySem PySem.Spec PyProof.Rows L2 LamX
/-! dicts held against each other -/
def hitsK (kb : List (Key × D)) : List (Key × D) → Bool
  | [] => true | (k, v) :: r => (match lk kb k with | none => false | some y => eqD v y && hitsK kb r)
def shpK (ks : List (Key × D)) : Bool := ks.all fun kd => shp kd.2 && decide ((toPy kd.2).depth ≤ 190)
def cmNeK : D → D → R D
  | .dK ks, .dK ls => if shpK ks && shpK ls then .ok (.bl (!(ks.length == ls.length && hitsK ls ks))) else .no
  | _, _ => .no
section
variable {X : Cx} {pins : List (Addr × Obj)} {σ : L2.St} {H : Hp} {s : Shared} {P : Program} {w : World}
theorem shpK_at {ks : List (Key × D)} (h : shpK ks = true) {k : Key} {d : D} (e : lk ks k = some d) : (shp d && decide ((toPy d).depth ≤ 190)) = true := by
  unfold lk at e
  cases e1 : ks.find? fun kv => decide (kv.1 = k) with
  | none => rw [e1] at e; cases e
  | some p =>
    rw [e1] at e; cases e
    exact List.all_eq_true.mp h p (List.mem_of_find?_eq_some e1)
theorem hits_kd (I : Inv X pins σ H s) {A : Around} (hu : A.units + 190 < cLine) {ls : List (Key × V)} {vb : List (Key × Value)} {dls : List (Key × D)} (rb : KV ls vb) (db : RepsP X.K H ls dls) (sb : shpK dls = true) :
    ∀ {ks : List (Key × V)} {va : List (Key × Value)} {dks : List (Key × D)}, KV ks va → RepsP X.K H ks dks → shpK dks = true → PySem.W.KeqHits A s vb va (hitsK dls dks)
  | [], va, dks, ra, da, _ => by
    cases da
    have : va = [] := by cases ra; rfl
    subst this
    exact .nil
  | (k, v) :: ks, va, _, ra, .cons (d := d) (ds := dks) rd rt, sa => by
    unfold shpK at sa
    rw [List.all_cons, Bool.and_eq_true] at sa
    cases ra with
    | @cons _ q _ qs h t =>
      obtain ⟨h1, h2⟩ := h
      obtain ⟨key, u⟩ := q
      have h1' : k = key := h1
      subst h1'
      obtain ⟨i1, i2⟩ := lk_P (k := k) db
      have rr : RelO (valV ls k) (valueAt vb k) := rb.val k
      unfold hitsK
      cases e : lk dls k with
      | none =>
        rw [i2 e] at rr
        refine .miss ?_
        cases e2 : valueAt vb k with
        | none => rfl
        | some z => rw [e2] at rr; exact nomatch rr
      | some y =>
        obtain ⟨yv, e3, ry⟩ := i1 y e
        rw [e3] at rr
        obtain ⟨z, hz, rz⟩ := rr.some_of
        have sb2 := shpK_at sb e
        rw [Bool.and_eq_true] at sb2
        have sa2 := sa.1
        rw [Bool.and_eq_true] at sa2
        have d1 : (toPy d).depth ≤ 190 := of_decide_eq_true sa2.2
        obtain ⟨c1, _⟩ := shp_iff sa2.1
        obtain ⟨c2, _⟩ := shp_iff sb2.1
        obtain ⟨as, r1⟩ := Dp.reads I _ _ u (Rep.dp _ _ c1 rd) h2
        obtain ⟨bs, r2⟩ := Dp.reads I _ _ z (Rep.dp _ _ c2 ry) rz
        exact .hit hz (SeqAt.eqAt_reads _ _ A s u z as bs r1 r2 c1 c2 (by have := Nat.min_le_left (toPy d).depth (toPy y).depth; omega)) (hits_kd I hu rb db sb t rt sa.2)
def rNeK (K : PySem.W.Frag) : R2 := fun x y H Q => ∃ a b ks ls dks dls, x = .ref a ∧ y = .ref b ∧ Rd H a (.dK ks) ∧ Rd H b (.dK ls) ∧ RepsP K H ks dks ∧ RepsP K H ls dls ∧ shpK dks = true ∧ shpK dls = true ∧ Q (.bl (!(dks.length == dls.length && hitsK dls dks))) H
theorem op_neK (hu : X.A.units + 200 < cLine) : OpR X (compareOp .NotEq) (rNeK X.K) := by
  intro pins s σ H x y v u Q I rx ry h
  obtain ⟨a, b, ks, ls, dks, dls, rfl, rfl, ha, hb, ra, rb, sa, sb, q⟩ := h
  cases (show v = Value.ref a from rx)
  cases (show u = Value.ref b from ry)
  obtain ⟨_, ya, va, ka, da⟩ := dk_rd I.hok ha
  obtain ⟨_, yb, vb, kb, db⟩ := dk_rd I.hok hb
  refine PySem.W.keq_ne (knd := mixKind X.prog X.w) (r := hitsK dls dks) ya yb da db (by omega) (fun _ => hits_kd I (by show X.A.units + 1 + 190 < cLine; omega) kb rb sb ka ra sa) ?_
  have e1 : va.length = dks.length := by rw [← ka.length, ra.length]
  have e2 : vb.length = dls.length := by rw [← kb.length, rb.length]
  rw [e1, e2]
  exact ⟨.bl _, H, I, rfl, q⟩
end
section
variable {K : PySem.W.Frag} {G : Wh}
theorem rd_neK : RDen K G (rNeK K) .c cmNeK := by
  intro x y dx dy Z H Q s n hx hy h
  unfold cmNeK at h
  split at h
  · rename_i ks ls
    split at h
    · rename_i hc
      rw [Bool.and_eq_true] at hc
      obtain ⟨a, us, rfl, h1, r1⟩ := now_dK s hx
      obtain ⟨b, ws, rfl, h2, r2⟩ := now_dK s hy
      exact ⟨a, b, us, ws, ks, ls, rfl, rfl, h1, h2, RepsP.le s.le _ _ r1, RepsP.le s.le _ _ r2, hc.1, hc.2, ansC s n h (.bl _)⟩
    · exact h.elim
  · exact h.elim
end
end VS

set_option Elab.async false
set_option linter.all false
set_option maxRecDepth 100000
set_option maxHeartbeats 4000000
/-! VX2: sorted of what is walked: dicts with tuple keys. -/
namespace VS
open PySem PySem.Spec PyProof.Rows L2 LamX
mutual
theorem reads_lt {h : Heap} : ∀ (d : PyData) (v : Value) (as : List Addr), d.canLay0 = true → Reads h v d as → ∀ a ∈ as, a < h.objs.size
  | .none, _, _, _, r => by cases r; intro a q; cases q
  | .bool _, _, _, _, r => by cases r; intro a q; cases q
  | .int _, _, _, _, r => by cases r; intro a q; cases q
  | .str _, _, _, _, r => by cases r; intro a q; cases q
  | .list ds, _, _, c, r => by
    cases r with
    | list h1 _ _ h2 =>
      intro a q
      rcases List.mem_cons.mp q with rfl | q
      · exact Heap.lt_size h1
      · exact readsAll_lt ds _ _ (by simpa [PyData.canLay0] using c) h2 a q
  | .tuple ds, _, _, c, r => by
    cases r with
    | tuple h1 _ _ h2 => exact readsAll_lt ds _ _ (by simpa [PyData.canLay0] using c) h2
  | .dict _, _, _, c, _ => by simp [PyData.canLay0] at c
theorem readsAll_lt {h : Heap} : ∀ (ds : List PyData) (vs : List Value) (as : List Addr), PyData.canLayAll0 ds = true → ReadsAll h vs ds as → ∀ a ∈ as, a < h.objs.size
  | [], _, _, _, r => by cases r; intro a q; cases q
  | d :: ds, _, _, c, r => by
    rw [PyData.canLayAll0, Bool.and_eq_true] at c
    cases r with
    | cons h1 h2 =>
      intro a q
      rcases List.mem_append.mp q with q | q
      · exact reads_lt d _ _ c.1 h1 a q
      · exact readsAll_lt ds _ _ c.2 h2 a q
end
theorem sorted_src {prog : Program} {w : World} {A : Around} {E : Value → Shared → Prop} {s : Shared} {T : String} {r d : Addr} {n : Nat} {Pv : Nat → Value → Prop} {OK : Heap → Prop} {Q : Value → Shared → Prop} (Ks : PySem.W.KdlSrc prog w T r d n Pv OK) (hh : A.handled = none) (hok : OK s.heap) (hn : n ≤ sizeLine)
    (h : ∀ (h' : Heap) (tk : Nat) (acc : Array Value), (∀ b o, s.heap.get? b = some o → h'.get? b = some o) → ItemsOf Pv acc n →
      wpAny (model prog w) A.in1 (call (.builtin "list.sort") [.ref h'.objs.size]) (fun _ s' => Q (.ref h'.objs.size) s') E { s with heap := h'.push (seqObj "list" acc.toList.toArray 0), toks := tk }) :
    wpAny (model prog w) A (call (.builtin "sorted") [.ref r]) Q E s := by
  refine Calls.call_function_entry PyProof.Rows.kind_sorted PyProof.Rows.plain_sorted PyProof.Rows.entry_sorted (PyProof.Rows.args_sorted1 _) ?_
  unfold Builtin.«sorted»
  refine wpAny_bind (m := checkCount "sorted" 1 1 _) (wpAny_pure ?_)
  refine wpAny_bind (PySem.W.kdu_collect (A := A.in1) Ks hh hok hn fun h' tk acc hk hacc => ?_)
  have hal : acc.toList.length = n := by rw [Array.length_toList, hacc.1]
  refine wpAny_bind (wpAny_newList ?_ (by rw [hal]; exact hn))
  refine wpAny_bind (wpAny_holding (wpAny_mono (h h' tk acc hk hacc) (fun _ s' x => ?_) fun _ _ e => e))
  exact wpAny_pure ⟨_, rfl, x⟩
section
variable {X : Cx} {pins : List (Addr × Obj)} {σ : L2.St} {H : Hp}
/-- the sort of a new list of data -/
theorem sort_new {s' : Shared} {bs : List (V × D)} {acc : List Value} {Q : VK} (hu : X.A.units + 200 < cLine) (I : Inv X pins σ H s') (hv : Vals (bs.map (·.1)) acc) (hz : bs.length ≤ sizeLine) (hdp : ∀ b ∈ bs, Dp X.K H b.1 (toPy b.2)) (hok : okSort (bs.map (·.2)) = true)
    (q : ∀ p, H p = none → Q (.ref p) (upd H p (.lst ((bs.mergeSort fun b c => leD b.2 c.2).map (·.1))))) :
    wpAny (model X.prog X.w) X.A.in1 (call (.builtin "list.sort") [.ref s'.heap.objs.size]) (fun _ s'' => EP X pins σ Q (.ref s'.heap.objs.size) s'') X.xe { s' with heap := s'.heap.push (seqObj "list" acc.toArray 0) } := by
  have e := each_of hv
  have em : (bs.map encB) = (bs.map (·.2)).map toPy := by rw [List.map_map]; rfl
  have hoL : (s'.heap.push (seqObj "list" acc.toArray 0)).get? s'.heap.objs.size = some (seqObj "list" acc.toArray 0) := Heap.get?_push_size _ rfl
  have er : PySem.W.EachIs (fun v b => ∃ as, PySem.Reads (s'.heap.push (seqObj "list" acc.toArray 0)) v (encB b) as ∧ s'.heap.objs.size ∉ as) acc bs := by
    refine (PySem.W.each_mem e).mono fun v b ⟨rb, hb⟩ => ?_
    obtain ⟨as, r⟩ := Dp.reads I _ _ _ (hdp b hb) rb
    have c := (okSort_shp hok b.2 (List.mem_map.mpr ⟨b, hb, rfl⟩)).1
    exact ⟨as, PyProof.Rows.Reads.keeps (fun _ _ => Heap.get?_push_of_some _) r, fun z => Nat.lt_irrefl _ (reads_lt _ _ _ c r _ z)⟩
  refine PySem.W.list_sort_data (s := { s' with heap := s'.heap.push (seqObj "list" acc.toArray 0) }) hoL e er (by rw [em]; exact okSort_alike hok) (by rw [em]; exact okSort_sortable hok) hz (fun b hb => ?_) fun out ho h2 => ?_
  · have := (okSort_shp hok b.2 (List.mem_map.mpr ⟨b, hb, rfl⟩)).2
    show X.A.units + 1 + 1 + (toPy b.2).depth < cLine
    omega
  · have hv2 := of_each h2
    obtain ⟨e', he'⟩ := PyProof.Rows.sortedHeap_at (vs := acc) (out := out.toArray) hoL
    refine ⟨.ref _, upd H s'.heap.objs.size (.lst ((bs.mergeSort (PySem.W.dataLe false encB)).map (·.1))), I.laid (t' := s'.toks) (fun b u e => ?_) (Nat.le_refl _) ⟨by rw [List.length_map, List.length_mergeSort]; exact hz, out, e', hv2, he'⟩, rfl, q _ (I.hok.fresh (Nat.le_refl _))⟩
    have hb : b < s'.heap.objs.size := Heap.lt_size e
    rw [PyProof.Rows.sortedHeap_old (Nat.ne_of_lt hb) (by rw [size_push']; exact Nat.lt_succ_of_lt hb)]
    exact Heap.get?_push_of_some _ e
def rSortDT : List V → Hp → VK → Prop := fun xs H Q => ∃ (d : Addr) (kvs : List (List Key × V)), xs = [V.ref d] ∧ Rd H d (.dT kvs) ∧ okSort (kvs.map fun kd => tupK kd.1) = true ∧
  ∀ (p : Addr) (bs : List Addr), H p = none → IsKeys H kvs bs → Q (.ref p) (upd H p (.lst ((((bs.map V.ref).zip (kvs.map fun kd => tupK kd.1)).mergeSort fun b c => leD b.2 c.2).map (·.1))))
theorem zip_fst {α β : Type} : ∀ {as : List α} {bs : List β}, as.length = bs.length → (as.zip bs).map (·.1) = as
  | [], [], _ => rfl
  | [], _ :: _, h => by cases h
  | _ :: _, [], h => by cases h
  | a :: as, b :: bs, h => by rw [List.zip_cons_cons, List.map_cons, zip_fst (by simpa using h)]
theorem zip_snd {α β : Type} : ∀ {as : List α} {bs : List β}, as.length = bs.length → (as.zip bs).map (·.2) = bs
  | [], [], _ => rfl
  | [], _ :: _, h => by cases h
  | _ :: _, [], h => by cases h
  | a :: as, b :: bs, h => by rw [List.zip_cons_cons, List.map_cons, zip_snd (by simpa using h)]
theorem dp_keys {K : PySem.W.Frag} : ∀ k : List Key, DpAll K H (k.map kV) (toPys (k.map keyV))
  | [] => .nil
  | .inl i :: k => .cons (.int i) (dp_keys k)
  | .inr x :: k => .cons (.str x) (dp_keys k)
theorem cr_sortDT (hc : X.calm = true) (hu : X.A.units + 200 < cLine) : CallR X (.builtin "sorted") rSortDT := by
  intro pins s σ H xs us Q I r h
  obtain ⟨d, kvs, rfl, hd, hok, q⟩ := h
  obtain ⟨u, rfl, rx⟩ := r.one
  cases rx
  obtain ⟨z, hs, ks, pr, o, es, ep, ho, hx, hdt, he, hn⟩ := (show ObjOk X.prog X.w H s.heap d (.dT kvs) from hd.ok I.hok)
  have l1 : es.size = ks.length := size_of_entries he
  have l2 : kvs.length = ks.length := Paired.length pr
  refine sorted_src (kdl_raw hs hx hdt) (I.ok.hd hc) ho (by omega) fun h' tk acc' kp it => ?_
  have ea : acc'.toList = ks.map fun x => Value.ref x.2.1 := by
    have hl : acc'.toList.length = ks.length := by rw [Array.length_toList, it.1]; exact l1
    apply List.ext_getElem?
    intro j
    rw [List.getElem?_map]
    cases hj : acc'.toList[j]? with
    | none =>
      have h1 := List.getElem?_eq_none_iff.mp hj
      rw [List.getElem?_eq_none (by omega)]
      all_goals rfl
    | some v =>
      obtain ⟨en, hen, hv⟩ := it.2 j v (by rw [← Array.getElem?_toList]; exact hj)
      have qe := entry_at he j
      rw [hen] at qe
      cases hb : ks[j]? with
      | none =>
        rw [hb] at qe
        exact nomatch (show some en = none from qe)
      | some b =>
        rw [hb] at qe
        have e2 : en = entryOfKey (tupleKind (mixKind X.prog X.w)) b := Option.some.inj qe
        rw [hv, e2]
        all_goals rfl
  have eb : acc'.toList = (ks.map fun x => x.2.1).map Value.ref := by rw [ea, List.map_map]; all_goals rfl
  have rv : Vals ((ks.map fun x => x.2.1).map V.ref) acc'.toList := by rw [eb]; exact vals_refs _
  have I1 : Inv X pins σ H { s with heap := h', toks := tk } := I.kept kp
  have ik := isKeys_of pr
  generalize ks.map (fun x => x.2.1) = bs at ik rv
  have lb := isKeys_len ik
  have lz : (bs.map V.ref).length = (kvs.map fun kd => tupK kd.1).length := by rw [List.length_map, List.length_map, lb]
  refine sort_new (s' := { s with heap := h', toks := tk }) (bs := (bs.map V.ref).zip (kvs.map fun kd => tupK kd.1)) hu I1 (by rw [zip_fst lz]; exact rv) (by rw [List.length_zip, List.length_map, List.length_map]; omega) (fun b hb => ?_) (by rw [zip_snd lz]; exact hok) fun p hp => q p bs hp ik
  obtain ⟨i, hi⟩ := List.getElem?_of_mem hb
  rw [List.getElem?_zip_eq_some] at hi
  obtain ⟨h1, h2⟩ := hi
  rw [List.getElem?_map] at h1 h2
  cases e1 : bs[i]? with
  | none => rw [e1] at h1; cases h1
  | some a =>
    rw [e1] at h1
    cases e2 : kvs[i]? with
    | none => rw [e2] at h2; cases h2
    | some kv =>
      rw [e2] at h2
      have b1 : b.1 = .ref a := (Option.some.inj h1).symm
      have b2 : b.2 = tupK kv.1 := (Option.some.inj h2).symm
      rw [b1, b2]
      have hH : H a = some (.tup (kv.1.map kV)) := by
        have : ∀ {kvs : List (List Key × V)} {bs : List Addr} {i : Nat}, IsKeys H kvs bs → bs[i]? = some a → kvs[i]? = some kv → H a = some (.tup (kv.1.map kV)) := by
          intro kvs bs i ik
          induction ik generalizing i with
          | nil => intro q; simp at q
          | cons h t ih =>
            cases i with
            | zero => intro q1 q2; simp at q1 q2; subst q1 q2; exact h
            | succ i => intro q1 q2; exact ih (by simpa using q1) (by simpa using q2)
        exact this ik e1 e2
      exact .tup (SqT.of hH) (dp_keys _)
end
section
variable {K : PySem.W.Frag} {G : Wh}
def sortDctT : List D → R D
  | [.dT kvs] => if okSort (kvs.map fun kd => tupK kd.1) then .ok (.lst (srtL (kvs.map fun kd => tupK kd.1))) else .no
  | _ => .no
theorem ad_sortDctT : ADen K G rSortDT .t .f sortDctT := by
  intro vs ds Z H Q s n f h
  unfold sortDctT at h
  split at h
  · rename_i kvs
    split at h
    · rename_i hok
      obtain ⟨v, rfl, fv⟩ := fins1 f
      obtain ⟨a, us, rfl, hh, r⟩ := now_dT s fv
      have kq := keysQ r
      have ek : (us.map fun kd => tupK kd.1) = kvs.map fun kd => tupK kd.1 := by
        have := congrArg (List.map tupK) kq
        rw [List.map_map, List.map_map] at this; exact this
      refine ⟨a, us, rfl, hh, by rw [ek]; exact hok, fun p bs hp hk => ?_⟩
      obtain ⟨Z', g, k⟩ := frz_keys (T := G.T) (K := K) s n hk
      have hl := isKeys_len hk
      have hl2 := r.length
      rw [ek]
      have lz : (bs.map V.ref).length = (kvs.map fun kd => tupK kd.1).length := by rw [List.length_map, List.length_map, hl, hl2]
      have hb : ∀ b ∈ (bs.map V.ref).zip (kvs.map fun kd => tupK kd.1), Rep K Z' b.1 b.2 := fun b hb => by
        obtain ⟨i, hi⟩ := List.getElem?_of_mem hb
        rw [List.getElem?_zip_eq_some] at hi
        obtain ⟨h1, h2⟩ := hi
        rw [← ek] at h2
        rw [List.getElem?_map] at h1 h2
        cases e1 : bs[i]? with
        | none => rw [e1] at h1; cases h1
        | some c =>
          rw [e1] at h1
          cases e2 : us[i]? with
          | none => rw [e2] at h2; cases h2
          | some kv =>
            rw [e2] at h2
            have b1 : b.1 = .ref c := (Option.some.inj h1).symm
            have b2 : b.2 = tupK kv.1 := (Option.some.inj h2).symm
            rw [b1, b2]
            exact k i c kv e1 e2
      have e : srtL (kvs.map fun kd => tupK kd.1) = (((bs.map V.ref).zip (kvs.map fun kd => tupK kd.1)).mergeSort fun b c => leD b.2 c.2).map (·.2) := by
        rw [List.map_mergeSort (r := fun b c : V × D => leD b.2 c.2) (s := leD) (f := fun b : V × D => b.2) (fun _ _ _ _ => rfl), zip_snd lz]; rfl
      rw [e] at h
      exact ansL (Z := Z') g.s g.n (Ans.grow h g) (zip_reps fun b hb' => hb b (List.mem_mergeSort.mp hb')) p hp
    · exact h.elim
  · exact h.elim
end
end VS

set_option Elab.async false
set_option linter.all false
set_option maxRecDepth 100000
set_option maxHeartbeats 4000000
/-! VX3: the new readings with their small conditions filled in. -/
namespace VS
open PySem PySem.Spec PyProof.Rows L2 LamX
section
variable {X : Cx} {G : Wh} {m m1 m2 : Md} {a b e : Expr} {ga gb g : VS.Env → R D} {pos : Pos}
theorem powi (ha : Den X G m1 a ga) (hb : Den X G m2 b gb) : Den X G .c (.BinOp a .Pow b pos) (geOp powI ga gb) := den_op op_pow rd_powI ha hb
theorem nek (ha : Den X G m1 a ga) (hb : Den X G m2 b gb) (hu : X.A.units + 200 < cLine) (hm : behindInMarks .NotEq b = false := by rfl) : Den X G .c (.Compare a [.NotEq] [b] pos) (geOp cmNeK ga gb) := den_cmp (op_neK hu) rd_neK ha hb hm
theorem tnek (ha : Den X G m1 a ga) (hb : Den X G m2 b gb) (hu : X.A.units + 200 < cLine) (hm : behindInMarks .NotEq b = false := by rfl) : DenT X G (.Compare a [.NotEq] [b] pos) (geB (geOp cmNeK ga gb)) := dent_cmp (op_neK hu) rd_neK ha hb hm
theorem den_isX {op : CmpOp} {q : D → R D} {bf : V → Bool} {bd : D → Bool} (hr : ∀ {t : TE}, PE X a t → ∀ {p : Pos} {k : Nat}, PE X (.Compare a [op] [.Constant .none k p] pos) (fun σ H Q => t σ H fun x H1 => Q (.bl (bf x)) H1)) (e1 : ∀ d, q d = .ok (.bl (bd d))) (e2 : ∀ {Z H : Hp} {x : V} {d : D}, Fin X.K H Z H .t x d → bf x = bd d) (ha : Den X G m1 a ga) {p : Pos} {k : Nat} :
    Den X G .c (.Compare a [op] [.Constant .none k p] pos) (ge1 q ga) := by
  obtain ⟨t, pt, r⟩ := ha.ex
  refine ⟨_, hr pt, fun Z0 H0 Z H σ ρ Q S h => ?_⟩
  refine r Z0 H0 Z H σ ρ _ S ?_
  unfold ge1 at h
  cases ea : ga ρ with
  | no => rw [ea] at h; exact h
  | ex c => rw [ea] at h; exact h
  | ok d =>
    rw [ea] at h
    have h' : Ans X.K G .c (q d) Z H Q := h
    rw [e1] at h'
    intro v Z1 H1 g1 f1
    rw [e2 (f1.now (Hx := H1))]
    exact h' (.bl _) Z1 H1 g1 (.bl _)
def isNon : D → Bool | .non => true | _ => false
theorem now_isNon {K : PySem.W.Frag} {Z H : Hp} {x : V} {d : D} (h : Fin K H Z H .t x d) : decide (x = .non) = isNon d := by
  have := now_isN h
  cases d <;> exact this
theorem isn (ha : Den X G m1 a ga) {p : Pos} {k : Nat} : Den X G .c (.Compare a [.Is] [.Constant .none k p] pos) (ge1 isN ga) :=
  den_isX (bf := fun x => decide (x = .non)) (bd := isNon) (fun pt _ _ => pe_cmp (pc_isN pt) rfl) (fun d => by cases d <;> rfl) (fun h => now_isNon h) ha
theorem notn (ha : Den X G m1 a ga) {p : Pos} {k : Nat} : Den X G .c (.Compare a [.IsNot] [.Constant .none k p] pos) (ge1 notN ga) :=
  den_isX (bf := fun x => !decide (x = .non)) (bd := fun d => !isNon d) (fun pt _ _ => pe_cmp (pc_notN pt) rfl) (fun d => by cases d <;> rfl) (fun h => by rw [now_isNon h]) ha
section
variable {x : Str} {i : Nat} {p1 p2 apos cpos : Pos}
theorem spop0 {tg : Expr} {t : Tg} {kk : Nat} (hg : DenG X G tg t) (hN : X.N[i]? = some x := by rfl) (hv : Vis X.env.scope x := by first | exact .inl (by rfl) | exact .inr (.inl (by rfl)) | exact .inr (.inr (by rfl))) (hd : (x == ("__debug__" : Str)) = false := by rfl) (hcd : (x == ("__classdict__" : Str)) = false := by rfl)
    (hbase : attributeBase (.Name x p1) "pop" X.env (eval (.Name x p1) X.env) = eval (.Name x p1) X.env := by rfl)
    (hfew : ((backTo cpos (starEach [.Constant (.int 0) kk p2] X.env)).all (fun x => !x.1) && (backToKw cpos (keywordEach [] X.env)).all (fun x => x.1.isSome)
      && decide (([.Constant (.int 0) kk p2] : List Expr).length + ([] : List Keyword).length + (if ([] : List Keyword).isEmpty then 0 else 1) < 30)) = true := by rfl)
    (hline : (apos.endLine == cpos.line) = true := by rfl) (hst : starEach [.Constant (.int 0) kk p2] X.env = (false, eval (.Constant (.int 0) kk p2) X.env) :: starEach [] X.env := by rfl) (hplain : (backTo cpos (starEach [] X.env)).any (·.1) = false := by rfl)
    (hs : swapsWithSole [tg] (.Call (.Attribute (.Name x p1) "pop" apos) [.Constant (.int 0) kk p2] [] cpos) pos.line X.env = pure false := by rfl) (hw : swappedStores [tg] (.Call (.Attribute (.Name x p1) "pop" apos) [.Constant (.int 0) kk p2] [] cpos) X.env = pure none := by rfl)
    (h1 : (assignEach [tg] X.env).map (·.2) = [assign tg X.env] := by rfl) :
    DenS X G (.Assign [tg] (.Call (.Attribute (.Name x p1) "pop" apos) [.Constant (.int 0) kk p2] [] cpos) pos) (pop0O i t) := dens_pop0 hN hv hd hcd hbase hfew hline hst hplain hg hs hw h1
end
end
end VS

set_option Elab.async false
set_option linter.all false
set_option maxRecDepth 100000
set_option maxHeartbeats 4000000
/-! VX4: raise of an own class. -/
namespace VS
open PySem PySem.Spec PyProof.Rows L2 LamX
structure ExF (K : PySem.W.Frag) (mg : Str → Option Value) (cl : Str → Addr) (x : Str) : Prop where
  g : mg x = some (.ref (cl x))
  q : PySem.W.excIn K (cl x) He.veBase "ValueError.__new__" = true
  k : PySem.W.keepIn K (.ref (cl x)) = true
  b : PySem.W.subIn K (.ref (cl x)) (.type "BaseException") = some true
  t : PySem.W.typeIn K (.ref (cl x)) = some (.type "type")
theorem sraise {X : Cx} {G : Wh} {K : PySem.W.Frag} {mg : Str → Option Value} {cl : Str → Addr} {x m : Str} {j : Nat} {p p2 pos pos' : Pos} (hx : ExF K mg cl x) (tk : L2N.Takes X (fun cls d _ H => G.E cls d H)) (h3 : X.K = K := by rfl) (h4 : X.mg = mg := by rfl) (h7 : G.cl = cl := by rfl) (hc : X.calm = true := by rfl) (hg : Gl X x := by rfl) (hdb : (x == ("__debug__" : Str)) = false := by rfl) :
    DenS X G (.Raise (some (.Call (.Name x p) [.Constant (.str m) j p2] [] pos')) none pos) (fun _ => .ex x) := by
  subst h3 h4 h7
  refine ⟨_, L2N.ps_raise hc tk (L2N.pmk_own PySem.F.excBase_ValueError hx.q hx.g hx.k (L2.raises_own hx.b hx.t) hg hdb), fun Z0 H0 Z H σ ρ D S h => ?_⟩
  exact post_ex S h Z H (.refl S.sub S.nt)
end VS

set_option Elab.async false
set_option linter.all false
set_option maxRecDepth 100000
namespace VP
open PySem PySem.Spec PyProof.Rows L2 LamX VS
noncomputable section
structure S__law_cell where
  (script k : Sl)
def S__law_cell.e (s : S__law_cell) : VS.Env := [s.script, s.k]
@[simp] theorem S__law_cell.g0 (s : S__law_cell) : s.e[0]? = Option.some s.script := rfl
@[simp] theorem S__law_cell.w0 (s : S__law_cell) (u : Sl) : List.set s.e 0 u = S__law_cell.e { s with script := u } := rfl
@[simp] theorem S__law_cell.g1 (s : S__law_cell) : s.e[1]? = Option.some s.k := rfl
@[simp] theorem S__law_cell.w1 (s : S__law_cell) (u : Sl) : List.set s.e 1 u = S__law_cell.e { s with k := u } := rfl
theorem S__law_cell.st (d0 d1 : D) : startE 2 [d0, d1] = S__law_cell.e { script := .im d0, k := .im d1 } := rfl
def b__law_cell : VS.Env → Out :=
 (seqO (ifO (geB (geOp cmEq (geV 0) (geA lstD gaNil)))
  (fun ρ => ofR ((geOp mulI (geV 1) (gI 7919)) ρ) .rt)
  .nx)
 (fun ρ => ofR ((geOp addI (geOp ixC (geV 0) (geOp modI (geV 1) (geA lenD (gaCons (geV 0) gaNil)))) (geOp mulI (geOp fdivI (geV 1) (geA lenD (gaCons (geV 0) gaNil))) (gI 104729))) ρ) .rt))
def F__law_cell : List D → R D := runDef 2 b__law_cell
structure S__law_drawn where
  (cell_here k more : Sl)
def S__law_drawn.e (s : S__law_drawn) : VS.Env := [s.cell_here, s.k, s.more]
@[simp] theorem S__law_drawn.g0 (s : S__law_drawn) : s.e[0]? = Option.some s.cell_here := rfl
@[simp] theorem S__law_drawn.w0 (s : S__law_drawn) (u : Sl) : List.set s.e 0 u = S__law_drawn.e { s with cell_here := u } := rfl
@[simp] theorem S__law_drawn.g1 (s : S__law_drawn) : s.e[1]? = Option.some s.k := rfl
@[simp] theorem S__law_drawn.w1 (s : S__law_drawn) (u : Sl) : List.set s.e 1 u = S__law_drawn.e { s with k := u } := rfl
@[simp] theorem S__law_drawn.g2 (s : S__law_drawn) : s.e[2]? = Option.some s.more := rfl
@[simp] theorem S__law_drawn.w2 (s : S__law_drawn) (u : Sl) : List.set s.e 2 u = S__law_drawn.e { s with more := u } := rfl
theorem S__law_drawn.st (d0 d1 : D) : startE 3 [d0, d1] = S__law_drawn.e { cell_here := .im d0, k := .im d1, more := .un } := rfl
def b__law_drawn : VS.Env → Out :=
 (seqO (fun ρ => ofR ((geOp modI (geOp addI (geOp mulI (geV 0) (gI 6364136223846793005)) (geOp mulI (geOp addI (geV 1) (gI 1)) (gI 1442695040888963407))) (gI 340282366920938463463374607431768211507)) ρ) fun d => .nx (ρ.set 2 (.im d)))
 (seqO (fun ρ => ofR ((geOp modI (geOp mulI (geV 2) (geV 2)) (gI 340282366920938463463374607431768211297)) ρ) fun d => .nx (ρ.set 2 (.im d)))
 (seqO (fun ρ => ofR ((geOp mulI (geOp mulI (geOp addI (geOp modI (geV 2) (gI 18446744073709551557)) (gI 1)) (geOp addI (geOp fdivI (geV 2) (gI 18446744073709551557)) (gI 1))) (geV 2)) ρ) fun d => .nx (ρ.set 2 (.im d)))
 (fun ρ => ofR ((geOp modI (geV 2) (gI 340282366920938463463374607431768211507)) ρ) .rt))))
def F__law_drawn : List D → R D := runDef 3 b__law_drawn
structure S__law_name where
  (more : Sl)
def S__law_name.e (s : S__law_name) : VS.Env := [s.more]
@[simp] theorem S__law_name.g0 (s : S__law_name) : s.e[0]? = Option.some s.more := rfl
@[simp] theorem S__law_name.w0 (s : S__law_name) (u : Sl) : List.set s.e 0 u = S__law_name.e { s with more := u } := rfl
theorem S__law_name.st (d0 : D) : startE 1 [d0] = S__law_name.e { more := .im d0 } := rfl
def b__law_name : VS.Env → Out :=
 (fun ρ => ofR ((geOp ixL (geA lstD (gaCons (gS "a") (gaCons (gS "b") (gaCons (gS "c") (gaCons (gS "ab") (gaCons (gS "work") (gaCons (gS "abcdefgh") gaNil))))))) (geOp modI (geOp fdivI (geV 0) (gI 8)) (gI 6))) ρ) .rt)
def F__law_name : List D → R D := runDef 1 b__law_name
def L__law_calls_1 (self : List D → R D) : VS.Env → Out :=
 (seqO (fun ρ => ofR ((geA F__law_drawn (gaCons (geV 0) (gaCons (geV 4) gaNil))) ρ) fun d => .nx (ρ.set 7 (.im d)))
  (seqO (fun ρ => ofR ((geOp addI (geV 6) (geOp modI (geOp fdivI (geV 7) (gI 8)) (geOp ixL (geA lstD (gaCons (gI 1) (gaCons (gI 4) (gaCons (gI 9) gaNil)))) (geOp modI (geV 7) (gI 3))))) ρ) fun d => .nx (ρ.set 8 (.im d)))
  (seqO (fun ρ => ofR ((geOp addI (geV 8) (geOp modI (geOp fdivI (geV 7) (gI 512)) (geOp ixL (geA lstD (gaCons (gI 1) (gaCons (gI 7) (gaCons (gI 40) (gaCons (gI 300) gaNil))))) (geOp modI (geOp fdivI (geV 7) (gI 64)) (gI 4))))) ρ) fun d => .nx (ρ.set 9 (.im d)))
  (ifO (geB (geOp (cmI fun i j => decide (i ≤ j)) (geV 9) (geV 2)))
   (seqO (appO 5 (geA tupD (gaCons (geA F__law_name (gaCons (geOp fdivI (geV 7) (gI 16)) gaNil)) (gaCons (geV 8) (gaCons (geV 9) (gaCons (geA self (gaCons (geA F__law_drawn (gaCons (geV 7) (gaCons (gI 1) gaNil))) (gaCons (geV 8) (gaCons (geV 9) (gaCons (geOp subI (geV 3) (gI 1)) gaNil))))) gaNil))))))
   (fun ρ => ofR ((geV 9) ρ) fun d => .nx (ρ.set 6 (.im d))))
   .nx))))
structure S__law_calls where
  (more low high deep j found here one first last : Sl)
def S__law_calls.e (s : S__law_calls) : VS.Env := [s.more, s.low, s.high, s.deep, s.j, s.found, s.here, s.one, s.first, s.last]
@[simp] theorem S__law_calls.g0 (s : S__law_calls) : s.e[0]? = Option.some s.more := rfl
@[simp] theorem S__law_calls.w0 (s : S__law_calls) (u : Sl) : List.set s.e 0 u = S__law_calls.e { s with more := u } := rfl
@[simp] theorem S__law_calls.g1 (s : S__law_calls) : s.e[1]? = Option.some s.low := rfl
@[simp] theorem S__law_calls.w1 (s : S__law_calls) (u : Sl) : List.set s.e 1 u = S__law_calls.e { s with low := u } := rfl
@[simp] theorem S__law_calls.g2 (s : S__law_calls) : s.e[2]? = Option.some s.high := rfl
@[simp] theorem S__law_calls.w2 (s : S__law_calls) (u : Sl) : List.set s.e 2 u = S__law_calls.e { s with high := u } := rfl
@[simp] theorem S__law_calls.g3 (s : S__law_calls) : s.e[3]? = Option.some s.deep := rfl
@[simp] theorem S__law_calls.w3 (s : S__law_calls) (u : Sl) : List.set s.e 3 u = S__law_calls.e { s with deep := u } := rfl
@[simp] theorem S__law_calls.g4 (s : S__law_calls) : s.e[4]? = Option.some s.j := rfl
@[simp] theorem S__law_calls.w4 (s : S__law_calls) (u : Sl) : List.set s.e 4 u = S__law_calls.e { s with j := u } := rfl
@[simp] theorem S__law_calls.g5 (s : S__law_calls) : s.e[5]? = Option.some s.found := rfl
@[simp] theorem S__law_calls.w5 (s : S__law_calls) (u : Sl) : List.set s.e 5 u = S__law_calls.e { s with found := u } := rfl
@[simp] theorem S__law_calls.g6 (s : S__law_calls) : s.e[6]? = Option.some s.here := rfl
@[simp] theorem S__law_calls.w6 (s : S__law_calls) (u : Sl) : List.set s.e 6 u = S__law_calls.e { s with here := u } := rfl
@[simp] theorem S__law_calls.g7 (s : S__law_calls) : s.e[7]? = Option.some s.one := rfl
@[simp] theorem S__law_calls.w7 (s : S__law_calls) (u : Sl) : List.set s.e 7 u = S__law_calls.e { s with one := u } := rfl
@[simp] theorem S__law_calls.g8 (s : S__law_calls) : s.e[8]? = Option.some s.first := rfl
@[simp] theorem S__law_calls.w8 (s : S__law_calls) (u : Sl) : List.set s.e 8 u = S__law_calls.e { s with first := u } := rfl
@[simp] theorem S__law_calls.g9 (s : S__law_calls) : s.e[9]? = Option.some s.last := rfl
@[simp] theorem S__law_calls.w9 (s : S__law_calls) (u : Sl) : List.set s.e 9 u = S__law_calls.e { s with last := u } := rfl
theorem S__law_calls.st (d0 d1 d2 d3 : D) : startE 10 [d0, d1, d2, d3] = S__law_calls.e { more := .im d0, low := .im d1, high := .im d2, deep := .im d3, j := .un, found := .un, here := .un, one := .un, first := .un, last := .un } := rfl
def b__law_calls (self : List D → R D) : VS.Env → Out :=
 (seqO (parO2 5 6 .f .c (geA lstD gaNil) (geV 1))
 (seqO (forO (.nm 4) (gSeqA rng1 (gaCons (geIf (geB (geOp (cmI fun i j => decide (j < i)) (geV 3) (gI 0))) (geOp modI (geV 0) (gI 4)) (gI 0)) gaNil))
  (L__law_calls_1 self))
 (fun ρ => ofR ((geA tupOf (gaCons (geT 5) gaNil)) ρ) .rt)))
def F__law_calls : Nat → List D → R D
  | 0 => noF
  | j + 1 => runDef 10 (b__law_calls (F__law_calls j))
def L__law_trees_1 : VS.Env → Out :=
 (seqO (fun ρ => ofR ((geA F__law_drawn (gaCons (geV 0) (gaCons (geOp addI (gI 10) (geV 2)) gaNil))) ρ) fun d => .nx (ρ.set 3 (.im d)))
  (seqO (fun ρ => ofR ((geA (F__law_calls 8) (gaCons (geOp fdivI (geV 3) (gI 8)) (gaCons (geOp modI (geV 3) (gI 5)) (gaCons (geOp addI (gI 5) (geOp modI (geOp fdivI (geV 3) (gI 64)) (gI 900))) (gaCons (gI 4) gaNil))))) ρ) fun d => .nx (ρ.set 4 (.im d)))
  (ifO (gAnd (geB (geOp cmNe (geV 4) (geA tupD gaNil))) (geB (geOp (cmI fun i j => decide (j < i)) (geOp modI (geV 3) (gI 3)) (gI 0))))
   (putO 1 (geV 4) (geV 2))
   .nx)))
structure S__law_trees where
  (more found hand here calls_here : Sl)
def S__law_trees.e (s : S__law_trees) : VS.Env := [s.more, s.found, s.hand, s.here, s.calls_here]
@[simp] theorem S__law_trees.g0 (s : S__law_trees) : s.e[0]? = Option.some s.more := rfl
@[simp] theorem S__law_trees.w0 (s : S__law_trees) (u : Sl) : List.set s.e 0 u = S__law_trees.e { s with more := u } := rfl
@[simp] theorem S__law_trees.g1 (s : S__law_trees) : s.e[1]? = Option.some s.found := rfl
@[simp] theorem S__law_trees.w1 (s : S__law_trees) (u : Sl) : List.set s.e 1 u = S__law_trees.e { s with found := u } := rfl
@[simp] theorem S__law_trees.g2 (s : S__law_trees) : s.e[2]? = Option.some s.hand := rfl
@[simp] theorem S__law_trees.w2 (s : S__law_trees) (u : Sl) : List.set s.e 2 u = S__law_trees.e { s with hand := u } := rfl
@[simp] theorem S__law_trees.g3 (s : S__law_trees) : s.e[3]? = Option.some s.here := rfl
@[simp] theorem S__law_trees.w3 (s : S__law_trees) (u : Sl) : List.set s.e 3 u = S__law_trees.e { s with here := u } := rfl
@[simp] theorem S__law_trees.g4 (s : S__law_trees) : s.e[4]? = Option.some s.calls_here := rfl
@[simp] theorem S__law_trees.w4 (s : S__law_trees) (u : Sl) : List.set s.e 4 u = S__law_trees.e { s with calls_here := u } := rfl
theorem S__law_trees.st (d0 : D) : startE 5 [d0] = S__law_trees.e { more := .im d0, found := .un, hand := .un, here := .un, calls_here := .un } := rfl
def b__law_trees : VS.Env → Out :=
 (seqO (ownO 1 (fun _ => .ok (.dK [])))
 (seqO (forO (.nm 2) (gSeqA rng2 (gaCons (gI 1) (gaCons (gI 5) gaNil)))
  L__law_trees_1)
 (frzO 1 (fun ρ => ofR ((geV 1) ρ) .rt))))
def F__law_trees : List D → R D := runDef 5 b__law_trees
structure S_is_count where
  (thing low high : Sl)
def S_is_count.e (s : S_is_count) : VS.Env := [s.thing, s.low, s.high]
@[simp] theorem S_is_count.g0 (s : S_is_count) : s.e[0]? = Option.some s.thing := rfl
@[simp] theorem S_is_count.w0 (s : S_is_count) (u : Sl) : List.set s.e 0 u = S_is_count.e { s with thing := u } := rfl
@[simp] theorem S_is_count.g1 (s : S_is_count) : s.e[1]? = Option.some s.low := rfl
@[simp] theorem S_is_count.w1 (s : S_is_count) (u : Sl) : List.set s.e 1 u = S_is_count.e { s with low := u } := rfl
@[simp] theorem S_is_count.g2 (s : S_is_count) : s.e[2]? = Option.some s.high := rfl
@[simp] theorem S_is_count.w2 (s : S_is_count) (u : Sl) : List.set s.e 2 u = S_is_count.e { s with high := u } := rfl
theorem S_is_count.st (d0 d1 d2 : D) : startE 3 [d0, d1, d2] = S_is_count.e { thing := .im d0, low := .im d1, high := .im d2 } := rfl
def b_is_count : VS.Env → Out :=
 (fun ρ => ofR ((gAndV (ge1 (isiD .int) (geV 0)) (gAndV (geOfB (gNot (geB (ge1 (isiD .bool) (geV 0))))) (geChain (cmI fun i j => decide (i ≤ j)) (cmI fun i j => decide (i ≤ j)) (geV 1) (geV 0) (geV 2)))) ρ) .rt)
def F_is_count : List D → R D := runDef 3 b_is_count
def C_is_name_1 : VS.Env → R D :=
 (compE (.nm 1) [1] (gSeq itS (geV 0)) (fun _ => .ok true) (geOp (inS false) (geV 1) (gS "abcdefghijklmnopqrstuvwxyz")))
structure S_is_name where
  (thing sign : Sl)
def S_is_name.e (s : S_is_name) : VS.Env := [s.thing, s.sign]
@[simp] theorem S_is_name.g0 (s : S_is_name) : s.e[0]? = Option.some s.thing := rfl
@[simp] theorem S_is_name.w0 (s : S_is_name) (u : Sl) : List.set s.e 0 u = S_is_name.e { s with thing := u } := rfl
@[simp] theorem S_is_name.g1 (s : S_is_name) : s.e[1]? = Option.some s.sign := rfl
@[simp] theorem S_is_name.w1 (s : S_is_name) (u : Sl) : List.set s.e 1 u = S_is_name.e { s with sign := u } := rfl
theorem S_is_name.st (d0 : D) : startE 2 [d0] = S_is_name.e { thing := .im d0, sign := .un } := rfl
def b_is_name : VS.Env → Out :=
 (fun ρ => ofR ((gAndV (ge1 (isiD .str) (geV 0)) (gAndV (geChain (cmI fun i j => decide (i ≤ j)) (cmI fun i j => decide (i ≤ j)) (gI 1) (geA lenD (gaCons (geV 0) gaNil)) (gI 8)) (geA allD (gaCons C_is_name_1 gaNil)))) ρ) .rt)
def F_is_name : List D → R D := runDef 2 b_is_name
def L_are_calls_1 (self : List D → R D) : VS.Env → Out :=
 (seqO (ifO (gOr (gNot (geB (ge1 (isiD .tuple) (geV 3)))) (gOr (geB (geOp cmNe (geA lenD (gaCons (geV 3) gaNil)) (gI 4))) (gOr (gNot (geB (geA F_is_name (gaCons (geOp ixT (geV 3) (gI 0)) gaNil)))) (gNot (geB (geA F_is_count (gaCons (geOp ixT (geV 3) (gI 1)) (gaCons (geV 1) (gaCons (geV 2) gaNil)))))))))
   (fun ρ => ofR ((gB false) ρ) .rt)
   .nx)
  (seqO (ifO (gOr (gNot (geB (geA F_is_count (gaCons (geOp ixT (geV 3) (gI 2)) (gaCons (geOp ixT (geV 3) (gI 1)) (gaCons (geV 2) gaNil)))))) (gNot (geB (geA self (gaCons (geOp ixT (geV 3) (gI 3)) (gaCons (geOp ixT (geV 3) (gI 1)) (gaCons (geOp ixT (geV 3) (gI 2)) gaNil)))))))
   (fun ρ => ofR ((gB false) ρ) .rt)
   .nx)
  (fun ρ => ofR ((geOp ixT (geV 3) (gI 2)) ρ) fun d => .nx (ρ.set 1 (.im d)))))
structure S_are_calls where
  (thing low high one : Sl)
def S_are_calls.e (s : S_are_calls) : VS.Env := [s.thing, s.low, s.high, s.one]
@[simp] theorem S_are_calls.g0 (s : S_are_calls) : s.e[0]? = Option.some s.thing := rfl
@[simp] theorem S_are_calls.w0 (s : S_are_calls) (u : Sl) : List.set s.e 0 u = S_are_calls.e { s with thing := u } := rfl
@[simp] theorem S_are_calls.g1 (s : S_are_calls) : s.e[1]? = Option.some s.low := rfl
@[simp] theorem S_are_calls.w1 (s : S_are_calls) (u : Sl) : List.set s.e 1 u = S_are_calls.e { s with low := u } := rfl
@[simp] theorem S_are_calls.g2 (s : S_are_calls) : s.e[2]? = Option.some s.high := rfl
@[simp] theorem S_are_calls.w2 (s : S_are_calls) (u : Sl) : List.set s.e 2 u = S_are_calls.e { s with high := u } := rfl
@[simp] theorem S_are_calls.g3 (s : S_are_calls) : s.e[3]? = Option.some s.one := rfl
@[simp] theorem S_are_calls.w3 (s : S_are_calls) (u : Sl) : List.set s.e 3 u = S_are_calls.e { s with one := u } := rfl
theorem S_are_calls.st (d0 d1 d2 : D) : startE 4 [d0, d1, d2] = S_are_calls.e { thing := .im d0, low := .im d1, high := .im d2, one := .un } := rfl
def b_are_calls (self : List D → R D) : VS.Env → Out :=
 (seqO (ifO (gNot (geB (ge1 (isiD .tuple) (geV 0))))
  (fun ρ => ofR ((gB false) ρ) .rt)
  .nx)
 (seqO (forO (.nm 3) (gSeq itT (geV 0))
  (L_are_calls_1 self))
 (fun ρ => ofR ((gB true) ρ) .rt)))
def F_are_calls : Nat → List D → R D
  | 0 => noF
  | j + 1 => runDef 4 (b_are_calls (F_are_calls j))
def C_need_trees_1 : VS.Env → R D :=
 (compDE (.nm 1) [1] 0 (fun _ => .ok true) (geA F_is_count (gaCons (geV 1) (gaCons (gI 1) (gaCons (gI 4) gaNil)))))
def C_need_trees_2 : VS.Env → R D :=
 (compDE (.nm 1) [1] 0 (fun _ => .ok true) (geA (F_are_calls 8) (gaCons (geOp ixD (geV 0) (geV 1)) (gaCons (gI 0) (gaCons (gI 1000000) gaNil)))))
structure S_need_trees where
  (trees_here hand : Sl)
def S_need_trees.e (s : S_need_trees) : VS.Env := [s.trees_here, s.hand]
@[simp] theorem S_need_trees.g0 (s : S_need_trees) : s.e[0]? = Option.some s.trees_here := rfl
@[simp] theorem S_need_trees.w0 (s : S_need_trees) (u : Sl) : List.set s.e 0 u = S_need_trees.e { s with trees_here := u } := rfl
@[simp] theorem S_need_trees.g1 (s : S_need_trees) : s.e[1]? = Option.some s.hand := rfl
@[simp] theorem S_need_trees.w1 (s : S_need_trees) (u : Sl) : List.set s.e 1 u = S_need_trees.e { s with hand := u } := rfl
theorem S_need_trees.st (d0 : D) : startE 2 [d0] = S_need_trees.e { trees_here := .im d0, hand := .un } := rfl
def b_need_trees : VS.Env → Out :=
 (seqO (ifO (gOr (gNot (geB (ge1 (isiD .dict) (geV 0)))) (gNot (geB (geA allD (gaCons C_need_trees_1 gaNil)))))
  (fun _ => .ex "BadTrees")
  .nx)
 (ifO (gNot (geB (geA allD (gaCons C_need_trees_2 gaNil))))
  (fun _ => .ex "BadTrees")
  .nx))
def F_need_trees : List D → R D := runDef 2 b_need_trees
structure S_whole where
  (call : Sl)
def S_whole.e (s : S_whole) : VS.Env := [s.call]
@[simp] theorem S_whole.g0 (s : S_whole) : s.e[0]? = Option.some s.call := rfl
@[simp] theorem S_whole.w0 (s : S_whole) (u : Sl) : List.set s.e 0 u = S_whole.e { s with call := u } := rfl
theorem S_whole.st (d0 : D) : startE 1 [d0] = S_whole.e { call := .im d0 } := rfl
def b_whole : VS.Env → Out :=
 (fun ρ => ofR ((geOp subI (geOp ixT (geV 0) (gI 2)) (geOp ixT (geV 0) (gI 1))) ρ) .rt)
def F_whole : List D → R D := runDef 1 b_whole
def C_own_1 : VS.Env → R D :=
 (compE (.nm 1) [1] (gSeq itT (geOp ixT (geV 0) (gI 3))) (fun _ => .ok true) (geA F_whole (gaCons (geV 1) gaNil)))
structure S_own where
  (call one : Sl)
def S_own.e (s : S_own) : VS.Env := [s.call, s.one]
@[simp] theorem S_own.g0 (s : S_own) : s.e[0]? = Option.some s.call := rfl
@[simp] theorem S_own.w0 (s : S_own) (u : Sl) : List.set s.e 0 u = S_own.e { s with call := u } := rfl
@[simp] theorem S_own.g1 (s : S_own) : s.e[1]? = Option.some s.one := rfl
@[simp] theorem S_own.w1 (s : S_own) (u : Sl) : List.set s.e 1 u = S_own.e { s with one := u } := rfl
theorem S_own.st (d0 : D) : startE 2 [d0] = S_own.e { call := .im d0, one := .un } := rfl
def b_own : VS.Env → Out :=
 (fun ρ => ofR ((geOp subI (geA F_whole (gaCons (geV 0) gaNil)) (geA sumD (gaCons C_own_1 gaNil))) ρ) .rt)
def F_own : List D → R D := runDef 2 b_own
def L_all_calls_1 (self : List D → R D) : VS.Env → Out :=
 (seqO (appO 1 (geV 2))
  (extO 1 (geA self (gaCons (geOp ixT (geV 2) (gI 3)) gaNil))))
structure S_all_calls where
  (calls found one : Sl)
def S_all_calls.e (s : S_all_calls) : VS.Env := [s.calls, s.found, s.one]
@[simp] theorem S_all_calls.g0 (s : S_all_calls) : s.e[0]? = Option.some s.calls := rfl
@[simp] theorem S_all_calls.w0 (s : S_all_calls) (u : Sl) : List.set s.e 0 u = S_all_calls.e { s with calls := u } := rfl
@[simp] theorem S_all_calls.g1 (s : S_all_calls) : s.e[1]? = Option.some s.found := rfl
@[simp] theorem S_all_calls.w1 (s : S_all_calls) (u : Sl) : List.set s.e 1 u = S_all_calls.e { s with found := u } := rfl
@[simp] theorem S_all_calls.g2 (s : S_all_calls) : s.e[2]? = Option.some s.one := rfl
@[simp] theorem S_all_calls.w2 (s : S_all_calls) (u : Sl) : List.set s.e 2 u = S_all_calls.e { s with one := u } := rfl
theorem S_all_calls.st (d0 : D) : startE 3 [d0] = S_all_calls.e { calls := .im d0, found := .un, one := .un } := rfl
def b_all_calls (self : List D → R D) : VS.Env → Out :=
 (seqO (ownO 1 (geA lstD gaNil))
 (seqO (forO (.nm 2) (gSeq itT (geV 0))
  (L_all_calls_1 self))
 (frzO 1 (fun ρ => ofR ((geV 1) ρ) .rt))))
def F_all_calls : Nat → List D → R D
  | 0 => noF
  | j + 1 => runDef 3 (b_all_calls (F_all_calls j))
structure S_need_hand where
  (trees_here hand : Sl)
def S_need_hand.e (s : S_need_hand) : VS.Env := [s.trees_here, s.hand]
@[simp] theorem S_need_hand.g0 (s : S_need_hand) : s.e[0]? = Option.some s.trees_here := rfl
@[simp] theorem S_need_hand.w0 (s : S_need_hand) (u : Sl) : List.set s.e 0 u = S_need_hand.e { s with trees_here := u } := rfl
@[simp] theorem S_need_hand.g1 (s : S_need_hand) : s.e[1]? = Option.some s.hand := rfl
@[simp] theorem S_need_hand.w1 (s : S_need_hand) (u : Sl) : List.set s.e 1 u = S_need_hand.e { s with hand := u } := rfl
theorem S_need_hand.st (d0 d1 : D) : startE 2 [d0, d1] = S_need_hand.e { trees_here := .im d0, hand := .im d1 } := rfl
def b_need_hand : VS.Env → Out :=
 (seqO (fun ρ => ofR ((geA F_need_trees (gaCons (geV 0) gaNil)) ρ) fun _ => .nx ρ)
 (ifO (gOr (gNot (geB (geA F_is_count (gaCons (geV 1) (gaCons (gI 1) (gaCons (gI 4) gaNil)))))) (geB (geOp (inD true) (geV 1) (geV 0))))
  (fun _ => .ex "NoHand")
  .nx))
def F_need_hand : List D → R D := runDef 2 b_need_hand
structure S_need_tick where
  (tick : Sl)
def S_need_tick.e (s : S_need_tick) : VS.Env := [s.tick]
@[simp] theorem S_need_tick.g0 (s : S_need_tick) : s.e[0]? = Option.some s.tick := rfl
@[simp] theorem S_need_tick.w0 (s : S_need_tick) (u : Sl) : List.set s.e 0 u = S_need_tick.e { s with tick := u } := rfl
theorem S_need_tick.st (d0 : D) : startE 1 [d0] = S_need_tick.e { tick := .im d0 } := rfl
def b_need_tick : VS.Env → Out :=
 (ifO (gNot (geB (geA F_is_count (gaCons (geV 0) (gaCons (gI 0) (gaCons (gI 1000000) gaNil))))))
  (fun _ => .ex "BadTick")
  .nx)
def F_need_tick : List D → R D := runDef 1 b_need_tick
def L_stack_in_1 (self : List D → R D) : VS.Env → Out :=
 (ifO (geB (geChain (cmI fun i j => decide (i ≤ j)) (cmI fun i j => decide (i < j)) (geV 3) (geV 1) (geV 4)))
   (fun ρ => ofR ((geOp catL (geA lstD (gaCons (geV 2) gaNil)) (geA self (gaCons (geV 5) (gaCons (geV 1) gaNil)))) ρ) .rt)
   .nx)
structure S_stack_in where
  (calls tick name first last inner : Sl)
def S_stack_in.e (s : S_stack_in) : VS.Env := [s.calls, s.tick, s.name, s.first, s.last, s.inner]
@[simp] theorem S_stack_in.g0 (s : S_stack_in) : s.e[0]? = Option.some s.calls := rfl
@[simp] theorem S_stack_in.w0 (s : S_stack_in) (u : Sl) : List.set s.e 0 u = S_stack_in.e { s with calls := u } := rfl
@[simp] theorem S_stack_in.g1 (s : S_stack_in) : s.e[1]? = Option.some s.tick := rfl
@[simp] theorem S_stack_in.w1 (s : S_stack_in) (u : Sl) : List.set s.e 1 u = S_stack_in.e { s with tick := u } := rfl
@[simp] theorem S_stack_in.g2 (s : S_stack_in) : s.e[2]? = Option.some s.name := rfl
@[simp] theorem S_stack_in.w2 (s : S_stack_in) (u : Sl) : List.set s.e 2 u = S_stack_in.e { s with name := u } := rfl
@[simp] theorem S_stack_in.g3 (s : S_stack_in) : s.e[3]? = Option.some s.first := rfl
@[simp] theorem S_stack_in.w3 (s : S_stack_in) (u : Sl) : List.set s.e 3 u = S_stack_in.e { s with first := u } := rfl
@[simp] theorem S_stack_in.g4 (s : S_stack_in) : s.e[4]? = Option.some s.last := rfl
@[simp] theorem S_stack_in.w4 (s : S_stack_in) (u : Sl) : List.set s.e 4 u = S_stack_in.e { s with last := u } := rfl
@[simp] theorem S_stack_in.g5 (s : S_stack_in) : s.e[5]? = Option.some s.inner := rfl
@[simp] theorem S_stack_in.w5 (s : S_stack_in) (u : Sl) : List.set s.e 5 u = S_stack_in.e { s with inner := u } := rfl
theorem S_stack_in.st (d0 d1 : D) : startE 6 [d0, d1] = S_stack_in.e { calls := .im d0, tick := .im d1, name := .un, first := .un, last := .un, inner := .un } := rfl
def b_stack_in (self : List D → R D) : VS.Env → Out :=
 (seqO (forO (.tp (.cons (.nm 2) (.cons (.nm 3) (.cons (.nm 4) (.cons (.nm 5) .nil))))) (gSeq itT (geV 0))
  (L_stack_in_1 self))
 (fun ρ => ofR ((geA lstD gaNil) ρ) .rt))
def F_stack_in : Nat → List D → R D
  | 0 => noF
  | j + 1 => runDef 6 (b_stack_in (F_stack_in j))
structure S_stack_at where
  (trees_here hand tick : Sl)
def S_stack_at.e (s : S_stack_at) : VS.Env := [s.trees_here, s.hand, s.tick]
@[simp] theorem S_stack_at.g0 (s : S_stack_at) : s.e[0]? = Option.some s.trees_here := rfl
@[simp] theorem S_stack_at.w0 (s : S_stack_at) (u : Sl) : List.set s.e 0 u = S_stack_at.e { s with trees_here := u } := rfl
@[simp] theorem S_stack_at.g1 (s : S_stack_at) : s.e[1]? = Option.some s.hand := rfl
@[simp] theorem S_stack_at.w1 (s : S_stack_at) (u : Sl) : List.set s.e 1 u = S_stack_at.e { s with hand := u } := rfl
@[simp] theorem S_stack_at.g2 (s : S_stack_at) : s.e[2]? = Option.some s.tick := rfl
@[simp] theorem S_stack_at.w2 (s : S_stack_at) (u : Sl) : List.set s.e 2 u = S_stack_at.e { s with tick := u } := rfl
theorem S_stack_at.st (d0 d1 d2 : D) : startE 3 [d0, d1, d2] = S_stack_at.e { trees_here := .im d0, hand := .im d1, tick := .im d2 } := rfl
def b_stack_at : VS.Env → Out :=
 (seqO (fun ρ => ofR ((geA F_need_hand (gaCons (geV 0) (gaCons (geV 1) gaNil))) ρ) fun _ => .nx ρ)
 (seqO (fun ρ => ofR ((geA F_need_tick (gaCons (geV 2) gaNil)) ρ) fun _ => .nx ρ)
 (fun ρ => ofR ((geA (F_stack_in 8) (gaCons (geOp ixD (geV 0) (geV 1)) (gaCons (geV 2) gaNil))) ρ) .rt)))
def F_stack_at : List D → R D := runDef 3 b_stack_at
def C_depth_of_1 (self : List D → R D) : VS.Env → R D :=
 (compE (.nm 1) [1] (gSeq itT (geV 0)) (fun _ => .ok true) (geOp addI (gI 1) (geA self (gaCons (geOp ixT (geV 1) (gI 3)) gaNil))))
structure S_depth_of where
  (calls one : Sl)
def S_depth_of.e (s : S_depth_of) : VS.Env := [s.calls, s.one]
@[simp] theorem S_depth_of.g0 (s : S_depth_of) : s.e[0]? = Option.some s.calls := rfl
@[simp] theorem S_depth_of.w0 (s : S_depth_of) (u : Sl) : List.set s.e 0 u = S_depth_of.e { s with calls := u } := rfl
@[simp] theorem S_depth_of.g1 (s : S_depth_of) : s.e[1]? = Option.some s.one := rfl
@[simp] theorem S_depth_of.w1 (s : S_depth_of) (u : Sl) : List.set s.e 1 u = S_depth_of.e { s with one := u } := rfl
theorem S_depth_of.st (d0 : D) : startE 2 [d0] = S_depth_of.e { calls := .im d0, one := .un } := rfl
def b_depth_of (self : List D → R D) : VS.Env → Out :=
 (fun ρ => ofR ((geA maxL (gaCons (geOp catL (geA lstD (gaCons (gI 0) gaNil)) (C_depth_of_1 self)) gaNil)) ρ) .rt)
def F_depth_of : Nat → List D → R D
  | 0 => noF
  | j + 1 => runDef 2 (b_depth_of (F_depth_of j))
def C_deepest_1 : VS.Env → R D :=
 (compDE (.nm 1) [1] 0 (fun _ => .ok true) (geA (F_depth_of 8) (gaCons (geOp ixD (geV 0) (geV 1)) gaNil)))
structure S_deepest where
  (trees_here hand : Sl)
def S_deepest.e (s : S_deepest) : VS.Env := [s.trees_here, s.hand]
@[simp] theorem S_deepest.g0 (s : S_deepest) : s.e[0]? = Option.some s.trees_here := rfl
@[simp] theorem S_deepest.w0 (s : S_deepest) (u : Sl) : List.set s.e 0 u = S_deepest.e { s with trees_here := u } := rfl
@[simp] theorem S_deepest.g1 (s : S_deepest) : s.e[1]? = Option.some s.hand := rfl
@[simp] theorem S_deepest.w1 (s : S_deepest) (u : Sl) : List.set s.e 1 u = S_deepest.e { s with hand := u } := rfl
theorem S_deepest.st (d0 : D) : startE 2 [d0] = S_deepest.e { trees_here := .im d0, hand := .un } := rfl
def b_deepest : VS.Env → Out :=
 (seqO (fun ρ => ofR ((geA F_need_trees (gaCons (geV 0) gaNil)) ρ) fun _ => .nx ρ)
 (fun ρ => ofR ((geA maxL (gaCons (geOp catL (geA lstD (gaCons (gI 0) gaNil)) C_deepest_1) gaNil)) ρ) .rt))
def F_deepest : List D → R D := runDef 2 b_deepest
end
end VP

set_option Elab.async false
set_option linter.all false
set_option maxRecDepth 100000
namespace VP
open PySem PySem.Spec PyProof.Rows L2 LamX VS
noncomputable section
def L_outer_1 (self : List D → R D) : VS.Env → Out :=
 (seqO (ifO (geB (geOp (inF true) (geOp ixT (geV 3) (gI 0)) (geV 1)))
   (appO 2 (geA tupD (gaCons (geOp ixT (geV 3) (gI 0)) (gaCons (geA F_whole (gaCons (geV 3) gaNil)) gaNil))))
   .nx)
  (extO 2 (geA self (gaCons (geOp ixT (geV 3) (gI 3)) (gaCons (geOp catL (geV 1) (geA lstD (gaCons (geOp ixT (geV 3) (gI 0)) gaNil))) gaNil)))))
structure S_outer where
  (calls around found one : Sl)
def S_outer.e (s : S_outer) : VS.Env := [s.calls, s.around, s.found, s.one]
@[simp] theorem S_outer.g0 (s : S_outer) : s.e[0]? = Option.some s.calls := rfl
@[simp] theorem S_outer.w0 (s : S_outer) (u : Sl) : List.set s.e 0 u = S_outer.e { s with calls := u } := rfl
@[simp] theorem S_outer.g1 (s : S_outer) : s.e[1]? = Option.some s.around := rfl
@[simp] theorem S_outer.w1 (s : S_outer) (u : Sl) : List.set s.e 1 u = S_outer.e { s with around := u } := rfl
@[simp] theorem S_outer.g2 (s : S_outer) : s.e[2]? = Option.some s.found := rfl
@[simp] theorem S_outer.w2 (s : S_outer) (u : Sl) : List.set s.e 2 u = S_outer.e { s with found := u } := rfl
@[simp] theorem S_outer.g3 (s : S_outer) : s.e[3]? = Option.some s.one := rfl
@[simp] theorem S_outer.w3 (s : S_outer) (u : Sl) : List.set s.e 3 u = S_outer.e { s with one := u } := rfl
theorem S_outer.st (d0 d1 : D) : startE 4 [d0, d1] = S_outer.e { calls := .im d0, around := .im d1, found := .un, one := .un } := rfl
def b_outer (self : List D → R D) : VS.Env → Out :=
 (seqO (ownO 2 (geA lstD gaNil))
 (seqO (forO (.nm 3) (gSeq itT (geV 0))
  (L_outer_1 self))
 (frzO 2 (fun ρ => ofR ((geV 2) ρ) .rt))))
def F_outer : Nat → List D → R D
  | 0 => noF
  | j + 1 => runDef 4 (b_outer (F_outer j))
def L_every_1 : VS.Env → Out :=
 (extO 1 (geA (F_all_calls 8) (gaCons (geOp ixD (geV 0) (geV 2)) gaNil)))
structure S_every where
  (trees_here found hand : Sl)
def S_every.e (s : S_every) : VS.Env := [s.trees_here, s.found, s.hand]
@[simp] theorem S_every.g0 (s : S_every) : s.e[0]? = Option.some s.trees_here := rfl
@[simp] theorem S_every.w0 (s : S_every) (u : Sl) : List.set s.e 0 u = S_every.e { s with trees_here := u } := rfl
@[simp] theorem S_every.g1 (s : S_every) : s.e[1]? = Option.some s.found := rfl
@[simp] theorem S_every.w1 (s : S_every) (u : Sl) : List.set s.e 1 u = S_every.e { s with found := u } := rfl
@[simp] theorem S_every.g2 (s : S_every) : s.e[2]? = Option.some s.hand := rfl
@[simp] theorem S_every.w2 (s : S_every) (u : Sl) : List.set s.e 2 u = S_every.e { s with hand := u } := rfl
theorem S_every.st (d0 : D) : startE 3 [d0] = S_every.e { trees_here := .im d0, found := .un, hand := .un } := rfl
def b_every : VS.Env → Out :=
 (seqO (ownO 1 (geA lstD gaNil))
 (seqO (forO (.nm 2) (gSeq itL (geA sortDct (gaCons (geV 0) gaNil)))
  L_every_1)
 (frzO 1 (fun ρ => ofR ((geV 1) ρ) .rt))))
def F_every : List D → R D := runDef 3 b_every
def L_table_1 : VS.Env → Out :=
 (seqO (putO 3 (geOp addI (geGet (geT 3) (geOp ixT (geV 1) (gI 0)) (gI 0)) (gI 1)) (geOp ixT (geV 1) (gI 0)))
  (putO 5 (geOp addI (geGet (geT 5) (geOp ixT (geV 1) (gI 0)) (gI 0)) (geA F_own (gaCons (geV 1) gaNil))) (geOp ixT (geV 1) (gI 0))))
def L_table_2 : VS.Env → Out :=
 (putO 4 (geOp addI (geGet (geT 4) (geV 6) (gI 0)) (geV 7)) (geV 6))
def L_table_3 : VS.Env → Out :=
 (forO (.tp (.cons (.nm 6) (.cons (.nm 7) .nil))) (gSeq itL (geA (F_outer 8) (gaCons (geOp ixD (geV 0) (geV 2)) (gaCons (geA lstD gaNil) gaNil))))
   L_table_2)
def C_table_1 : VS.Env → R D :=
 (compE (.nm 6) [6] (gSeq itL (geA sortDct (gaCons (geT 3) gaNil))) (fun _ => .ok true) (geA tupD (gaCons (geV 6) (gaCons (geOp ixD (geT 3) (geV 6)) (gaCons (geOp ixD (geT 4) (geV 6)) (gaCons (geOp ixD (geT 5) (geV 6)) gaNil))))))
structure S_table where
  (trees_here one hand counts wholes owns name time : Sl)
def S_table.e (s : S_table) : VS.Env := [s.trees_here, s.one, s.hand, s.counts, s.wholes, s.owns, s.name, s.time]
@[simp] theorem S_table.g0 (s : S_table) : s.e[0]? = Option.some s.trees_here := rfl
@[simp] theorem S_table.w0 (s : S_table) (u : Sl) : List.set s.e 0 u = S_table.e { s with trees_here := u } := rfl
@[simp] theorem S_table.g1 (s : S_table) : s.e[1]? = Option.some s.one := rfl
@[simp] theorem S_table.w1 (s : S_table) (u : Sl) : List.set s.e 1 u = S_table.e { s with one := u } := rfl
@[simp] theorem S_table.g2 (s : S_table) : s.e[2]? = Option.some s.hand := rfl
@[simp] theorem S_table.w2 (s : S_table) (u : Sl) : List.set s.e 2 u = S_table.e { s with hand := u } := rfl
@[simp] theorem S_table.g3 (s : S_table) : s.e[3]? = Option.some s.counts := rfl
@[simp] theorem S_table.w3 (s : S_table) (u : Sl) : List.set s.e 3 u = S_table.e { s with counts := u } := rfl
@[simp] theorem S_table.g4 (s : S_table) : s.e[4]? = Option.some s.wholes := rfl
@[simp] theorem S_table.w4 (s : S_table) (u : Sl) : List.set s.e 4 u = S_table.e { s with wholes := u } := rfl
@[simp] theorem S_table.g5 (s : S_table) : s.e[5]? = Option.some s.owns := rfl
@[simp] theorem S_table.w5 (s : S_table) (u : Sl) : List.set s.e 5 u = S_table.e { s with owns := u } := rfl
@[simp] theorem S_table.g6 (s : S_table) : s.e[6]? = Option.some s.name := rfl
@[simp] theorem S_table.w6 (s : S_table) (u : Sl) : List.set s.e 6 u = S_table.e { s with name := u } := rfl
@[simp] theorem S_table.g7 (s : S_table) : s.e[7]? = Option.some s.time := rfl
@[simp] theorem S_table.w7 (s : S_table) (u : Sl) : List.set s.e 7 u = S_table.e { s with time := u } := rfl
theorem S_table.st (d0 : D) : startE 8 [d0] = S_table.e { trees_here := .im d0, one := .un, hand := .un, counts := .un, wholes := .un, owns := .un, name := .un, time := .un } := rfl
def b_table : VS.Env → Out :=
 (seqO (fun ρ => ofR ((geA F_need_trees (gaCons (geV 0) gaNil)) ρ) fun _ => .nx ρ)
 (seqO (parO3 3 4 5 .f .f .f (fun _ => .ok (.dK [])) (fun _ => .ok (.dK [])) (fun _ => .ok (.dK [])))
 (seqO (forO (.nm 1) (gSeq itL (geA F_every (gaCons (geV 0) gaNil)))
  L_table_1)
 (seqO (forDO (.nm 2) 0
  L_table_3)
 (fun ρ => ofR (C_table_1 ρ) .rt)))))
def F_table : List D → R D := runDef 8 b_table
end
end VP

set_option Elab.async false
set_option linter.all false
set_option maxRecDepth 100000
namespace VP
open PySem PySem.Spec PyProof.Rows L2 LamX VS
noncomputable section
def L__law_flat_1 (self : List D → R D) : VS.Env → Out :=
 (seqO (appO 2 (geA tupD (gaCons (geV 3) (gaCons (geV 1) gaNil))))
  (ownO 2 (geOp catL (geT 2) (geA self (gaCons (geOp ixT (geV 3) (gI 3)) (gaCons (geOp addT (geV 1) (geA tupD (gaCons (geOp ixT (geV 3) (gI 0)) gaNil))) gaNil))))))
structure S__law_flat where
  (calls_here above found one : Sl)
def S__law_flat.e (s : S__law_flat) : VS.Env := [s.calls_here, s.above, s.found, s.one]
@[simp] theorem S__law_flat.g0 (s : S__law_flat) : s.e[0]? = Option.some s.calls_here := rfl
@[simp] theorem S__law_flat.w0 (s : S__law_flat) (u : Sl) : List.set s.e 0 u = S__law_flat.e { s with calls_here := u } := rfl
@[simp] theorem S__law_flat.g1 (s : S__law_flat) : s.e[1]? = Option.some s.above := rfl
@[simp] theorem S__law_flat.w1 (s : S__law_flat) (u : Sl) : List.set s.e 1 u = S__law_flat.e { s with above := u } := rfl
@[simp] theorem S__law_flat.g2 (s : S__law_flat) : s.e[2]? = Option.some s.found := rfl
@[simp] theorem S__law_flat.w2 (s : S__law_flat) (u : Sl) : List.set s.e 2 u = S__law_flat.e { s with found := u } := rfl
@[simp] theorem S__law_flat.g3 (s : S__law_flat) : s.e[3]? = Option.some s.one := rfl
@[simp] theorem S__law_flat.w3 (s : S__law_flat) (u : Sl) : List.set s.e 3 u = S__law_flat.e { s with one := u } := rfl
theorem S__law_flat.st (d0 d1 : D) : startE 4 [d0, d1] = S__law_flat.e { calls_here := .im d0, above := .im d1, found := .un, one := .un } := rfl
def b__law_flat (self : List D → R D) : VS.Env → Out :=
 (seqO (ownO 2 (geA lstD gaNil))
 (seqO (forO (.nm 3) (gSeq itT (geV 0))
  (L__law_flat_1 self))
 (frzO 2 (fun ρ => ofR ((geV 2) ρ) .rt))))
def F__law_flat : Nat → List D → R D
  | 0 => noF
  | j + 1 => runDef 4 (b__law_flat (F__law_flat j))
def L__law_all_1 : VS.Env → Out :=
 (fun ρ => ofR ((geOp catL (geV 1) (geA (F__law_flat 8) (gaCons (geOp ixD (geV 0) (geV 2)) (gaCons (geA tupD gaNil) gaNil)))) ρ) fun d => .nx (ρ.set 1 (.im d)))
structure S__law_all where
  (trees_here found hand : Sl)
def S__law_all.e (s : S__law_all) : VS.Env := [s.trees_here, s.found, s.hand]
@[simp] theorem S__law_all.g0 (s : S__law_all) : s.e[0]? = Option.some s.trees_here := rfl
@[simp] theorem S__law_all.w0 (s : S__law_all) (u : Sl) : List.set s.e 0 u = S__law_all.e { s with trees_here := u } := rfl
@[simp] theorem S__law_all.g1 (s : S__law_all) : s.e[1]? = Option.some s.found := rfl
@[simp] theorem S__law_all.w1 (s : S__law_all) (u : Sl) : List.set s.e 1 u = S__law_all.e { s with found := u } := rfl
@[simp] theorem S__law_all.g2 (s : S__law_all) : s.e[2]? = Option.some s.hand := rfl
@[simp] theorem S__law_all.w2 (s : S__law_all) (u : Sl) : List.set s.e 2 u = S__law_all.e { s with hand := u } := rfl
theorem S__law_all.st (d0 : D) : startE 3 [d0] = S__law_all.e { trees_here := .im d0, found := .un, hand := .un } := rfl
def b__law_all : VS.Env → Out :=
 (seqO (fun ρ => ofR ((geA lstD gaNil) ρ) fun d => .nx (ρ.set 1 (.im d)))
 (seqO (forO (.nm 2) (gSeq itL (geA sortDct (gaCons (geV 0) gaNil)))
  L__law_all_1)
 (fun ρ => ofR ((geV 1) ρ) .rt)))
def F__law_all : List D → R D := runDef 3 b__law_all
def C__law_own_1 : VS.Env → R D :=
 (compE (.nm 1) [1] (gSeq itT (geOp ixT (geV 0) (gI 3))) (fun _ => .ok true) (geOp subI (geOp ixT (geV 1) (gI 2)) (geOp ixT (geV 1) (gI 1))))
structure S__law_own where
  (one inner : Sl)
def S__law_own.e (s : S__law_own) : VS.Env := [s.one, s.inner]
@[simp] theorem S__law_own.g0 (s : S__law_own) : s.e[0]? = Option.some s.one := rfl
@[simp] theorem S__law_own.w0 (s : S__law_own) (u : Sl) : List.set s.e 0 u = S__law_own.e { s with one := u } := rfl
@[simp] theorem S__law_own.g1 (s : S__law_own) : s.e[1]? = Option.some s.inner := rfl
@[simp] theorem S__law_own.w1 (s : S__law_own) (u : Sl) : List.set s.e 1 u = S__law_own.e { s with inner := u } := rfl
theorem S__law_own.st (d0 : D) : startE 2 [d0] = S__law_own.e { one := .im d0, inner := .un } := rfl
def b__law_own : VS.Env → Out :=
 (fun ρ => ofR ((geOp subI (geOp subI (geOp ixT (geV 0) (gI 2)) (geOp ixT (geV 0) (gI 1))) (geA sumD (gaCons C__law_own_1 gaNil))) ρ) .rt)
def F__law_own : List D → R D := runDef 2 b__law_own
end
end VP

set_option Elab.async false
set_option linter.all false
set_option maxRecDepth 100000
set_option maxHeartbeats 4000000
/-! VX5: {k: v}; enumerate and zip with their small conditions. -/
namespace VS
open PySem PySem.Spec PyProof.Rows L2 LamX
def disp1 : D → D → R D := fun k d => match keyD k with | some k => .ok (.dK [(k, d)]) | none => .no
def intD : List D → R D | [.int i] => .ok (.int i) | [.bl b] => .ok (.int (if b then 1 else 0)) | _ => .no
theorem ad_int {K : PySem.W.Frag} {G : Wh} : ADen K G (fun xs H Q => (∃ i, xs = [.int i] ∧ Q (.int i) H) ∨ ∃ k, xs = [.bl k] ∧ Q (.int (if k then 1 else 0)) H) .t .c intD := by
  intro vs ds Z H Q s n f h
  unfold intD at h
  split at h
  · obtain ⟨v, rfl, fv⟩ := fins1 f
    exact .inl ⟨_, by rw [now_int fv], ansC s n h (.int _)⟩
  · obtain ⟨v, rfl, fv⟩ := fins1 f
    exact .inr ⟨_, by rw [now_bl fv], ansC s n h (.int _)⟩
  · exact h.elim
theorem uptoR {K : PySem.W.Frag} {Z : Hp} (a b : Int) : Reps K Z (rgV a b) (upto a (b - a).toNat) := by
  unfold rgV upto
  generalize List.range (b - a).toNat = l
  induction l with
  | nil => exact .nil
  | cons i l ih => exact .cons (.int _) ih
def lrg2 : D → D → R D
  | .int i, .int j => if 0 ≤ i ∧ j ≤ 16777216 ∧ i ≤ 16777216 ∧ 0 ≤ j then .ok (.lst (upto i (j - i).toNat)) else .no
  | _, _ => .no
def rLrg : R2 := fun x y H Q => ∃ i j, x = .int i ∧ y = .int j ∧ RgOk i j ∧ ∀ q, H q = none → Q (.ref q) (upd H q (.lst (rgV i j)))
theorem rd_lrg {K : PySem.W.Frag} {G : Wh} : RDen K G rLrg .f lrg2 := by
  intro x y dx dy Z H Q s n hx hy h
  unfold lrg2 at h
  split at h
  · split at h
    · rename_i hc
      exact ⟨_, _, now_int hx, now_int hy, RgOk.of_le hc.1 hc.2.1 hc.2.2.1 hc.2.2.2, ansL s n h (uptoR _ _)⟩
    · exact h.elim
  · exact h.elim
section
variable {X : Cx} {G : Wh}
theorem den_disp1 {ek ev : Expr} {pos : Pos} {gk gv : Env → R D} (hk : Den X G .c ek gk) (hv : Den X G .c ev gv) : Den X G .f (.Dict [some ek] [ev] pos) (geOp disp1 gk gv) := by
  obtain ⟨tk, pk, qk⟩ := hk.ex
  obtain ⟨tv, pv, qv⟩ := hv.ex
  refine ⟨_, pe_disp (pps_cons pk pv pps_nil) rfl rfl (by simp) (by simp), fun Z0 H0 Z H σ ρ Q S h p hp => ?_⟩
  have g0 : Grow G.T Z H Z (upd H p (.dK [])) := grow_new S.sub S.nt hp
  have pr0 : Prot (upd H p (.dK [])) p := pr_dK upd_same
  have z0 : Z p = none := sub_none S.sub hp
  refine qk Z0 H0 Z _ σ ρ _ (S.grow g0) ?_
  unfold geOp at h
  cases ea : gk ρ with
  | no => rw [ea] at h; exact h.elim
  | ex c => rw [ea] at h; exact fun Z' H' g' => h Z' H' (g0.trans g')
  | ok kd =>
    rw [ea] at h
    intro x Z1 H1 g1 f1
    refine qv Z0 H0 Z1 H1 σ ρ _ ((S.grow g0).grow g1) ?_
    cases eb : gv ρ with
    | no => rw [eb] at h; exact h.elim
    | ex c => rw [eb] at h; exact fun Z' H' g' => h Z' H' ((g0.trans g1).trans g')
    | ok vd =>
      rw [eb] at h
      intro y Z2 H2 g2 f2
      have h' : Ans X.K G .f (disp1 kd vd) Z H Q := h
      unfold disp1 at h'
      have e1 : H1 p = some (.dK []) := g1.h _ _ upd_same (nt_dK _)
      have z1 : Z1 p = none := g1.p _ z0 pr0
      have e2 : H2 p = some (.dK []) := g2.h _ _ e1 (nt_dK _)
      have z2 : Z2 p = none := g2.p _ z1 (pr_dK e1)
      cases ek2 : keyD kd with
      | none => rw [ek2] at h'; exact h'.elim
      | some k =>
        rw [ek2] at h'
        refine ⟨e2, [(k, y)], by rw [key_of (K := X.K) f1 ek2]; rfl, by simp, ?_⟩
        have g3 := (g0.trans g1).trans g2
        have sub2 : Sub Z2 (upd H2 p (.dK [(k, y)])) := fun a u e => by rw [upd_ne (ne_of_none e z2)]; exact g3.s a u e
        refine h' (.ref p) Z2 _ ⟨g3.z, fun a u e n => ?_, sub2, g3.n, g3.p, fun t => tabs_write e2 (nt_dK _) (fun _ q => by cases q) (g3.t t)⟩ ⟨p, rfl, .dK upd_same (.cons f2 .nil), z2, nprot_none hp⟩
        rw [upd_ne (ne_of_none e hp)]
        exact g3.h _ _ e n
theorem lrg {a b : Expr} {p p2 pos q : Pos} {ga gb : Env → R D} {m1 m2 : Md} (ha : Den X G m1 a ga) (hb : Den X G m2 b gb) (hml : X.mg "list" = none) (hmr : X.mg "range" = none) (hgl : Gl X "list" := by rfl) (hgr : Gl X "range" := by rfl) (hc : X.calm = true := by rfl)
    (na : starEach [a, b] X.env = (false, eval a X.env) :: starEach [b] X.env := by rfl) (nb : starEach [b] X.env = (false, eval b X.env) :: starEach [] X.env := by rfl) (hp : (backTo q (starEach [b] X.env)).any (·.1) = false := by rfl)
    (nl : starEach [.Call (.Name "range" p2) [a, b] [] q] X.env = (false, eval (.Call (.Name "range" p2) [a, b] [] q) X.env) :: starEach [] X.env := by rfl) : Den X G .f (.Call (.Name "list" p) [.Call (.Name "range" p2) [a, b] [] q] [] pos) (geOp lrg2 ga gb) := by
  obtain ⟨ta, pa, qa⟩ := ha.ex
  obtain ⟨tb, pb, qb⟩ := hb.ex
  refine ⟨_, pe_listRg hc hgl hml (prg_2 hgr hmr pa pb na nb hp) nl, fun Z0 H0 Z H σ ρ Q S h => ?_⟩
  have k := ans_op rd_lrg qa qb S h
  refine (show ta σ H fun x H1 => tb σ H1 fun y H2 => ∃ i j, x = .int i ∧ y = .int j ∧ (RgOk i j ∧ ∀ q, H2 q = none → Q (.ref q) (upd H2 q (.lst (rgV i j)))) from k)
theorem disp {ek ev : Expr} {pos : Pos} {gk gv : Env → R D} (hk : Den X G .c ek gk) (hv : Den X G .c ev gv) : Den X G .f (.Dict [some ek] [ev] pos) (geOp disp1 gk gv) := den_disp1 hk hv
theorem en {e : Expr} {p pos tpos : Pos} {elts : List Expr} {kk : Nat} {g : Env → R (List D)} (ha : DenA X G .c [e] g) (hm : X.mg "enumerate" = none) (hg : Gl X "enumerate" := by rfl) (hs : starEach [e] X.env = [(false, eval e X.env)] := by rfl) :
    DenI X G (.Tuple elts kk tpos) (.Call (.Name "enumerate" p) [e] [] pos) (gSeqA enm g) := deni_enum hg hm ha hs
theorem zi {e e2 : Expr} {p pos tpos : Pos} {elts : List Expr} {kk : Nat} {g : Env → R (List D)} (ha : DenA X G .c [e, e2] g) (hm : X.mg "zip" = none) (hg : Gl X "zip" := by rfl) (hs : starEach [e, e2] X.env = (false, eval e X.env) :: starEach [e2] X.env := by rfl) (hpl : (backTo pos (starEach [e2] X.env)).any (·.1) = false := by rfl) :
    DenI X G (.Tuple elts kk tpos) (.Call (.Name "zip" p) [e, e2] [] pos) (gSeqA zp g) := deni_zip hg hm ha fun t pt => pi_zip hg hm pt hs hpl
theorem sset {e ix : Expr} {m2 : Md} {g gk : VS.Env → R D} {x : Str} {i : Nat} {p1 pos : Pos} {pt : Pos} (he : Den X G .c e g) (hk : Den X G m2 ix gk) (hN : X.N[i]? = some x := by rfl) (hv : Vis X.env.scope x := by first | exact .inl (by rfl) | exact .inr (.inl (by rfl)) | exact .inr (.inr (by rfl)))
    (hd : (x == ("__debug__" : Str)) = false := by rfl) (hcd : (x == ("__classdict__" : Str)) = false := by rfl) (hs : swapsWithSole [.Subscript (.Name x p1) ix pt] e pos.line X.env = pure false := by rfl) (hw : swappedStores [.Subscript (.Name x p1) ix pt] e X.env = pure none := by rfl)
    (h1 : (assignEach [.Subscript (.Name x p1) ix pt] X.env).map (·.2) = [assign (.Subscript (.Name x p1) ix pt) X.env] := by rfl)
    (ha : ∀ v, assign (.Subscript (.Name x p1) ix pt) X.env v = (do
      let ov ← holding [v] (eval (.Name x p1) X.env)
      let iv ← holding [v, ov] (eval ix X.env)
      standAt pt
      holding [v, ov, iv] (setItem ov iv v)
      release [v, ov, iv] []) := by intro _; rfl) :
    DenS X G (.Assign [.Subscript (.Name x p1) ix pt] e pos) (setO i g gk) := dens_setL hN hv hd hcd he hk fun te to ti p1 p2 p3 => ps_asg p1 (pg_sub p2 p3 set_list ha) hs hw h1
end
end VS

set_option Elab.async false
set_option linter.all false
set_option maxRecDepth 100000
set_option maxHeartbeats 4000000
/-! VN19: a lambda that is called within a try of the def that got it; the air tells that the context is None. -/
namespace VS
open PySem PySem.Spec PyProof.Rows L2 LamX
abbrev lamCxN (X : Cx) (A : Around) (outer : List PySem.Env) (s : Shared) (H : Hp) (E : XK) (scope : Scope) (f c' : Addr) : Cx :=
  (lamCx X A outer s H E scope f c').tr [] (fun e s' => wpAny (model X.prog X.w) (A.deeper (lamEnv X scope s.heap.objs.size f c')) (leaving (lamEnv X scope s.heap.objs.size f c') e) (fun _ s'' => L2N.CX X.prog X.w outer H s E e s'') (fun e' s'' => L2N.CX X.prog X.w outer H s E e' s'') s')
section
variable {X : Cx} {pins : List (Addr × Obj)} {σ : L2.St} {H : Hp} {s : Shared}
theorem pe_actN {CXg : CXT} {Eg : XK} {Ng : List Str} {qg : Str} {sg : Scope} {g f c' : Addr} {cdg pm ctv : Value} {params : Arguments} {body : Expr} {scope : Scope} {k i : Nat} {a : Str} {pn : List (Addr × Obj)} {xe : Value → Shared → Prop} {W : WX} {E : XK} {tb : TE} {p1 p2 : Pos}
    (I : Inv X pins σ H s) (L : LamS X.env.scope scope) (hf : s.heap.get? f = some (PySem.W.kla_obj "<lambda>" (X.env.qual ++ "<lambda>") params body scope (cloFrom X.env.cells scope.names []) pm c' ctv)) (hfn : H f = none) (hfr : f ∉ frs X.stack)
    (hbind : bindArgs (PySem.W.kla_fn "<lambda>" (X.env.qual ++ "<lambda>") params body scope (cloFrom X.env.cells scope.names []) pm (.ref c') ctv) ⟨[], []⟩ = pure [])
    (tk : L2N.Takes ((cxOf CXg X.prog X.w X.K X.mg X.base Ng qg sg g cdg X.A X.stack s H Eg).tr pn xe) W) (hW : ∀ cls d σ' H', E cls d H' → W cls d σ' H') (hr : Room (k + 1) (X.A.deeper (envOfC qg sg s.heap.objs.size g cdg)))
    (hbody : ∀ (A : Around) (outer : List PySem.Env) (s : Shared) (H : Hp), Room k (A.deeper (lamEnv X scope s.heap.objs.size f c')) → PE (lamCxN X A outer s H E scope f c') body tb)
    (hN : Ng[i]? = some a) (hv : Vis sg a) (hd : (a == ("__debug__" : Str)) = false := by decide) (hcd : (a == ("__classdict__" : Str)) = false := by decide) :
    PE ((cxOf CXg X.prog X.w X.K X.mg X.base Ng qg sg g cdg X.A X.stack s H Eg).tr pn xe) (.Call (.Name a p1) [] [] p2)
      (fun σZ HZ Q => σZ[i]? = some (some (.ref f)) ∧ HZ c' = some (CodeO c' (X.env.qual ++ "<lambda>")) ∧ tb σ HZ Q) := by
  refine ⟨fun pinsZ sZ σZ HZ Q IZ h => ?_⟩
  obtain ⟨hs, hc, ht⟩ := h
  refine wpAny_Call_Name_kw (thn ((pe_var (pos := p1) (i := i) hN hv hd hcd).run pinsZ sZ σZ HZ (fun v H1 => v = .ref f ∧ H1 = HZ) IZ ⟨.ref f, hs, rfl, rfl⟩) fun u s1 ⟨v, H1, I1, r1, q1⟩ => ?_)
  obtain ⟨ev, eH⟩ := q1
  subst ev
  rw [eH] at I1
  obtain rfl : u = Value.ref f := r1
  have of1 := I1.base.keep f _ hf hfn hfr (fun z => nomatch (show f ∈ ([] : List Addr) from z))
  refine PySem.W.callWith_F0 ⟨_, _, _, _, of1⟩ ?_
  have un : Un (frs X.stack) [] H HZ s.heap s1.heap := I1.base
  obtain ⟨⟨oc, vs, t, hoc, hdc, hvc⟩, _, _⟩ := I1.hok c' _ hc
  have rc : codeAny (model X.prog X.w) (X.A.deeper (envOfC qg sg s.heap.objs.size g cdg)) (.call (.ref f) ⟨[], []⟩) (CR (L2N.CX X.prog X.w) (envOfC qg sg s.heap.objs.size g cdg :: X.stack) X.prog X.w HZ s1 Q E) s1 := by
    refine PySem.W.kla_callFunE hr.depth of1 rfl L.co L.gen rfl ⟨c', oc, vs, t, rfl, hoc, hdc, hvc⟩ ?_
    rw [hbind]
    refine wpAny_pure (wpAny_newFunctionEnv (fun y hy => (L.own y hy).2) (fun y hy => absurd hy (by simp)) (fun h₁ hns hsb => ⟨I1.nolimit.fresh _ hsb, ?_⟩) L.kind)
    show codeAny _ _ (.expr body (lamEnv X scope s1.heap.objs.size f c')) _ _
    have J := lam_start2 (f := f) (c' := c') (E := E) (tk := s1.toks + ([] : List (Str × Value)).length) I L I1.env0 hr.hd un hns fun b o e => hsb.extBut b o (Nat.ne_of_lt (Heap.lt_size e)) (Heap.get?_push_of_some _ e)
    refine PySem.W.kla_codeExpr (wpAny_mono ((hbody _ _ s1 HZ (hr.deeper _)).run [] _ _ HZ Q (J.toTry _) ht) (fun v s' hq => ?_) fun e s' hq => hq)
    obtain ⟨w', H', J', rv, q⟩ := hq
    exact ⟨w', H', J'.os, J'.bare, J'.base, J'.hok, rv, q⟩
  have hx : Passes (L2N.CX X.prog X.w) ((cxOf CXg X.prog X.w X.K X.mg X.base Ng qg sg g cdg X.A X.stack s H Eg).tr pn xe) E := L2N.passes_call tk hW
  refine wpAny_call (codeAny_mono rc fun r s' hq => ?_)
  cases r with
  | error e => exact hx pinsZ σZ HZ s1 e s' I1 hq
  | ok fl =>
    cases fl with
    | ret u => exact I1.after hq
    | next => exact hq.elim
    | brk => exact hq.elim
    | cont => exact hq.elim
end
end VS

set_option Elab.async false
set_option linter.all false
set_option maxRecDepth 100000
set_option maxHeartbeats 4000000
/-! VK1: sorted(range(n), key=lambda a: (0 - f[a][0], a)): the key's call. -/
namespace VS
open PySem PySem.Spec PyProof.Rows L2 LamX
abbrev keyBody (xf xa : Str) (k0 k1 k2 : Nat) (p0 p1 p2 p3 p4 p5 p6 p7 p8 : Pos) : Expr :=
  .Tuple [.BinOp (.Constant (.int 0) k0 p0) .Sub (.Subscript (.Subscript (.Name xf p1) (.Name xa p2) p3) (.Constant (.int 0) k1 p4) p5) p6, .Name xa p7] k2 p8
section
variable {P : Program} {w : World} {A : Around} {E : Value → Shared → Prop} {s : Shared}
theorem key_body {env : PySem.Env} {xf xa : Str} {k0 k1 k2 : Nat} {p0 p1 p2 p3 p4 p5 p6 p7 p8 : Pos} {m : Str → Option Value} {i x : Int} {t t' : Tok} {c l r : Addr} {its rows : Array Value} {Q : Value → Shared → Prop}
    (hk : env.scope.kind = .function) (hf : env.kindOf xf = some .free) (ha : env.kindOf xa = some .local) (hn : s.heap.Ns env.locals m) (hm : m xa = some (.int i t)) (hc : env.cells.lookup xf = some c) (hcell : s.heap.IsCell c (some (.ref l)))
    (hl : s.heap.IsList l its) (h0 : 0 ≤ i) (h63 : i < 2 ^ 63) (he : its[i.toNat]? = some (.ref r)) (ht : IsTup s.heap r rows) (hx : rows[0]? = some (.int x t'))
    (hfd : (xf == ("__debug__" : Str)) = false) (hfc : (xf == ("__classdict__" : Str)) = false) (had : (xa == ("__debug__" : Str)) = false)
    (e1 : starEach [.BinOp (.Constant (.int 0) k0 p0) .Sub (.Subscript (.Subscript (.Name xf p1) (.Name xa p2) p3) (.Constant (.int 0) k1 p4) p5) p6, .Name xa p7] env = (false, eval (.BinOp (.Constant (.int 0) k0 p0) .Sub (.Subscript (.Subscript (.Name xf p1) (.Name xa p2) p3) (.Constant (.int 0) k1 p4) p5) p6) env) :: starEach [.Name xa p7] env)
    (e2 : starEach [.Name xa p7] env = (false, eval (.Name xa p7) env) :: starEach [] env)
    (q : ∀ v s', PySem.W.KeyPure (.tuple [.int (0 - x), .int i]) s v s' → Q v s') :
    wpAny (model P w) A (eval (keyBody xf xa k0 k1 k2 p0 p1 p2 p3 p4 p5 p6 p7 p8) env) Q E s := by
  refine wpAny_Tuple_spliced (args_cons ?_ e1)
  refine wpAny_BinOp (wpAny_Constant_int ?_)
  refine Subscript_ (Subscript_ (wpAny_Name (wpAny_loadName_free hk hf hc hcell ?_ hfc) hfd))
  refine wpAny_Name (wpAny_loadName_local hk ha hn hm ?_) had
  refine item_listR hl h0 h63 he ?_
  refine wpAny_Constant_int ?_
  refine subscriptTail_builtinR (x := .int x t') (ht.typeIs) slot_tuple_getitem.lookup (getItem_tuple (j := 0) ht (by decide) (by decide) ?_ hx ⟨rfl, ?_⟩)
  · have : 0 < rows.size := by
      rw [Array.getElem?_eq_some_iff] at hx; exact hx.1
    exact seqIndex_of (by decide) (by omega)
  · refine sub_int ?_
    refine args_cons (wpAny_Name (wpAny_loadName_local hk ha hn hm (args_nil ⟨?_, ?_⟩)) had) e2
    · show 2 ≤ sizeLine
      rw [sizeLine_eq]; omega
    · exact q _ _ ⟨_, _, rfl, fun b o e => Heap.get?_push_of_some _ e, .tuple (Heap.get?_push_size _ rfl) rfl rfl (.cons (.int _ _) (.cons (.int _ _) .nil))⟩
theorem key_call {A : Around} {f c' : Addr} {qn xf xa : Str} {params : Arguments} {scope : Scope} {cl : List (Str × Addr)} {pm ctv : Value} {k0 k1 k2 : Nat} {p0 p1 p2 p3 p4 p5 p6 p7 p8 : Pos} {i x : Int} {t t' : Tok} {c l r : Addr} {its rows : Array Value} (hroom : A.depth < recursionLimit)
    (hob : s.heap.get? f = some (PySem.W.kla_obj "<lambda>" qn params (keyBody xf xa k0 k1 k2 p0 p1 p2 p3 p4 p5 p6 p7 p8) scope cl pm c' ctv)) (hcd : s.heap.CodeRec (.ref c') qn) (hlim : s.heap.NoLimit)
    (hco : scope.isCoroutine = false) (hgen : scope.isGenerator = false) (hk : scope.kind = .function) (hnc : ∀ y ∈ scope.names, y.2 ≠ .cell)
    (hf : scope.names.lookup xf = some .free) (ha : scope.names.lookup xa = some .local)
    (hbind : ∀ v, bindArgs (PySem.W.kla_fn "<lambda>" qn params (keyBody xf xa k0 k1 k2 p0 p1 p2 p3 p4 p5 p6 p7 p8) scope cl pm (.ref c') ctv) ⟨[v], []⟩ = pure [(xa, v)])
    (hc : cl.lookup xf = some c) (hcell : s.heap.IsCell c (some (.ref l)))
    (hl : s.heap.IsList l its) (h0 : 0 ≤ i) (h63 : i < 2 ^ 63) (he : its[i.toNat]? = some (.ref r)) (ht : IsTup s.heap r rows) (hx : rows[0]? = some (.int x t'))
    (hfd : (xf == ("__debug__" : Str)) = false) (hfc : (xf == ("__classdict__" : Str)) = false) (had : (xa == ("__debug__" : Str)) = false) :
    wpAny (model P w) A (call (.ref f) [.int i t]) (PySem.W.KeyPure (.tuple [.int (0 - x), .int i]) s) (fun _ _ => False) s := by
  refine wpAny_call (PySem.W.kla_callFunE hroom hob rfl hco hgen rfl hcd ?_)
  rw [hbind]
  refine wpAny_pure (wpAny_newFunctionEnv hnc (fun y hy => by rw [List.mem_singleton] at hy; subst hy; exact ha) (fun h' hns hsb => ?_) hk)
  have kp : ∀ b o, s.heap.get? b = some o → h'.get? b = some o := fun b o e => (hsb.2 b (Nat.ne_of_lt (Heap.lt_size e))).trans (Heap.get?_push_of_some _ e)
  refine ⟨hlim.fresh _ hsb, PySem.W.kla_codeExpr ?_⟩
  refine key_body (t := t) (l := l) (m := fun y => [(xa, Value.int i t)].reverse.lookup y) hk hf ha hns (by show List.lookup xa [(xa, Value.int i t)] = _; simp) hc ?_ ?_ h0 h63 he (ht.keeps kp) hx hfd hfc had rfl rfl fun v s' hq => ?_
  · obtain ⟨o, ho, hd⟩ := hcell
    exact ⟨o, kp _ _ ho, hd⟩
  · exact hl.at fun o e => kp _ _ e
  · obtain ⟨g, tk, rfl, kg, rd⟩ := hq
    exact ⟨g, tk, rfl, fun b o e => kg b o (kp b o e), rd⟩
end
end VS

set_option Elab.async false
set_option linter.all false
set_option maxRecDepth 100000
set_option maxHeartbeats 4000000
/-! VK2: sorted(range(n), key=f), f's key of i the pair (0 - x i, i). -/
namespace VS
open PySem PySem.Spec PyProof.Rows L2 LamX
def kyI (x : Int → Int) (i : Int) : PyData := .tuple [.int (0 - x i), .int i]
def ordI (x : Int → Int) (n : Nat) : List Int := ((List.range n).map fun i : Nat => (i : Int)).mergeSort (PySem.W.dataLe false (kyI x))
theorem each_int : ∀ {is : List Int} {us : List Value}, Vals (is.map V.int) us → PySem.W.EachIs (fun v i => RelV (V.int i) v) us is
  | [], _, h => by cases h; exact .nil
  | i :: is, _, h => by rw [List.map_cons] at h; cases h with | cons r t => exact .cons r (each_int t)
theorem int_each : ∀ {is : List Int} {us : List Value}, PySem.W.EachIs (fun v i => RelV (V.int i) v) us is → Vals (is.map V.int) us
  | [], _, h => by cases h; exact .nil
  | i :: is, _, h => by cases h with | cons r t => exact .cons r (int_each t)
theorem sorted_rg {P : Program} {w : World} {A : Around} {E : Value → Shared → Prop} {s : Shared} {r f : Addr} {n : Nat} {t u v : Tok} {Q : Value → Shared → Prop} (x : Int → Int) (hh : A.handled = none) (hr : IsRange s.heap r 0 n 1 t u v) (hn : n ≤ 2 ^ 24) (hu : A.units + 10 < cLine)
    (turn : ∀ (i : Int) (ti : Tok), 0 ≤ i → i < n → ∀ (h : Heap) (tk : Nat), (∀ b o, s.heap.get? b = some o → h.get? b = some o) →
      wpAny (model P w) A.in1.in1 (call (.ref f) [.int i ti]) (PySem.W.KeyPure (kyI x i) { s with heap := h, toks := tk }) (fun _ _ => False) { s with heap := h, toks := tk })
    (q : ∀ (h1 h' : Heap) (tk : Nat) (c : Nat) (out : List Value), (∀ b o, s.heap.get? b = some o → h1.get? b = some o) → (∀ b o, h1.get? b = some o → h'.get? b = some o) → h'.get? h1.objs.size = some (seqObj "list" (List.toArray out) c) → Vals ((ordI x n).map V.int) out → Q (.ref h1.objs.size) { s with heap := h', toks := tk }) :
    wpAny (model P w) A (call (.builtin "sorted") [.ref r] [(Str.ofString "key", .ref f)]) Q E s := by
  refine call_function_entry_kw PyProof.Rows.kind_sorted PyProof.Rows.plain_sorted PyProof.Rows.entry_sorted (PyProof.Rows.ksk_s1 _ _) ?_
  unfold Builtin.«sorted»
  refine wpAny_bind (m := checkCount "sorted" 1 1 _) (wpAny_pure ?_)
  have h24 : (2 : Nat) ^ 24 = 16777216 := by decide
  refine wpAny_bind (collect_range (A := A.in1) (n := n) hh hr (small_one (by decide) (by decide) (by omega) (by omega)) (by have := rangeSize_nat 0 (n : Int); rw [this]; simp) (by omega) fun h' tk acc hk hacc => ?_)
  have hal : acc.toList.length = n := by rw [Array.length_toList, hacc.1]
  refine wpAny_bind (wpAny_newList ?_ (by rw [hal, sizeLine_eq]; omega))
  have hi : Vals (((List.range n).map fun i : Nat => (i : Int)).map V.int) acc.toList := by
    have e : (((n : Int) - 0).toNat) = n := by omega
    have := vals_rg (a := 0) (b := (n : Int)) (acc := acc) (by rw [e]; exact hacc)
    have e2 : rgV 0 (n : Int) = ((List.range n).map fun i : Nat => (i : Int)).map V.int := by
      unfold rgV
      rw [e, List.map_map]
      refine List.map_congr_left fun i _ => ?_
      show V.int (0 + (i : Int)) = V.int (i : Int)
      rw [Int.zero_add]
    rwa [e2] at this
  have hL : (h'.push (seqObj "list" acc.toList.toArray 0)).get? h'.objs.size = some (seqObj "list" acc.toList.toArray 0) := Heap.get?_push_size _ rfl
  refine wpAny_bind (wpAny_holding (wpAny_mono (Q := fun v s' => v = Value.none ∧ ∃ g tk2 c out, s' = { s with heap := g, toks := tk2 } ∧ (∀ b o, h'.get? b = some o → g.get? b = some o) ∧ g.get? h'.objs.size = some (seqObj "list" (List.toArray out) c) ∧ Vals ((ordI x n).map V.int) out) ?_ (fun v' s' hq => ?_) fun _ _ e => e))
  · refine PySem.W.list_sort_key_data (A := A.in1) (b := false) (kyI x) (s := { s with heap := h'.push (seqObj "list" acc.toList.toArray 0), toks := tk }) hL (each_int hi) (PySem.W.AllAlike.of fun _ _ => by simp [kyI, PySem.W.alike, PySem.W.alikeAll]) (PySem.W.Sortable.tuples fun _ => ⟨_, _, rfl⟩)
      (by rw [List.length_map, List.length_range, sizeLine_eq]; omega) (fun i _ => ?_) (PyProof.Rows.ksk_l1 _ _) (PyProof.Rows.ksk_t1 _ _) (fun v i hv hm h2 tk2 kp => ?_) fun out c h2 tk2 kp hD _ eo => ?_
    · have : (kyI x i).depth = 1 := by simp [kyI, PyData.depth, PyData.depthAll]
      show A.units + 1 + 1 + (kyI x i).depth < cLine
      omega
    · obtain ⟨ti, rfl⟩ := hv
      obtain ⟨j, hj, rfl⟩ := List.mem_map.mp hm
      rw [List.mem_range] at hj
      exact turn (j : Int) ti (by omega) (by omega) h2 tk2 fun b o e => kp b o (Nat.ne_of_lt (Heap.lt_size (hk b o e))) (Heap.get?_push_of_some _ (hk b o e))
    · exact ⟨rfl, h2, tk2, c, out, rfl, fun b o e => kp b o (Nat.ne_of_lt (Heap.lt_size e)) (Heap.get?_push_of_some _ e), hD, int_each eo⟩
  · obtain ⟨rfl, g, tk2, c, out, rfl, kg, hg, ho⟩ := hq
    exact wpAny_pure ⟨_, rfl, q h' g tk2 c out hk kg hg ho⟩
end VS

set_option Elab.async false
set_option linter.all false
set_option maxRecDepth 100000
set_option maxHeartbeats 4000000
/-! VK3: .. as a rule. -/
namespace VS
open PySem PySem.Spec PyProof.Rows L2 LamX
section
variable {X : Cx}
theorem cr_range1 : CallR X (.type "range") (fun vs H Q => ∃ j, vs = [V.int j] ∧ ∀ p, H p = none → Q (.ref p) (upd H p (.rng 0 j))) := by
  intro pins s σ H vs us Q I r h
  obtain ⟨j, rfl, q⟩ := h
  obtain ⟨u1, rfl, rj⟩ := vals1 r
  obtain ⟨u, rfl⟩ := rj
  refine call_range_1 ⟨.ref s.heap.objs.size, upd H s.heap.objs.size (.rng 0 j), I.laid (t' := s.toks + 1 + 1) (fun b o e => Heap.get?_push_of_some _ e) (Nat.le_refl _) ?_, rfl, q _ (I.hok.fresh (Nat.le_refl _))⟩
  exact ⟨s.toks, u, s.toks + 1, Heap.get?_push_size _ rfl⟩
/-- the rows that the key reads -/
def KeyRows (K : PySem.W.Frag) (H : Hp) (vs : List V) (x : Int → Int) (n : Nat) : Prop := ∀ i : Nat, i < n → ∃ a r, vs[i]? = some (V.ref a) ∧ SqT K H a (V.int (x i) :: r)
theorem cloFrom_look {cells : List (Str × Addr)} {names : List (Str × NameKind)} {y : Str} {c : Addr} (h : cells.lookup y = some c) (hf : names.lookup y = some .free) : (cloFrom cells names []).lookup y = some c := by
  have hy : (y, NameKind.free) ∈ names := PySem.mem_of_lookup hf
  obtain ⟨c2, h2⟩ := mem_lookup (cloFrom_has (cells := cells) (acc := []) hy)
  rcases cloFrom_mem (PySem.mem_of_lookup h2) with hm | ⟨_, hc⟩
  · cases hm
  · rw [h2, hc, h]; rfl
def tKey (K : PySem.W.Frag) (T : List (Addr × Str)) (j : Nat) (t : TE) : TE := fun σ H Q => t σ H fun v H1 => Tabs T H1 ∧ ∃ (r l : Addr) (n : Nat) (vs : List V) (x : Int → Int), v = .ref r ∧ H1 r = some (.rng 0 (n : Int)) ∧ n ≤ 2 ^ 24 ∧ σ[j]? = some (some (.ref l)) ∧
  ∀ H2, ExtN H1 H2 → Tabs T H2 → SqL K H2 l vs ∧ vs.length = n ∧ KeyRows K H2 vs x n ∧ ∀ p, H2 p = none → Q (.ref p) (upd H2 p (.lst ((ordI x n).map V.int)))
theorem pe_sortKey {T : List (Addr × Str)} {c Pt : Addr} {j : Nat} {t : TE} {er : Expr} {params : Arguments} {scope : Scope} {xf xa : Str} {k0 k1 k2 : Nat} {p0 p1 p2 p3 p4 p5 p6 p7 p8 lpos kp p pos : Pos}
    (hu : X.A.units + 200 < cLine) (hd : X.A.depth < recursionLimit) (hc : X.calm = true) (hg : Gl X "sorted") (hm : X.mg "sorted" = none) (he : PE X er t) (TB : TabB X.base X.mg c Pt) (hcode : X.env.code = .ref c) (hmT : (Pt, X.env.qual ++ "<lambda>") ∈ T) (hT : ∀ p ∈ T, p.1 = Pt → p.2 = X.env.qual ++ "<lambda>")
    (hdef : defaultsOf params X.env = ([], [])) (hfree : ∀ y ∈ scope.names, y.2 = .free → ∃ c, X.env.cells.lookup y.1 = some c) (hco : scope.isCoroutine = false) (hgen : scope.isGenerator = false) (hk : scope.kind = .function) (hnc : ∀ y ∈ scope.names, y.2 ≠ .cell)
    (hf : scope.names.lookup xf = some .free) (ha : scope.names.lookup xa = some .local) (hN : X.N[j]? = some xf) (hv : X.env.kindOf xf = some .cell)
    (hbind : ∀ (q : Str) (cl : List (Str × Addr)) (pm cv ctv v : Value), bindArgs (PySem.W.kla_fn "<lambda>" q params (keyBody xf xa k0 k1 k2 p0 p1 p2 p3 p4 p5 p6 p7 p8) scope cl pm cv ctv) ⟨[v], []⟩ = pure [(xa, v)])
    (hfd : (xf == ("__debug__" : Str)) = false) (hfc : (xf == ("__classdict__" : Str)) = false) (had : (xa == ("__debug__" : Str)) = false)
    (na : starEach [er] X.env = (false, eval er X.env) :: starEach [] X.env := by rfl) :
    PE X (.Call (.Name "sorted" p) [er] [⟨some "key", .Lambda params (keyBody xf xa k0 k1 k2 p0 p1 p2 p3 p4 p5 p6 p7 p8) scope lpos, kp⟩] pos) (tKey X.K T j t) := by
  refine ⟨fun pins s σ H Q I h => ?_⟩
  refine wpAny_Call_Name_kw (ld_blt I hg hm boot_sorted ?_ (by decide) (by decide))
  refine PyProof.Rows.callWith_kw (args_cons (thn (he.run pins s σ H _ I h) fun v s1 ⟨xv, H1, I1, r1, q1⟩ => args_nil ?_) na) (by rw [na]; rfl) (by rw [na]; rfl)
  obtain ⟨hT1, r, l, n, vs, x, rfl, hr, hn, hs, q⟩ := q1
  refine kws_cons (lam_make2 I1 TB hcode hmT hT hT1 hdef hfree fun f c' pm ctv H2 s2 I2 eN T2 hfo hfn hfr hco' => kws_nil ?_)
  obtain ⟨hl, hln, hrow, q⟩ := q H2 eN T2
  have hr2 := eN _ _ hr (fun ps z => by cases z)
  obtain rfl : v = Value.ref r := r1
  obtain ⟨ta, tb, tc, hro⟩ := I2.hok _ _ hr2
  obtain ⟨its, rv, pl, hz⟩ := I2.list hl
  have hlen := rv.length
  obtain ⟨m, hns, hlk⟩ := I2.loc
  obtain ⟨u, ru, lk⟩ := hlk j xf (.ref l) hN hs (.inr (.inl hv))
  obtain rfl : u = Value.ref l := ru
  obtain ⟨ce, hce, hcell⟩ : ∃ ce, X.env.cells.lookup xf = some ce ∧ s2.heap.IsCell ce (some (.ref l)) := by
    rcases lk with ⟨k, _⟩ | ⟨_, ce, h1, h2⟩
    · rw [hv] at k; cases k
    · exact ⟨ce, h1, h2⟩
  have lim : s2.heap.NoLimit := I2.nolimit
  have hcr : s2.heap.CodeRec (.ref c') (X.env.qual ++ "<lambda>") := by
    obtain ⟨⟨oc, ov, tt, a1, a2, a3⟩, _, _⟩ := I2.hok _ _ hco'
    exact ⟨c', oc, ov, tt, rfl, a1, a2, a3⟩
  show wpAny _ _ (call (.builtin "sorted") [.ref r] [(Str.ofString "key", .ref f)]) _ _ s2
  refine sorted_rg x (I2.ok.hd hc) hro hn (by omega) (fun i ti h0 h1 hp tk kpp => ?_) fun h1 h' tk cc out k1 k2 hL ho => ?_
  · have ei : ((i.toNat : Nat) : Int) = i := Int.toNat_of_nonneg h0
    obtain ⟨a, rr, hva, hrow⟩ := hrow i.toNat (by omega)
    rw [ei] at hrow
    obtain ⟨w, hw, rw'⟩ := rv.get hva
    obtain rfl : w = Value.ref a := rw'
    obtain ⟨rows, rvr, plr, _⟩ := I2.tuple hrow
    cases rvr with
    | @cons x0 u0 xs0 us0 h0' t0 =>
      obtain ⟨t', rfl⟩ := h0'
      refine key_call (P := X.prog) (w := X.w) (s := { s2 with heap := hp, toks := tk }) (A := X.A.in1.in1) (l := l) (c := ce) (its := its.toArray) (r := a) (t' := t') (i := i) (x := x i) hd (kpp _ _ hfo) ?_ (lim.keeps kpp) hco hgen hk hnc hf ha (fun v => hbind _ _ _ _ _ v) (cloFrom_look hce hf) ?_ (pl.isList.at fun o e => kpp _ _ e) h0 (by omega) (by simpa using hw) (plr.keeps kpp) rfl hfd hfc had
      · obtain ⟨d1, d2, d3, d4, d5, d6, d7, d8⟩ := hcr
        exact ⟨d1, d2, d3, d4, d5, kpp _ _ d6, d7, d8⟩
      · obtain ⟨o, ho, hd⟩ := hcell
        exact ⟨o, kpp _ _ ho, hd⟩
  · have I3 : Inv X pins σ H2 { s2 with heap := h1 } := I2.kept (t' := s2.toks) k1
    refine ⟨.ref h1.objs.size, upd H2 h1.objs.size (.lst ((ordI x n).map V.int)), I3.laid (t' := tk) k2 (Nat.le_refl _) ?_, rfl, q _ (I3.hok.fresh (Nat.le_refl _))⟩
    refine ⟨?_, out, cc, ho, hL⟩
    rw [List.length_map]
    unfold ordI
    rw [List.length_mergeSort, List.length_map, List.length_range, sizeLine_eq]
    omega
end
end VS

set_option Elab.async false
set_option linter.all false
set_option maxRecDepth 100000
set_option maxHeartbeats 4000000
/-! VN20: x(lambda: body), x a def that calls it within a try (L2N). -/
namespace VS
open PySem PySem.Spec PyProof.Rows L2 LamX
def GivesToN (X : Cx) (Ng : List Str) (x : Str) (sg : Scope) (g : Addr) (cdg : Value) (bg : List Stmt) (a : Str) (q : Str) (k : Nat) (TT : (XK → Hp → VK → Prop) → Hp → VK → Prop) : Prop :=
  ∀ (f c' : Addr) (s : Shared) (H : Hp) (Q : VK) (tl : XK → Hp → VK → Prop), Room (k + 1) (X.A.deeper (envOfC x sg s.heap.objs.size g cdg)) →
    (∀ (W : WX) (pn : List (Addr × Obj)) (xe : Value → Shared → Prop) (E : XK) (p1 p2 : Pos), L2N.Takes ((cxOf C8.CX0 X.prog X.w X.K X.mg X.base Ng x sg g cdg X.A X.stack s H C8.E0).tr pn xe) W → (∀ cls d σ' H', E cls d H' → W cls d σ' H') →
      PE ((cxOf C8.CX0 X.prog X.w X.K X.mg X.base Ng x sg g cdg X.A X.stack s H C8.E0).tr pn xe) (.Call (.Name a p1) [] [] p2) (fun σZ HZ Q => σZ[0]? = some (some (.ref f)) ∧ HZ c' = some (CodeO c' q) ∧ tl E HZ Q)) →
    H c' = some (CodeO c' q) → TT tl H Q →
    ∃ t, PSs (cxOf C8.CX0 X.prog X.w X.K X.mg X.base Ng x sg g cdg X.A X.stack s H C8.E0).nox bg t ∧ t { nx := fun _ H' => Q .non H', rt := Q } (L2.start Ng [.ref f]) H
theorem pe_lamcallN {X : Cx} {T : List (Addr × Str)} {TT : (XK → Hp → VK → Prop) → Hp → VK → Prop} {x a : Str} {g c P : Addr} {k : Nat} {pg : Arguments} {bg : List Stmt} {sg : Scope} {dV kV doc pm cdv ct oc : Value} {an od : Option Addr} {osl : Array (Option Value)} {Ng : List Str}
    {params : Arguments} {body : Expr} {scope : Scope} {t : XK → TE} {p lpos pos : Pos} (hg : Gl X x) (hm : X.mg x = some (.ref g)) (hk : PySem.W.keepIn X.K (.ref g) = true)
    (lk : X.K.lookup g = some ⟨oc, od, .func (PySem.W.fnOf x x pg bg sg dV kV doc pm an cdv ct), osl⟩) (hcg : PySem.W.codeIn X.K cdv x = true) (hb : L2.Binds X.K (PySem.W.fnOf x x pg bg sg dV kV doc pm an cdv ct) [a] []) (Sg : FnScope Ng [a] sg) (hNg : Ng[0]? = some a) (hva : Vis sg a)
    (hG : GivesToN X Ng x sg g cdv bg a (X.env.qual ++ "<lambda>") k TT)
    (TB : TabB X.base X.mg c P) (hcode : X.env.code = .ref c) (hmT : (P, X.env.qual ++ "<lambda>") ∈ T) (hu : ∀ p ∈ T, p.1 = P → p.2 = X.env.qual ++ "<lambda>") (hr : Room (k + 2) X.A) (L : LamS X.env.scope scope) (hdef : defaultsOf params X.env = ([], []))
    (hbind : ∀ (q : Str) (cl : List (Str × Addr)) (pm cv ctv : Value), bindArgs (PySem.W.kla_fn "<lambda>" q params body scope cl pm cv ctv) ⟨[], []⟩ = pure [])
    (hbody : ∀ (A : Around) (outer : List PySem.Env) (s : Shared) (H : Hp) (E : XK) (f c' : Addr), Room k (A.deeper (lamEnv X scope s.heap.objs.size f c')) → PE (lamCxN X A outer s H E scope f c') body (t E))
    (hdb : (x == ("__debug__" : Str)) = false := by decide) (hd : (a == ("__debug__" : Str)) = false := by decide) (hcd : (a == ("__classdict__" : Str)) = false := by decide) :
    PE X (.Call (.Name x p) [.Lambda params body scope lpos] [] pos) (tLam T TT t) := by
  refine ⟨fun pins s σ H Q I h => ?_⟩
  obtain ⟨hT, h⟩ := h
  refine wpAny_Call_Name_kw (ld_glob I hg hm ?_ hdb)
  refine PySem.W.callWith_K (h₀ := X.base) I.ok.mod.kin hk ?_ (by rfl) (by rfl)
  show wpAny _ _ (spliced ((false, eval (.Lambda params body scope lpos) X.env) :: backTo pos (starEach [] X.env))) _ _ s
  refine Calls.spliced_cons (lam_make2 I TB hcode hmT hu hT hdef (L.has I.ok) fun f c' pm' ctv H1 s' I1 eN T1 hf hfn hfr hco => ?_)
  refine Calls.spliced_nil ⟨I1.kIn, ?_⟩
  have rc : codeAny (model X.prog X.w) X.A (.call (.ref g) ⟨[.ref f], []⟩) (CR C8.CX0 X.stack X.prog X.w H1 s' Q C8.E0) s' := by
    refine run_ofS (N := Ng) (ps := [a]) (us := [.ref f]) (vs := [.ref f]) lk hcg Sg hr I1.env0 (hb s' [.ref f] I1.kIn rfl) (.cons rfl .nil) rfl fun hr' => ?_
    obtain ⟨t', ht', hq'⟩ := hG f c' s' H1 Q (fun E H' Q' => t E σ H' Q') hr' (fun W pn xe E p1 p2 tk hW => pe_actN (i := 0) I1 L hf hfn hfr (hbind _ _ _ _ _) tk hW hr' (fun A outer s H hr2 => hbody A outer s H E f c' hr2) hNg hva hd hcd) hco (h H1 eN T1)
    exact ⟨t', ht'.nox, hq'⟩
  refine wpAny_call (codeAny_mono rc fun r s2 hq => ?_)
  cases r with
  | error e => exact (show False from hq).elim
  | ok fl =>
    cases fl with
    | ret u => exact I1.after hq
    | next => exact hq.elim
    | brk => exact hq.elim
    | cont => exact hq.elim
end VS

set_option Elab.async false
set_option linter.all false
set_option maxRecDepth 100000
set_option maxHeartbeats 2000000
/-! VH1: lists walked while an exception is handled. -/
namespace VS
open PySem PySem.Spec PyProof.Rows L2 HotX L2H
section
variable {prog : Program} {w : World} {A : Around} {E : Value → Shared → Prop} {s : Shared}
theorem hot_in1 {x1 : Addr} {h : Heap} (k : HotAt A x1 h) : HotAt A.in1 x1 h := ⟨k.1, k.2⟩
theorem listEndHot {it l x1 : Addr} {i : Nat} {items : Array Value} {Q : Option Value → Shared → Prop} (hot : HotAt A x1 s.heap) (hne : x1 ≠ it)
    (hit : s.heap.IsListIter it l i) (hl : s.heap.IsList l items) (hx : items[i]? = none)
    (hQ : ∀ h', (∀ b o, b ≠ it → s.heap.get? b = some o → h'.get? b = some o) → Q none { s with heap := h' }) : wpAny (model prog w) A (pyNext (.ref it)) Q E s := by
  obtain ⟨oi, ho, hc, hd⟩ := id hit
  obtain ⟨ol, hol, _, nl, hdl⟩ := hl
  obtain ⟨hh, o1, vs1, h1, d1, c1⟩ := hot
  unfold pyNext
  refine wpAny_bind (wpAny_attempt (wpAny_callSpecial?_slot (name := Str.ofString "__next__") hit.typeIs PySem.slot_listiter_next (wpAny_call_entry PySem.slot_listiter_next hit.typeIs PySem.entry_listiter_next ?_ (PySem.args_listiter_next _))))
  show wpAny _ _ (field (.ref it) 0 >>= _) _ _ s
  refine wpAny_bind (wpAny_field ho hd (x := .ref l) rfl ?_)
  show wpAny _ _ (if (Value.ref l == Value.none) = true then _ else _) _ _ s
  rw [if_neg (show ¬ ((Value.ref l == Value.none) = true) from Bool.false_ne_true)]
  show wpAny _ _ (field (.ref it) 1 >>= _) _ _ s
  refine wpAny_bind (wpAny_field ho hd (x := .int i 0) rfl ?_)
  show wpAny _ _ (seqItems? (.ref l) >>= _) _ _ s
  refine wpAny_bind (wpAny_seqItems hol hdl ?_)
  simp only [Int.toNat_natCast, hx]
  refine wpAny_bind (wpAny_rule (wpAny_bind (wpAny_setField ho hd (by simp) ?_)))
  have same := Heap.SameBut.update s.heap it (Obj.mapFields (·.setIfInBounds 0 Value.none))
  show wpAny _ _ (newExc (.type "StopIteration") [] >>= _) _ _ _
  refine wpAny_bind ?_
  simp only [newExc, newTuple]
  refine wpAny_bind (wpAny_newObj_type ?_ (by size_fits))
  refine wpAny_bind (m := firstArgMember _ _) (wpAny_of_eq (a := Value.none) (by first | rfl | (simp only [firstArgMember]; rfl)) ?_)
  refine wpAny_newObj_type ?_ (by size_fits)
  have g1 : ∀ (b : Addr) (o : Obj), b ≠ it → s.heap.get? b = some o → (s.heap.update it (Obj.mapFields (·.setIfInBounds 0 Value.none))).get? b = some o := fun b o hb e => (same.2 b hb).trans e
  have k1 := g1 x1 o1 hne h1
  refine raiseNew_hot ⟨hh, o1, vs1, Heap.get?_push_of_some _ (Heap.get?_push_of_some _ k1), d1, c1⟩ (Nat.ne_of_lt (Heap.lt_size (Heap.get?_push_of_some _ k1))) (Heap.get?_push_size _ rfl) rfl (by first | (simp; done) | (simp; omega) | (simp only [Array.size_append]; simp; omega)) ?_
  refine wpAny_bind (wpAny_isInstance (T := "StopIteration") (b := true) ⟨_, Heap.get?_update_self _ (Heap.get?_push_size _ rfl) rfl, rfl⟩ isSubtype_stop ?_)
  refine wpAny_pure (hQ _ fun b o hb e => ?_)
  have k2 := Heap.get?_push_of_some { cls := .type "tuple", data := .seq #[] } (g1 b o hb e)
  rw [Heap.get?_update_other _ _ (Nat.ne_of_gt (Heap.lt_size (Heap.get?_push_of_some _ (g1 b o hb e))))]
  exact Heap.get?_push_of_some _ (Heap.get?_push_of_some _ (g1 b o hb e))
end
end VS

set_option Elab.async false
set_option linter.all false
set_option maxRecDepth 100000
set_option maxHeartbeats 2000000
/-! VH2: sum while an exception is handled. -/
namespace VS
open PySem PySem.Spec PyProof.Rows L2 HotX L2H
theorem hotKeep {A : Around} {x1 : Addr} {h h' : Heap} (k : HotAt A x1 h) (e : ∀ o, h.get? x1 = some o → h'.get? x1 = some o) : HotAt A x1 h' := by
  obtain ⟨hh, o, vs, h1, d, c⟩ := k
  exact ⟨hh, o, vs, e o h1, d, c⟩
theorem walksHot {prog : Program} {w : World} {A : Around} (I ax x1 : Addr) (hne : ax ≠ I) (hx : x1 ≠ I) (items : Array Value) :
    Walks prog w A I [I, ax, x1] [I] items.size (fun i v => items[i]? = some v) (fun i h => (h.IsListIter I ax i ∧ h.IsList ax items) ∧ HotAt A x1 h) where
  sub := fun b hb => by simp at hb; simp [hb]
  frame := fun _ _ _ st hk => ⟨⟨st.1.1.at fun o e => hk I (by simp) o e, st.1.2.at fun o e => hk ax (by simp) o e⟩, hotKeep st.2 fun o e => hk x1 (by simp) o e⟩
  item := fun i s Q E hi st hQ => by
    refine wpAny_pyNext_list_item st.1.1 st.1.2 (x := items[i]) (by simp [hi]) fun h' hit' hs' => ?_
    exact hQ _ h' s.toks (by simp [hi]) ⟨⟨hit', st.1.2.extBut hs'.extBut hne⟩, hotKeep st.2 fun o e => hs'.extBut x1 o hx e⟩ fun b o hb e => hs'.extBut b o (fun h => hb (by simp [h])) e
  done := fun s Q E st hQ => listEndHot st.2 hx st.1.1 st.1.2 (by simp) fun h' he' => hQ h' s.toks fun b o hb e => he' b o (fun h => hb (by simp [h])) e
  self := fun _ _ _ _ st hQ => wpAny_pyIter_listiter st.1.1 hQ
section
variable {X : Cx}
theorem cr_sumH (hc : HotC X) : CallR X (.builtin "sum") (rSum X.K) := by
  intro pins s σ H vs us Q I r h
  obtain ⟨a, ns, rfl, hs, q⟩ := h
  obtain ⟨its, rv, hl, _⟩ := I.list hs
  rw [Vals.ref1 r]
  obtain ⟨x1, hot⟩ := hc.at I
  have hi := rv.ints
  obtain ⟨xs, e⟩ := hi.allInts.items
  have hn : numsOf (intItems xs).toList = ns := by rw [← e]; exact hi.numsOf
  rw [nums_intItems] at hn
  have hl' := hl.isList
  rw [e] at hl'
  have hxl : x1 < s.heap.objs.size := by
    obtain ⟨_, o, vs, h1, _⟩ := hot
    exact Heap.lt_size h1
  refine PySem.call_sum_walkG (PySem.iter_intList hl' fun s₂ e2 st hfp hlI => ?_)
  subst e2
  have hot2 : HotAt X.A.in1 x1 (s.heap.push { cls := .type "list_iterator", data := .fields #[.ref a, .int 0 0] }) := hotKeep (hot_in1 hot) fun o e => Heap.get?_push_of_some _ e
  refine ⟨_, _, _, _, _, _, numAt xs, rfl, walksHot (A := X.A.in1) _ a x1 hlI (Nat.ne_of_lt hxl) (intItems xs), ⟨st, hot2⟩, fun b hb => ?_, (fun _ _ => intItems_at), fun h' tk t' hk => ?_⟩
  · rcases List.mem_cons.mp hb with rfl | hb
    · exact hfp _ (by simp)
    · rcases List.mem_cons.mp hb with rfl | hb
      · exact hfp _ (by simp)
      · rw [List.mem_singleton] at hb
        subst hb
        rw [Heap.size_push]; exact Nat.lt_succ_of_lt hxl
  · have hz : preSum (numAt xs) (intItems xs).size = ns.sum := by
      have : (intItems xs).size = xs.size := by simp [intItems]
      rw [this, preSum_eq, List.take_of_length_le (by simp), hn]
    rw [hz]
    exact ⟨.int _, H, I.kept (old_kept hk), ⟨_, rfl⟩, q⟩
end
end VS

set_option Elab.async false
set_option linter.all false
set_option maxRecDepth 100000
set_option maxHeartbeats 2000000
/-! VH3: a list comprehension over a list while an exception is handled. -/
namespace VS
open PySem PySem.Spec PyProof.Rows L2 HotX L2H
section
variable {X : Cx}
/-- a pin more -/
theorem Inv.more {pins : List (Addr × Obj)} {σ : L2.St} {H : Hp} {s : Shared} (I : L2.Inv X pins σ H s) {p : Addr × Obj} (k : s.heap.get? p.1 = some p.2 ∧ H p.1 = none ∧ p.1 ≠ X.env.locals ∧ p.1 ∉ X.fs ∧ ∀ v, p.2.data ≠ .cell v) : L2.Inv X (p :: pins) σ H s :=
  ⟨I.ok, I.os, I.bare, I.base, I.loc, I.cell, I.free, I.freeC, fun q hq => by
    rcases List.mem_append.mp hq with h | h
    · exact I.pin q (List.mem_append_left _ h)
    · rcases List.mem_cons.mp h with rfl | h
      · exact k
      · exact I.pin q (List.mem_append_right _ h), I.hok, I.len⟩
theorem Inv.less {pins : List (Addr × Obj)} {σ : L2.St} {H : Hp} {s : Shared} {p : Addr × Obj} (I : L2.Inv X (p :: pins) σ H s) : L2.Inv X pins σ H s :=
  ⟨I.ok, I.os, I.bare, I.base, I.loc, I.cell, I.free, I.freeC, fun q hq => by
    rcases List.mem_append.mp hq with h | h
    · exact I.pin q (List.mem_append_left _ h)
    · exact I.pin q (List.mem_append_right _ (List.mem_cons_of_mem _ h)), I.hok, I.len⟩
section
variable {elt tg iter : Expr} {ifs : List Expr} {scope : Scope} {own : List (Str × Nat)} {pos : Pos} {tl : TE} {g : TG} {tt : TT} {te : TE}
theorem hot_comp (hc : HotC X) (hN : X.N.Nodup) (hi : PE X iter tl) (ok : BlkOk X.N X.env.scope scope own)
    (hg : ∀ (s : Shared) (H : Hp) (C : Addr) (cl : List (Str × Addr)) (fp : List Addr), PG (X.blk s H scope (compEnvC scope cl C X.env) fp) tg g) (ht : ∀ (s : Shared) (H : Hp) (C : Addr) (cl : List (Str × Addr)) (fp : List Addr), PTs (X.blk s H scope (compEnvC scope cl C X.env) fp) ifs tt)
    (he : ∀ (s : Shared) (H : Hp) (C : Addr) (cl : List (Str × Addr)) (fp : List Addr), PE (X.blk s H scope (compEnvC scope cl C X.env) fp) elt te) (hs : ∀ x, foldedSetIterable iter X.env x = pure x) :
    PE X (.ListComp elt [⟨tg, iter, ifs, 0⟩] scope pos) (tLc (iList X.K tl) g tt te (own.map (·.2))) := by
  refine ⟨fun pins s σ H Q I h => ?_⟩
  obtain ⟨p, hot1, hp⟩ := hc
  rw [eval_ListComp]
  have cellsOk : ∀ y ∈ scope.names, y.2 = .free → ∃ c, X.env.cells.lookup y.1 = some c := fun y hy e => (ok.free y hy e).elim (fun k => I.ok.has _ (.inl k)) (fun k => I.ok.has _ (.inr k))
  refine wpAny_comprehension_free (use := none) rfl hs (closure_ok cellsOk) ok.kind (fun y hy e => by rw [ok.uniq y hy, e]) (thn (hi.run pins s σ H _ I h) fun lv z1 ⟨x, Ha, Ia, ra, qa⟩ => ?_)
  obtain ⟨a, rfl, ⟨xs, hsq⟩, q⟩ := qa
  cases ra
  obtain ⟨its, rv, pl, hz⟩ := Ia.list hsq
  refine wpAny_pyIter_list pl.isList ?_
  generalize hz2 : ({ z1 with heap := z1.heap.push { cls := .type "list_iterator", data := .fields #[.ref a, .int 0 0] } } : Shared) = z2
  generalize hit : z1.heap.objs.size = it
  have e2 : z2.heap = z1.heap.push { cls := .type "list_iterator", data := .fields #[.ref a, .int 0 0] } := by rw [← hz2]
  have Ib : L2.Inv X pins σ Ha z2 := by rw [← hz2]; exact Ia.kept (t' := z1.toks) fun b o e => Heap.get?_push_of_some _ e
  have tit : z2.heap.IsListIter it a 0 := by rw [e2, ← hit]; exact ⟨_, Heap.get?_push_size _ rfl, rfl, rfl⟩
  have fit : FpOk X pins Ha it := by rw [← hit]; exact Ia.fpOk (Nat.le_refl _) (Ia.hok.fresh (Nat.le_refl _))
  refine wpAny_newObj_type (newEnv_comp ?_) (by show 0 ≤ sizeLine; decide)
  generalize hD : z2.heap.objs.size = Dl
  have nD : Ha Dl = none := Ib.hok.fresh (Nat.le_of_eq hD)
  obtain ⟨W, ⟨m0, w0⟩, turn⟩ := q Dl nD
  generalize hz3 : ({ z2 with heap := z2.heap.push { cls := .type "list", data := .seq ([] : List Value).toArray } } : Shared) = z3
  have e3 : z3.heap = z2.heap.push { cls := .type "list", data := .seq ([] : List Value).toArray } := by rw [← hz3]
  have Ic : L2.Inv X pins σ (upd Ha Dl (.lst [])) z3 := by
    rw [← hz3]
    refine Ib.laid (t' := z2.toks) (fun b o e => Heap.get?_push_of_some _ e) (Nat.le_of_eq hD) ⟨Nat.zero_le _, [], 0, .nil, ?_⟩
    rw [← hD]; exact Heap.get?_push_size _ rfl
  have itlt : it < z2.heap.objs.size := by obtain ⟨o, e, _⟩ := tit; exact Heap.lt_size e
  have itD : it ≠ Dl := by rw [← hD]; exact Nat.ne_of_lt itlt
  have f3 : ∀ b ∈ [it], FpOk X pins (upd Ha Dl (.lst [])) b ∧ b < z3.heap.objs.size := fun b hb => by
    rw [List.mem_singleton] at hb
    subst hb
    exact ⟨⟨by rw [upd_ne itD]; exact fit.1, fit.2⟩, by rw [e3, Heap.size_push]; exact Nat.lt_succ_of_lt itlt⟩
  have t3 : z3.heap.IsListIter it a 0 := tit.at fun o e => by rw [e3]; exact Heap.get?_push_of_some _ e
  have P1 := Ic.pin p (List.mem_append_left _ hp)
  have plt : p.1 < z3.heap.objs.size := Heap.lt_size P1.1
  have Id0 := block_start Ic ok hN f3
  have pg := hg z3 (upd Ha Dl (.lst [])) z3.heap.objs.size (cellsFrom (z3.heap.objs.size + 1) scope.names (cloFrom X.env.cells scope.names [])) [it]
  have pt := ht z3 (upd Ha Dl (.lst [])) z3.heap.objs.size (cellsFrom (z3.heap.objs.size + 1) scope.names (cloFrom X.env.cells scope.names [])) [it]
  have pe := he z3 (upd Ha Dl (.lst [])) z3.heap.objs.size (cellsFrom (z3.heap.objs.size + 1) scope.names (cloFrom X.env.cells scope.names [])) [it]
  show codeAny _ _ (.compStart (.ListComp elt [⟨tg, iter, ifs, 0⟩] scope pos) 0 (.ref it) (.ref Dl) (compEnvC scope (cellsFrom (z3.heap.objs.size + 1) scope.names (cloFrom X.env.cells scope.names [])) z3.heap.objs.size X.env)) (compPost (model X.prog X.w) X.A X.xe none _ (.ref Dl) z3.heap.objs.size) { z3 with heap := pushCells (z3.heap.push { cls := .type "dict", data := .dict #[] }) scope.names }
  have kp : ∀ b o, z3.heap.get? b = some o → (pushCells (z3.heap.push { cls := .type "dict", data := .dict #[] }) scope.names).get? b = some o := fun b o e => pushCells_keeps _ _ _ _ (Heap.get?_push_of_some _ e)
  have Id := Inv.more Id0 (p := p) ⟨kp _ _ P1.1, P1.2.1, Nat.ne_of_lt plt, (fun hm => (List.mem_cons.mp (Ic.stkSub p.1 hm)).elim P1.2.2.1 P1.2.2.2.1), P1.2.2.2.2⟩
  generalize hce : compEnvC scope (cellsFrom (z3.heap.objs.size + 1) scope.names (cloFrom X.env.cells scope.names [])) z3.heap.objs.size X.env = ce at Id pg pt pe ⊢
  have cL : ce.locals = z3.heap.objs.size := by subst hce; rfl
  generalize hH3 : upd Ha Dl (.lst []) = H3 at Ic Id pg pt pe w0 f3
  generalize hz4 : ({ z3 with heap := pushCells (z3.heap.push { cls := .type "dict", data := .dict #[] }) scope.names } : Shared) = z4 at Id ⊢
  have t4 : z4.heap.IsListIter it a 0 := t3.at fun o e => by rw [← hz4]; exact kp _ _ e
  have pit : p.1 ≠ it := by
    have := Heap.lt_size (Ia.pin p (List.mem_append_left _ hp)).1
    rw [← hit]; exact Nat.ne_of_lt this
  have stat : ∀ {σ' : L2.St} {H' : Hp} {s' : Shared}, L2.Inv (X.blk z3 H3 scope ce [it]) [p] σ' H' s' → H' it = none → FpOk (X.blk z3 H3 scope ce [it]) [p] H' it := fun {σ' H' s'} J hn =>
    ⟨hn, (J.ok.exf it (List.mem_singleton.mpr rfl)).1, J.ok.exfs it (List.mem_singleton.mpr rfl), .inl (List.mem_singleton.mpr rfl), fun y c e => (J.ok.exf it (List.mem_singleton.mpr rfl)).2 y c e, fun q hq => by
      have : q = p := by simpa using hq
      rw [this]; exact pit⟩
  have hot5 : ∀ {σ' : L2.St} {H' : Hp} {s' : Shared}, L2.Inv (X.blk z3 H3 scope ce [it]) [p] σ' H' s' → HotAt X.A p.1 s'.heap := fun {σ' H' s'} J => by
    obtain ⟨hh, vs, d, c⟩ := hot1
    exact ⟨hh, p.2, vs, (J.pin p (List.mem_append_right _ List.mem_cons_self)).1, d, c⟩
  have loop : codeAny (model X.prog X.w) X.A (.compLoop (.ListComp elt [⟨tg, iter, ifs, 0⟩] scope pos) 0 (.ref it) (.ref Dl) ce) (compPost (model X.prog X.w) X.A X.xe none (EP X pins σ Q) (.ref Dl) z3.heap.objs.size) z4 := by
    refine compLoop_any (fun n s' => ∃ i H', L2.Inv (X.blk z3 H3 scope ce [it]) [p] (wipe σ (own.map (·.2))) H' s' ∧ s'.heap.IsListIter it a i ∧ H' it = none ∧ W i n H') ?_ m0 ⟨0, H3, Id, t4, (f3 it (List.mem_singleton.mpr rfl)).1.1, w0⟩
    rintro n s5 ⟨i, H5, I5, t5, n5, w5⟩
    obtain ⟨k0, k1, k2, k3, k4, k5⟩ := stat I5 n5
    rcases turn i n H5 w5 with ⟨stop, qq⟩ | ⟨go, Nx, hNx, step⟩
    · obtain ⟨ys, hq5, hlen⟩ := stop
      obtain ⟨us, rv5, pl5, _⟩ := I5.list hq5
      have hl5 := rv5.length
      have te : wpAny (model X.prog X.w) X.A (pyNext (.ref it)) (fun r s6 => r = none ∧ L2.Inv (X.blk z3 H3 scope ce [it]) [p] (wipe σ (own.map (·.2))) H5 s6) (fun _ _ => False) s5 :=
        listEndHot (hot5 I5) pit t5 pl5.isList (by simp; omega) fun h' eb => ⟨rfl, I5.turned (t' := s5.toks) (fun b o hb e => eb b o hb e) k0 k1 k3 k4 k5⟩
      refine thnF te fun r s6 ⟨hr, I6⟩ => ?_
      subst hr
      have I7 : L2.Inv X pins σ H5 s6 := Ic.call' (ch := [it]) I6.os I6.base I6.hok I6.bare fun b hb => ⟨(f3 b hb).1.2.2.2.1, (f3 b hb).1.2.1, (f3 b hb).1.2.2.2.2.1, (f3 b hb).1.2.2.2.2.2⟩
      have nC : H5 z3.heap.objs.size = none := by
        have z : H5 ce.locals = none := I6.free
        rw [cL] at z; exact z
      obtain ⟨m, hn, _⟩ := I6.loc
      have hn : s6.heap.Ns ce.locals m := hn
      rw [cL] at hn
      obtain ⟨j0, j1, j2, j3, j4, j5⟩ := Ic.fpOk (Nat.le_refl _) nC
      exact ⟨m, hn, fun h'' sb => ⟨.ref Dl, H5, I7.turned (t' := s6.toks) (fun b o hb e => (sb.2 b hb).trans e) j0 j1 j3 j4 j5, rfl, qq⟩⟩
    · obtain ⟨ys, y, hq5, hy⟩ := go
      obtain ⟨us, rv5, pl5, _⟩ := I5.list hq5
      obtain ⟨u, hu, ru⟩ := rv5.get hy
      have ti : wpAny (model X.prog X.w) X.A (pyNext (.ref it)) (fun r s6 => r = some u ∧ L2.Inv (X.blk z3 H3 scope ce [it]) [p] (wipe σ (own.map (·.2))) H5 s6 ∧ s6.heap.IsListIter it a (i + 1)) (fun _ _ => False) s5 :=
        wpAny_pyNext_list_item t5 pl5.isList (x := u) (by simpa using hu) fun h' st' sb => ⟨rfl, I5.turned (t' := s5.toks) (fun b o hb e => (sb.2 b hb).trans e) k0 k1 k3 k4 k5, st'⟩
      refine thnF ti fun r s6 ⟨hr, I6, t6⟩ => ?_
      subst hr
      obtain ⟨oi, ei, ci, di⟩ := id t6
      refine go_of ei ci di (by decide) ?_
      have I6' := I6.pinned (fp := [it]) (fun b hb => by rw [List.mem_singleton] at hb; subst hb; exact stat I6 n5) (fun b hb => by rw [List.mem_singleton] at hb; subst hb; exact ⟨oi, ei, fun v z => by rw [di] at z; cases z⟩)
      refine thnF (pg.run _ s6 _ H5 y u _ I6' ru (step y H5 ⟨rfl, fun zs hz => by rw [I5.list_inj hz hq5]; exact hy⟩)) fun _ s8 ⟨σ8, H8, I8, hw8, q8⟩ => ?_
      refine thnF (pt.run _ s8 σ8 H8 _ I8 q8) fun b s9 ⟨H9, I9, q9⟩ => ?_
      have fin : ∀ {s' : Shared} {H' : Hp}, L2.Inv (X.blk z3 H3 scope ce [it]) ([p] ++ pinsAt [it] s6.heap) σ8 H' s' → Nx H' → ∃ m, m < n ∧ ∃ i H', L2.Inv (X.blk z3 H3 scope ce [it]) [p] (wipe σ (own.map (·.2))) H' s' ∧ s'.heap.IsListIter it a i ∧ H' it = none ∧ W i m H' := fun {s' H'} J nx => by
        obtain ⟨m', hm, w'⟩ := hNx H' nx
        have hl : (wipe σ (own.map (·.2))).length = σ8.length := by rw [← hw8, wipe_length]
        have pin' := J.pin (it, oi) (List.mem_append_right _ (List.mem_append_right _ (mem_pinsAt (List.mem_singleton.mpr rfl) ei)))
        refine ⟨m', hm, i + 1, H', (J.unpinned (pins := [p])).weak hl (fun j v e => ?_), ⟨oi, pin'.1, ci, di⟩, pin'.2.1, w'⟩
        rw [← hw8] at e
        exact (wipe_some e).1
      cases b with
      | false => simp only [Bool.false_eq_true, if_false] at q9 ⊢; exact fin I9 q9
      | true =>
        simp only [if_true] at q9 ⊢
        refine thnF (pe.run _ s9 σ8 H9 _ I9 q9) fun z s10 ⟨yv, H10, I10, r10, acc, hD10, hz10, nx⟩ => ?_
        exact app_ok (X := X.blk z3 H3 scope ce [it]) I10 hD10 hz10 r10 fun s11 I11 => fin I11 nx
  exact codeAny_compStart_list loop (wpAny_pyIter_listiter t4 loop)
end
end
end VS

set_option Elab.async false
set_option linter.all false
set_option maxRecDepth 100000
set_option maxHeartbeats 4000000
/-! VH4: isinstance of the handled exception, wherever it is pinned. -/
namespace VS
open PySem PySem.Spec PyProof.Rows L2 HotX L2H
theorem call_isEp {X : Cx} {a D : Addr} {oe : Obj} (C : ExcC X.K D) (hz : Zc (.ref D) none oe) (hf : ∃ vs, oe.data = .fields vs) (hp : (a, oe) ∈ X.pn) : CallR X (.builtin "isinstance") (rIsE X.K D a) := by
  intro pins s σ H xs us Q I r h
  obtain ⟨c, cv, b, rfl, hcv, e, q⟩ := h
  cases r with
  | cons rx rr =>
    cases rr with
    | cons rt rr =>
      cases rr
      cases rx
      have ec := hcv _ rt
      subst ec
      obtain ⟨hget, _⟩ := I.pin (a, oe) (List.mem_append.mpr (.inl hp))
      obtain ⟨vs, hv⟩ := hf
      have J : PySem.W.InstAt s.heap a oe D none := by
        obtain ⟨oc, od, oda, osl⟩ := oe
        obtain ⟨h1, h2⟩ := hz
        dsimp only at h1 h2 hv
        subst h1 h2 hv
        exact ⟨hget, rfl, rfl, trivial⟩
      exact PySem.W.kia_one (PySem.W.handS_kitx_exc C.hg C.hk C.hs C.hd C.ha C.hn C.ht C.hm) I.kIn J e (fun z => nomatch z) fun tk => ⟨.bl b, H, I.kept (t' := tk) fun _ _ z => z, rfl, q⟩
end VS

set_option Elab.async false
set_option linter.all false
set_option maxRecDepth 100000
set_option maxHeartbeats 4000000
/-! VH5: a def called while a known exception is handled: its promise may tell of that exception's object. -/
namespace VS
open PySem PySem.Spec PyProof.Rows L2 HotX L2H
/-- what a def promises while the exception of object p is handled -/
structure FnHp (P : Program) (w : World) (K : PySem.W.Frag) (mg : Str → Option Value) (base : Heap) (CX : CXT) (k : Nat) (f : Addr) (fd : FuncData) (ps : List Str) (sp : Addr × Obj → Sp) : Prop where
  len : ∀ p vs H Q E, sp p vs H Q E → vs.length = ps.length
  run : ∀ (A : Around) (outer : List PySem.Env) (s : Shared) (H : Hp) (args : Args) (us : List Value) (vs : List V) (Q : VK) (E : XK) (p : Addr × Obj), RoomH k A → Hot1 A p → PinOk outer H s p → Env0 P w K mg base A outer s H → BindsTo s fd args (ps.zip us) → Vals vs us → sp p vs H Q E →
    codeAny (model P w) A (.call (.ref f) args) (CR CX outer P w H s Q E) s
theorem FnHp.of {P : Program} {w : World} {K : PySem.W.Frag} {mg : Str → Option Value} {base : Heap} {CX : CXT} {k : Nat} {f : Addr} {name qual : Str} {params : Arguments} {body : List Stmt} {scope : Scope} {dV kV doc pm cdv ct oc : Value} {an od : Option Addr}
    {osl : Array (Option Value)} {N ps : List Str} {sp : Addr × Obj → Sp} (lk : K.lookup f = some ⟨oc, od, .func (PySem.W.fnOf name qual params body scope dV kV doc pm an cdv ct), osl⟩) (hcd : PySem.W.codeIn K cdv qual = true) (S : FnScope N ps scope)
    (len : ∀ p vs H Q E, sp p vs H Q E → vs.length = ps.length)
    (hbody : ∀ (A : Around) (outer : List PySem.Env) (s : Shared) (H : Hp) (vs : List V) (Q : VK) (E : XK) (p : Addr × Obj), Hot1 A p → RoomH k (A.deeper (envOfC qual scope s.heap.objs.size f cdv)) → sp p vs H Q E →
      ∃ t, PSs (cxH CX P w K mg base N qual scope f cdv A outer s H E p) body t ∧ t { nx := fun _ H' => Q .non H', rt := Q } (L2.start N vs) H) :
    FnHp P w K mg base CX (k + 1) f (PySem.W.fnOf name qual params body scope dV kV doc pm an cdv ct) ps sp := by
  refine ⟨len, fun A outer s H args us vs Q E p hr hot hpin e0 hb r hsp => ?_⟩
  have hl := len _ _ _ _ _ hsp
  have lim : s.heap.NoLimit := e0.mod.nolimit.keeps fun b o e => (e0.bs b o e).1
  have KX : K.In s.heap := e0.mod.kin.keeps fun b o e => (e0.bs b o e).1
  have hkind : ∀ y ∈ ps.zip us, scope.names.lookup y.1 = some .local ∨ (scope.names.lookup y.1 = some .cell ∧ ((cellsFrom (s.heap.objs.size + 1) scope.names []).lookup y.1).isSome = true) := fun y hy => by
    have hm : y.1 ∈ ps := (List.of_mem_zip (a := y.1) (b := y.2) hy).1
    exact (S.par y.1 hm).imp id fun q => ⟨q, PySem.W.cellsFrom_some _ _ _ (.inl q)⟩
  refine codeAny_call_function hr.depth (KX _ _ lk) rfl S.co S.gen rfl (PySem.W.codeRec_of KX hcd) (hb _ _ _ _ ?_)
  refine wpAny_newFunctionEnv_cells S.kind hkind fun env he s1 x => ?_
  subst he
  refine ⟨lim.keeps x.toInCall.keep, codeAny_func ?_⟩
  obtain ⟨t, ht, hq⟩ := hbody A outer s H vs Q E p hot (hr.deeper _) hsp
  have I := inv_startH (CX := CX) (E := E) (qual := qual) (f := f) (cd := cdv) S hpin e0 hl r x
  refine wpAny_mono (ht.run [] s1 (L2.start N vs) H _ I hq) (fun fl s' hs => ?_) fun e s' hs => hs
  cases fl with
  | ret u => obtain ⟨v, σ', H', J, rv, q⟩ := hs; exact ⟨v, H', J.os, J.bare, J.base, J.hok, rv, q⟩
  | next => obtain ⟨σ', H', J, q⟩ := hs; exact ⟨V.non, H', J.os, J.bare, J.base, J.hok, rfl, q⟩
  | brk => obtain ⟨_, _, _, q⟩ := hs; exact q.elim
  | cont => obtain ⟨_, _, _, q⟩ := hs; exact q.elim
section
variable {X : Cx} {CX : CXT} {k : Nat} {f : Addr} {fd : FuncData} {ps : List Str} {sp : Addr × Obj → Sp} {E : L2.St → XK} {x : Str} {q pos : Pos} {e : Expr} {es : List Expr} {t : TA} {p : Addr × Obj}
theorem pe_callHp (F : FnHp X.prog X.w X.K X.mg X.base CX k f fd ps sp) (hr : RoomH k X.A) (hot : Hot1 X.A p) (hp : p ∈ X.pn) (hg : Gl X x) (hm : X.mg x = some (.ref f)) (hk : PySem.W.keepIn X.K (.ref f) = true) (hb : Binds X.K fd ps []) (hx : ∀ σ, PassesAt CX X σ (E σ))
    (ha : PA X (e :: es) t) (hdb : (x == ("__debug__" : Str)) = false := by decide) (he : starEach (e :: es) X.env = (false, eval e X.env) :: starEach es X.env := by rfl) (hpl : (backTo pos (starEach es X.env)).any (·.1) = false := by rfl) :
    PE X (.Call (.Name x q) (e :: es) [] pos) (tCallS (sp p) E t) := by
  refine ⟨fun pins s σ H Q I h => ?_⟩
  refine wpAny_Call_Name_kw (ld_glob I hg hm ?_ hdb)
  refine PySem.W.callWith_K (h₀ := X.base) I.ok.mod.kin hk (thn (ha.run pos pins s σ H _ I h) fun us s1 ⟨vs, H1, I1, r, h1⟩ => ⟨I1.kIn, ?_⟩) he hpl
  have hl : us.length = ps.length := by rw [← r.length]; exact F.len _ _ _ _ _ h1
  have b := hb s1 us I1.kIn (by rw [List.append_nil]; exact hl)
  rw [List.append_nil] at b
  have P1 := I1.pin p (List.mem_append_left _ hp)
  have hpin : PinOk X.stack H1 s1 p := ⟨P1.1, P1.2.1, fun hm => (List.mem_cons.mp (I1.stkSub p.1 hm)).elim P1.2.2.1 P1.2.2.2.1, P1.2.2.2.2⟩
  refine wpAny_call (codeAny_mono (F.run X.A X.stack s1 H1 ⟨us, []⟩ us vs Q (E σ) p hr hot hpin I1.env0 b r h1) fun r s' hq => ?_)
  cases r with
  | error e => exact hx σ pins H1 s1 e s' I1 hq
  | ok fl =>
    cases fl with
    | ret u => exact I1.after hq
    | next => exact hq.elim
    | brk => exact hq.elim
    | cont => exact hq.elim
end
end VS

set_option Elab.async false
set_option linter.all false
set_option maxRecDepth 100000
set_option maxHeartbeats 4000000
/-! VN21: told: try: return a() / except e as n: return word(n). -/
namespace VS
open PySem PySem.Spec PyProof.Rows L2 LamX L2H
theorem takes0N {X : Cx} : L2N.Takes X (fun _ _ _ _ => False) := fun _ _ x => by
  obtain ⟨_, _, _, _, _, _, _, _, _, _, _, _, _, _, _, _, z⟩ := x
  exact z.elim
def TToldW (K : PySem.W.Frag) (CS : Addr) (spw : Addr × Obj → Sp) : (XK → Hp → VK → Prop) → Hp → VK → Prop := fun tl H Q =>
  tl (fun cls d H' => ∃ b, PySem.W.exmOne K cls (.ref CS) = some b ∧ (b = true → ∀ a oe, L2N.Zn cls d oe → H' a = none → spw (a, oe) [.ref a] H' Q C8.E0) ∧ (b = false → False)) H Q
theorem told_givesW {X : Cx} {Ng : List Str} {x a e n wd q : Str} {sg : Scope} {g CS fw : Addr} {fdw : FuncData} {psw : List Str} {spw : Addr × Obj → Sp} {cdg : Value} {k i : Nat} {p1 p2 p3 p4 p5 p6 p7 p8 p9 p10 : Pos} (Fw : FnHp X.prog X.w X.K X.mg X.base CX0 k fw fdw psw spw) (hbw : Binds X.K fdw psw []) (hkw : PySem.W.keepIn X.K (.ref fw) = true)
    (hmw : X.mg wd = some (.ref fw)) (hgw : sg.names.lookup wd = some .globalImplicit) (hdw : (wd == ("__debug__" : Str)) = false) (hge : sg.names.lookup e = some .globalImplicit) (hme : X.mg e = some (.ref CS)) (hde : (e == ("__debug__" : Str)) = false) (hN : Ng.Nodup) (hi : Ng[i]? = some n) (hn : sg.names.lookup n = some .local)
    (hdn : (n == ("__debug__" : Str)) = false) (hcn : (n == ("__classdict__" : Str)) = false) (hin : i < Ng.length) (h0 : ∀ f : Addr, (L2.start Ng [V.ref f])[0]? = some (some (V.ref f))) :
    GivesToN X Ng x sg g cdg [.Try [.Return (some (.Call (.Name a p1) [] [] p2)) p3] [.ExceptHandler (some (.Name e p4)) (some n) [.Return (some (.Call (.Name wd p5) [.Name n p6] [] p7)) p8] p9] [] [] p10] a q k (TToldW X.K CS spw) := by
  intro f c' s H Q tl hr act hc h
  have hgl : Gl (cxOf C8.CX0 X.prog X.w X.K X.mg X.base Ng x sg g cdg X.A X.stack s H C8.E0).nox e := hge
  refine ⟨_, pss_one (L2N.ps_try_as (X := (cxOf C8.CX0 X.prog X.w X.K X.mg X.base Ng x sg g cdg X.A X.stack s H C8.E0).nox) (c := .ref CS) (i := i) (Wout := fun _ _ _ _ => False)
      (tb := fun W D σ H => ∃ Ech : XK, (∀ cls d σ' H', Ech cls d H' → W cls d σ' H') ∧ σ[0]? = some (some (.ref f)) ∧ H c' = some (CodeO c' q) ∧ tl Ech H D.rt)
      (ts := fun a cls d D σ H => (∃ τ : L2.St, σ = τ.set i (some (.ref a))) ∧ ∀ oe, L2N.Zn cls d oe → spw (a, oe) [.ref a] H D.rt C8.E0)
      rfl rfl hN hi hn ⟨hgl, hde, .inl hme⟩ takes0N (fun W pn xe tk _ => ?_) (fun a oe cls d pn hz hf => ?_)), ?_⟩
  · refine ⟨fun pins s' σ H' D I h' => ?_⟩
    obtain ⟨Ech, hW, h1, h2, h3⟩ := h'
    exact (pss_one (ps_ret (pos := p3) (act W pn xe Ech p1 p2 tk hW))).run pins s' σ H' D I ⟨h1, h2, h3⟩
  · obtain ⟨vs, hd⟩ := hf
    have hot : Hot1 ((cxOf C8.CX0 X.prog X.w X.K X.mg X.base Ng x sg g cdg X.A X.stack s H C8.E0).nox.suite a ((a, oe) :: pn)).A (a, oe) := ⟨rfl, vs, hd, hz.2.2 vs hd⟩
    have hrm : RoomH k ((cxOf C8.CX0 X.prog X.w X.K X.mg X.base Ng x sg g cdg X.A X.stack s H C8.E0).nox.suite a ((a, oe) :: pn)).A := (roomH_of hr).mono (Nat.le_succ k) |> fun r => ⟨r.dp, r.un⟩
    have hv : PE ((cxOf C8.CX0 X.prog X.w X.K X.mg X.base Ng x sg g cdg X.A X.stack s H C8.E0).nox.suite a ((a, oe) :: pn)) (.Name n p6) (tVar i) := pe_var hi (.inl hn) hdn hcn
    have pc := pe_callHp (X := (cxOf C8.CX0 X.prog X.w X.K X.mg X.base Ng x sg g cdg X.A X.stack s H C8.E0).nox.suite a ((a, oe) :: pn)) (x := wd) (q := p5) (pos := p7) (E := fun _ => C8.E0) Fw hrm hot List.mem_cons_self hgw hmw hkw hbw (fun _ _ _ _ _ _ _ z => z.elim) (pa_cons hv pa_nil) hdw
    refine ⟨fun pins s' σ H' D I h' => (pss_one (ps_ret (pos := p8) pc)).run pins s' σ H' D I ?_⟩
    obtain ⟨⟨τ, rfl⟩, h2⟩ := h'
    have hl : (τ.set i (some (.ref a))).length = Ng.length := I.len
    exact ⟨_, by rw [List.getElem?_set_self (by rw [List.length_set] at hl; omega)], h2 oe hz⟩
  · exact ⟨fun cls d H' => ∃ b, PySem.W.exmOne X.K cls (.ref CS) = some b ∧ (b = true → ∀ a oe, L2N.Zn cls d oe → H' a = none → spw (a, oe) [.ref a] H' Q C8.E0) ∧ (b = false → False), fun cls d σ' H' ⟨b, e1, e2, e3⟩ => ⟨b, e1, fun hb a na => ⟨⟨_, rfl⟩, fun oe hz => e2 hb a oe hz na⟩, fun hb => e3 hb⟩, h0 f, hc, h⟩
end VS

set_option Elab.async false
set_option linter.all false
set_option maxRecDepth 100000
set_option maxHeartbeats 4000000
/-! VN22: isinstance(e, C) where the exception of e is handled: rule and reading. -/
namespace VS
open PySem PySem.Spec PyProof.Rows L2 LamX L2H Evl
def tIsE (K : PySem.W.Frag) (D a : Addr) (i : Nat) (c : V) : TE := tCB (rIsE K D a) (tCons (tVar i) (tCons (tC c) tNil))
section
variable {X : Cx} {p : Addr × Obj} {D C : Addr} {i : Nat} {x y : Str} {p1 p2 p3 pos : Pos}
theorem pe_isE (E : ExcC X.K D) (hz : Zc (.ref D) none p.2) (hf : ∃ vs, p.2.data = .fields vs) (hp : p ∈ X.pn) (hN : X.N[i]? = some x) (hv : Vis X.env.scope x) (hg : Gl X "isinstance") (hm : X.mg "isinstance" = none) (hgc : Gl X y) (hmc : X.mg y = some (.ref C))
    (hd : (x == ("__debug__" : Str)) = false := by rfl) (hcd : (x == ("__classdict__" : Str)) = false := by rfl) (hdy : (y == ("__debug__" : Str)) = false := by rfl) : PE X (.Call (.Name "isinstance" p1) [.Name x p2, .Name y p3] [] pos) (tIsE X.K D p.1 i (.ref C)) :=
  pe_callB (call_isEp E hz hf hp) hg hm rfl (pa_cons (pe_var hN hv hd hcd) (pa_cons (pe_glob hgc hmc rfl hdy) pa_nil))
theorem ev_isE {K : PySem.W.Frag} {a : Addr} {σ : L2.St} {H : Hp} {b : Bool} (h : σ[i]? = some (some (.ref a))) (hk : PySem.W.kitOne K (.ref D) (.ref C) = some b) : Ev (tIsE K D a i (.ref C)) σ H (.bl b) := fun H1 e Q q =>
  ⟨_, h, .ref C, .ref C, b, rfl, fun u r => r, hk, q H1 (Ex.refl H1)⟩
end
end VS

set_option Elab.async false
set_option linter.all false
set_option maxRecDepth 100000
set_option maxHeartbeats 4000000
/-! VW1: what a `_law_word` promises. -/
namespace VS
open PySem PySem.Spec PyProof.Rows L2 LamX L2H Evl
/-- facts of an own exception's class -/
structure WF (K : PySem.W.Frag) (cl : Str → Addr) (cs : List Str) (c : Str) : Prop where
  ce : ExcC K (cl c)
  kit : ∀ x ∈ cs, PySem.W.kitOne K (.ref (cl c)) (.ref (cl x)) = some (decide (x = c))
  ve : PySem.W.kitOne K (.ref (cl c)) (.type "ValueError") = some true
def CS8 : List Str := ["BadFold", "BadName", "BadRows", "BadText", "BadTick", "BadTrees", "NoHand", "Nothing"]
def CS9 : List Str := ["BadFold", "BadName", "BadRows", "BadText", "BadTick", "BadTrees", "NoHand", "Nothing", "BadBounds"]
def spW (K : PySem.W.Frag) (cl : Str → Addr) (cs : List Str) : Addr × Obj → Sp := fun p vs H Q _ => vs = [.ref p.1] ∧ ∃ c ∈ cs, WF K cl cs c ∧ L2N.Zn (.ref (cl c)) none p.2 ∧ ∀ H', Ex H H' → Q (.str c) H'
theorem FnHp.ofD {P : Program} {w : World} {K : PySem.W.Frag} {mg : Str → Option Value} {base : Heap} {CX : CXT} {x : Str} {st : Stmt} {f : Addr} {fd : FuncData} {N ps : List Str} {k : Nat} {sp : Addr × Obj → Sp} (F : FnP K x st f fd) (S : FnScope N ps (defScope st))
    (len : ∀ p vs H Q E, sp p vs H Q E → vs.length = ps.length)
    (hbody : ∀ (cdv : Value) (A : Around) (outer : List PySem.Env) (s : Shared) (H : Hp) (vs : List V) (Q : VK) (E : XK) (p : Addr × Obj), Hot1 A p → RoomH k (A.deeper (envOfC x (defScope st) s.heap.objs.size f cdv)) → sp p vs H Q E →
      ∃ t, PSs (cxH CX P w K mg base N x (defScope st) f cdv A outer s H E p) (defBody st) t ∧ t { nx := fun _ H' => Q .non H', rt := Q } (L2.start N vs) H) : FnHp P w K mg base CX (k + 1) f fd ps sp := by
  obtain ⟨oc, od, dV, kV, doc, pm, an, cdv, ct, osl, rfl, lk, hcd, _, _⟩ := F.ex
  exact FnHp.of lk hcd S len fun A outer s H vs Q E p hot hr hsp => hbody cdv A outer s H vs Q E p hot hr hsp
section
variable {X : Cx} {p : Addr × Obj} {D C : Addr} {i : Nat} {x y : Str} {p1 p2 p3 pos : Pos}
theorem pe_isVE (E : ExcC X.K D) (hz : Zc (.ref D) none p.2) (hf : ∃ vs, p.2.data = .fields vs) (hp : p ∈ X.pn) (hN : X.N[i]? = some x) (hv : Vis X.env.scope x) (hm : X.mg "isinstance" = none) (hmc : X.mg "ValueError" = none) (hg : Gl X "isinstance" := by rfl) (hgc : Gl X "ValueError" := by rfl)
    (hd : (x == ("__debug__" : Str)) = false := by rfl) (hcd : (x == ("__classdict__" : Str)) = false := by rfl) : PE X (.Call (.Name "isinstance" p1) [.Name x p2, .Name "ValueError" p3] [] pos) (tIsE X.K D p.1 i (.ty "ValueError")) :=
  pe_callB (call_isEp E hz hf hp) hg hm rfl (pa_cons (pe_var hN hv hd hcd) (pa_cons (pe_bltn hgc hmc (by decide +kernel) rfl (by decide) (by rfl)) pa_nil))
theorem isE_read {K : PySem.W.Frag} {D a : Addr} {i : Nat} {c : V} {cv : Value} {b : Bool} {σ : L2.St} {H : Hp} {Q : VK} (h : σ[i]? = some (some (.ref a))) (hc : ∀ u, RelV c u → u = cv) (hk : PySem.W.kitOne K (.ref D) cv = some b) (q : Q (.bl b) H) : tIsE K D a i c σ H Q :=
  ⟨_, h, c, cv, b, rfl, hc, hk, q⟩
end
theorem word_ix8 {c : Str} (hc : c ∈ CS8) : ∃ j, j < 8 ∧ (CS8.map fun x => decide (x = c))[j]? = some true ∧ (∀ m, m < j → (CS8.map fun x => decide (x = c))[m]? = some false) ∧ CS8[j]? = some c ∧ ((CS8.map fun x => decide (x = c)).map fun b => (if b then 1 else 0 : Int)).sum = 1 := by
  unfold CS8 at hc
  rcases List.mem_cons.mp hc with rfl | hc; · exact ⟨0, by decide, by decide, by decide, by decide, by decide⟩
  rcases List.mem_cons.mp hc with rfl | hc; · exact ⟨1, by decide, by decide, by decide, by decide, by decide⟩
  rcases List.mem_cons.mp hc with rfl | hc; · exact ⟨2, by decide, by decide, by decide, by decide, by decide⟩
  rcases List.mem_cons.mp hc with rfl | hc; · exact ⟨3, by decide, by decide, by decide, by decide, by decide⟩
  rcases List.mem_cons.mp hc with rfl | hc; · exact ⟨4, by decide, by decide, by decide, by decide, by decide⟩
  rcases List.mem_cons.mp hc with rfl | hc; · exact ⟨5, by decide, by decide, by decide, by decide, by decide⟩
  rcases List.mem_cons.mp hc with rfl | hc; · exact ⟨6, by decide, by decide, by decide, by decide, by decide⟩
  rcases List.mem_cons.mp hc with rfl | hc; · exact ⟨7, by decide, by decide, by decide, by decide, by decide⟩
  cases hc
theorem word_ix9 {c : Str} (hc : c ∈ CS9) : ∃ j, j < 9 ∧ (CS9.map fun x => decide (x = c))[j]? = some true ∧ (∀ m, m < j → (CS9.map fun x => decide (x = c))[m]? = some false) ∧ CS9[j]? = some c ∧ ((CS9.map fun x => decide (x = c)).map fun b => (if b then 1 else 0 : Int)).sum = 1 := by
  unfold CS9 at hc
  rcases List.mem_cons.mp hc with rfl | hc; · exact ⟨0, by decide, by decide, by decide, by decide, by decide⟩
  rcases List.mem_cons.mp hc with rfl | hc; · exact ⟨1, by decide, by decide, by decide, by decide, by decide⟩
  rcases List.mem_cons.mp hc with rfl | hc; · exact ⟨2, by decide, by decide, by decide, by decide, by decide⟩
  rcases List.mem_cons.mp hc with rfl | hc; · exact ⟨3, by decide, by decide, by decide, by decide, by decide⟩
  rcases List.mem_cons.mp hc with rfl | hc; · exact ⟨4, by decide, by decide, by decide, by decide, by decide⟩
  rcases List.mem_cons.mp hc with rfl | hc; · exact ⟨5, by decide, by decide, by decide, by decide, by decide⟩
  rcases List.mem_cons.mp hc with rfl | hc; · exact ⟨6, by decide, by decide, by decide, by decide, by decide⟩
  rcases List.mem_cons.mp hc with rfl | hc; · exact ⟨7, by decide, by decide, by decide, by decide, by decide⟩
  rcases List.mem_cons.mp hc with rfl | hc; · exact ⟨8, by decide, by decide, by decide, by decide, by decide⟩
  cases hc
theorem bl_flat : ∀ bs : List Bool, (bs.map V.bl).all flatV = true
  | [] => rfl
  | b :: bs => by rw [List.map_cons, List.all_cons, bl_flat bs]; rfl
theorem atI_at {α : Type} {xs : List α} {j : Nat} {v : α} (h : xs[j]? = some v) : atI xs (j : Int) = some v := by
  have hl : j < xs.length := (List.getElem?_eq_some_iff.mp h).1
  have e : ixN xs.length (j : Int) = some j := by unfold ixN; rw [if_pos (by omega), if_pos (by omega), Int.toNat_natCast]
  unfold atI
  rw [e]; exact h
end VS

set_option Elab.async false
set_option linter.all false
set_option maxRecDepth 100000
set_option maxHeartbeats 4000000
/-! VW2: told; defs with lambdas; the head's facts. -/
namespace VS
open PySem PySem.Spec PyProof.Rows L2 LamX L2H Evl
/-- a def whose code object's table is told of in T: q is the name of its lambdas -/
structure LamT (T : List (Addr × Str)) (base : Heap) (mg : Str → Option Value) (fd : FuncData) (q : Str) : Prop where
  ex : ∃ c P, fd.code = .ref c ∧ TabB base mg c P ∧ (P, q) ∈ T ∧ ∀ p ∈ T, p.1 = P → p.2 = q
section
variable {P : Program} {w : World} {K : PySem.W.Frag} {mg : Str → Option Value} {base : Heap}
/-- def_okD with the code's address known -/
theorem def_okC {x : Str} {st : Stmt} {f : Addr} {fd : FuncData} {N ps : List Str} {k : Nat} {T : List (Addr × Str)} {cl : Str → Addr} {fb : Env → Out} (F : FnP K x st f fd) (S : FnScope N ps (defScope st)) (hps : ps.length ≤ N.length)
    (hb : ∀ (cdv : Value) (A : Around) (outer : List PySem.Env) (s : Shared) (H : Hp) (E : XK), fd.code = cdv → Room k (A.deeper (envOfC x (defScope st) s.heap.objs.size f cdv)) →
      DenB (cxOf (L2N.CX P w) P w K mg base N x (defScope st) f cdv A outer s H E) ⟨T, cl, E⟩ (defBody st) fb) :
    FnOk P w K mg base (L2N.CX P w) (k + 1) f fd ps (spD K T cl ps.length (runDef N.length fb)) := by
  obtain ⟨oc, od, dV, kV, doc, pm, an, cdv, ct, osl, rfl, lk, hcd, _, _⟩ := F.ex
  refine fn_of lk hcd S (fun vs H Q E h => ?_) fun A outer s H vs Q E hr h => ?_
  · obtain ⟨Z, ds, _, _, _, r, hl, _⟩ := h
    rw [r.length, hl]
  · obtain ⟨Z, ds, hs, hn, ht, r, hl, h⟩ := h
    obtain ⟨t, p, q⟩ := (hb cdv A outer s H E rfl hr).ex
    refine ⟨t, p, q Z H Z H _ (startE N.length ds) _ (sim_start hs hn ht r (by rw [r.length, hl]; exact hps)) ?_⟩
    unfold runDef at h
    cases e : fb (startE N.length ds) with
    | nx ρ => rw [e] at h; exact fun Z' H' σ' S' => h _ Z' H' S'.g S'.tabs .non
    | rt d => rw [e] at h; exact fun v Z' H' g t r => h v Z' H' g t r
    | ex c => rw [e] at h; exact fun Z' H' g t => h Z' H' g t
    | bk ρ => rw [e] at h; exact h.elim
    | ct ρ => rw [e] at h; exact h.elim
    | no => rw [e] at h; exact h.elim
end
def gTold (cs : List Str) (g : Env → R D) : Env → R D := fun ρ => match g ρ with
  | .ok d => .ok d | .ex c => if c ∈ cs then .ok (.str c) else .no | .no => .no
theorem grow_ex {T : List (Addr × Str)} {Z H H' : Hp} (s : Sub Z H) (n : ∀ a o, Z a = some o → NoTb o) (e : Ex H H') : Grow T Z H Z H' :=
  ⟨Sub.refl _, ExtN.of e, fun a o h => e a o (s a o h), n, fun _ h _ => h, fun t => t.ext e⟩
/-- what is known of the def _law_told -/
structure ToldF (P : Program) (w : World) (K : PySem.W.Frag) (mg : Str → Option Value) (base : Heap) (cl : Str → Addr) (cs : List Str) (x a : Str) (g : Addr) (k : Nat) : Prop where
  ex : ∃ (Ng : List Str) (pg : Arguments) (bg : List Stmt) (sg : Scope) (dV kV doc pm cdv ct oc : Value) (an od : Option Addr) (osl : Array (Option Value)),
    mg x = some (.ref g) ∧ PySem.W.keepIn K (.ref g) = true ∧ K.lookup g = some ⟨oc, od, .func (PySem.W.fnOf x x pg bg sg dV kV doc pm an cdv ct), osl⟩ ∧ PySem.W.codeIn K cdv x = true ∧ L2.Binds K (PySem.W.fnOf x x pg bg sg dV kV doc pm an cdv ct) [a] [] ∧ FnScope Ng [a] sg ∧ Ng[0]? = some a ∧ Vis sg a ∧
    (∀ (X : Cx) (q : Str), X.prog = P → X.w = w → X.K = K → X.mg = mg → X.base = base → GivesToN X Ng x sg g cdv bg a q k (TToldW K (cl "CallError") (spW K cl cs))) ∧
    (x == ("__debug__" : Str)) = false ∧ (a == ("__debug__" : Str)) = false ∧ (a == ("__classdict__" : Str)) = false
  wf : ∀ c ∈ cs, WF K cl cs c ∧ PySem.W.exmOne K (.ref (cl c)) (.ref (cl "CallError")) = some true
theorem den_told {X : Cx} {G : Wh} {cs : List Str} {x a : Str} {g : Addr} {k : Nat} {fd : FuncData} {params : Arguments} {body : Expr} {scope : Scope} {gb : Env → R D} {p lpos pos : Pos} (F : ToldF X.prog X.w X.K X.mg X.base G.cl cs x a g k) (hg : Gl X x) (L : LamT G.T X.base X.mg fd (X.env.qual ++ "<lambda>")) (hcode : X.env.code = fd.code)
    (hr : Room (k + 2) X.A) (hL : LamS X.env.scope scope) (hdef : defaultsOf params X.env = ([], [])) (hbind : ∀ (q : Str) (cl : List (Str × Addr)) (pm cv ctv : Value), bindArgs (PySem.W.kla_fn "<lambda>" q params body scope cl pm cv ctv) ⟨[], []⟩ = pure [])
    (hbody : ∀ (A : Around) (outer : List PySem.Env) (s : Shared) (H : Hp) (E : XK) (f c' : Addr), Room k (A.deeper (lamEnv X scope s.heap.objs.size f c')) → Den (lamCxN X A outer s H E scope f c') ⟨G.T, G.cl, E⟩ .c body gb) :
    Den X G .c (.Call (.Name x p) [.Lambda params body scope lpos] [] pos) (gTold cs gb) := by
  obtain ⟨Ng, pg, bg, sg, dV, kV, doc, pm, cdv, ct, oc, an, od, osl, hm, hk, lk, hcg, hb, Sg, hNg, hva, hG, d1, d2, d3⟩ := F.ex
  obtain ⟨c, Pt, ec, TB, hmT, hu⟩ := L.ex
  refine ⟨_, pe_lamcallN (t := fun E => tDen X.K ⟨G.T, G.cl, E⟩ .c gb) hg hm hk lk hcg hb Sg hNg hva (hG X _ rfl rfl rfl rfl rfl) TB (hcode.trans ec) hmT hu hr hL hdef hbind (fun A outer s H E f c' hr2 => (hbody A outer s H E f c' hr2).can) d1 d2 d3, fun Z0 H0 Z H σ ρ Q S h => ⟨S.tabs, fun H1 eN T1 => ?_⟩⟩
  have g1 : Grow G.T Z H Z H1 := ⟨Sub.refl _, eN, fun a o ha => eN a o (S.sub a o ha) (S.nt a o ha), S.nt, fun _ h _ => h, fun _ => T1⟩
  refine ⟨Z0, H0, Z, ρ, S.grow g1, ?_⟩
  unfold gTold at h
  cases eg : gb ρ with
  | no => rw [eg] at h; exact h.elim
  | ok d =>
    rw [eg] at h
    exact fun v Z' H' g2 f => h v Z' H' (g1.trans g2) f
  | ex c =>
    rw [eg] at h
    dsimp only at h
    split at h
    · rename_i hc
      intro Z' H' g2
      obtain ⟨wf, ex⟩ := F.wf c hc
      refine ⟨true, ex, fun _ a oe hz na => ⟨rfl, c, hc, wf, hz, fun H2 e2 => ?_⟩, fun z => nomatch z⟩
      exact h (.str c) Z' H2 ((g1.trans g2).trans (grow_ex g2.s g2.n e2)) (.str c)
    · exact h.elim
abbrev toldBody (p1 p2 p3 p4 p5 p6 p7 p8 p9 p10 : Pos) : List Stmt := [.Try [.Return (some (.Call (.Name "_law_deed" p1) [] [] p2)) p3] [.ExceptHandler (some (.Name "CallError" p4)) (some "_law_e") [.Return (some (.Call (.Name "_law_word" p5) [.Name "_law_e" p6] [] p7)) p8] p9] [] [] p10]
theorem toldF {k : Nat} {P : Program} {w : World} {K : PySem.W.Frag} {mg : Str → Option Value} {base : Heap} {cl : Str → Addr} {cs : List Str} {st : Stmt} {g fw : Addr} {fd fdw : FuncData} {p1 p2 p3 p4 p5 p6 p7 p8 p9 p10 : Pos} (F : FnP K "_law_told" st g fd) (hb : defBody st = toldBody p1 p2 p3 p4 p5 p6 p7 p8 p9 p10)
    (S : FnScope ["_law_deed", "_law_e"] ["_law_deed"] (defScope st)) (l1 : (defScope st).names.lookup ("_law_word" : Str) = some .globalImplicit) (l2 : (defScope st).names.lookup ("CallError" : Str) = some .globalImplicit) (l3 : (defScope st).names.lookup ("_law_e" : Str) = some .local) (l4 : Vis (defScope st) "_law_deed")
    (hm : mg "_law_told" = some (.ref g)) (hbd : L2.Binds K fd ["_law_deed"] []) (Fw : FnHp P w K mg base CX0 k fw fdw ["_law_e"] (spW K cl cs)) (hbw : Binds K fdw ["_law_e"] []) (hkw : PySem.W.keepIn K (.ref fw) = true) (hmw : mg "_law_word" = some (.ref fw)) (hce : mg "CallError" = some (.ref (cl "CallError")))
    (wf : ∀ c ∈ cs, WF K cl cs c ∧ PySem.W.exmOne K (.ref (cl c)) (.ref (cl "CallError")) = some true) : ToldF P w K mg base cl cs "_law_told" "_law_deed" g k := by
  obtain ⟨oc, od, dV, kV, doc, pm, an, cdv, ct, osl, rfl, lk, hcd, _, _⟩ := F.ex
  refine ⟨⟨_, _, _, _, dV, kV, doc, pm, cdv, ct, oc, an, od, osl, hm, F.kp, lk, hcd, hbd, S, rfl, l4, fun X q e1 e2 e3 e4 e5 => ?_, rfl, rfl, rfl⟩, wf⟩
  subst e1 e2 e3 e4 e5
  rw [hb]
  exact told_givesW (i := 1) Fw hbw hkw hmw l1 rfl l2 hce rfl (by decide) rfl l3 rfl rfl (by decide) fun f => rfl
/-! the head's facts -/
def wfB (K : PySem.W.Frag) (cs : List Str) (c : Str) : Bool :=
  (decide (PySem.W.findIn K (.ref (He.ga K c)) "__getattribute__" = some (some (.builtin "BaseException.__getattribute__"))) && (decide (PySem.W.findIn K (.ref (He.ga K c)) "__getattr__" = some none) && (decide (PySem.W.subIn K (.ref (He.ga K c)) (.type "BaseException") = some true) && (PySem.W.hasDictIn K (He.ga K c) &&
    (decide (PySem.W.findIn K (.ref (He.ga K c)) "__class__" = some (some (.builtin "object.__class__"))) && (decide (PySem.W.specialIn K (.builtin "object.__class__") "__get__" = some (some (.builtin "getset_descriptor.__get__"))) && (decide (PySem.W.takesIn K (.builtin "object.__class__") = some true) && (decide (PySem.W.mroIn K (He.ga K c) (.type "object") = some true) &&
    ((cs.all fun x => decide (PySem.W.kitOne K (.ref (He.ga K c)) (.ref (He.ga K x)) = some (decide (x = c)))) && (decide (PySem.W.kitOne K (.ref (He.ga K c)) (.type "ValueError") = some true) && decide (PySem.W.exmOne K (.ref (He.ga K c)) (.ref (He.ga K "CallError")) = some true)))))))))))
theorem wfB_ok {K : PySem.W.Frag} {cs : List Str} {c : Str} (h : wfB K cs c = true) : WF K (He.ga K) cs c ∧ PySem.W.exmOne K (.ref (He.ga K c)) (.ref (He.ga K "CallError")) = some true := by
  unfold wfB at h
  simp only [Bool.and_eq_true, decide_eq_true_eq, List.all_eq_true] at h
  obtain ⟨h1, h2, h3, h4, h5, h6, h7, h8, h9, h10, h11⟩ := h
  exact ⟨⟨⟨h1, h2, h3, h4, h5, h6, h7, h8⟩, h9, h10⟩, h11⟩
/-- the tables of the defs tf stand apart -/
def apartB (K : PySem.W.Frag) (tf : List He.Defn) : Bool := decide ((tf.map fun p => (He.cT K p).2).Nodup)
/-- the tables with the names of the lambdas of their defs -/
def tabT (K : PySem.W.Frag) (tf : List He.Defn) : List (Addr × Str) := tf.map fun p => ((He.cT K p).2, (p.1 ++ (".<locals>.<lambda>" : Str)))
def exB (cs : List Str) (tf : List He.Defn) (K : PySem.W.Frag) : Bool := (cs.all fun c => wfB K cs c) && apartB K tf
theorem lamT_of {K : PySem.W.Frag} {tf : List He.Defn} {base : Heap} {mg : Str → Option Value} {fd : FuncData} {f : Addr} {oc : Value} {od : Option Addr} {osl : Array (Option Value)} {p : He.Defn} {q : Str} (ha : apartB K tf = true) (hp : p ∈ tf) (hq : q = p.1 ++ (".<locals>.<lambda>" : Str)) (hf : He.fAd K p = f) (lk : K.lookup f = some ⟨oc, od, .func fd, osl⟩) (hc : PySem.W.codeIn K fd.code q = true ∨ ∃ c, fd.code = .ref c) (TB : ∀ p ∈ tf.map (He.cT K), TabB base mg p.1 p.2) : LamT (tabT K tf) base mg fd q := by
  obtain ⟨c, ec⟩ : ∃ c, fd.code = .ref c := hc.elim (fun h => He.codeIn_ref h) id
  subst hf hq
  have e1 : He.codeOf K p = c := He.codeOf_eq lk ec
  have hcT : (He.cT K p).1 = c := e1
  refine ⟨c, (He.cT K p).2, ec, hcT ▸ TB _ (List.mem_map.mpr ⟨p, hp, rfl⟩), List.mem_map.mpr ⟨p, hp, rfl⟩, fun r hr e => ?_⟩
  obtain ⟨p', hp', rfl⟩ := List.mem_map.mp hr
  have nd : (tf.map fun p => (He.cT K p).2).Nodup := of_decide_eq_true ha
  have : p' = p := by
    have inj : ∀ {l : List He.Defn}, (l.map fun p => (He.cT K p).2).Nodup → ∀ a ∈ l, ∀ b ∈ l, (He.cT K a).2 = (He.cT K b).2 → a = b := by
      intro l
      induction l with
      | nil => intro _ a h; cases h
      | cons x l ih =>
        intro nd a ha b hb e
        rw [List.map_cons, List.nodup_cons] at nd
        rcases List.mem_cons.mp ha with rfl | ha2
        · rcases List.mem_cons.mp hb with rfl | hb2
          · rfl
          · exact (nd.1 (List.mem_map.mpr ⟨b, hb2, e.symm⟩)).elim
        · rcases List.mem_cons.mp hb with rfl | hb2
          · exact (nd.1 (List.mem_map.mpr ⟨a, ha2, e⟩)).elim
          · exact ih nd.2 a ha2 b hb2 e
    exact inj nd p' hp' p hp e
  rw [this]
/-- the law's end with tables -/
theorem law_spT {K : PySem.W.Frag} {tf : List He.Defn} {cl : Str → Addr} {F : List D → R D} {H : Hp} {a : Addr} {ns : List Int} (hT : ∀ p ∈ tf.map (He.cT K), H p.2 = some (.tbl #[])) (hS : SqL K H a (ns.map V.int)) (h : F [.scr ns] = .ok (.bl true)) : spD K (tabT K tf) cl 1 F [.ref a] H (fun v _ => v = .bl true) E0 := by
  refine ⟨fun b => match H b with | some (.tbl _) => none | o => o, [.scr ns], fun b o e => ?_, fun b o e => ?_, fun p hp => ?_, .cons (.scr ?_) .nil, rfl, ?_⟩
  · dsimp only at e
    split at e
    · cases e
    · exact e
  · dsimp only at e
    split at e
    · cases e
    · rename_i hn
      intro ps q
      subst q
      exact hn ps e
  · obtain ⟨q, hq, rfl⟩ := List.mem_map.mp hp
    exact TabS.nil (hT _ (List.mem_map.mpr ⟨q, hq, rfl⟩))
  · rcases hS with (hS | ⟨o, hS⟩) | hS
    · exact .inl (.inl (by dsimp only; rw [hS]))
    · exact .inl (.inr ⟨o, by dsimp only; rw [hS]⟩)
    · exact .inr hS
  · rw [h]
    intro v Z' H' _ _ r
    cases r; rfl
end VS

set_option Elab.async false
set_option linter.all false
set_option maxRecDepth 100000
set_option maxHeartbeats 4000000
/-! VW3: told with the small conditions filled in; _law_word's walk; the head. -/
namespace VS
open PySem PySem.Spec PyProof.Rows L2 LamX L2H Evl
theorem FnHp.mono {P : Program} {w : World} {K : PySem.W.Frag} {mg : Str → Option Value} {base : Heap} {CX : CXT} {j k : Nat} {f : Addr} {fd : FuncData} {ps : List Str} {sp : Addr × Obj → Sp} (F : FnHp P w K mg base CX j f fd ps sp) (h : j ≤ k) : FnHp P w K mg base CX k f fd ps sp :=
  ⟨F.len, fun A outer s H args us vs Q E p hr => F.run A outer s H args us vs Q E p (hr.mono h)⟩
section
variable {X : Cx} {A : Around} {outer : List PySem.Env} {s : Shared} {H : Hp} {E : XK} {scope : Scope} {f c' : Addr}
theorem lam_takes : L2N.Takes (lamCxN X A outer s H E scope f c') (fun cls d _ H => E cls d H) := L2N.takes_of rfl rfl rfl rfl
theorem lam_pass {P : Program} {w : World} (h1 : X.prog = P := by rfl) (h2 : X.w = w := by rfl) : Passes (L2N.CX P w) (lamCxN X A outer s H E scope f c') E := by
  subst h1 h2
  exact L2N.passes_call lam_takes fun _ _ _ _ h => h
end
theorem tld {X : Cx} {G : Wh} {P : Program} {w : World} {K : PySem.W.Frag} {mg : Str → Option Value} {base : Heap} {T : List (Addr × Str)} {cl : Str → Addr} {cs : List Str} {x a q : Str} {g : Addr} {k : Nat} {fd : FuncData} {cdv : Value} {params : Arguments} {body : Expr} {scope : Scope} {gb : Env → R D} {p lpos pos : Pos}
    (F : ToldF P w K mg base cl cs x a g k) (L : LamT T base mg fd q) (hcd : fd.code = cdv)
    (hbody : ∀ (A : Around) (outer : List PySem.Env) (s : Shared) (H : Hp) (E : XK) (f c' : Addr), Room k (A.deeper (lamEnv X scope s.heap.objs.size f c')) → Den (lamCxN X A outer s H E scope f c') ⟨T, cl, E⟩ .c body gb)
    (h1 : X.prog = P := by rfl) (h2 : X.w = w := by rfl) (h3 : X.K = K := by rfl) (h4 : X.mg = mg := by rfl) (h5 : X.base = base := by rfl) (h6 : G.T = T := by rfl) (h7 : G.cl = cl := by rfl) (hcode : X.env.code = cdv := by rfl) (hq : X.env.qual ++ ("<lambda>" : Str) = q := by kernel_rfl)
    (hr : Room (k + 2) X.A := by assumption) (hL : lamSB X.env.scope scope = true := by kernel_rfl) (hdef : defaultsOf params X.env = ([], []) := by rfl)
    (hbind : ∀ (q : Str) (cl : List (Str × Addr)) (pm cv ctv : Value), bindArgs (PySem.W.kla_fn "<lambda>" q params body scope cl pm cv ctv) ⟨[], []⟩ = pure [] := by intro q cl pm cv ctv; rfl) (hg : Gl X x := by rfl) :
    Den X G .c (.Call (.Name x p) [.Lambda params body scope lpos] [] pos) (gTold cs gb) := by
  subst h1 h2 h3 h4 h5 h6 h7 hq
  exact den_told F hg L (hcode.trans hcd.symm) hr (lamS_by hL) hdef hbind hbody
/-- the names of the head's exceptions -/
theorem mg8 {mg : Str → Option Value} {cl : Str → Addr} (h1 : mg "BadFold" = some (.ref (cl "BadFold"))) (h2 : mg "BadName" = some (.ref (cl "BadName"))) (h3 : mg "BadRows" = some (.ref (cl "BadRows"))) (h4 : mg "BadText" = some (.ref (cl "BadText"))) (h5 : mg "BadTick" = some (.ref (cl "BadTick"))) (h6 : mg "BadTrees" = some (.ref (cl "BadTrees"))) (h7 : mg "NoHand" = some (.ref (cl "NoHand"))) (h8 : mg "Nothing" = some (.ref (cl "Nothing"))) :
    ∀ x ∈ CS8, mg x = some (.ref (cl x)) := by
  unfold CS8
  simp only [List.forall_mem_cons]
  exact ⟨h1, h2, h3, h4, h5, h6, h7, h8, fun _ h => by cases h⟩
theorem mg9 {mg : Str → Option Value} {cl : Str → Addr} (h1 : mg "BadFold" = some (.ref (cl "BadFold"))) (h2 : mg "BadName" = some (.ref (cl "BadName"))) (h3 : mg "BadRows" = some (.ref (cl "BadRows"))) (h4 : mg "BadText" = some (.ref (cl "BadText"))) (h5 : mg "BadTick" = some (.ref (cl "BadTick"))) (h6 : mg "BadTrees" = some (.ref (cl "BadTrees"))) (h7 : mg "NoHand" = some (.ref (cl "NoHand"))) (h8 : mg "Nothing" = some (.ref (cl "Nothing"))) (h9 : mg "BadBounds" = some (.ref (cl "BadBounds"))) :
    ∀ x ∈ CS9, mg x = some (.ref (cl x)) := by
  unfold CS9
  simp only [List.forall_mem_cons]
  exact ⟨h1, h2, h3, h4, h5, h6, h7, h8, h9, fun _ h => by cases h⟩
theorem lamT_fn {K : PySem.W.Frag} {tf : List He.Defn} {base : Heap} {mg : Str → Option Value} {x q : Str} {st : Stmt} {fd : FuncData} {f : Addr} (F : FnP K x st f fd) (ha : apartB K tf = true) (hp : (x, none) ∈ tf) (hf : f = He.fAd K (x, none)) (TB : ∀ p ∈ tf.map (He.cT K), TabB base mg p.1 p.2) (hq : q = x ++ (".<locals>.<lambda>" : Str)) : LamT (tabT K tf) base mg fd q := by
  obtain ⟨oc, od, dV, kV, doc, pm, an, cdv, ct, osl, rfl, lk, hcd, _, _⟩ := F.ex
  exact lamT_of ha hp hq hf.symm lk (.inr (He.codeIn_ref hcd)) TB
theorem exB_ok {K : PySem.W.Frag} {cs : List Str} {tf : List He.Defn} (h : exB cs tf K = true) : (∀ c ∈ cs, WF K (He.ga K) cs c ∧ PySem.W.exmOne K (.ref (He.ga K c)) (.ref (He.ga K "CallError")) = some true) ∧ apartB K tf = true := by
  unfold exB at h
  rw [Bool.and_eq_true, List.all_eq_true] at h
  exact ⟨fun c hc => wfB_ok (h.1 c hc), h.2⟩
end VS

set_option Elab.async false
set_option linter.all false
set_option maxRecDepth 100000
set_option maxHeartbeats 4000000
/-! VK4: sorted(range(len(f)), key=lambda a: (0 - f[a][0], a)) tells. -/
namespace VS
open PySem PySem.Spec PyProof.Rows L2 LamX
def headI : D → Option Int | .tup (.int x :: _) => some x | _ => none
def headsI : List D → Option (List Int)
  | [] => some []
  | d :: ds => match headI d, headsI ds with | some x, some xs => some (x :: xs) | _, _ => none
def keyO (dn : D) (dl : D) : R D := match dn, dl with
  | .int n, .lst ds => (match headsI ds with
    | some xs => if n = ds.length ∧ ds.length ≤ 16777216 then .ok (.lst ((ordI (fun i => xs.getD i.toNat 0) ds.length).map .int)) else .no
    | none => .no)
  | _, _ => .no
theorem heads_at : ∀ {ds : List D} {xs : List Int}, headsI ds = some xs → ∀ i : Nat, i < ds.length → ∃ r, ds[i]? = some (.tup (.int (xs.getD i 0) :: r))
  | [], _, _, i, hi => by simp at hi
  | d :: ds, _, h, i, hi => by
    unfold headsI at h
    split at h
    · rename_i x xs e1 e2
      cases h
      have e3 : ∃ r, d = .tup (.int x :: r) := by
        unfold headI at e1
        split at e1
        · cases e1; exact ⟨_, rfl⟩
        · cases e1
      obtain ⟨r, rfl⟩ := e3
      cases i with
      | zero => exact ⟨r, rfl⟩
      | succ i => simpa using heads_at e2 i (by simpa using hi)
    · cases h
theorem reps_ints {K : PySem.W.Frag} {Z : Hp} : ∀ is : List Int, Reps K Z (is.map V.int) (is.map D.int)
  | [] => .nil
  | i :: is => .cons (.int i) (reps_ints is)
section
variable {X : Cx} {G : Wh}
theorem den_sortKey {j : Nat} {ea : Expr} {ga : Env → R D} {m1 : Md} {params : Arguments} {scope : Scope} {xf xa : Str} {k0 k1 k2 : Nat} {p0 p1 p2 p3 p4 p5 p6 p7 p8 lpos kp p pr q pos : Pos} {fd : FuncData} {qn : Str}
    (ha : Den X G m1 ea ga) (hms : X.mg "sorted" = none) (hmr : X.mg "range" = none) (L : LamT G.T X.base X.mg fd qn) (hcode : X.env.code = fd.code) (hq : X.env.qual ++ "<lambda>" = qn)
    (hu : X.A.units + 200 < cLine) (hd : X.A.depth < recursionLimit) (hc : X.calm = true) (hgs : Gl X "sorted") (hgr : Gl X "range")
    (hdef : defaultsOf params X.env = ([], [])) (hfree : ∀ y ∈ scope.names, y.2 = .free → X.env.scope.names.lookup y.1 = some .cell ∨ X.env.scope.names.lookup y.1 = some .free)
    (hco : scope.isCoroutine = false) (hgen : scope.isGenerator = false) (hk : scope.kind = .function) (hnc : ∀ y ∈ scope.names, y.2 ≠ .cell)
    (hf : scope.names.lookup xf = some .free) (hl : scope.names.lookup xa = some .local) (hN : X.N[j]? = some xf) (hv : X.env.kindOf xf = some .cell)
    (hbind : ∀ (q : Str) (cl : List (Str × Addr)) (pm cv ctv v : Value), bindArgs (PySem.W.kla_fn "<lambda>" q params (keyBody xf xa k0 k1 k2 p0 p1 p2 p3 p4 p5 p6 p7 p8) scope cl pm cv ctv) ⟨[v], []⟩ = pure [(xa, v)])
    (hfd : (xf == ("__debug__" : Str)) = false) (hfc : (xf == ("__classdict__" : Str)) = false) (had : (xa == ("__debug__" : Str)) = false)
    (nr : starEach [ea] X.env = (false, eval ea X.env) :: starEach [] X.env) (np : (backTo q (starEach [] X.env)).any (·.1) = false)
    (na : starEach [.Call (.Name "range" pr) [ea] [] q] X.env = (false, eval (.Call (.Name "range" pr) [ea] [] q) X.env) :: starEach [] X.env) :
    Den X G .f (.Call (.Name "sorted" p) [.Call (.Name "range" pr) [ea] [] q] [⟨some "key", .Lambda params (keyBody xf xa k0 k1 k2 p0 p1 p2 p3 p4 p5 p6 p7 p8) scope lpos, kp⟩] pos) (geOp keyO ga (geT j)) := by
  obtain ⟨ta, pa, qa⟩ := ha.ex
  obtain ⟨c, Pt, ec, TB, hmT, hu'⟩ := L.ex
  subst hq
  refine ⟨_, ⟨fun pins s σ H Q I h => (pe_sortKey (T := G.T) hu hd hc hgs hms (pe_callTy cr_range1 hgr hmr (by decide +kernel) (pa_cons pa pa_nil nr) (by decide) (by decide) nr np) TB (hcode.trans ec) hmT hu' hdef (fun y hy e => I.ok.has _ (hfree y hy e)) hco hgen hk hnc hf hl hN hv hbind hfd hfc had na).run pins s σ H Q I h⟩, fun Z0 H0 Z H σ ρ Q S h => ?_⟩
  refine qa Z0 H0 Z H σ ρ _ S ?_
  unfold geOp at h
  cases ea' : ga ρ with
  | no => rw [ea'] at h; exact h.elim
  | ex e => rw [ea'] at h; exact h
  | ok dn =>
    rw [ea'] at h
    intro v Z1 H1 g1 f1
    have S1 := S.grow g1
    have h' : Ans X.K G .f (do let y ← geT j ρ; keyO dn y) Z H Q := h
    cases el : geT j ρ with
    | no => rw [el] at h'; exact h'.elim
    | ex e => 
      unfold geT at el
      split at el <;> cases el
    | ok dl =>
      rw [el] at h'
      have h2 : Ans X.K G .f (keyO dn dl) Z H Q := h'
      unfold keyO at h2
      split at h2
      · rename_i n ds
        split at h2
        · rename_i xs ex
          split at h2
          · rename_i hc2
            obtain ⟨hn, h24⟩ := hc2
            have sl : ∃ l, σ[j]? = some (some (.ref l)) ∧ Fin X.K H1 Z1 H1 .t (.ref l) (.lst ds) := by
              unfold geT at el
              split at el
              · rename_i d e
                cases el
                obtain ⟨w, h1, h2⟩ := S1.im e
                obtain ⟨a, us, rfl, _, _⟩ := now_lst S1.sub (Hx := H1) (.inl h2)
                exact ⟨a, h1, .inl h2⟩
              · rename_i e
                cases el
                obtain ⟨a, h1, h2, _⟩ := S1.own e rfl
                exact ⟨a, h1, .inr ⟨a, rfl, h2.top rfl⟩⟩
              · cases el
              · cases el
              · cases el
            obtain ⟨l, e1, e2⟩ := sl
            obtain ⟨a, vs, ea2, hl1, rp⟩ := now_lst S1.sub e2
            cases ea2
            have vn := now_int (f1.now (Hx := H1))
            subst vn hn
            have hlen := rp.length
            refine ⟨_, rfl, fun r hr => ⟨Tabs.new hr S1.tabs, r, l, ds.length, vs, fun i => xs.getD i.toNat 0, rfl, upd_same, h24, e1, fun H2 eN T2 => ?_⟩⟩
            have nl : l ≠ r := ne_of_none hl1 hr
            have g2 : Grow G.T Z H Z1 H2 := ⟨g1.z, fun b o e n => ?_, fun b o e => ?_, g1.n, fun b h k => g1.p b h k, fun _ => T2⟩
            · have hl2 : H2 l = some (.lst vs) := eN _ _ (by rw [upd_ne nl]; exact hl1) (nt_lst _)
              refine ⟨SqL.of hl2, hlen, fun i hi => ?_, ansL (Z := Z1) g2.s g2.n (Ans.grow h2 g2) (reps_ints _)⟩
              obtain ⟨rr, hd⟩ := heads_at ex i hi
              obtain ⟨w, hw, rw'⟩ := rp.get hd
              obtain ⟨a, us, rfl, _, ht, r2⟩ := now_tup g2.s (Hx := H2) (.inl rw')
              cases r2 with
              | cons q1 q2 =>
                cases q1
                exact ⟨a, _, hw, SqT.of ht⟩
            · exact eN _ _ (by rw [upd_ne (ne_of_none (g1.h _ _ e n) hr)]; exact g1.h _ _ e n) n
            · exact eN _ _ (by rw [upd_ne (ne_of_none (g1.s _ _ e) hr)]; exact g1.s _ _ e) (g1.n _ _ e)
          · exact h2.elim
        · exact h2.elim
      · exact h2.elim
/-- the names of a key's lambda -/
def keySB (sc scope : Scope) (xf xa : Str) : Bool :=
  decide (scope.kind = .function) && !scope.isCoroutine && !scope.isGenerator && (scope.names.all fun y => !decide (y.2 = .cell) && (!decide (y.2 = .free) || decide (sc.names.lookup y.1 = some .cell) || decide (sc.names.lookup y.1 = some .free))) && decide (scope.names.lookup xf = some .free) && decide (scope.names.lookup xa = some .local)
theorem skey {j : Nat} {ea : Expr} {ga : Env → R D} {m1 : Md} {params : Arguments} {scope : Scope} {xf xa : Str} {k0 k1 k2 : Nat} {p0 p1 p2 p3 p4 p5 p6 p7 p8 lpos kp p pr q pos : Pos} {fd : FuncData} {qn : Str} {cdv : Value} {mg : Str → Option Value} {base : Heap} {T : List (Addr × Str)} {k : Nat}
    (ha : Den X G m1 ea ga) (hms : X.mg "sorted" = none) (hmr : X.mg "range" = none) (L : LamT T base mg fd qn) (hcd : fd.code = cdv)
    (h4 : X.mg = mg := by rfl) (h5 : X.base = base := by rfl) (h6 : G.T = T := by rfl) (hcode : X.env.code = cdv := by rfl) (hq : X.env.qual ++ ("<lambda>" : Str) = qn := by kernel_rfl)
    (hr : Room k X.A := by assumption) (hc : X.calm = true := by rfl) (hgs : Gl X "sorted" := by rfl) (hgr : Gl X "range" := by rfl)
    (hdef : defaultsOf params X.env = ([], []) := by rfl) (hS : keySB X.env.scope scope xf xa = true := by kernel_rfl) (hN : X.N[j]? = some xf := by rfl) (hv : X.env.kindOf xf = some .cell := by rfl)
    (hbind : ∀ (q : Str) (cl : List (Str × Addr)) (pm cv ctv v : Value), bindArgs (PySem.W.kla_fn "<lambda>" q params (keyBody xf xa k0 k1 k2 p0 p1 p2 p3 p4 p5 p6 p7 p8) scope cl pm cv ctv) ⟨[v], []⟩ = pure [(xa, v)] := by intro q cl pm cv ctv v; rfl)
    (hfd : (xf == ("__debug__" : Str)) = false := by rfl) (hfc : (xf == ("__classdict__" : Str)) = false := by rfl) (had : (xa == ("__debug__" : Str)) = false := by rfl)
    (nr : starEach [ea] X.env = (false, eval ea X.env) :: starEach [] X.env := by rfl) (np : (backTo q (starEach [] X.env)).any (·.1) = false := by rfl)
    (na : starEach [.Call (.Name "range" pr) [ea] [] q] X.env = (false, eval (.Call (.Name "range" pr) [ea] [] q) X.env) :: starEach [] X.env := by rfl) :
    Den X G .f (.Call (.Name "sorted" p) [.Call (.Name "range" pr) [ea] [] q] [⟨some "key", .Lambda params (keyBody xf xa k0 k1 k2 p0 p1 p2 p3 p4 p5 p6 p7 p8) scope lpos, kp⟩] pos) (geOp keyO ga (geT j)) := by
  subst h4 h5 h6
  unfold keySB at hS
  simp only [Bool.and_eq_true, Bool.or_eq_true, Bool.not_eq_true', decide_eq_true_eq, decide_eq_false_iff_not, List.all_eq_true] at hS
  obtain ⟨⟨⟨⟨⟨s1, s2⟩, s3⟩, s4⟩, s5⟩, s6⟩ := hS
  refine den_sortKey ha hms hmr L (hcode.trans hcd.symm) hq (room2 hr) (by have := hr.dp; omega) hc hgs hgr hdef (fun y hy e => ?_) s2 s3 s1 (fun y hy => (s4 y hy).1) s5 s6 hN hv hbind hfd hfc had nr np na
  rcases (s4 y hy).2 with (z | z) | z
  · exact absurd e z
  · exact .inl z
  · exact .inr z
end
end VS

set_option Elab.async false
set_option linter.all false
set_option maxRecDepth 100000
set_option maxHeartbeats 4000000
/-! VX6: name = [.. for k in d], d a frozen slot's dict. -/
namespace VS
open PySem PySem.Spec PyProof.Rows L2 LamX
section
variable {X : Cx} {G : Wh} {elt tg : Expr} {ifs : List Expr} {scope : Scope} {own : List (Str × Nat)} {pos p1 : Pos} {t : Tg} {tt : Env → R Bool} {g : Env → R D} {x : Str} {i : Nat}
theorem compD_read (hvs : ∀ j ∈ t.slots, j ∈ own.map (·.2)) {Z0 H0 Z H : Hp} {σ : L2.St} {ρ : Env} {Q : VK} (S : Sim X.K G.T Z0 H0 Z H σ ρ) (h : Ans X.K G .f (compDE t (own.map (·.2)) i tt g ρ) Z H Q) :
    (tLockE (tLc (iKeys (tVar i)) (gDen X.K G.calm t) (tDenT X.K G.calm tt) (tDen X.K G.calm .c g) (own.map (·.2))) σ H Q) ∨ tLc (iKeys (tVar i)) (gDen X.K G.calm t) (tDenT X.K G.calm tt) (tDen X.K G.calm .c g) (own.map (·.2)) σ H Q := by
  unfold compDE at h
  split at h
  · rename_i d ei
    cases hk : keysOf d with
    | none => rw [hk] at h; exact h.elim
    | some ks =>
      rw [hk] at h
      dsimp only at h
      unfold compE at h
      dsimp only at h
      split at h
      · rename_i hl
        cases e2 : runComp (bindT t) tt g (wipeE ρ (own.map (·.2))) ks with
        | ex c => rw [e2] at h; exact h.elim
        | no => rw [e2] at h; exact h.elim
        | ok r =>
          rw [e2] at h
          obtain ⟨a, u, e1, hu, hz, hr⟩ := dct_slot S ei hk
          rcases hz with hz | ⟨o, hz⟩
          · refine .inl ⟨a, u, S.sub _ _ hz, hu.mut, fun od => ?_⟩
            obtain ⟨Hb, Sl', bk1, bk2⟩ := S.base.lock hu hz od
            refine iKeys_run (G := G) Sl' e1 hk upd_same (rep_re (lock_le hu hz) hr) fun J w Dl hD => ?_
            refine comp_run (G := G) (Q := fun v H' => H' a = some (.frz od u) ∧ Q v (upd H' a u)) w Sl' hD hl hvs e2 fun Z' H' g' ⟨acc, ha, hra⟩ hzD => ?_
            obtain ⟨q1, q2, q3, q4⟩ := bk1 Z' H' (Sl'.g.trans g')
            have hDa : Dl ≠ a := fun q => by rw [q, upd_same] at hD; cases hD
            refine ⟨q2, ?_⟩
            have hD0 : H Dl = none := by rw [upd_ne hDa] at hD; exact hD
            have gz : Grow G.T Z H (upd Z' a u) (upd H' a u) := by
              refine ⟨q3.z, fun b o e nt => ?_, q3.s, q3.n, fun b hb pb => ?_, fun _ => q4 (g'.t Sl'.tabs)⟩
              · by_cases hb : b = a
                · subst hb; rw [S.sub _ _ hz] at e; cases e; exact upd_same
                · rw [upd_ne hb]; exact g'.h b o (by rw [upd_ne hb]; exact e) nt
              · have hba : b ≠ a := fun q => by rw [q, hz] at hb; cases hb
                rw [upd_ne hba]
                obtain ⟨o, eo, nt, nu⟩ := pb
                exact g'.p b (by rw [upd_ne hba]; exact hb) ⟨o, by rw [upd_ne hba]; exact eo, nt, nu⟩
            exact h _ _ _ gz ⟨Dl, rfl, .lst (by rw [upd_ne hDa]; exact ha) (Reps.le (unlock_le hu q1) _ _ hra), by rw [upd_ne hDa]; exact hzD, nprot_none hD0⟩
          · refine .inr (iKeys_run (G := G) S e1 hk hz hr fun J w Dl hD => ?_)
            refine comp_run (G := G) w S hD hl hvs e2 fun Z' H' g' ⟨acc, ha, hra⟩ hzD => ?_
            exact h _ Z' H' g' ⟨Dl, rfl, .lst ha hra, hzD, nprot_none hD⟩
      · exact h.elim
  · exact h.elim
theorem dens_setCompD {k : Nat} {y : Str} {py spos : Pos} (hc : X.calm = true) (hnd : X.N.Nodup) (hy : X.N[k]? = some y) (hyl : X.env.scope.names.lookup y = some .local) (hsw : swapsWith (.ListComp elt [⟨tg, .Name x p1, ifs, 0⟩] scope pos) (some (.Name y py)) spos.line X.env = pure true)
    (hN : X.N[i]? = some x) (hv : Vis X.env.scope x) (hd : (x == ("__debug__" : Str)) = false) (hcd : (x == ("__classdict__" : Str)) = false) (ok : BlkOk X.N X.env.scope scope own)
    (hg : ∀ (s : Shared) (H : Hp) (C : Addr) (cl : List (Str × Addr)) (fp : List Addr), DenG (X.blk s H scope (compEnvC scope cl C X.env) fp) G.calm tg t) (ht : ∀ (s : Shared) (H : Hp) (C : Addr) (cl : List (Str × Addr)) (fp : List Addr), DenTs (X.blk s H scope (compEnvC scope cl C X.env) fp) G.calm ifs tt)
    (he : ∀ (s : Shared) (H : Hp) (C : Addr) (cl : List (Str × Addr)) (fp : List Addr), Den (X.blk s H scope (compEnvC scope cl C X.env) fp) G.calm .c elt g)
    (hvs : ∀ j ∈ t.slots, j ∈ own.map (·.2)) : DenS X G (.Assign [.Name y py] (.ListComp elt [⟨tg, .Name x p1, ifs, 0⟩] scope pos) spos) (ownO k (compDE t (own.map (·.2)) i tt g)) := by
  have pf := ps_setLc (g := gDen X.K G.calm t) (tt := tDenT X.K G.calm tt) (te := tDen X.K G.calm .c g) hc hnd hy hyl hsw (pi_keys (pe_var hN hv hd hcd)) ok (fun s H C cl fp => (hg s H C cl fp).can) (fun s H C cl fp => (ht s H C cl fp).can) (fun s H C cl fp => (he s H C cl fp).can) (fun _ => rfl)
  refine ⟨_, ps_or (ps_lock pf) pf, fun Z0 H0 Z H σ ρ D S h => ?_⟩
  have key : Ans X.K G .f (compDE t (own.map (·.2)) i tt g ρ) Z H (fun v H' => D.nx (σ.set k (some v)) H') := by
    unfold ownO at h
    cases e : compDE t (own.map (·.2)) i tt g ρ with
    | ex c => rw [e] at h; exact post_ex S h
    | no => rw [e] at h; exact h
    | ok d =>
      rw [e] at h
      intro v Z' H' g' f
      obtain ⟨a, rfl, ta, hz, np⟩ := f
      have h' : PostS X.K G (match slOf d with | some sl => .nx (ρ.set k sl) | none => .no) Z0 H0 D := h
      cases e2 : slOf d with
      | none => rw [e2] at h'; exact h'.elim
      | some sl =>
        rw [e2] at h'
        exact h' Z' H' _ ((S.grow g').setOwn (top_own ta hz e2) (nprot_ext S.g.h np) k fun j sl' _ h1 h2 => S.apart np j sl' h1 h2)
  exact compD_read hvs S key
theorem scompd {k : Nat} {y : Str} {py spos : Pos} (hg : ∀ (s : Shared) (H : Hp) (C : Addr) (cl : List (Str × Addr)) (fp : List Addr), DenG (X.blk s H scope (compEnvC scope cl C X.env) fp) G.calm tg t)
    (ht : ∀ (s : Shared) (H : Hp) (C : Addr) (cl : List (Str × Addr)) (fp : List Addr), DenTs (X.blk s H scope (compEnvC scope cl C X.env) fp) G.calm ifs tt) (he : ∀ (s : Shared) (H : Hp) (C : Addr) (cl : List (Str × Addr)) (fp : List Addr), Den (X.blk s H scope (compEnvC scope cl C X.env) fp) G.calm .c elt g)
    {vs : List Nat} (own : List (Str × Nat)) (hq : own.map (·.2) = vs := by rfl) (ok : blkC X.N X.env.scope scope own = true := by kernel_rfl) (hvs : ∀ j ∈ t.slots, j ∈ vs := by decide) (hc : X.calm = true := by rfl) (hnd : decide X.N.Nodup = true := by kernel_rfl)
    (hN : X.N[i]? = some x := by rfl) (hv : Vis X.env.scope x := by first | exact .inl (by rfl) | exact .inr (.inl (by rfl)) | exact .inr (.inr (by rfl))) (hd : (x == ("__debug__" : Str)) = false := by rfl) (hcd : (x == ("__classdict__" : Str)) = false := by rfl)
    (hy : X.N[k]? = some y := by rfl) (hyl : X.env.scope.names.lookup y = some .local := by rfl) (hsw : swapsWith (.ListComp elt [⟨tg, .Name x p1, ifs, 0⟩] scope pos) (some (.Name y py)) spos.line X.env = pure true := by rfl) :
    DenS X G (.Assign [.Name y py] (.ListComp elt [⟨tg, .Name x p1, ifs, 0⟩] scope pos) spos) (ownO k (compDE t vs i tt g)) := by subst hq; exact dens_setCompD hc (of_decide_eq_true hnd) hy hyl hsw hN hv hd hcd (blkOk_by ok) hg ht he hvs
end
end VS

set_option Elab.async false
set_option linter.all false
set_option maxRecDepth 100000
namespace VP
open PySem PySem.Spec PyProof.Rows L2 LamX VS
noncomputable section
def C_callers_1 : VS.Env → R D :=
 (compDE (.nm 8) [8] 0 (fun _ => .ok true) (geA tupD (gaCons (gS "") (gaCons (geOp ixD (geV 0) (geV 8)) gaNil))))
def C_callers_2 : VS.Env → R D :=
 (compE (.nm 7) [7] (gSeq itL (geA F_every (gaCons (geV 0) gaNil))) (fun _ => .ok true) (geA tupD (gaCons (geOp ixT (geV 7) (gI 0)) (gaCons (geOp ixT (geV 7) (gI 3)) gaNil))))
def L_callers_1 : VS.Env → Out :=
 (ifO (geB (geOp cmEq (geOp ixT (geV 7) (gI 0)) (geV 1)))
    (seqO (putO 3 (geOp addI (geGet (geT 3) (geV 5) (gI 0)) (gI 1)) (geV 5))
    (putO 4 (geOp addI (geGet (geT 4) (geV 5) (gI 0)) (geA F_whole (gaCons (geV 7) gaNil))) (geV 5)))
    .nx)
def L_callers_2 : VS.Env → Out :=
 (forO (.nm 7) (gSeq itT (geV 6))
   L_callers_1)
def C_callers_3 : VS.Env → R D :=
 (compE (.nm 5) [5] (gSeq itL (geA sortDct (gaCons (geT 3) gaNil))) (fun _ => .ok true) (geA tupD (gaCons (geV 5) (gaCons (geOp ixD (geT 3) (geV 5)) (gaCons (geOp ixD (geT 4) (geV 5)) gaNil)))))
structure S_callers where
  (trees_here name rows counts times caller calls one hand : Sl)
def S_callers.e (s : S_callers) : VS.Env := [s.trees_here, s.name, s.rows, s.counts, s.times, s.caller, s.calls, s.one, s.hand]
@[simp] theorem S_callers.g0 (s : S_callers) : s.e[0]? = Option.some s.trees_here := rfl
@[simp] theorem S_callers.w0 (s : S_callers) (u : Sl) : List.set s.e 0 u = S_callers.e { s with trees_here := u } := rfl
@[simp] theorem S_callers.g1 (s : S_callers) : s.e[1]? = Option.some s.name := rfl
@[simp] theorem S_callers.w1 (s : S_callers) (u : Sl) : List.set s.e 1 u = S_callers.e { s with name := u } := rfl
@[simp] theorem S_callers.g2 (s : S_callers) : s.e[2]? = Option.some s.rows := rfl
@[simp] theorem S_callers.w2 (s : S_callers) (u : Sl) : List.set s.e 2 u = S_callers.e { s with rows := u } := rfl
@[simp] theorem S_callers.g3 (s : S_callers) : s.e[3]? = Option.some s.counts := rfl
@[simp] theorem S_callers.w3 (s : S_callers) (u : Sl) : List.set s.e 3 u = S_callers.e { s with counts := u } := rfl
@[simp] theorem S_callers.g4 (s : S_callers) : s.e[4]? = Option.some s.times := rfl
@[simp] theorem S_callers.w4 (s : S_callers) (u : Sl) : List.set s.e 4 u = S_callers.e { s with times := u } := rfl
@[simp] theorem S_callers.g5 (s : S_callers) : s.e[5]? = Option.some s.caller := rfl
@[simp] theorem S_callers.w5 (s : S_callers) (u : Sl) : List.set s.e 5 u = S_callers.e { s with caller := u } := rfl
@[simp] theorem S_callers.g6 (s : S_callers) : s.e[6]? = Option.some s.calls := rfl
@[simp] theorem S_callers.w6 (s : S_callers) (u : Sl) : List.set s.e 6 u = S_callers.e { s with calls := u } := rfl
@[simp] theorem S_callers.g7 (s : S_callers) : s.e[7]? = Option.some s.one := rfl
@[simp] theorem S_callers.w7 (s : S_callers) (u : Sl) : List.set s.e 7 u = S_callers.e { s with one := u } := rfl
@[simp] theorem S_callers.g8 (s : S_callers) : s.e[8]? = Option.some s.hand := rfl
@[simp] theorem S_callers.w8 (s : S_callers) (u : Sl) : List.set s.e 8 u = S_callers.e { s with hand := u } := rfl
theorem S_callers.st (d0 d1 : D) : startE 9 [d0, d1] = S_callers.e { trees_here := .im d0, name := .im d1, rows := .un, counts := .un, times := .un, caller := .un, calls := .un, one := .un, hand := .un } := rfl
def b_callers : VS.Env → Out :=
 (seqO (fun ρ => ofR ((geA F_need_trees (gaCons (geV 0) gaNil)) ρ) fun _ => .nx ρ)
 (seqO (ifO (gNot (geB (geA F_is_name (gaCons (geV 1) gaNil))))
  (fun _ => .ex "BadName")
  .nx)
 (seqO (parO2 3 4 .f .f (fun _ => .ok (.dK [])) (fun _ => .ok (.dK [])))
 (seqO (ownO 2 C_callers_1)
 (seqO (fun ρ => ofR ((geOp catL (geT 2) C_callers_2) ρ) fun d => .nx (ρ.set 2 (.im d)))
 (seqO (forO (.tp (.cons (.nm 5) (.cons (.nm 6) .nil))) (gSeq itL (geV 2))
  L_callers_2)
 (fun ρ => ofR (C_callers_3 ρ) .rt)))))))
def F_callers : List D → R D := runDef 9 b_callers
def C_longest_1 : VS.Env → R D :=
 (compE (.nm 6) [6] (gSeq itL (geA (F_all_calls 8) (gaCons (geOp ixD (geV 0) (geV 3)) gaNil))) (fun _ => .ok true) (geA tupD (gaCons (geA F_whole (gaCons (geV 6) gaNil)) (gaCons (geV 3) (gaCons (geOp ixT (geV 6) (gI 1)) (gaCons (geOp ixT (geV 6) (gI 0)) gaNil))))))
def L_longest_1 : VS.Env → Out :=
 (extO 2 C_longest_1)
def C_longest_2 : VS.Env → R D :=
 (compE (.nm 5) [5] (gSeq itL (geSl slL (geV 4) goNone (goSome (geV 1)))) (fun _ => .ok true) (geOp ixL (geT 2) (geV 5)))
structure S_longest where
  (trees_here most found hand order at_ one : Sl)
def S_longest.e (s : S_longest) : VS.Env := [s.trees_here, s.most, s.found, s.hand, s.order, s.at_, s.one]
@[simp] theorem S_longest.g0 (s : S_longest) : s.e[0]? = Option.some s.trees_here := rfl
@[simp] theorem S_longest.w0 (s : S_longest) (u : Sl) : List.set s.e 0 u = S_longest.e { s with trees_here := u } := rfl
@[simp] theorem S_longest.g1 (s : S_longest) : s.e[1]? = Option.some s.most := rfl
@[simp] theorem S_longest.w1 (s : S_longest) (u : Sl) : List.set s.e 1 u = S_longest.e { s with most := u } := rfl
@[simp] theorem S_longest.g2 (s : S_longest) : s.e[2]? = Option.some s.found := rfl
@[simp] theorem S_longest.w2 (s : S_longest) (u : Sl) : List.set s.e 2 u = S_longest.e { s with found := u } := rfl
@[simp] theorem S_longest.g3 (s : S_longest) : s.e[3]? = Option.some s.hand := rfl
@[simp] theorem S_longest.w3 (s : S_longest) (u : Sl) : List.set s.e 3 u = S_longest.e { s with hand := u } := rfl
@[simp] theorem S_longest.g4 (s : S_longest) : s.e[4]? = Option.some s.order := rfl
@[simp] theorem S_longest.w4 (s : S_longest) (u : Sl) : List.set s.e 4 u = S_longest.e { s with order := u } := rfl
@[simp] theorem S_longest.g5 (s : S_longest) : s.e[5]? = Option.some s.at_ := rfl
@[simp] theorem S_longest.w5 (s : S_longest) (u : Sl) : List.set s.e 5 u = S_longest.e { s with at_ := u } := rfl
@[simp] theorem S_longest.g6 (s : S_longest) : s.e[6]? = Option.some s.one := rfl
@[simp] theorem S_longest.w6 (s : S_longest) (u : Sl) : List.set s.e 6 u = S_longest.e { s with one := u } := rfl
theorem S_longest.st (d0 d1 : D) : startE 7 [d0, d1] = S_longest.e { trees_here := .im d0, most := .im d1, found := .un, hand := .un, order := .un, at_ := .un, one := .un } := rfl
def b_longest : VS.Env → Out :=
 (seqO (fun ρ => ofR ((geA F_need_trees (gaCons (geV 0) gaNil)) ρ) fun _ => .nx ρ)
 (seqO (ifO (gNot (geB (geA F_is_count (gaCons (geV 1) (gaCons (gI 0) (gaCons (gI 50) gaNil))))))
  (fun _ => .ex "BadTick")
  .nx)
 (seqO (ownO 2 (geA lstD gaNil))
 (seqO (forO (.nm 3) (gSeq itL (geA sortDct (gaCons (geV 0) gaNil)))
  L_longest_1)
 (seqO (fun ρ => ofR ((geOp keyO (geA lenD (gaCons (geT 2) gaNil)) (geT 2)) ρ) fun d => .nx (ρ.set 4 (.im d)))
 (fun ρ => ofR (C_longest_2 ρ) .rt))))))
def F_longest : List D → R D := runDef 7 b_longest
def C_heavy_1 : VS.Env → R D :=
 (compE (.nm 5) [5] (gSeq itT (geV 2)) (fun _ => .ok true) (geA F_whole (gaCons (geV 5) gaNil)))
def C_heavy_2 : VS.Env → R D :=
 (compE (.nm 5) [5] (gSeq itT (geV 2)) (geB (geOp cmEq (geA F_whole (gaCons (geV 5) gaNil)) (geV 4))) (geV 5))
def L_heavy_1 : VS.Env → Out :=
 (seqO (fun ρ => ofR ((geA maxL (gaCons C_heavy_1 gaNil)) ρ) fun d => .nx (ρ.set 4 (.im d)))
  (seqO (fun ρ => ofR ((geOp ixL C_heavy_2 (gI 0)) ρ) fun d => .nx (ρ.set 5 (.im d)))
  (seqO (appO 3 (geOp ixT (geV 5) (gI 0)))
  (fun ρ => ofR ((geOp ixT (geV 5) (gI 3)) ρ) fun d => .nx (ρ.set 2 (.im d))))))
structure S_heavy where
  (trees_here hand calls found best one : Sl)
def S_heavy.e (s : S_heavy) : VS.Env := [s.trees_here, s.hand, s.calls, s.found, s.best, s.one]
@[simp] theorem S_heavy.g0 (s : S_heavy) : s.e[0]? = Option.some s.trees_here := rfl
@[simp] theorem S_heavy.w0 (s : S_heavy) (u : Sl) : List.set s.e 0 u = S_heavy.e { s with trees_here := u } := rfl
@[simp] theorem S_heavy.g1 (s : S_heavy) : s.e[1]? = Option.some s.hand := rfl
@[simp] theorem S_heavy.w1 (s : S_heavy) (u : Sl) : List.set s.e 1 u = S_heavy.e { s with hand := u } := rfl
@[simp] theorem S_heavy.g2 (s : S_heavy) : s.e[2]? = Option.some s.calls := rfl
@[simp] theorem S_heavy.w2 (s : S_heavy) (u : Sl) : List.set s.e 2 u = S_heavy.e { s with calls := u } := rfl
@[simp] theorem S_heavy.g3 (s : S_heavy) : s.e[3]? = Option.some s.found := rfl
@[simp] theorem S_heavy.w3 (s : S_heavy) (u : Sl) : List.set s.e 3 u = S_heavy.e { s with found := u } := rfl
@[simp] theorem S_heavy.g4 (s : S_heavy) : s.e[4]? = Option.some s.best := rfl
@[simp] theorem S_heavy.w4 (s : S_heavy) (u : Sl) : List.set s.e 4 u = S_heavy.e { s with best := u } := rfl
@[simp] theorem S_heavy.g5 (s : S_heavy) : s.e[5]? = Option.some s.one := rfl
@[simp] theorem S_heavy.w5 (s : S_heavy) (u : Sl) : List.set s.e 5 u = S_heavy.e { s with one := u } := rfl
theorem S_heavy.st (d0 d1 : D) : startE 6 [d0, d1] = S_heavy.e { trees_here := .im d0, hand := .im d1, calls := .un, found := .un, best := .un, one := .un } := rfl
def b_heavy : VS.Env → Out :=
 (seqO (fun ρ => ofR ((geA F_need_trees (gaCons (geV 0) gaNil)) ρ) fun _ => .nx ρ)
 (seqO (fun ρ => ofR ((geGet (geV 0) (geV 1) (geA tupD gaNil)) ρ) fun d => .nx (ρ.set 2 (.im d)))
 (seqO (ownO 3 (geA lstD gaNil))
 (seqO (runWhile (geB (geOp cmNe (geV 2) (geA tupD gaNil)))
  L_heavy_1 4096)
 (frzO 3 (fun ρ => ofR ((geV 3) ρ) .rt))))))
def F_heavy : List D → R D := runDef 6 b_heavy
end
end VP

set_option Elab.async false
set_option linter.all false
set_option maxRecDepth 100000
set_option maxHeartbeats 4000000
/-! VX7: enumerate(tuple). -/
namespace VS
open PySem PySem.Spec PyProof.Rows L2 LamX
theorem meets_enumB1 {v : Value} {o : Obj} {H : Heap → Prop} (B : Begins v o H) :
    Meets (Builtin.«enumerate.__new__» ⟨[.type "enumerate", v], []⟩) (fun _ R s => H s.heap ∧
      R (.ok (.ret (.ref (s.heap.push o).objs.size))) { s with heap := (s.heap.push o).push { cls := .type "enumerate", data := .fields #[.none, .bool false, .ref s.heap.objs.size, rawInt 0, .none, .none] } }) :=
  .of_wp fun prog w A R s h => by
    obtain ⟨hp, g, d, tk, os⟩ := s; obtain ⟨h1, h⟩ := h
    have hsub := sub_enumerate
    have q1 : ∀ {A' : Around} {E : Value → Shared → Prop} {Q : Value → Shared → Prop}, Q (.ref hp.objs.size) ⟨hp.push o, g, d, tk, os⟩ → wpAny (model prog w) A' (pyIter v) Q E ⟨hp, g, d, tk, os⟩ :=
      fun q => B.iter prog w _ _ ⟨hp, g, d, tk, os⟩ _ h1 q
    wp_walk using q1
    refine wpAny_stack_any fun st => wpAny_pure ?_
    split
    · rename_i c _ _ _ _ _
      cases (c == Value.type "enumerate")
      · wp_walk using q1
        exact ⟨_, rfl, h⟩
      · wp_walk using q1
        exact ⟨_, rfl, h⟩
    · wp_walk using q1
      exact ⟨_, rfl, h⟩
section
variable {prog : Program} {w : World} {A : Around} {E : Value → Shared → Prop} {s : Shared}
theorem call_enumB1 {v : Value} {o : Obj} {H : Heap → Prop} {Q : Value → Shared → Prop} (B : Begins v o H) (h1 : H s.heap)
    (h : ∀ h', IsEnum h' (s.heap.objs.size + 1) s.heap.objs.size 0 .none → h'.get? s.heap.objs.size = some o → h'.objs.size = s.heap.objs.size + 2 →
      (∀ b o, s.heap.get? b = some o → h'.get? b = some o) → Q (.ref (s.heap.objs.size + 1)) { s with heap := h' }) :
    wpAny (model prog w) A (call (.type "enumerate") [v]) Q E s := by
  refine callType_new F.called_enumerate (by decide) (F.typeCall_enumerate_1 _) (F.newCall_enumerate_1 _) (fun obj => F.args_object_init_2 obj _) F.entry_enumerate_new
    (meets_enumB1 B) ⟨h1, ?_⟩
  have hz : (s.heap.push o).objs.size = s.heap.objs.size + 1 := Heap.size_push ..
  show _ ∧ _
  rw [hz]
  have he : IsEnum ((s.heap.push o).push { cls := .type "enumerate", data := .fields #[.none, .bool false, .ref s.heap.objs.size, rawInt 0, .none, .none] }) (s.heap.objs.size + 1) s.heap.objs.size 0 .none := by
    have := Heap.get?_push_size (s.heap.push o) (o := { cls := .type "enumerate", data := .fields #[.none, .bool false, .ref s.heap.objs.size, rawInt 0, .none, .none] }) rfl
    rw [hz] at this; exact this
  refine ⟨⟨_, he, rfl⟩, h _ he (Heap.get?_push_of_some _ (Heap.get?_push_size _ B.free)) (by rw [Heap.size_push, hz]) fun b o x => Heap.get?_push_of_some _ (Heap.get?_push_of_some _ x)⟩
end
def IteT (K : PySem.W.Frag) (a : Addr) : It :=
  ⟨fun i H => ∃ (xs : List V) (x : V), SqT K H a xs ∧ xs[i]? = some x, fun i H v H' => ∃ T x, v = .ref T ∧ H T = none ∧ H' = upd H T (.tup [.int (i : Nat), x]) ∧ ∀ xs, SqT K H a xs → xs[i]? = some x, fun i H => ∃ xs : List V, SqT K H a xs ∧ xs.length ≤ i⟩
theorem turn_enumT {P : Program} {w : World} {K : PySem.W.Frag} {elts : List Expr} {kk : Nat} {tpos : Pos} (a e it : Addr) :
    Turn P w K (.Tuple elts kk tpos) (IteT K a) [e, it] e (fun i h => (∃ old, IsEnum h e it ((i : Nat) : Int) old) ∧ h.IsTupleIter it a i ∧ e ≠ it ∧ a ≠ it ∧ a ≠ e) where
  mem := by simp
  obj := fun i h st b hb => by
    obtain ⟨⟨old, he⟩, ⟨o, ho, hc, hd⟩, _⟩ := st
    have e' : b = e ∨ b = it := by simpa using hb
    rcases e' with z | z
    · rw [z]; exact ⟨_, he, fun v q => nomatch q⟩
    · rw [z]; exact ⟨o, ho, fun v q => by rw [hd] at q; cases q⟩
  keep := fun i h h' st k => let ⟨⟨old, he⟩, hi, hne⟩ := st; ⟨⟨old, k e (by simp) _ he⟩, hi.at fun o q => k it (by simp) o q, hne⟩
  item := by
    intro X hP hw hK hc i pins s σ H E I hf st hg
    subst hP hw hK
    obtain ⟨⟨old, he⟩, hit, hne, hai, hae⟩ := st
    obtain ⟨xs, x, hq, hx⟩ := hg
    obtain ⟨its, rv, p, hz⟩ := I.tuple hq
    obtain ⟨u, hu, ru⟩ := rv.get hx
    have hel : e < s.heap.objs.size := Heap.lt_size he
    have hil : it < s.heap.objs.size := by obtain ⟨_, q, _⟩ := hit; exact Heap.lt_size q
    have hlt : i < its.toArray.size := by
      obtain ⟨h1, _⟩ := List.getElem?_eq_some_iff.mp hu
      simpa using h1
    have hhd : X.A.in1.handled = none := I.ok.hd hc
    refine wpAny_pyNext_enum_itemD (Draws.tuple hhd it a hai its.toArray) he ⟨hit, p⟩ hlt hne (by simp; exact ⟨hne, fun z => hae z.symm⟩) fun y h' tk hy ho hst hT hsz hk => ?_
    have hyu : y = u := by
      have : its.toArray[i]? = some u := by simpa using hu
      rw [this] at hy; exact (Option.some.inj hy).symm
    subst hyu
    refine ⟨_, rfl, wpAny_letOwnedTupleGo_enum (s := { s with heap := h', toks := tk + 1 }) ho fun h'' he' sb => ?_⟩
    have hT2 : h''.get? s.heap.objs.size = some { cls := .type "tuple", data := .seq #[.int i tk, y] } := (sb.2 _ (Nat.ne_of_gt hel)).trans hT
    have new : ObjOk X.prog X.w (upd H s.heap.objs.size (.tup [.int (i : Nat), x])) h'' s.heap.objs.size (.tup [.int (i : Nat), x]) :=
      ⟨by show 2 ≤ sizeLine; decide, [.int i tk, y], .cons ⟨_, rfl⟩ (.cons ru .nil), ⟨_, hT2, rfl, _, rfl⟩⟩
    have I1 : Inv X pins σ (upd H s.heap.objs.size (.tup [.int (i : Nat), x])) { s with heap := h'', toks := tk + 1 } :=
      I.turnedNew (ch := [e, it]) (fun b ob hb q => (sb.2 b (fun z => hb (by simp [z]))).trans (hk b ob (fun z => hb (by simp [z])) (fun z => hb (by simp [z])) q)) hf (Nat.le_refl _) new
    refine ⟨.ref s.heap.objs.size, _, I1, rfl, ⟨_, x, rfl, I.hok.fresh (Nat.le_refl _), rfl, fun ys hy => by rw [I.tuple_inj hy hq]; exact hx⟩, ⟨⟨y, ?_⟩, hst.1.at fun o q => (sb.2 it (Ne.symm hne)).trans q, hne, hai, hae⟩, fun b hb => ?_⟩
    · have e1 : ((i + 1 : Nat) : Int) = (i : Int) + 1 := by omega
      rw [e1]; exact he'
    · have hb' : b < s.heap.objs.size := by
        have e' : b = e ∨ b = it := by simpa using hb
        rcases e' with z | z
        · rw [z]; exact hel
        · rw [z]; exact hil
      rw [upd_ne (Nat.ne_of_lt hb')]
      exact (hf b hb).1
  done := by
    intro X hP hw hK hc i pins s σ H E I hf st hg
    subst hP hw hK
    obtain ⟨⟨old, he⟩, hit, hne, hai, hae⟩ := st
    obtain ⟨xs, hq, hx⟩ := hg
    obtain ⟨its, rv, p, hz⟩ := I.tuple hq
    obtain ⟨f0, f1, f2, f3, f4, f5⟩ := hf it (by simp)
    have hl := rv.length
    have hhd : X.A.in1.handled = none := I.ok.hd hc
    have hT : s.TypeIs (.ref e) "enumerate" := ⟨_, he, rfl⟩
    unfold pyNext
    refine wpAny_bind (wpAny_attempt (wpAny_callSpecial?_slot (name := Str.ofString "__next__") hT F.slot_enumerate_next
      (wpAny_call_entry F.slot_enumerate_next hT F.entry_enumerate_next ?_ (F.args_enumerate_next_1 _))))
    show wpAny _ _ (field (.ref e) 2 >>= _) _ _ _
    refine wpAny_bind (wpAny_field he rfl (x := .ref it) rfl ?_)
    refine wpAny_bind (wpAny_nextOf_tuple_end hhd hit p (by simp; omega) fun h' x he' hx' => ?_)
    obtain ⟨o, ho, hc'⟩ := hx'
    refine wpAny_bind (wpAny_isInstance (T := "StopIteration") (b := true) ⟨o, ho, hc'⟩ isSubtype_stop ?_)
    exact wpAny_pure ⟨rfl, I.turned (t' := s.toks) (fun b o hb q => he' b o hb q) f0 f1 f3 f4 f5⟩
  self := fun A i s Q E st h => let ⟨⟨_, he⟩, _⟩ := st; wpAny_pyIter_enum he h
def iEnumT (K : PySem.W.Frag) (ta : TA) : TI := fun σ H R => ta σ H fun vs H1 => ∃ a xs, vs = [.ref a] ∧ SqT K H1 a xs ∧ R (IteT K a) H1
theorem pi_enumT {X : Cx} {e : Expr} {ta : TA} {p pos tpos : Pos} {elts : List Expr} {kk : Nat} (hg : Gl X "enumerate") (hm : X.mg "enumerate" = none) (ha : PA X [e] ta) (hs : starEach [e] X.env = [(false, eval e X.env)] := by rfl) :
    PI X (.Tuple elts kk tpos) (.Call (.Name "enumerate" p) [e] [] pos) (iEnumT X.K ta) := by
  refine ⟨fun pins s σ H R I h => ?_⟩
  refine Call_ (ld_blt I hg hm boot_enumerate (PyProof.Rows.callWith_type1 (thn (ha.run pos pins s σ H _ I h) fun us s1 ⟨vs, H1, I1, r1, q1⟩ => ?_) hs rfl))
  obtain ⟨a, xs, ex, hq, q⟩ := q1
  subst ex
  cases r1 with
  | cons r rr =>
    cases rr
    cases r
    obtain ⟨its, rv, p', hz⟩ := I1.tuple hq
    refine call_enumB1 (begins_tuple a its.toArray) p' fun h' he hit hsz hk => wpAny_pyIter_enum he ?_
    have I2 : Inv X pins σ H1 { s1 with heap := h' } := I1.kept (t' := s1.toks) hk
    have hal : a < s1.heap.objs.size := by obtain ⟨o, ho, _⟩ := p'; exact Heap.lt_size ho
    refine ⟨s1.heap.objs.size + 1, [s1.heap.objs.size + 1, s1.heap.objs.size], _, _, H1, rfl, I2, turn_enumT a (s1.heap.objs.size + 1) s1.heap.objs.size, ⟨⟨.none, he⟩, ⟨_, hit, rfl, rfl⟩, Nat.succ_ne_self _, Nat.ne_of_lt hal, Nat.ne_of_lt (Nat.lt_succ_of_lt hal)⟩, fun b hb => ?_, q⟩
    have e' : b = s1.heap.objs.size + 1 ∨ b = s1.heap.objs.size := by simpa using hb
    have hle : s1.heap.objs.size ≤ b := by
      rcases e' with z | z
      · rw [z]; exact Nat.le_add_right _ _
      · rw [z]; exact Nat.le_refl _
    exact I1.fpOk hle (I1.hok.fresh hle)
theorem walk_enumT {K : PySem.W.Frag} {a : Addr} {xs : List V} : Walk (IteT K a) xs.length (fun H => SqT K H a xs) (YPair (fun i => some (.int (i : Nat))) (fun i => xs[i]?)) := by
  refine ⟨fun i _ hi q => ⟨xs, xs[i], q, by simp [hi]⟩, fun _ q => ⟨xs, q, Nat.le_refl _⟩, fun i H v H' _ q y => ?_⟩
  obtain ⟨T, x, h1, h2, h3, h4⟩ := y
  exact ⟨T, .int (i : Nat), x, h1, h2, h3, rfl, h4 xs q⟩
def enmT : List D → R (List D) | [.tup ds] => .ok (enumL ds) | _ => .no
section
variable {X : Cx} {G : Wh}
theorem deni_enumT {e : Expr} {p pos tpos : Pos} {elts : List Expr} {kk : Nat} {g : Env → R (List D)} (hg : Gl X "enumerate") (hm : X.mg "enumerate" = none) (ha : DenA X G .c [e] g) (hs : starEach [e] X.env = [(false, eval e X.env)]) :
    DenI X G (.Tuple elts kk tpos) (.Call (.Name "enumerate" p) [e] [] pos) (gSeqA enmT g) := by
  obtain ⟨t, pt, q⟩ := ha.ex
  refine ⟨_, pi_enumT hg hm pt hs, fun Z0 H0 Z H σ ρ Rk S h => ?_⟩
  refine seq_a (es := [e]) q S h (fun d ds e v Z' H' g' f k => ?_) (fun d c => by unfold enmT; split <;> (intro z; cases z))
  unfold enmT at e
  split at e
  · rename_i es
    cases e
    obtain ⟨x, rfl, fx⟩ := fins1 f
    cases fx with
    | @tup a vs _ h1 h2 =>
      have hl := enumL_len es
      refine ⟨a, vs, rfl, SqT.of (g'.s _ _ h1), k _ Z' H' (.refl g'.s g'.n) ⟨fun H => SqT X.K H a vs, _, by rw [hl, ← h2.length]; exact walk_enumT, fun H' s => SqT.of (s _ _ h1), fun i Z2 H2 x H3 hi s1 s2 n y => ?_⟩⟩
      obtain ⟨t, x1, y1, rfl, ht, rfl, e1, e2⟩ := y
      cases e1
      obtain ⟨d, e3, e4⟩ := h2.getV e2
      obtain ⟨Z'', g2, r2⟩ := pair_new (T := G.T) s2 n ht (.int (i : Int)) (Rep.le s1.le _ _ e4)
      exact ⟨Z'', _, g2, enumL_get e3, r2⟩
  · cases e
theorem ent {e : Expr} {p pos tpos : Pos} {elts : List Expr} {kk : Nat} {g : Env → R (List D)} (ha : DenA X G .c [e] g) (hm : X.mg "enumerate" = none) (hg : Gl X "enumerate" := by rfl) (hs : starEach [e] X.env = [(false, eval e X.env)] := by rfl) :
    DenI X G (.Tuple elts kk tpos) (.Call (.Name "enumerate" p) [e] [] pos) (gSeqA enmT g) := deni_enumT hg hm ha hs
end
end VS

set_option Elab.async false
set_option linter.all false
set_option maxRecDepth 100000
namespace VP
open PySem PySem.Spec PyProof.Rows L2 LamX VS
noncomputable section
def C__law_table_1 : VS.Env → R D :=
 (compE (.tp (.cons (.nm 5) (.cons (.nm 6) .nil))) [5, 6] (gSeq itL (geV 0)) (fun _ => .ok true) (geOp ixT (geV 5) (gI 0)))
def C__law_table_2 : VS.Env → R D :=
 (compE (.tp (.cons (.nm 5) (.cons (.nm 6) .nil))) [5, 6] (gSeq itL (geV 0)) (geB (geOp cmEq (geOp ixT (geV 5) (gI 0)) (geV 2))) (geA tupD (gaCons (geV 5) (gaCons (geV 6) gaNil))))
def C__law_table_3 : VS.Env → R D :=
 (compE (.tp (.cons (.nm 5) (.cons (.nm 6) .nil))) [5, 6] (gSeq itL (geV 3)) (geB (geOp (inF true) (geV 2) (geV 6))) (geOp subI (geOp ixT (geV 5) (gI 2)) (geOp ixT (geV 5) (gI 1))))
def C__law_table_4 : VS.Env → R D :=
 (compE (.tp (.cons (.nm 5) (.cons (.nm 6) .nil))) [5, 6] (gSeq itL (geV 3)) (fun _ => .ok true) (geA F__law_own (gaCons (geV 5) gaNil)))
def L__law_table_1 : VS.Env → Out :=
 (seqO (ownO 3 C__law_table_2)
  (seqO (frzO 3 (ownO 4 C__law_table_3))
  (appO 1 (geA tupD (gaCons (geV 2) (gaCons (geA lenD (gaCons (geV 3) gaNil)) (gaCons (geA sumD (gaCons (geT 4) gaNil)) (gaCons (geA sumD (gaCons C__law_table_4 gaNil)) gaNil))))))))
structure S__law_table where
  (rows found name_here mine lone one above : Sl)
def S__law_table.e (s : S__law_table) : VS.Env := [s.rows, s.found, s.name_here, s.mine, s.lone, s.one, s.above]
@[simp] theorem S__law_table.g0 (s : S__law_table) : s.e[0]? = Option.some s.rows := rfl
@[simp] theorem S__law_table.w0 (s : S__law_table) (u : Sl) : List.set s.e 0 u = S__law_table.e { s with rows := u } := rfl
@[simp] theorem S__law_table.g1 (s : S__law_table) : s.e[1]? = Option.some s.found := rfl
@[simp] theorem S__law_table.w1 (s : S__law_table) (u : Sl) : List.set s.e 1 u = S__law_table.e { s with found := u } := rfl
@[simp] theorem S__law_table.g2 (s : S__law_table) : s.e[2]? = Option.some s.name_here := rfl
@[simp] theorem S__law_table.w2 (s : S__law_table) (u : Sl) : List.set s.e 2 u = S__law_table.e { s with name_here := u } := rfl
@[simp] theorem S__law_table.g3 (s : S__law_table) : s.e[3]? = Option.some s.mine := rfl
@[simp] theorem S__law_table.w3 (s : S__law_table) (u : Sl) : List.set s.e 3 u = S__law_table.e { s with mine := u } := rfl
@[simp] theorem S__law_table.g4 (s : S__law_table) : s.e[4]? = Option.some s.lone := rfl
@[simp] theorem S__law_table.w4 (s : S__law_table) (u : Sl) : List.set s.e 4 u = S__law_table.e { s with lone := u } := rfl
@[simp] theorem S__law_table.g5 (s : S__law_table) : s.e[5]? = Option.some s.one := rfl
@[simp] theorem S__law_table.w5 (s : S__law_table) (u : Sl) : List.set s.e 5 u = S__law_table.e { s with one := u } := rfl
@[simp] theorem S__law_table.g6 (s : S__law_table) : s.e[6]? = Option.some s.above := rfl
@[simp] theorem S__law_table.w6 (s : S__law_table) (u : Sl) : List.set s.e 6 u = S__law_table.e { s with above := u } := rfl
theorem S__law_table.st (d0 : D) : startE 7 [d0] = S__law_table.e { rows := .im d0, found := .un, name_here := .un, mine := .un, lone := .un, one := .un, above := .un } := rfl
def b__law_table : VS.Env → Out :=
 (seqO (ownO 1 (geA lstD gaNil))
 (seqO (forO (.nm 2) (gSeq itL (ge1 sortSet C__law_table_1))
  L__law_table_1)
 (frzO 1 (fun ρ => ofR ((geV 1) ρ) .rt))))
def F__law_table : List D → R D := runDef 7 b__law_table
def L__law_refused_1 : VS.Env → Out :=
 (seqO (ownO 2 (geA lstD (gaCons (gTold CS8 (geA F_table (gaCons (geV 1) gaNil))) gaNil)))
  (seqO (appO 2 (gTold CS8 (geA F_callers (gaCons (geV 1) (gaCons gN gaNil)))))
  (seqO (appO 2 (gTold CS8 (geA F_longest (gaCons (geV 1) (gaCons gN gaNil)))))
  (seqO (appO 2 (gTold CS8 (geA F_heavy (gaCons (geV 1) (gaCons (gI 1) gaNil)))))
  (ifO (geB (geOp cmNe (geT 2) (geOp repL (geA lstD (gaCons (gS "BadTrees") gaNil)) (gI 4))))
   (fun ρ => ofR ((gB false) ρ) .rt)
   .nx)))))
def L__law_refused_2 : VS.Env → Out :=
 (ifO (geB (geOp cmNe (gTold CS8 (geA F_longest (gaCons (geV 0) (gaCons (geV 1) gaNil)))) (gS "BadTick")))
   (fun ρ => ofR ((gB false) ρ) .rt)
   .nx)
def L__law_refused_3 : VS.Env → Out :=
 (ifO (geB (geOp cmNe (gTold CS8 (geA F_callers (gaCons (geV 0) (gaCons (geV 1) gaNil)))) (gS "BadName")))
   (fun ρ => ofR ((gB false) ρ) .rt)
   .nx)
structure S__law_refused where
  (some_ bad said : Sl)
def S__law_refused.e (s : S__law_refused) : VS.Env := [s.some_, s.bad, s.said]
@[simp] theorem S__law_refused.g0 (s : S__law_refused) : s.e[0]? = Option.some s.some_ := rfl
@[simp] theorem S__law_refused.w0 (s : S__law_refused) (u : Sl) : List.set s.e 0 u = S__law_refused.e { s with some_ := u } := rfl
@[simp] theorem S__law_refused.g1 (s : S__law_refused) : s.e[1]? = Option.some s.bad := rfl
@[simp] theorem S__law_refused.w1 (s : S__law_refused) (u : Sl) : List.set s.e 1 u = S__law_refused.e { s with bad := u } := rfl
@[simp] theorem S__law_refused.g2 (s : S__law_refused) : s.e[2]? = Option.some s.said := rfl
@[simp] theorem S__law_refused.w2 (s : S__law_refused) (u : Sl) : List.set s.e 2 u = S__law_refused.e { s with said := u } := rfl
theorem S__law_refused.st (d0 : D) : startE 3 [d0] = S__law_refused.e { some_ := .im d0, bad := .un, said := .un } := rfl
def b__law_refused : VS.Env → Out :=
 (seqO (forO (.nm 1) (gSeq itL (geA lstD (gaCons gN (gaCons (geA lstD gaNil) (gaCons (geOp disp1 (gI 0) (geA tupD gaNil)) gaNil)))))
  L__law_refused_1)
 (seqO (forO (.nm 1) (gSeq itL (geA lstD (gaCons (ge1 (subI (.int 0)) (gI 1)) (gaCons (gI 51) (gaCons gN (gaCons (gB true) gaNil))))))
  L__law_refused_2)
 (seqO (forO (.nm 1) (gSeq itL (geA lstD (gaCons (ge1 (subI (.int 0)) (gI 1)) (gaCons (gS "") (gaCons gN (gaCons (gS "A") (gaCons (gS "abcdefghi") gaNil)))))))
  L__law_refused_3)
 (fun ρ => ofR ((gB true) ρ) .rt))))
def F__law_refused : List D → R D := runDef 3 b__law_refused
def L__law_callers_1 : VS.Env → Out :=
 (ifO (geB (geOp cmEq (geOp ixT (geV 3) (gI 0)) (geV 1)))
   (seqO (fun ρ => ofR ((geIf (geB (geOp cmNe (geV 4) (geA tupD gaNil))) (geOp ixT (geV 4) (ge1 (subI (.int 0)) (gI 1))) (gS "")) ρ) fun d => .nx (ρ.set 5 (.im d)))
   (putO 2 (geOp catL (geGet (geT 2) (geV 5) (geA lstD gaNil)) (geA lstD (gaCons (geOp subI (geOp ixT (geV 3) (gI 2)) (geOp ixT (geV 3) (gI 1))) gaNil))) (geV 5)))
   .nx)
def C__law_callers_1 : VS.Env → R D :=
 (compE (.nm 5) [5] (gSeq itL (geA sortDct (gaCons (geT 2) gaNil))) (fun _ => .ok true) (geA tupD (gaCons (geV 5) (gaCons (geA lenD (gaCons (geOp ixD (geT 2) (geV 5)) gaNil)) (gaCons (geA sumD (gaCons (geOp ixD (geT 2) (geV 5)) gaNil)) gaNil)))))
structure S__law_callers where
  (rows name_here marks one above caller : Sl)
def S__law_callers.e (s : S__law_callers) : VS.Env := [s.rows, s.name_here, s.marks, s.one, s.above, s.caller]
@[simp] theorem S__law_callers.g0 (s : S__law_callers) : s.e[0]? = Option.some s.rows := rfl
@[simp] theorem S__law_callers.w0 (s : S__law_callers) (u : Sl) : List.set s.e 0 u = S__law_callers.e { s with rows := u } := rfl
@[simp] theorem S__law_callers.g1 (s : S__law_callers) : s.e[1]? = Option.some s.name_here := rfl
@[simp] theorem S__law_callers.w1 (s : S__law_callers) (u : Sl) : List.set s.e 1 u = S__law_callers.e { s with name_here := u } := rfl
@[simp] theorem S__law_callers.g2 (s : S__law_callers) : s.e[2]? = Option.some s.marks := rfl
@[simp] theorem S__law_callers.w2 (s : S__law_callers) (u : Sl) : List.set s.e 2 u = S__law_callers.e { s with marks := u } := rfl
@[simp] theorem S__law_callers.g3 (s : S__law_callers) : s.e[3]? = Option.some s.one := rfl
@[simp] theorem S__law_callers.w3 (s : S__law_callers) (u : Sl) : List.set s.e 3 u = S__law_callers.e { s with one := u } := rfl
@[simp] theorem S__law_callers.g4 (s : S__law_callers) : s.e[4]? = Option.some s.above := rfl
@[simp] theorem S__law_callers.w4 (s : S__law_callers) (u : Sl) : List.set s.e 4 u = S__law_callers.e { s with above := u } := rfl
@[simp] theorem S__law_callers.g5 (s : S__law_callers) : s.e[5]? = Option.some s.caller := rfl
@[simp] theorem S__law_callers.w5 (s : S__law_callers) (u : Sl) : List.set s.e 5 u = S__law_callers.e { s with caller := u } := rfl
theorem S__law_callers.st (d0 d1 : D) : startE 6 [d0, d1] = S__law_callers.e { rows := .im d0, name_here := .im d1, marks := .un, one := .un, above := .un, caller := .un } := rfl
def b__law_callers : VS.Env → Out :=
 (seqO (ownO 2 (fun _ => .ok (.dK [])))
 (seqO (forO (.tp (.cons (.nm 3) (.cons (.nm 4) .nil))) (gSeq itL (geV 0))
  L__law_callers_1)
 (fun ρ => ofR (C__law_callers_1 ρ) .rt)))
def F__law_callers : List D → R D := runDef 6 b__law_callers
def C__law_heavy_1 : VS.Env → R D :=
 (compE (.tp (.cons (.nm 3) (.cons (.nm 4) .nil))) [3, 4] (gSeqA enmT (gaCons (geV 0) gaNil)) (fun _ => .ok true) (geA tupD (gaCons (geOp subI (geOp ixT (geV 4) (gI 1)) (geOp ixT (geV 4) (gI 2))) (gaCons (geV 3) gaNil))))
def L__law_heavy_1 : VS.Env → Out :=
 (seqO (fun ρ => ofR ((geOp ixT (geOp ixL (geA sortD (gaCons C__law_heavy_1 gaNil)) (gI 0)) (gI 1)) ρ) fun d => .nx (ρ.set 2 (.im d)))
  (parO2 1 0 .c .c (geOp catL (geV 1) (geA lstD (gaCons (geOp ixT (geOp ixT (geV 0) (geV 2)) (gI 0)) gaNil))) (geOp ixT (geOp ixT (geV 0) (geV 2)) (gI 3))))
structure S__law_heavy where
  (calls_here path best spot one : Sl)
def S__law_heavy.e (s : S__law_heavy) : VS.Env := [s.calls_here, s.path, s.best, s.spot, s.one]
@[simp] theorem S__law_heavy.g0 (s : S__law_heavy) : s.e[0]? = Option.some s.calls_here := rfl
@[simp] theorem S__law_heavy.w0 (s : S__law_heavy) (u : Sl) : List.set s.e 0 u = S__law_heavy.e { s with calls_here := u } := rfl
@[simp] theorem S__law_heavy.g1 (s : S__law_heavy) : s.e[1]? = Option.some s.path := rfl
@[simp] theorem S__law_heavy.w1 (s : S__law_heavy) (u : Sl) : List.set s.e 1 u = S__law_heavy.e { s with path := u } := rfl
@[simp] theorem S__law_heavy.g2 (s : S__law_heavy) : s.e[2]? = Option.some s.best := rfl
@[simp] theorem S__law_heavy.w2 (s : S__law_heavy) (u : Sl) : List.set s.e 2 u = S__law_heavy.e { s with best := u } := rfl
@[simp] theorem S__law_heavy.g3 (s : S__law_heavy) : s.e[3]? = Option.some s.spot := rfl
@[simp] theorem S__law_heavy.w3 (s : S__law_heavy) (u : Sl) : List.set s.e 3 u = S__law_heavy.e { s with spot := u } := rfl
@[simp] theorem S__law_heavy.g4 (s : S__law_heavy) : s.e[4]? = Option.some s.one := rfl
@[simp] theorem S__law_heavy.w4 (s : S__law_heavy) (u : Sl) : List.set s.e 4 u = S__law_heavy.e { s with one := u } := rfl
theorem S__law_heavy.st (d0 : D) : startE 5 [d0] = S__law_heavy.e { calls_here := .im d0, path := .un, best := .un, spot := .un, one := .un } := rfl
def b__law_heavy : VS.Env → Out :=
 (seqO (fun ρ => ofR ((geA lstD gaNil) ρ) fun d => .nx (ρ.set 1 (.im d)))
 (seqO (runWhile (geB (geOp cmNe (geV 0) (geA tupD gaNil)))
  L__law_heavy_1 4096)
 (fun ρ => ofR ((geV 1) ρ) .rt)))
def F__law_heavy : List D → R D := runDef 5 b__law_heavy
def C__law_order_1 : VS.Env → R D :=
 (compE (.tp (.cons (.nm 5) (.cons (.nm 6) .nil))) [5, 6] (gSeq itL (geA (F__law_flat 8) (gaCons (geOp ixD (geV 0) (geV 1)) (gaCons (geA tupD gaNil) gaNil)))) (fun _ => .ok true) (geA tupD (gaCons (geOp subI (geOp ixT (geV 5) (gI 2)) (geOp ixT (geV 5) (gI 1))) (gaCons (geV 1) (gaCons (geOp ixT (geV 5) (gI 1)) (gaCons (geOp ixT (geV 5) (gI 0)) gaNil))))))
def L__law_order_1 : VS.Env → Out :=
 (fun ρ => ofR ((geOp catL (geV 3) C__law_order_1) ρ) fun d => .nx (ρ.set 3 (.im d)))
def C__law_order_2 : VS.Env → R D :=
 (compE (.nm 5) [5] (gSeq itL (geV 3)) (fun _ => .ok true) (geOp ixT (geV 5) (gI 0)))
def C__law_order_3 : VS.Env → R D :=
 (compE (.nm 5) [5] (gSeq itL (geV 3)) (geB (geOp cmEq (geOp ixT (geV 5) (gI 0)) (geV 2))) (geV 5))
def L__law_order_2 : VS.Env → Out :=
 (fun ρ => ofR ((geOp catL (geV 4) C__law_order_3) ρ) fun d => .nx (ρ.set 4 (.im d)))
structure S__law_order where
  (some_ hand time found order_here one above : Sl)
def S__law_order.e (s : S__law_order) : VS.Env := [s.some_, s.hand, s.time, s.found, s.order_here, s.one, s.above]
@[simp] theorem S__law_order.g0 (s : S__law_order) : s.e[0]? = Option.some s.some_ := rfl
@[simp] theorem S__law_order.w0 (s : S__law_order) (u : Sl) : List.set s.e 0 u = S__law_order.e { s with some_ := u } := rfl
@[simp] theorem S__law_order.g1 (s : S__law_order) : s.e[1]? = Option.some s.hand := rfl
@[simp] theorem S__law_order.w1 (s : S__law_order) (u : Sl) : List.set s.e 1 u = S__law_order.e { s with hand := u } := rfl
@[simp] theorem S__law_order.g2 (s : S__law_order) : s.e[2]? = Option.some s.time := rfl
@[simp] theorem S__law_order.w2 (s : S__law_order) (u : Sl) : List.set s.e 2 u = S__law_order.e { s with time := u } := rfl
@[simp] theorem S__law_order.g3 (s : S__law_order) : s.e[3]? = Option.some s.found := rfl
@[simp] theorem S__law_order.w3 (s : S__law_order) (u : Sl) : List.set s.e 3 u = S__law_order.e { s with found := u } := rfl
@[simp] theorem S__law_order.g4 (s : S__law_order) : s.e[4]? = Option.some s.order_here := rfl
@[simp] theorem S__law_order.w4 (s : S__law_order) (u : Sl) : List.set s.e 4 u = S__law_order.e { s with order_here := u } := rfl
@[simp] theorem S__law_order.g5 (s : S__law_order) : s.e[5]? = Option.some s.one := rfl
@[simp] theorem S__law_order.w5 (s : S__law_order) (u : Sl) : List.set s.e 5 u = S__law_order.e { s with one := u } := rfl
@[simp] theorem S__law_order.g6 (s : S__law_order) : s.e[6]? = Option.some s.above := rfl
@[simp] theorem S__law_order.w6 (s : S__law_order) (u : Sl) : List.set s.e 6 u = S__law_order.e { s with above := u } := rfl
theorem S__law_order.st (d0 : D) : startE 7 [d0] = S__law_order.e { some_ := .im d0, hand := .un, time := .un, found := .un, order_here := .un, one := .un, above := .un } := rfl
def b__law_order : VS.Env → Out :=
 (seqO (parO2 3 4 .c .c (geA lstD gaNil) (geA lstD gaNil))
 (seqO (forO (.nm 1) (gSeq itL (geA sortDct (gaCons (geV 0) gaNil)))
  L__law_order_1)
 (seqO (forO (.nm 2) (gSeq itL (ge1 revL (ge1 sortSet C__law_order_2)))
  L__law_order_2)
 (fun ρ => ofR ((geV 4) ρ) .rt))))
def F__law_order : List D → R D := runDef 7 b__law_order
def C_law_1 : VS.Env → R D :=
 (compE (.nm 10) [10] (gSeq itT (geOp ixD (geV 3) (geV 5))) (fun _ => .ok true) (geOp subI (geOp ixT (geV 10) (gI 2)) (geOp ixT (geV 10) (gI 1))))
def L_law_1 : VS.Env → Out :=
 (fun ρ => ofR ((geOp addI (geV 9) (geA sumD (gaCons C_law_1 gaNil))) ρ) fun d => .nx (ρ.set 9 (.im d)))
def C_law_2 : VS.Env → R D :=
 (compE (.tp (.cons (.nm 6) (.cons (.nm 11) (.cons (.nm 12) (.cons (.nm 13) .nil))))) [6, 11, 12, 13] (gSeq itL (geV 4)) (fun _ => .ok true) (geV 13))
def L_law_2 : VS.Env → Out :=
 (ifO (geB (geOp cmNe (geA F_callers (gaCons (geV 3) (gaCons (geV 6) gaNil))) (geA F__law_callers (gaCons (geV 8) (gaCons (geV 6) gaNil)))))
    (fun ρ => ofR ((gB false) ρ) .rt)
    .nx)
def L_law_3 : VS.Env → Out :=
 (ifO (geB (geOp cmNe (geA F_longest (gaCons (geV 3) (gaCons (geV 7) gaNil))) (geSl slL (geA F__law_order (gaCons (geV 3) gaNil)) goNone (goSome (geV 7)))))
    (fun ρ => ofR ((gB false) ρ) .rt)
    .nx)
def L_law_4 : VS.Env → Out :=
 (ifO (geB (geOp cmNe (geA F_heavy (gaCons (geV 3) (gaCons (geV 5) gaNil))) (geA F__law_heavy (gaCons (geGet (geV 3) (geV 5) (geA tupD gaNil)) gaNil))))
    (fun ρ => ofR ((gB false) ρ) .rt)
    .nx)
def L_law_5 : VS.Env → Out :=
 (seqO (fun ρ => ofR ((geA F__law_drawn (gaCons (geA F__law_cell (gaCons (geV 0) (gaCons (geV 1) gaNil))) (gaCons (geV 1) gaNil))) ρ) fun d => .nx (ρ.set 2 (.im d)))
  (seqO (fun ρ => ofR ((geA F__law_trees (gaCons (geOp fdivI (geV 2) (gI 64)) gaNil)) ρ) fun d => .nx (ρ.set 3 (.im d)))
  (seqO (parO2 8 9 .c .c (geA F__law_all (gaCons (geV 3) gaNil)) (gI 0))
  (seqO (fun ρ => ofR ((geA F__law_table (gaCons (geV 8) gaNil)) ρ) fun d => .nx (ρ.set 4 (.im d)))
  (seqO (ifO (geB (geOp cmNe (geA F_table (gaCons (geV 3) gaNil)) (geV 4)))
   (fun ρ => ofR ((gB false) ρ) .rt)
   .nx)
  (seqO (forDO (.nm 5) 3
   L_law_1)
  (seqO (ifO (geB (geOp cmNe (geA sumD (gaCons C_law_2 gaNil)) (geV 9)))
   (fun ρ => ofR ((gB false) ρ) .rt)
   .nx)
  (seqO (forO (.nm 6) (gSeq itL (geA lstD (gaCons (gS "a") (gaCons (gS "b") (gaCons (gS "work") (gaCons (gS "zzz") gaNil))))))
   L_law_2)
  (seqO (forO (.nm 7) (gSeq itL (geA lstD (gaCons (gI 0) (gaCons (gI 1) (gaCons (geOp modI (geV 2) (gI 51)) (gaCons (gI 50) gaNil))))))
   L_law_3)
  (seqO (forO (.nm 5) (gSeq itL (geA lstD (gaCons (gI 1) (gaCons (gI 2) (gaCons (gI 3) (gaCons (gI 4) (gaCons (gI 9) gaNil)))))))
   L_law_4)
  (ifO (gNot (geB (geA F__law_refused (gaCons (geV 3) gaNil))))
   (fun ρ => ofR ((gB false) ρ) .rt)
   .nx)))))))))))
structure S_law where
  (script k more some_ due hand name_here most rows tops one count long time : Sl)
def S_law.e (s : S_law) : VS.Env := [s.script, s.k, s.more, s.some_, s.due, s.hand, s.name_here, s.most, s.rows, s.tops, s.one, s.count, s.long, s.time]
@[simp] theorem S_law.g0 (s : S_law) : s.e[0]? = Option.some s.script := rfl
@[simp] theorem S_law.w0 (s : S_law) (u : Sl) : List.set s.e 0 u = S_law.e { s with script := u } := rfl
@[simp] theorem S_law.g1 (s : S_law) : s.e[1]? = Option.some s.k := rfl
@[simp] theorem S_law.w1 (s : S_law) (u : Sl) : List.set s.e 1 u = S_law.e { s with k := u } := rfl
@[simp] theorem S_law.g2 (s : S_law) : s.e[2]? = Option.some s.more := rfl
@[simp] theorem S_law.w2 (s : S_law) (u : Sl) : List.set s.e 2 u = S_law.e { s with more := u } := rfl
@[simp] theorem S_law.g3 (s : S_law) : s.e[3]? = Option.some s.some_ := rfl
@[simp] theorem S_law.w3 (s : S_law) (u : Sl) : List.set s.e 3 u = S_law.e { s with some_ := u } := rfl
@[simp] theorem S_law.g4 (s : S_law) : s.e[4]? = Option.some s.due := rfl
@[simp] theorem S_law.w4 (s : S_law) (u : Sl) : List.set s.e 4 u = S_law.e { s with due := u } := rfl
@[simp] theorem S_law.g5 (s : S_law) : s.e[5]? = Option.some s.hand := rfl
@[simp] theorem S_law.w5 (s : S_law) (u : Sl) : List.set s.e 5 u = S_law.e { s with hand := u } := rfl
@[simp] theorem S_law.g6 (s : S_law) : s.e[6]? = Option.some s.name_here := rfl
@[simp] theorem S_law.w6 (s : S_law) (u : Sl) : List.set s.e 6 u = S_law.e { s with name_here := u } := rfl
@[simp] theorem S_law.g7 (s : S_law) : s.e[7]? = Option.some s.most := rfl
@[simp] theorem S_law.w7 (s : S_law) (u : Sl) : List.set s.e 7 u = S_law.e { s with most := u } := rfl
@[simp] theorem S_law.g8 (s : S_law) : s.e[8]? = Option.some s.rows := rfl
@[simp] theorem S_law.w8 (s : S_law) (u : Sl) : List.set s.e 8 u = S_law.e { s with rows := u } := rfl
@[simp] theorem S_law.g9 (s : S_law) : s.e[9]? = Option.some s.tops := rfl
@[simp] theorem S_law.w9 (s : S_law) (u : Sl) : List.set s.e 9 u = S_law.e { s with tops := u } := rfl
@[simp] theorem S_law.g10 (s : S_law) : s.e[10]? = Option.some s.one := rfl
@[simp] theorem S_law.w10 (s : S_law) (u : Sl) : List.set s.e 10 u = S_law.e { s with one := u } := rfl
@[simp] theorem S_law.g11 (s : S_law) : s.e[11]? = Option.some s.count := rfl
@[simp] theorem S_law.w11 (s : S_law) (u : Sl) : List.set s.e 11 u = S_law.e { s with count := u } := rfl
@[simp] theorem S_law.g12 (s : S_law) : s.e[12]? = Option.some s.long := rfl
@[simp] theorem S_law.w12 (s : S_law) (u : Sl) : List.set s.e 12 u = S_law.e { s with long := u } := rfl
@[simp] theorem S_law.g13 (s : S_law) : s.e[13]? = Option.some s.time := rfl
@[simp] theorem S_law.w13 (s : S_law) (u : Sl) : List.set s.e 13 u = S_law.e { s with time := u } := rfl
theorem S_law.st (d0 : D) : startE 14 [d0] = S_law.e { script := .im d0, k := .un, more := .un, some_ := .un, due := .un, hand := .un, name_here := .un, most := .un, rows := .un, tops := .un, one := .un, count := .un, long := .un, time := .un } := rfl
def b_law : VS.Env → Out :=
 (seqO (forO (.nm 1) (gSeqA rng1 (gaCons (geA max2 (gaCons (gI 1) (gaCons (geA min2 (gaCons (gI 3) (gaCons (geA lenD (gaCons (geV 0) gaNil)) gaNil))) gaNil))) gaNil))
  L_law_5)
 (fun ρ => ofR ((gB true) ρ) .rt))
def F_law : List D → R D := runDef 14 b_law
end
end VP

set_option Elab.async false
set_option linter.all false
set_option maxRecDepth 100000
set_option maxHeartbeats 4000000
namespace K30
open PySem PySem.Spec PyProof.Rows L2 LamX VS VP L2H Evl
def top (i : Nat) : Stmt := PySem.Challenge.pw_calltimes_k30_whole_tables.main.body.getD i (.Pass ⟨0, 0, 0, 0⟩)
structure Fx (K : PySem.W.Frag) (mg : Str → Option Value) (cl : Str → Addr) where
  f__law_drawn : Addr
  d__law_drawn : FuncData
  p__law_drawn : FnP K "_law_drawn" (top 33) f__law_drawn d__law_drawn
  m__law_drawn : mg "_law_drawn" = some (.ref f__law_drawn)
  f__law_name : Addr
  d__law_name : FuncData
  p__law_name : FnP K "_law_name" (top 36) f__law_name d__law_name
  m__law_name : mg "_law_name" = some (.ref f__law_name)
  f__law_calls : Addr
  d__law_calls : FuncData
  p__law_calls : FnP K "_law_calls" (top 37) f__law_calls d__law_calls
  m__law_calls : mg "_law_calls" = some (.ref f__law_calls)
  f__law_trees : Addr
  d__law_trees : FuncData
  p__law_trees : FnP K "_law_trees" (top 38) f__law_trees d__law_trees
  m__law_trees : mg "_law_trees" = some (.ref f__law_trees)
  f__law_own : Addr
  d__law_own : FuncData
  p__law_own : FnP K "_law_own" (top 41) f__law_own d__law_own
  m__law_own : mg "_law_own" = some (.ref f__law_own)
  f__law_table : Addr
  d__law_table : FuncData
  p__law_table : FnP K "_law_table" (top 42) f__law_table d__law_table
  m__law_table : mg "_law_table" = some (.ref f__law_table)
  f__law_cell : Addr
  d__law_cell : FuncData
  p__law_cell : FnP K "_law_cell" (top 32) f__law_cell d__law_cell
  m__law_cell : mg "_law_cell" = some (.ref f__law_cell)
  f__law_flat : Addr
  d__law_flat : FuncData
  p__law_flat : FnP K "_law_flat" (top 39) f__law_flat d__law_flat
  m__law_flat : mg "_law_flat" = some (.ref f__law_flat)
  f__law_all : Addr
  d__law_all : FuncData
  p__law_all : FnP K "_law_all" (top 40) f__law_all d__law_all
  m__law_all : mg "_law_all" = some (.ref f__law_all)
  f_is_name : Addr
  d_is_name : FuncData
  p_is_name : FnP K "is_name" (top 16) f_is_name d_is_name
  m_is_name : mg "is_name" = some (.ref f_is_name)
  f_is_count : Addr
  d_is_count : FuncData
  p_is_count : FnP K "is_count" (top 15) f_is_count d_is_count
  m_is_count : mg "is_count" = some (.ref f_is_count)
  f_are_calls : Addr
  d_are_calls : FuncData
  p_are_calls : FnP K "are_calls" (top 18) f_are_calls d_are_calls
  m_are_calls : mg "are_calls" = some (.ref f_are_calls)
  f_need_trees : Addr
  d_need_trees : FuncData
  p_need_trees : FnP K "need_trees" (top 19) f_need_trees d_need_trees
  m_need_trees : mg "need_trees" = some (.ref f_need_trees)
  f_all_calls : Addr
  d_all_calls : FuncData
  p_all_calls : FnP K "all_calls" (top 22) f_all_calls d_all_calls
  m_all_calls : mg "all_calls" = some (.ref f_all_calls)
  f_every : Addr
  d_every : FuncData
  p_every : FnP K "every" (top 26) f_every d_every
  m_every : mg "every" = some (.ref f_every)
  f_whole : Addr
  d_whole : FuncData
  p_whole : FnP K "whole" (top 20) f_whole d_whole
  m_whole : mg "whole" = some (.ref f_whole)
  f_outer : Addr
  d_outer : FuncData
  p_outer : FnP K "outer" (top 25) f_outer d_outer
  m_outer : mg "outer" = some (.ref f_outer)
  f_own : Addr
  d_own : FuncData
  p_own : FnP K "own" (top 21) f_own d_own
  m_own : mg "own" = some (.ref f_own)
  f_table : Addr
  d_table : FuncData
  p_table : FnP K "table" (top 27) f_table d_table
  m_table : mg "table" = some (.ref f_table)
  f__law_word : Addr
  d__law_word : FuncData
  p__law_word : FnP K "_law_word" (top 34) f__law_word d__law_word
  m__law_word : mg "_law_word" = some (.ref f__law_word)
  f__law_told : Addr
  d__law_told : FuncData
  p__law_told : FnP K "_law_told" (top 35) f__law_told d__law_told
  m__law_told : mg "_law_told" = some (.ref f__law_told)
  f_callers : Addr
  d_callers : FuncData
  p_callers : FnP K "callers" (top 29) f_callers d_callers
  m_callers : mg "callers" = some (.ref f_callers)
  f_longest : Addr
  d_longest : FuncData
  p_longest : FnP K "longest" (top 28) f_longest d_longest
  m_longest : mg "longest" = some (.ref f_longest)
  f_heavy : Addr
  d_heavy : FuncData
  p_heavy : FnP K "heavy" (top 30) f_heavy d_heavy
  m_heavy : mg "heavy" = some (.ref f_heavy)
  f__law_refused : Addr
  d__law_refused : FuncData
  p__law_refused : FnP K "_law_refused" (top 46) f__law_refused d__law_refused
  m__law_refused : mg "_law_refused" = some (.ref f__law_refused)
  f__law_callers : Addr
  d__law_callers : FuncData
  p__law_callers : FnP K "_law_callers" (top 43) f__law_callers d__law_callers
  m__law_callers : mg "_law_callers" = some (.ref f__law_callers)
  f__law_heavy : Addr
  d__law_heavy : FuncData
  p__law_heavy : FnP K "_law_heavy" (top 45) f__law_heavy d__law_heavy
  m__law_heavy : mg "_law_heavy" = some (.ref f__law_heavy)
  f__law_order : Addr
  d__law_order : FuncData
  p__law_order : FnP K "_law_order" (top 44) f__law_order d__law_order
  m__law_order : mg "_law_order" = some (.ref f__law_order)
  f_law : Addr
  d_law : FuncData
  p_law : FnP K "law" (top 47) f_law d_law
  m_law : mg "law" = some (.ref f_law)
  e_BadName : ExF K mg cl "BadName"
  e_BadTick : ExF K mg cl "BadTick"
  e_BadTrees : ExF K mg cl "BadTrees"
  n_ValueError : mg "ValueError" = none
  n_all : mg "all" = none
  n_bool : mg "bool" = none
  n_dict : mg "dict" = none
  n_enumerate : mg "enumerate" = none
  n_int : mg "int" = none
  n_isinstance : mg "isinstance" = none
  n_len : mg "len" = none
  n_max : mg "max" = none
  n_min : mg "min" = none
  n_range : mg "range" = none
  n_set : mg "set" = none
  n_sorted : mg "sorted" = none
  n_str : mg "str" = none
  n_sum : mg "sum" = none
  n_tuple : mg "tuple" = none
  c_MOST_TICK : ∃ t, mg "MOST_TICK" = some (.int 1000000 t)
  c_MOST_HAND : ∃ t, mg "MOST_HAND" = some (.int 4 t)
  c_MOST_NAME : ∃ t, mg "MOST_NAME" = some (.int 8 t)
  c_SMALL : ∃ t, mg "SMALL" = some (.str "abcdefghijklmnopqrstuvwxyz" t)
  c_MOST_ASKED : ∃ t, mg "MOST_ASKED" = some (.int 50 t)
  wf : ∀ c ∈ CS8, WF K cl CS8 c ∧ PySem.W.exmOne K (.ref (cl c)) (.ref (cl "CallError")) = some true
  g_cs : ∀ x ∈ CS8, mg x = some (.ref (cl x))
  g_ce : mg "CallError" = some (.ref (cl "CallError"))
structure Tx {K : PySem.W.Frag} {mg : Str → Option Value} {cl : Str → Addr} (T : List (Addr × Str)) (base : Heap) (fx : Fx K mg cl) : Prop where
  l_longest : LamT T base mg fx.d_longest "longest.<locals>.<lambda>"
  l__law_refused : LamT T base mg fx.d__law_refused "_law_refused.<locals>.<lambda>"
section
variable {w : World} {K : PySem.W.Frag} {mg : Str → Option Value} {base : Heap} {T : List (Addr × Str)} {cl : Str → Addr} {P : Program}
noncomputable section
theorem bi__law_drawn (fx : Fx K mg cl) : Binds K fx.d__law_drawn ["_law_cell_here", "_law_k"] [] := fx.p__law_drawn.bindsN fun _ _ _ _ _ _ us hl => match us, hl with | [_, _], _ => rfl
theorem ok__law_drawn (fx : Fx K mg cl) : FnOk P w K mg base (L2N.CX P w) 1 fx.f__law_drawn fx.d__law_drawn ["_law_cell_here", "_law_k"] (spD K T cl 2 F__law_drawn) :=
  def_okD (N := ["_law_cell_here", "_law_k", "_law_more"]) (k := 0) fx.p__law_drawn ⟨rfl, rfl, rfl, by decide +kernel, rfl, by decide +kernel, by decide +kernel⟩ (by decide) fun cdv A outer s H E hr => by
    have u2 := room2 hr
    have u1 := room1 hr
    unfold b__law_drawn
    exact (denb_cons (ss (modi (addi (muli v dI) (muli (addi v dI) dI)) dI))
 (denb_cons (ss (modi (muli v v) dI))
 (denb_cons (ss (muli (muli (addi (modi v dI) dI) (addi (fdivi v dI) dI)) v))
 (denb_one (dens_ret (modi v dI))))))
theorem bi__law_name (fx : Fx K mg cl) : Binds K fx.d__law_name ["_law_more"] [] := fx.p__law_name.bindsN fun _ _ _ _ _ _ us hl => match us, hl with | [_], _ => rfl
theorem ok__law_name (fx : Fx K mg cl) : FnOk P w K mg base (L2N.CX P w) 1 fx.f__law_name fx.d__law_name ["_law_more"] (spD K T cl 1 F__law_name) :=
  def_okD (N := ["_law_more"]) (k := 0) fx.p__law_name ⟨rfl, rfl, rfl, by decide +kernel, rfl, by decide +kernel, by decide +kernel⟩ (by decide) fun cdv A outer s H E hr => by
    have u2 := room2 hr
    have u1 := room1 hr
    unfold b__law_name
    exact (denb_one (dens_ret (ixl (den_lst (a1 dS (a1 dS (a1 dS (a1 dS (a1 dS (a1 dS a0))))))) (modi (fdivi v dI) dI))))
theorem bi__law_calls (fx : Fx K mg cl) : Binds K fx.d__law_calls ["_law_more", "_law_low", "_law_high", "_law_deep"] [] := fx.p__law_calls.bindsN fun _ _ _ _ _ _ us hl => match us, hl with | [_, _, _, _], _ => rfl
theorem ok__law_calls (fx : Fx K mg cl) : ∀ j, FnOk P w K mg base (L2N.CX P w) (2 + j) fx.f__law_calls fx.d__law_calls ["_law_more", "_law_low", "_law_high", "_law_deep"] (spD K T cl 4 (F__law_calls j))
  | 0 => def_no (k := 1) (N := ["_law_more", "_law_low", "_law_high", "_law_deep", "_law_j", "_law_found", "_law_here", "_law_one", "_law_first", "_law_last"]) fx.p__law_calls ⟨rfl, rfl, rfl, by decide +kernel, rfl, by decide +kernel, by decide +kernel⟩
  | j + 1 => def_okD (N := ["_law_more", "_law_low", "_law_high", "_law_deep", "_law_j", "_law_found", "_law_here", "_law_one", "_law_first", "_law_last"]) (k := 2 + j) fx.p__law_calls ⟨rfl, rfl, rfl, by decide +kernel, rfl, by decide +kernel, by decide +kernel⟩ (by decide) fun cdv A outer s H E hr => by
    have u2 := room2 hr
    have u1 := room1 hr
    have okS := ok__law_calls fx j
    unfold b__law_calls
    exact (denb_cons (sp2 (den_lst a0) v)
 (denb_cons (sfor body_own (r1 (a1 (den_if (tgti v dI) (modi v dI) dI) a0) fx.n_range) tn
  (denb_cons (ss (cf ((ok__law_drawn fx).mono (k := (2 + j)) (by omega)) fx.m__law_drawn fx.p__law_drawn.kp (bi__law_drawn fx) (a1 v (a1 v a0)) (l1 (l1 l0)) (hx := by exact body_pass)))
  (denb_cons (ss (addi v (modi (fdivi v dI) (ixl (den_lst (a1 dI (a1 dI (a1 dI a0)))) (modi v dI)))))
  (denb_cons (ss (addi v (modi (fdivi v dI) (ixl (den_lst (a1 dI (a1 dI (a1 dI (a1 dI a0))))) (modi (fdivi v dI) dI)))))
  (denb_one (dens_if (tlei v v)
   (denb_cons (sapp (den_tup (a1 (cf ((ok__law_name fx).mono (k := (2 + j)) (by omega)) fx.m__law_name fx.p__law_name.kp (bi__law_name fx) (a1 (fdivi v dI) a0) (l1 l0) (hx := by exact body_pass)) (a1 v (a1 v (a1 (cf (okS) fx.m__law_calls fx.p__law_calls.kp (bi__law_calls fx) (a1 (cf ((ok__law_drawn fx).mono (k := (2 + j)) (by omega)) fx.m__law_drawn fx.p__law_drawn.kp (bi__law_drawn fx) (a1 v (a1 dI a0)) (l1 (l1 l0)) (hx := by exact body_pass)) (a1 v (a1 v (a1 (subi v dI) a0)))) (l1 (l1 (l1 (l1 l0)))) (hx := by exact body_pass)) a0))))))
   (denb_one (ss v)))
   denb_nil))))))
 (denb_one (dens_ret (cy call_tuple_of ad_tuple (at1 vt a0) fx.n_tuple)))))
theorem bi__law_trees (fx : Fx K mg cl) : Binds K fx.d__law_trees ["_law_more"] [] := fx.p__law_trees.bindsN fun _ _ _ _ _ _ us hl => match us, hl with | [_], _ => rfl
theorem ok__law_trees (fx : Fx K mg cl) : FnOk P w K mg base (L2N.CX P w) 11 fx.f__law_trees fx.d__law_trees ["_law_more"] (spD K T cl 1 F__law_trees) :=
  def_okD (N := ["_law_more", "_law_found", "_law_hand", "_law_here", "_law_calls_here"]) (k := 10) fx.p__law_trees ⟨rfl, rfl, rfl, by decide +kernel, rfl, by decide +kernel, by decide +kernel⟩ (by decide) fun cdv A outer s H E hr => by
    have u2 := room2 hr
    have u1 := room1 hr
    unfold b__law_trees
    exact (denb_cons (so den_newK)
 (denb_cons (sfor body_own (r2 (a1 dI (a1 dI a0)) fx.n_range) tn
  (denb_cons (ss (cf ((ok__law_drawn fx).mono (k := 10) (by omega)) fx.m__law_drawn fx.p__law_drawn.kp (bi__law_drawn fx) (a1 v (a1 (addi dI v) a0)) (l1 (l1 l0)) (hx := by exact body_pass)))
  (denb_cons (ss (cf ((ok__law_calls fx 8).mono (k := 10) (by omega)) fx.m__law_calls fx.p__law_calls.kp (bi__law_calls fx) (a1 (fdivi v dI) (a1 (modi v dI) (a1 (addi dI (modi (fdivi v dI) dI)) (a1 dI a0)))) (l1 (l1 (l1 (l1 l0)))) (hx := by exact body_pass)))
  (denb_one (dens_if (DenW.t (denw_and (tnea v (den_tup a0) u2) (denw_one (tgti (modi v dI) dI))))
   (denb_one (sput u1 v v))
   denb_nil)))))
 (denb_one (dens_frz (dens_ret v)))))
theorem bi__law_own (fx : Fx K mg cl) : Binds K fx.d__law_own ["_law_one"] [] := fx.p__law_own.bindsN fun _ _ _ _ _ _ us hl => match us, hl with | [_], _ => rfl
theorem ok__law_own (fx : Fx K mg cl) : FnOk P w K mg base (L2N.CX P w) 1 fx.f__law_own fx.d__law_own ["_law_one"] (spD K T cl 1 F__law_own) :=
  def_okD (N := ["_law_one", "_law_inner"]) (k := 0) fx.p__law_own ⟨rfl, rfl, rfl, by decide +kernel, rfl, by decide +kernel, by decide +kernel⟩ (by decide) fun cdv A outer s H E hr => by
    have u2 := room2 hr
    have u1 := room1 hr
    unfold b__law_own
    exact (denb_one (dens_ret (subi (subi (ixt v dI) (ixt v dI)) (cb (cr_sum (by rfl)) ad_sum (at1 (Den.now (comp (deni_tup (ixt v dI)) (fun _ _ _ _ _ => tn) (fun _ _ _ _ _ => dents_nil) (fun _ _ _ _ _ => (subi (ixt v dI) (ixt v dI))) [(("_law_inner" : Str), 1)])) a0) fx.n_sum))))
theorem bi__law_table (fx : Fx K mg cl) : Binds K fx.d__law_table ["_law_rows"] [] := fx.p__law_table.bindsN fun _ _ _ _ _ _ us hl => match us, hl with | [_], _ => rfl
theorem ok__law_table (fx : Fx K mg cl) : FnOk P w K mg base (L2N.CX P w) 2 fx.f__law_table fx.d__law_table ["_law_rows"] (spD K T cl 1 F__law_table) :=
  def_okD (N := ["_law_rows", "_law_found", "_law_name_here", "_law_mine", "_law_lone", "_law_one", "_law_above"]) (k := 1) fx.p__law_table ⟨rfl, rfl, rfl, by decide +kernel, rfl, by decide +kernel, by decide +kernel⟩ (by decide) fun cdv A outer s H E hr => by
    have u2 := room2 hr
    have u1 := room1 hr
    unfold b__law_table
    exact (denb_cons (so (den_lst a0))
 (denb_cons (sfor body_own (deni_list (Den.frz (m := .f) (fun q => by cases q) (ssrt u2 (comp (deni_list v) (fun _ _ _ _ _ => (tt (t1 tn (t1 tn t0)))) (fun _ _ _ _ _ => dents_nil) (fun _ _ _ _ _ => (ixt v dI)) [(("_law_one" : Str), 5), (("_law_above" : Str), 6)]) fx.n_sorted fx.n_set))) tn
  (denb_cons (scomp (deni_list v) (fun _ _ _ _ _ => (tt (t1 tn (t1 tn t0)))) (fun _ _ _ _ _ => (dents_one (teqa (ixt v dI) v u2))) (fun _ _ _ _ _ => (den_tup (a1 v (a1 v a0)))) [(("_law_one" : Str), 5), (("_law_above" : Str), 6)])
  (denb_cons (dens_frz (scomp (deni_list v) (fun _ _ _ _ _ => (tt (t1 tn (t1 tn t0)))) (fun _ _ _ _ _ => (dents_one (tnif v v))) (fun _ _ _ _ _ => (subi (ixt v dI) (ixt v dI))) [(("_law_one" : Str), 5), (("_law_above" : Str), 6)]))
  (denb_one (sapp (den_tup (a1 v (a1 (cb call_len ad_len (at1 (Den.now v) a0) fx.n_len) (a1 (cb (cr_sum (by rfl)) ad_sum (at1 vt a0) fx.n_sum) (a1 (cb (cr_sum (by rfl)) ad_sum (at1 (Den.now (comp (deni_list v) (fun _ _ _ _ _ => (tt (t1 tn (t1 tn t0)))) (fun _ _ _ _ _ => dents_nil) (fun _ _ _ _ _ => (cf ((ok__law_own fx).mono (k := 1) (by omega)) fx.m__law_own fx.p__law_own.kp (bi__law_own fx) (a1 v a0) (l1 l0) (hx := by exact passLN))) [(("_law_one" : Str), 5), (("_law_above" : Str), 6)])) a0) fx.n_sum) a0))))))))))
 (denb_one (dens_frz (dens_ret v)))))
theorem bi__law_cell (fx : Fx K mg cl) : Binds K fx.d__law_cell ["_law_script", "_law_k"] [] := fx.p__law_cell.bindsN fun _ _ _ _ _ _ us hl => match us, hl with | [_, _], _ => rfl
theorem ok__law_cell (fx : Fx K mg cl) : FnOk P w K mg base (L2N.CX P w) 1 fx.f__law_cell fx.d__law_cell ["_law_script", "_law_k"] (spD K T cl 2 F__law_cell) :=
  def_okD (N := ["_law_script", "_law_k"]) (k := 0) fx.p__law_cell ⟨rfl, rfl, rfl, by decide +kernel, rfl, by decide +kernel, by decide +kernel⟩ (by decide) fun cdv A outer s H E hr => by
    have u2 := room2 hr
    have u1 := room1 hr
    unfold b__law_cell
    exact (denb_cons (dens_if (teqa v (den_lst a0) u2)
  (denb_one (dens_ret (muli v dI)))
  denb_nil)
 (denb_one (dens_ret (addi (ixc v (modi v (cb call_len ad_len (at1 (Den.now v) a0) fx.n_len))) (muli (fdivi v (cb call_len ad_len (at1 (Den.now v) a0) fx.n_len)) dI)))))
theorem bi__law_flat (fx : Fx K mg cl) : Binds K fx.d__law_flat ["_law_calls_here", "_law_above"] [] := fx.p__law_flat.bindsN fun _ _ _ _ _ _ us hl => match us, hl with | [_, _], _ => rfl
theorem ok__law_flat (fx : Fx K mg cl) : ∀ j, FnOk P w K mg base (L2N.CX P w) (1 + j) fx.f__law_flat fx.d__law_flat ["_law_calls_here", "_law_above"] (spD K T cl 2 (F__law_flat j))
  | 0 => def_no (k := 0) (N := ["_law_calls_here", "_law_above", "_law_found", "_law_one"]) fx.p__law_flat ⟨rfl, rfl, rfl, by decide +kernel, rfl, by decide +kernel, by decide +kernel⟩
  | j + 1 => def_okD (N := ["_law_calls_here", "_law_above", "_law_found", "_law_one"]) (k := 1 + j) fx.p__law_flat ⟨rfl, rfl, rfl, by decide +kernel, rfl, by decide +kernel, by decide +kernel⟩ (by decide) fun cdv A outer s H E hr => by
    have u2 := room2 hr
    have u1 := room1 hr
    have okS := ok__law_flat fx j
    unfold b__law_flat
    exact (denb_cons (so (den_lst a0))
 (denb_cons (sfor body_own (deni_tup v) tn
  (denb_cons (sapp (den_tup (a1 v (a1 v a0))))
  (denb_one (so (catl vt (cf (okS) fx.m__law_flat fx.p__law_flat.kp (bi__law_flat fx) (a1 (ixt v dI) (a1 (addt v (den_tup (a1 (ixt v dI) a0))) a0)) (l1 (l1 l0)) (hx := by exact body_pass)))))))
 (denb_one (dens_frz (dens_ret v)))))
theorem bi__law_all (fx : Fx K mg cl) : Binds K fx.d__law_all ["_law_trees_here"] [] := fx.p__law_all.bindsN fun _ _ _ _ _ _ us hl => match us, hl with | [_], _ => rfl
theorem ok__law_all (fx : Fx K mg cl) : FnOk P w K mg base (L2N.CX P w) 10 fx.f__law_all fx.d__law_all ["_law_trees_here"] (spD K T cl 1 F__law_all) :=
  def_okD (N := ["_law_trees_here", "_law_found", "_law_hand"]) (k := 9) fx.p__law_all ⟨rfl, rfl, rfl, by decide +kernel, rfl, by decide +kernel, by decide +kernel⟩ (by decide) fun cdv A outer s H E hr => by
    have u2 := room2 hr
    have u1 := room1 hr
    unfold b__law_all
    exact (denb_cons (ss (Den.frz (m := .f) (fun q => by cases q) (den_lst a0)))
 (denb_cons (sfor body_own (deni_list (Den.frz (m := .f) (fun q => by cases q) (cb (cr_sortDct (by rfl)) ad_sortDct (at1 (Den.now v) a0) fx.n_sorted))) tn
  (denb_one (ss (Den.frz (m := .f) (fun q => by cases q) (catl v (cf ((ok__law_flat fx 8).mono (k := 9) (by omega)) fx.m__law_flat fx.p__law_flat.kp (bi__law_flat fx) (a1 (ixd v v u1) (a1 (den_tup a0) a0)) (l1 (l1 l0)) (hx := by exact body_pass)))))))
 (denb_one (dens_ret v))))
theorem bi_is_name (fx : Fx K mg cl) : Binds K fx.d_is_name ["thing"] [] := fx.p_is_name.bindsN fun _ _ _ _ _ _ us hl => match us, hl with | [_], _ => rfl
theorem ok_is_name (fx : Fx K mg cl) : FnOk P w K mg base (L2N.CX P w) 1 fx.f_is_name fx.d_is_name ["thing"] (spD K T cl 1 F_is_name) :=
  def_okD (N := ["thing", "sign"]) (k := 0) fx.p_is_name ⟨rfl, rfl, rfl, by decide +kernel, rfl, by decide +kernel, by decide +kernel⟩ (by decide) fun cdv A outer s H E hr => by
    have u2 := room2 hr
    have u1 := room1 hr
    unfold b_is_name
    exact (denb_one (dens_ret (den_andV (fun q => by cases q) (isi (c := .str) v fx.n_isinstance fx.n_str) (den_andV (fun q => by cases q) (chle dI (cb call_len ad_len (at1 (Den.now v) a0) fx.n_len) (cI fx.c_MOST_NAME)) (den_one (cb (cr_all (by rfl)) ad_all (at1 (Den.now (comp (deni_str v) (fun _ _ _ _ _ => tn) (fun _ _ _ _ _ => dents_nil) (fun _ _ _ _ _ => (ins v (cS fx.c_SMALL))) [(("sign" : Str), 1)])) a0) fx.n_all))))))
theorem bi_is_count (fx : Fx K mg cl) : Binds K fx.d_is_count ["thing", "low", "high"] [] := fx.p_is_count.bindsN fun _ _ _ _ _ _ us hl => match us, hl with | [_, _, _], _ => rfl
theorem ok_is_count (fx : Fx K mg cl) : FnOk P w K mg base (L2N.CX P w) 1 fx.f_is_count fx.d_is_count ["thing", "low", "high"] (spD K T cl 3 F_is_count) :=
  def_okD (N := ["thing", "low", "high"]) (k := 0) fx.p_is_count ⟨rfl, rfl, rfl, by decide +kernel, rfl, by decide +kernel, by decide +kernel⟩ (by decide) fun cdv A outer s H E hr => by
    have u2 := room2 hr
    have u1 := room1 hr
    unfold b_is_count
    exact (denb_one (dens_ret (den_andV (fun q => by cases q) (isi (c := .int) v fx.n_isinstance fx.n_int) (den_andV (fun q => by cases q) (den_notV (isi (c := .bool) v fx.n_isinstance fx.n_bool)) (den_one (chle v v v))))))
theorem bi_are_calls (fx : Fx K mg cl) : Binds K fx.d_are_calls ["thing", "low", "high"] [] := fx.p_are_calls.bindsN fun _ _ _ _ _ _ us hl => match us, hl with | [_, _, _], _ => rfl
theorem ok_are_calls (fx : Fx K mg cl) : ∀ j, FnOk P w K mg base (L2N.CX P w) (2 + j) fx.f_are_calls fx.d_are_calls ["thing", "low", "high"] (spD K T cl 3 (F_are_calls j))
  | 0 => def_no (k := 1) (N := ["thing", "low", "high", "one"]) fx.p_are_calls ⟨rfl, rfl, rfl, by decide +kernel, rfl, by decide +kernel, by decide +kernel⟩
  | j + 1 => def_okD (N := ["thing", "low", "high", "one"]) (k := 2 + j) fx.p_are_calls ⟨rfl, rfl, rfl, by decide +kernel, rfl, by decide +kernel, by decide +kernel⟩ (by decide) fun cdv A outer s H E hr => by
    have u2 := room2 hr
    have u1 := room1 hr
    have okS := ok_are_calls fx j
    unfold b_are_calls
    exact (denb_cons (dens_if (dent_not (tv (isi (c := .tuple) v fx.n_isinstance fx.n_tuple)))
  (denb_one (dens_ret dB))
  denb_nil)
 (denb_cons (sfor body_own (deni_tup v) tn
  (denb_cons (dens_if (DenW.t (denw_or (dent_not (tv (isi (c := .tuple) v fx.n_isinstance fx.n_tuple))) (denw_or (tnea (cb call_len ad_len (at1 (Den.now v) a0) fx.n_len) dI u2) (denw_or (dent_not (tv (cf ((ok_is_name fx).mono (k := (2 + j)) (by omega)) fx.m_is_name fx.p_is_name.kp (bi_is_name fx) (a1 (ixt v dI) a0) (l1 l0) (hx := by exact body_pass)))) (denw_one (dent_not (tv (cf ((ok_is_count fx).mono (k := (2 + j)) (by omega)) fx.m_is_count fx.p_is_count.kp (bi_is_count fx) (a1 (ixt v dI) (a1 v (a1 v a0))) (l1 (l1 (l1 l0))) (hx := by exact body_pass)))))))))
   (denb_one (dens_ret dB))
   denb_nil)
  (denb_cons (dens_if (DenW.t (denw_or (dent_not (tv (cf ((ok_is_count fx).mono (k := (2 + j)) (by omega)) fx.m_is_count fx.p_is_count.kp (bi_is_count fx) (a1 (ixt v dI) (a1 (ixt v dI) (a1 v a0))) (l1 (l1 (l1 l0))) (hx := by exact body_pass)))) (denw_one (dent_not (tv (cf (okS) fx.m_are_calls fx.p_are_calls.kp (bi_are_calls fx) (a1 (ixt v dI) (a1 (ixt v dI) (a1 (ixt v dI) a0))) (l1 (l1 (l1 l0))) (hx := by exact body_pass)))))))
   (denb_one (dens_ret dB))
   denb_nil)
  (denb_one (ss (ixt v dI))))))
 (denb_one (dens_ret dB))))
theorem bi_need_trees (fx : Fx K mg cl) : Binds K fx.d_need_trees ["trees_here"] [] := fx.p_need_trees.bindsN fun _ _ _ _ _ _ us hl => match us, hl with | [_], _ => rfl
theorem ok_need_trees (fx : Fx K mg cl) : FnOk P w K mg base (L2N.CX P w) 11 fx.f_need_trees fx.d_need_trees ["trees_here"] (spD K T cl 1 F_need_trees) :=
  def_okD (N := ["trees_here", "hand"]) (k := 10) fx.p_need_trees ⟨rfl, rfl, rfl, by decide +kernel, rfl, by decide +kernel, by decide +kernel⟩ (by decide) fun cdv A outer s H E hr => by
    have u2 := room2 hr
    have u1 := room1 hr
    unfold b_need_trees
    exact (denb_cons (dens_if (DenW.t (denw_or (dent_not (tv (isi (c := .dict) v fx.n_isinstance fx.n_dict))) (denw_one (dent_not (tv (cb (cr_all (by rfl)) ad_all (at1 (Den.now (compd (fun _ _ _ _ _ => tn) (fun _ _ _ _ _ => dents_nil) (fun _ _ _ _ _ => (cf ((ok_is_count fx).mono (k := 10) (by omega)) fx.m_is_count fx.p_is_count.kp (bi_is_count fx) (a1 v (a1 dI (a1 (cI fx.c_MOST_HAND) a0))) (l1 (l1 (l1 l0))) (hx := by exact passLN))) [(("hand" : Str), 1)])) a0) fx.n_all))))))
  (denb_one (sraise fx.e_BadTrees body_takes))
  denb_nil)
 (denb_one (dens_if (dent_not (tv (cb (cr_all (by rfl)) ad_all (at1 (Den.now (compd (fun _ _ _ _ _ => tn) (fun _ _ _ _ _ => dents_nil) (fun _ _ _ _ _ => (cf ((ok_are_calls fx 8).mono (k := 10) (by omega)) fx.m_are_calls fx.p_are_calls.kp (bi_are_calls fx) (a1 (ixd v v u1) (a1 dI (a1 (cI fx.c_MOST_TICK) a0))) (l1 (l1 (l1 l0))) (hx := by exact passLN))) [(("hand" : Str), 1)])) a0) fx.n_all)))
  (denb_one (sraise fx.e_BadTrees body_takes))
  denb_nil)))
theorem bi_all_calls (fx : Fx K mg cl) : Binds K fx.d_all_calls ["calls"] [] := fx.p_all_calls.bindsN fun _ _ _ _ _ _ us hl => match us, hl with | [_], _ => rfl
theorem ok_all_calls (fx : Fx K mg cl) : ∀ j, FnOk P w K mg base (L2N.CX P w) (1 + j) fx.f_all_calls fx.d_all_calls ["calls"] (spD K T cl 1 (F_all_calls j))
  | 0 => def_no (k := 0) (N := ["calls", "found", "one"]) fx.p_all_calls ⟨rfl, rfl, rfl, by decide +kernel, rfl, by decide +kernel, by decide +kernel⟩
  | j + 1 => def_okD (N := ["calls", "found", "one"]) (k := 1 + j) fx.p_all_calls ⟨rfl, rfl, rfl, by decide +kernel, rfl, by decide +kernel, by decide +kernel⟩ (by decide) fun cdv A outer s H E hr => by
    have u2 := room2 hr
    have u1 := room1 hr
    have okS := ok_all_calls fx j
    unfold b_all_calls
    exact (denb_cons (so (den_lst a0))
 (denb_cons (sfor body_own (deni_tup v) tn
  (denb_cons (sapp v)
  (denb_one (sext (cf (okS) fx.m_all_calls fx.p_all_calls.kp (bi_all_calls fx) (a1 (ixt v dI) a0) (l1 l0) (hx := by exact body_pass))))))
 (denb_one (dens_frz (dens_ret v)))))
theorem bi_every (fx : Fx K mg cl) : Binds K fx.d_every ["trees_here"] [] := fx.p_every.bindsN fun _ _ _ _ _ _ us hl => match us, hl with | [_], _ => rfl
theorem ok_every (fx : Fx K mg cl) : FnOk P w K mg base (L2N.CX P w) 10 fx.f_every fx.d_every ["trees_here"] (spD K T cl 1 F_every) :=
  def_okD (N := ["trees_here", "found", "hand"]) (k := 9) fx.p_every ⟨rfl, rfl, rfl, by decide +kernel, rfl, by decide +kernel, by decide +kernel⟩ (by decide) fun cdv A outer s H E hr => by
    have u2 := room2 hr
    have u1 := room1 hr
    unfold b_every
    exact (denb_cons (so (den_lst a0))
 (denb_cons (sfor body_own (deni_list (Den.frz (m := .f) (fun q => by cases q) (cb (cr_sortDct (by rfl)) ad_sortDct (at1 (Den.now v) a0) fx.n_sorted))) tn
  (denb_one (sext (cf ((ok_all_calls fx 8).mono (k := 9) (by omega)) fx.m_all_calls fx.p_all_calls.kp (bi_all_calls fx) (a1 (ixd v v u1) a0) (l1 l0) (hx := by exact body_pass)))))
 (denb_one (dens_frz (dens_ret v)))))
theorem bi_whole (fx : Fx K mg cl) : Binds K fx.d_whole ["call"] [] := fx.p_whole.bindsN fun _ _ _ _ _ _ us hl => match us, hl with | [_], _ => rfl
theorem ok_whole (fx : Fx K mg cl) : FnOk P w K mg base (L2N.CX P w) 1 fx.f_whole fx.d_whole ["call"] (spD K T cl 1 F_whole) :=
  def_okD (N := ["call"]) (k := 0) fx.p_whole ⟨rfl, rfl, rfl, by decide +kernel, rfl, by decide +kernel, by decide +kernel⟩ (by decide) fun cdv A outer s H E hr => by
    have u2 := room2 hr
    have u1 := room1 hr
    unfold b_whole
    exact (denb_one (dens_ret (subi (ixt v dI) (ixt v dI))))
theorem bi_outer (fx : Fx K mg cl) : Binds K fx.d_outer ["calls", "around"] [] := fx.p_outer.bindsN fun _ _ _ _ _ _ us hl => match us, hl with | [_, _], _ => rfl
theorem ok_outer (fx : Fx K mg cl) : ∀ j, FnOk P w K mg base (L2N.CX P w) (2 + j) fx.f_outer fx.d_outer ["calls", "around"] (spD K T cl 2 (F_outer j))
  | 0 => def_no (k := 1) (N := ["calls", "around", "found", "one"]) fx.p_outer ⟨rfl, rfl, rfl, by decide +kernel, rfl, by decide +kernel, by decide +kernel⟩
  | j + 1 => def_okD (N := ["calls", "around", "found", "one"]) (k := 2 + j) fx.p_outer ⟨rfl, rfl, rfl, by decide +kernel, rfl, by decide +kernel, by decide +kernel⟩ (by decide) fun cdv A outer s H E hr => by
    have u2 := room2 hr
    have u1 := room1 hr
    have okS := ok_outer fx j
    unfold b_outer
    exact (denb_cons (so (den_lst a0))
 (denb_cons (sfor body_own (deni_tup v) tn
  (denb_cons (dens_if (tnif (ixt v dI) v)
   (denb_one (sapp (den_tup (a1 (ixt v dI) (a1 (cf ((ok_whole fx).mono (k := (2 + j)) (by omega)) fx.m_whole fx.p_whole.kp (bi_whole fx) (a1 v a0) (l1 l0) (hx := by exact body_pass)) a0)))))
   denb_nil)
  (denb_one (sext (cf (okS) fx.m_outer fx.p_outer.kp (bi_outer fx) (a1 (ixt v dI) (a1 (Den.frz (m := .f) (fun q => by cases q) (catl v (den_lst (a1 (ixt v dI) a0)))) a0)) (l1 (l1 l0)) (hx := by exact body_pass))))))
 (denb_one (dens_frz (dens_ret v)))))
theorem bi_own (fx : Fx K mg cl) : Binds K fx.d_own ["call"] [] := fx.p_own.bindsN fun _ _ _ _ _ _ us hl => match us, hl with | [_], _ => rfl
theorem ok_own (fx : Fx K mg cl) : FnOk P w K mg base (L2N.CX P w) 2 fx.f_own fx.d_own ["call"] (spD K T cl 1 F_own) :=
  def_okD (N := ["call", "one"]) (k := 1) fx.p_own ⟨rfl, rfl, rfl, by decide +kernel, rfl, by decide +kernel, by decide +kernel⟩ (by decide) fun cdv A outer s H E hr => by
    have u2 := room2 hr
    have u1 := room1 hr
    unfold b_own
    exact (denb_one (dens_ret (subi (cf ((ok_whole fx).mono (k := 1) (by omega)) fx.m_whole fx.p_whole.kp (bi_whole fx) (a1 v a0) (l1 l0) (hx := by exact body_pass)) (cb (cr_sum (by rfl)) ad_sum (at1 (Den.now (comp (deni_tup (ixt v dI)) (fun _ _ _ _ _ => tn) (fun _ _ _ _ _ => dents_nil) (fun _ _ _ _ _ => (cf ((ok_whole fx).mono (k := 1) (by omega)) fx.m_whole fx.p_whole.kp (bi_whole fx) (a1 v a0) (l1 l0) (hx := by exact passLN))) [(("one" : Str), 1)])) a0) fx.n_sum))))
theorem bi_table (fx : Fx K mg cl) : Binds K fx.d_table ["trees_here"] [] := fx.p_table.bindsN fun _ _ _ _ _ _ us hl => match us, hl with | [_], _ => rfl
theorem ok_table (fx : Fx K mg cl) : FnOk P w K mg base (L2N.CX P w) 12 fx.f_table fx.d_table ["trees_here"] (spD K T cl 1 F_table) :=
  def_okD (N := ["trees_here", "one", "hand", "counts", "wholes", "owns", "name", "time"]) (k := 11) fx.p_table ⟨rfl, rfl, rfl, by decide +kernel, rfl, by decide +kernel, by decide +kernel⟩ (by decide) fun cdv A outer s H E hr => by
    have u2 := room2 hr
    have u1 := room1 hr
    unfold b_table
    exact (denb_cons (sx (cf ((ok_need_trees fx).mono (k := 11) (by omega)) fx.m_need_trees fx.p_need_trees.kp (bi_need_trees fx) (a1 v a0) (l1 l0) (hx := by exact body_pass)))
 (denb_cons (sq3 den_newK den_newK den_newK)
 (denb_cons (sfor body_own (deni_list (cf ((ok_every fx).mono (k := 11) (by omega)) fx.m_every fx.p_every.kp (bi_every fx) (a1 v a0) (l1 l0) (hx := by exact body_pass))) tn
  (denb_cons (sput u1 (addi (m_get u1 vt (ixt v dI) dI) dI) (ixt v dI))
  (denb_one (sput u1 (addi (m_get u1 vt (ixt v dI) dI) (cf ((ok_own fx).mono (k := 11) (by omega)) fx.m_own fx.p_own.kp (bi_own fx) (a1 v a0) (l1 l0) (hx := by exact body_pass))) (ixt v dI)))))
 (denb_cons (sford body_own tn
  (denb_one (sfor body_own (deni_list (cf ((ok_outer fx 8).mono (k := 11) (by omega)) fx.m_outer fx.p_outer.kp (bi_outer fx) (a1 (ixd v v u1) (a1 (Den.frz (m := .f) (fun q => by cases q) (den_lst a0)) a0)) (l1 (l1 l0)) (hx := by exact body_pass))) (tt (t1 tn (t1 tn t0)))
   (denb_one (sput u1 (addi (m_get u1 vt v dI) v) v)))))
 (denb_one (dens_ret (Den.frz (m := .f) (fun q => by cases q) (comp (deni_list (Den.frz (m := .f) (fun q => by cases q) (cb (cr_sortDct (by rfl)) ad_sortDct (at1 vt a0) fx.n_sorted))) (fun _ _ _ _ _ => tn) (fun _ _ _ _ _ => dents_nil) (fun _ _ _ _ _ => (den_tup (a1 v (a1 (ixd vt v u1) (a1 (ixd vt v u1) (a1 (ixd vt v u1) a0)))))) [(("name" : Str), 6)]))))))))
theorem ok__law_word (fx : Fx K mg cl) : FnHp P w K mg base CX0 1 fx.f__law_word fx.d__law_word ["_law_e"] (spW K cl CS8) := by
  have sc : FnScope ["_law_e", "_law_flags", "_law_words", "_law_flag"] ["_law_e"] (defScope (top 34)) := ⟨rfl, rfl, rfl, by decide +kernel, rfl, by decide +kernel, by decide +kernel⟩
  refine FnHp.ofD fx.p__law_word sc (fun p vs H Q E h => by rw [h.1]; rfl) fun cdv A outer s H vs Q E p hot hr hsp => ?_
  obtain ⟨rfl, c, hc, wf, hz, q⟩ := hsp
  have hz' := hz.zc
  obtain ⟨hh, fs, hd, ctx⟩ := id hot
  have hf : ∃ vs, p.2.data = .fields vs := ⟨fs, hd⟩
  have hp : p ∈ (cxH CX0 P w K mg base ["_law_e", "_law_flags", "_law_words", "_law_flag"] "_law_word" (defScope (top 34)) fx.f__law_word cdv A outer s H E p).pn := List.mem_singleton.mpr rfl
  have hot2 : HotC (cxH CX0 P w K mg base ["_law_e", "_law_flags", "_law_words", "_law_flag"] "_law_word" (defScope (top 34)) fx.f__law_word cdv A outer s H E p) := ⟨p, ⟨hh, fs, hd, ctx⟩, hp⟩
  have is : ∀ (x : Str) (p1 p2 p3 pos : Pos), x ∈ CS8 → Gl (cxH CX0 P w K mg base ["_law_e", "_law_flags", "_law_words", "_law_flag"] "_law_word" (defScope (top 34)) fx.f__law_word cdv A outer s H E p) x → (x == ("__debug__" : Str)) = false → PE (cxH CX0 P w K mg base ["_law_e", "_law_flags", "_law_words", "_law_flag"] "_law_word" (defScope (top 34)) fx.f__law_word cdv A outer s H E p) (.Call (.Name "isinstance" p1) [.Name "_law_e" p2, .Name x p3] [] pos) (tIsE K (cl c) p.1 0 (.ref (cl x))) := fun x p1 p2 p3 pos hx hg hdb =>
    pe_isE (i := 0) wf.ce hz' hf hp rfl (.inl rfl) rfl fx.n_isinstance hg (fx.g_cs x hx) rfl rfl hdb
  refine ⟨_, pss_cons (ps_set (i := 1) sc.nd rfl (.inl rfl) (pe_lst (pa_cons (is _ _ _ _ _ (by decide) rfl rfl) (pa_cons (is _ _ _ _ _ (by decide) rfl rfl) (pa_cons (is _ _ _ _ _ (by decide) rfl rfl) (pa_cons (is _ _ _ _ _ (by decide) rfl rfl) pa_nil))))))
    (pss_cons (ps_set (i := 1) sc.nd rfl (.inl rfl) (pe_op op_cat (pe_var (i := 1) rfl (.inl rfl)) (pe_lst (pa_cons (is _ _ _ _ _ (by decide) rfl rfl) (pa_cons (is _ _ _ _ _ (by decide) rfl rfl) (pa_cons (is _ _ _ _ _ (by decide) rfl rfl) (pa_cons (is _ _ _ _ _ (by decide) rfl rfl) pa_nil)))))))
    (pss_cons (ps_if (PW.pt (pw_or (pt_cmpR op_ne (pe_callB (cr_sumH hot2) rfl fx.n_sum (by decide +kernel) (pa_cons (hot_comp (own := [("_law_flag", 3)]) hot2 sc.nd (pe_var (i := 1) rfl (.inl rfl)) (blkOk_by (by kernel_rfl)) (fun _ _ _ _ _ => pg_name (i := 3) sc.nd rfl (Or.inl rfl)) (fun _ _ _ _ _ => pts_nil) (fun _ _ _ _ _ => pe_callTy call_int1 rfl fx.n_int (by decide +kernel) (pa_cons (pe_var (i := 3) rfl (.inl rfl)) pa_nil)) (by intro x; rfl)) pa_nil)) pe_int rfl)
        (pw_or1 (pt_not (pt_val (pe_isVE (i := 0) wf.ce hz' hf hp rfl (.inl rfl) fx.n_isinstance fx.n_ValueError)))))) (pss_one (ps_ret pe_str)) pss_nil)
    (pss_cons (ps_set (i := 2) sc.nd rfl (.inl rfl) (pe_lst (pa_cons pe_str (pa_cons pe_str (pa_cons pe_str (pa_cons pe_str (pa_cons pe_str (pa_cons pe_str (pa_cons pe_str (pa_cons pe_str pa_nil))))))))))
    (pss_one (ps_ret (pe_ix ix_list (pe_var (i := 2) rfl (.inl rfl)) (pe_bm PySem.F.plainAttrs_list PySem.F.slot_list_index PySem.F.type_list_index mt_index (pe_var (i := 1) rfl (.inl rfl)) (pa_cons pe_bl pa_nil)) (fun _ _ => rfl))))))), ?_⟩
  have k := fun x hx => wf.kit x hx
  refine ⟨_, rfl, _, _, _, rfl, fun u r => r, k "BadFold" (by decide), ?_⟩
  refine ⟨_, rfl, _, _, _, rfl, fun u r => r, k "BadName" (by decide), ?_⟩
  refine ⟨_, rfl, _, _, _, rfl, fun u r => r, k "BadRows" (by decide), ?_⟩
  refine ⟨_, rfl, _, _, _, rfl, fun u r => r, k "BadText" (by decide), by show 4 ≤ sizeLine; decide, fun a1 n1 => ?_⟩
  refine ⟨_, rfl, ?_⟩
  refine ⟨_, rfl, _, _, _, rfl, fun u r => r, k "BadTick" (by decide), ?_⟩
  refine ⟨_, rfl, _, _, _, rfl, fun u r => r, k "BadTrees" (by decide), ?_⟩
  refine ⟨_, rfl, _, _, _, rfl, fun u r => r, k "NoHand" (by decide), ?_⟩
  refine ⟨_, rfl, _, _, _, rfl, fun u r => r, k "Nothing" (by decide), by show 4 ≤ sizeLine; decide, fun a2 n2 => ?_⟩
  have e12 : a1 ≠ a2 := fun e => by rw [← e, upd_same] at n2; cases n2
  refine ⟨a1, a2, _, _, rfl, rfl, by rw [upd_ne e12]; exact upd_same, upd_same, by show 4 + 4 ≤ sizeLine; decide, fun a3 n3 => ?_⟩
  obtain ⟨jx, hj8, hj1, hj2, hj3, hj4⟩ := word_ix8 hc
  obtain ⟨bs, hbs⟩ : ∃ bs : List Bool, bs = CS8.map fun x => decide (x = c) := ⟨_, rfl⟩
  rw [← hbs] at hj1 hj2 hj4
  have hfl : bs.map V.bl = [V.bl (decide (("BadFold" : Str) = c)), V.bl (decide (("BadName" : Str) = c)), V.bl (decide (("BadRows" : Str) = c)), V.bl (decide (("BadText" : Str) = c))] ++ [V.bl (decide (("BadTick" : Str) = c)), V.bl (decide (("BadTrees" : Str) = c)), V.bl (decide (("NoHand" : Str) = c)), V.bl (decide (("Nothing" : Str) = c))] := by rw [hbs]; rfl
  have hb8 : bs.length = 8 := by rw [hbs]; rfl
  rw [← hfl]
  have x1 : Ex H (upd (upd (upd H a1 (.lst _)) a2 (.lst _)) a3 (.lst (bs.map V.bl))) := ((Ex.new n1).trans (Ex.new n2)).trans (Ex.new n3)
  generalize hH3 : upd (upd (upd H a1 (.lst _)) a2 (.lst _)) a3 (.lst (bs.map V.bl)) = H3 at x1 ⊢
  have e3 : H3 a3 = some (.lst (bs.map V.bl)) := by rw [← hH3]; exact upd_same
  refine ⟨_, rfl, a3, rfl, ⟨_, SqL.of e3⟩, fun Dl nD => lc_list (xs := bs.map V.bl) (fun i H' => Ex H3 H' ∧ H' Dl = some (.lst ((bs.take i).map fun b => .int (if b then 1 else 0)))) ⟨Ex.new nD, upd_same⟩ (fun i H' _ h => SqL.of (h.1 _ _ e3)) (fun i x H' hx h => ?_) fun H' h => ?_⟩
  · rw [List.getElem?_map] at hx
    cases hb : bs[i]? with
    | none => rw [hb] at hx; cases hx
    | some b =>
      rw [hb] at hx; cases hx
      refine ⟨rfl, ?_⟩
      refine ⟨_, rfl, .inr ⟨b, rfl, _, h.2, ?_, ?_, ?_⟩⟩
      · rw [List.length_map, List.length_take]; exact Nat.lt_of_le_of_lt (Nat.min_le_right _ _) (by rw [hb8]; decide)
      · exact h.1.mut nD
      · rw [upd_same, List.take_add_one, hb]; simp
  · rw [List.length_map, List.take_length] at h
    refine ⟨Dl, bs.map fun b => (if b then 1 else 0 : Int), rfl, SqL.of (by rw [h.2, List.map_map]; rfl), ?_⟩
    rw [hj4]
    refine ⟨rfl, false, rfl, ?_⟩
    refine ⟨_, rfl, _, _, _, rfl, fun u r => r, wf.ve, true, rfl, ?_⟩
    refine ⟨by show 8 ≤ sizeLine; decide, fun a4 n4 => ?_⟩
    have f3 : (upd H' a4 (.lst (CS8.map V.str))) a3 = some (.lst (bs.map V.bl)) := by rw [upd_ne (ne_of_none (h.1 _ _ e3) n4)]; exact h.1 _ _ e3
    refine ⟨_, rfl, ?_⟩
    refine ⟨_, rfl, Or.inl ⟨rfl, _, SqL.of f3⟩, a3, bs.map V.bl, .bl true, jx, .bl true, rfl, rfl, SqL.of f3, rfl, bl_flat bs, by rw [List.getElem?_map, hj1]; rfl, rfl, fun m z hm hz => ?_, ?_⟩
    · rw [List.getElem?_map, hj2 m hm] at hz; cases hz; rfl
    · refine ⟨a4, CS8.map V.str, jx, .str c, rfl, rfl, SqL.of upd_same, atI_at (by rw [List.getElem?_map, hj3]; rfl), q _ ?_⟩
      exact (x1.trans h.1).trans (Ex.new n4)

theorem td_told (fx : Fx K mg cl) {k : Nat} (h : 1 ≤ k) : ToldF P w K mg base cl CS8 "_law_told" "_law_deed" fx.f__law_told k :=
  toldF (st := top 35) fx.p__law_told (by rfl) ⟨rfl, rfl, rfl, by decide +kernel, rfl, by decide +kernel, by decide +kernel⟩ rfl rfl rfl (.inl rfl) fx.m__law_told (fx.p__law_told.bindsN fun _ _ _ _ _ _ us hl => match us, hl with | [_], _ => rfl) ((ok__law_word fx).mono h)
    (fx.p__law_word.bindsN fun _ _ _ _ _ _ us hl => match us, hl with | [_], _ => rfl) fx.p__law_word.kp fx.m__law_word fx.g_ce fx.wf
theorem bi_callers (fx : Fx K mg cl) : Binds K fx.d_callers ["trees_here", "name"] [] := fx.p_callers.bindsN fun _ _ _ _ _ _ us hl => match us, hl with | [_, _], _ => rfl
theorem ok_callers (fx : Fx K mg cl) : FnOk P w K mg base (L2N.CX P w) 12 fx.f_callers fx.d_callers ["trees_here", "name"] (spD K T cl 2 F_callers) :=
  def_okD (N := ["trees_here", "name", "rows", "counts", "times", "caller", "calls", "one", "hand"]) (k := 11) fx.p_callers ⟨rfl, rfl, rfl, by decide +kernel, rfl, by decide +kernel, by decide +kernel⟩ (by decide) fun cdv A outer s H E hr => by
    have u2 := room2 hr
    have u1 := room1 hr
    unfold b_callers
    exact (denb_cons (sx (cf ((ok_need_trees fx).mono (k := 11) (by omega)) fx.m_need_trees fx.p_need_trees.kp (bi_need_trees fx) (a1 v a0) (l1 l0) (hx := by exact body_pass)))
 (denb_cons (dens_if (dent_not (tv (cf ((ok_is_name fx).mono (k := 11) (by omega)) fx.m_is_name fx.p_is_name.kp (bi_is_name fx) (a1 v a0) (l1 l0) (hx := by exact body_pass))))
  (denb_one (sraise fx.e_BadName body_takes))
  denb_nil)
 (denb_cons (sq2 den_newK den_newK)
 (denb_cons (scompd (fun _ _ _ _ _ => tn) (fun _ _ _ _ _ => dents_nil) (fun _ _ _ _ _ => (den_tup (a1 dS (a1 (ixd v v u1) a0)))) [(("hand" : Str), 8)])
 (denb_cons (ss (Den.frz (m := .f) (fun q => by cases q) (catl vt (comp (deni_list (cf ((ok_every fx).mono (k := 11) (by omega)) fx.m_every fx.p_every.kp (bi_every fx) (a1 v a0) (l1 l0) (hx := by exact body_pass))) (fun _ _ _ _ _ => tn) (fun _ _ _ _ _ => dents_nil) (fun _ _ _ _ _ => (den_tup (a1 (ixt v dI) (a1 (ixt v dI) a0)))) [(("one" : Str), 7)]))))
 (denb_cons (sfor body_own (deni_list v) (tt (t1 tn (t1 tn t0)))
  (denb_one (sfor body_own (deni_tup v) tn
   (denb_one (dens_if (teqa (ixt v dI) v u2)
    (denb_cons (sput u1 (addi (m_get u1 vt v dI) dI) v)
    (denb_one (sput u1 (addi (m_get u1 vt v dI) (cf ((ok_whole fx).mono (k := 11) (by omega)) fx.m_whole fx.p_whole.kp (bi_whole fx) (a1 v a0) (l1 l0) (hx := by exact body_pass))) v)))
    denb_nil)))))
 (denb_one (dens_ret (Den.frz (m := .f) (fun q => by cases q) (comp (deni_list (Den.frz (m := .f) (fun q => by cases q) (cb (cr_sortDct (by rfl)) ad_sortDct (at1 vt a0) fx.n_sorted))) (fun _ _ _ _ _ => tn) (fun _ _ _ _ _ => dents_nil) (fun _ _ _ _ _ => (den_tup (a1 v (a1 (ixd vt v u1) (a1 (ixd vt v u1) a0))))) [(("caller" : Str), 5)]))))))))))
theorem bi_longest (fx : Fx K mg cl) : Binds K fx.d_longest ["trees_here", "most"] [] := fx.p_longest.bindsN fun _ _ _ _ _ _ us hl => match us, hl with | [_, _], _ => rfl
theorem ok_longest (fx : Fx K mg cl) (tx : Tx T base fx) : FnOk P w K mg base (L2N.CX P w) 12 fx.f_longest fx.d_longest ["trees_here", "most"] (spD K T cl 2 F_longest) :=
  def_okC (N := ["trees_here", "most", "found", "hand", "order", "at", "one"]) (k := 11) fx.p_longest ⟨rfl, rfl, rfl, by decide +kernel, rfl, by decide +kernel, by decide +kernel⟩ (by decide) fun cdv A outer s H E hcd hr => by
    have u2 := room2 hr
    have u1 := room1 hr
    unfold b_longest
    exact (denb_cons (sx (cf ((ok_need_trees fx).mono (k := 11) (by omega)) fx.m_need_trees fx.p_need_trees.kp (bi_need_trees fx) (a1 v a0) (l1 l0) (hx := by exact body_pass)))
 (denb_cons (dens_if (dent_not (tv (cf ((ok_is_count fx).mono (k := 11) (by omega)) fx.m_is_count fx.p_is_count.kp (bi_is_count fx) (a1 v (a1 dI (a1 (cI fx.c_MOST_ASKED) a0))) (l1 (l1 (l1 l0))) (hx := by exact body_pass))))
  (denb_one (sraise fx.e_BadTick body_takes))
  denb_nil)
 (denb_cons (so (den_lst a0))
 (denb_cons (sfor body_own (deni_list (Den.frz (m := .f) (fun q => by cases q) (cb (cr_sortDct (by rfl)) ad_sortDct (at1 (Den.now v) a0) fx.n_sorted))) tn
  (denb_one (sext (comp (deni_list (cf ((ok_all_calls fx 8).mono (k := 11) (by omega)) fx.m_all_calls fx.p_all_calls.kp (bi_all_calls fx) (a1 (ixd v v u1) a0) (l1 l0) (hx := by exact body_pass))) (fun _ _ _ _ _ => tn) (fun _ _ _ _ _ => dents_nil) (fun _ _ _ _ _ => (den_tup (a1 (cf ((ok_whole fx).mono (k := 11) (by omega)) fx.m_whole fx.p_whole.kp (bi_whole fx) (a1 v a0) (l1 l0) (hx := by exact passLN)) (a1 v (a1 (ixt v dI) (a1 (ixt v dI) a0)))))) [(("one" : Str), 6)]))))
 (denb_cons (ss (Den.frz (m := .f) (fun q => by cases q) (skey (cb call_len ad_len (at1 vt a0) fx.n_len) fx.n_sorted fx.n_range tx.l_longest hcd)))
 (denb_one (dens_ret (Den.frz (m := .f) (fun q => by cases q) (comp (deni_list (Den.frz (m := .f) (fun q => by cases q) (sll v deno_none (deno_some v)))) (fun _ _ _ _ _ => tn) (fun _ _ _ _ _ => dents_nil) (fun _ _ _ _ _ => (ixl vt v)) [(("at" : Str), 5)])))))))))
theorem bi_heavy (fx : Fx K mg cl) : Binds K fx.d_heavy ["trees_here", "hand"] [] := fx.p_heavy.bindsN fun _ _ _ _ _ _ us hl => match us, hl with | [_, _], _ => rfl
theorem ok_heavy (fx : Fx K mg cl) : FnOk P w K mg base (L2N.CX P w) 12 fx.f_heavy fx.d_heavy ["trees_here", "hand"] (spD K T cl 2 F_heavy) :=
  def_okD (N := ["trees_here", "hand", "calls", "found", "best", "one"]) (k := 11) fx.p_heavy ⟨rfl, rfl, rfl, by decide +kernel, rfl, by decide +kernel, by decide +kernel⟩ (by decide) fun cdv A outer s H E hr => by
    have u2 := room2 hr
    have u1 := room1 hr
    unfold b_heavy
    exact (denb_cons (sx (cf ((ok_need_trees fx).mono (k := 11) (by omega)) fx.m_need_trees fx.p_need_trees.kp (bi_need_trees fx) (a1 v a0) (l1 l0) (hx := by exact body_pass)))
 (denb_cons (ss (m_get u1 v v (den_tup a0)))
 (denb_cons (so (den_lst a0))
 (denb_cons (dens_while body_own (tnea v (den_tup a0) u2)
  (denb_cons (ss (cb (cr_max (by rfl)) ad_maxL (at1 (Den.now (comp (deni_tup v) (fun _ _ _ _ _ => tn) (fun _ _ _ _ _ => dents_nil) (fun _ _ _ _ _ => (cf ((ok_whole fx).mono (k := 11) (by omega)) fx.m_whole fx.p_whole.kp (bi_whole fx) (a1 v a0) (l1 l0) (hx := by exact passLN))) [(("one" : Str), 5)])) a0) fx.n_max))
  (denb_cons (ss (ixl (comp (deni_tup v) (fun _ _ _ _ _ => tn) (fun _ _ _ _ _ => (dents_one (teqa (cf ((ok_whole fx).mono (k := 11) (by omega)) fx.m_whole fx.p_whole.kp (bi_whole fx) (a1 v a0) (l1 l0) (hx := by exact passLN)) v u2))) (fun _ _ _ _ _ => v) [(("one" : Str), 5)]) dI))
  (denb_cons (sapp (ixt v dI))
  (denb_one (ss (ixt v dI)))))))
 (denb_one (dens_frz (dens_ret v)))))))
theorem bi__law_refused (fx : Fx K mg cl) : Binds K fx.d__law_refused ["_law_some"] [] := fx.p__law_refused.bindsN fun _ _ _ _ _ _ us hl => match us, hl with | [_], _ => rfl
theorem ok__law_refused (fx : Fx K mg cl) (tx : Tx T base fx) : FnOk P w K mg base (L2N.CX P w) 15 fx.f__law_refused fx.d__law_refused ["_law_some"] (spD K T cl 1 F__law_refused) :=
  def_okC (N := ["_law_some", "_law_bad", "_law_said"]) (k := 14) fx.p__law_refused ⟨rfl, rfl, rfl, by decide +kernel, rfl, by decide +kernel, by decide +kernel⟩ (by decide) fun cdv A outer s H E hcd hr => by
    have u2 := room2 hr
    have u1 := room1 hr
    unfold b__law_refused
    exact (denb_cons (sfor body_own (deni_list (Den.frz (m := .f) (fun q => by cases q) (den_lst (a1 dN (a1 (Den.frz (m := .f) (fun q => by cases q) (den_lst a0)) (a1 (Den.frz (m := .f) (fun q => by cases q) (disp dI (den_tup a0))) a0)))))) tn
  (denb_cons (so (den_lst (a1 (tld (td_told fx (by omega : 1 ≤ 12)) tx.l__law_refused hcd fun A2 outer2 s2 H2 E2 f2 c2 hr2 => by
      have u2 := room2 hr2
      have u1 := room1 hr2
      exact (cf ((ok_table fx).mono (k := 12) (by omega)) fx.m_table fx.p_table.kp (bi_table fx) (a1 v a0) (l1 l0) (hx := by exact lam_pass))) a0)))
  (denb_cons (sapp (tld (td_told fx (by omega : 1 ≤ 12)) tx.l__law_refused hcd fun A2 outer2 s2 H2 E2 f2 c2 hr2 => by
      have u2 := room2 hr2
      have u1 := room1 hr2
      exact (cf ((ok_callers fx).mono (k := 12) (by omega)) fx.m_callers fx.p_callers.kp (bi_callers fx) (a1 v (a1 dN a0)) (l1 (l1 l0)) (hx := by exact lam_pass))))
  (denb_cons (sapp (tld (td_told fx (by omega : 1 ≤ 12)) tx.l__law_refused hcd fun A2 outer2 s2 H2 E2 f2 c2 hr2 => by
      have u2 := room2 hr2
      have u1 := room1 hr2
      exact (cf ((ok_longest fx tx).mono (k := 12) (by omega)) fx.m_longest fx.p_longest.kp (bi_longest fx) (a1 v (a1 dN a0)) (l1 (l1 l0)) (hx := by exact lam_pass))))
  (denb_cons (sapp (tld (td_told fx (by omega : 1 ≤ 12)) tx.l__law_refused hcd fun A2 outer2 s2 H2 E2 f2 c2 hr2 => by
      have u2 := room2 hr2
      have u1 := room1 hr2
      exact (cf ((ok_heavy fx).mono (k := 12) (by omega)) fx.m_heavy fx.p_heavy.kp (bi_heavy fx) (a1 v (a1 dI a0)) (l1 (l1 l0)) (hx := by exact lam_pass))))
  (denb_one (dens_if (tnea vt (repl (den_lst (a1 dS a0)) dI) u2)
   (denb_one (dens_ret dB))
   denb_nil)))))))
 (denb_cons (sfor body_own (deni_list (Den.frz (m := .f) (fun q => by cases q) (den_lst (a1 (den_neg dI) (a1 dI (a1 dN (a1 dB a0))))))) tn
  (denb_one (dens_if (tnea (tld (td_told fx (by omega : 1 ≤ 12)) tx.l__law_refused hcd fun A2 outer2 s2 H2 E2 f2 c2 hr2 => by
      have u2 := room2 hr2
      have u1 := room1 hr2
      exact (cf ((ok_longest fx tx).mono (k := 12) (by omega)) fx.m_longest fx.p_longest.kp (bi_longest fx) (a1 v (a1 v a0)) (l1 (l1 l0)) (hx := by exact lam_pass))) dS u2)
   (denb_one (dens_ret dB))
   denb_nil)))
 (denb_cons (sfor body_own (deni_list (Den.frz (m := .f) (fun q => by cases q) (den_lst (a1 (den_neg dI) (a1 dS (a1 dN (a1 dS (a1 dS a0)))))))) tn
  (denb_one (dens_if (tnea (tld (td_told fx (by omega : 1 ≤ 12)) tx.l__law_refused hcd fun A2 outer2 s2 H2 E2 f2 c2 hr2 => by
      have u2 := room2 hr2
      have u1 := room1 hr2
      exact (cf ((ok_callers fx).mono (k := 12) (by omega)) fx.m_callers fx.p_callers.kp (bi_callers fx) (a1 v (a1 v a0)) (l1 (l1 l0)) (hx := by exact lam_pass))) dS u2)
   (denb_one (dens_ret dB))
   denb_nil)))
 (denb_one (dens_ret dB)))))
theorem bi__law_callers (fx : Fx K mg cl) : Binds K fx.d__law_callers ["_law_rows", "_law_name_here"] [] := fx.p__law_callers.bindsN fun _ _ _ _ _ _ us hl => match us, hl with | [_, _], _ => rfl
theorem ok__law_callers (fx : Fx K mg cl) : FnOk P w K mg base (L2N.CX P w) 1 fx.f__law_callers fx.d__law_callers ["_law_rows", "_law_name_here"] (spD K T cl 2 F__law_callers) :=
  def_okD (N := ["_law_rows", "_law_name_here", "_law_marks", "_law_one", "_law_above", "_law_caller"]) (k := 0) fx.p__law_callers ⟨rfl, rfl, rfl, by decide +kernel, rfl, by decide +kernel, by decide +kernel⟩ (by decide) fun cdv A outer s H E hr => by
    have u2 := room2 hr
    have u1 := room1 hr
    unfold b__law_callers
    exact (denb_cons (so den_newK)
 (denb_cons (sfor body_own (deni_list v) (tt (t1 tn (t1 tn t0)))
  (denb_one (dens_if (teqa (ixt v dI) v u2)
   (denb_cons (ss (den_if (tnea v (den_tup a0) u2) (ixt v (den_neg dI)) dS))
   (denb_one (sput u1 (Den.frz (m := .f) (fun q => by cases q) (catl (m_get u1 vt v (Den.frz (m := .f) (fun q => by cases q) (den_lst a0))) (den_lst (a1 (subi (ixt v dI) (ixt v dI)) a0)))) v)))
   denb_nil)))
 (denb_one (dens_ret (Den.frz (m := .f) (fun q => by cases q) (comp (deni_list (Den.frz (m := .f) (fun q => by cases q) (cb (cr_sortDct (by rfl)) ad_sortDct (at1 vt a0) fx.n_sorted))) (fun _ _ _ _ _ => tn) (fun _ _ _ _ _ => dents_nil) (fun _ _ _ _ _ => (den_tup (a1 v (a1 (cb call_len ad_len (at1 (Den.now (ixd vt v u1)) a0) fx.n_len) (a1 (cb (cr_sum (by rfl)) ad_sum (at1 (Den.now (ixd vt v u1)) a0) fx.n_sum) a0))))) [(("_law_caller" : Str), 5)]))))))
theorem bi__law_heavy (fx : Fx K mg cl) : Binds K fx.d__law_heavy ["_law_calls_here"] [] := fx.p__law_heavy.bindsN fun _ _ _ _ _ _ us hl => match us, hl with | [_], _ => rfl
theorem ok__law_heavy (fx : Fx K mg cl) : FnOk P w K mg base (L2N.CX P w) 1 fx.f__law_heavy fx.d__law_heavy ["_law_calls_here"] (spD K T cl 1 F__law_heavy) :=
  def_okD (N := ["_law_calls_here", "_law_path", "_law_best", "_law_spot", "_law_one"]) (k := 0) fx.p__law_heavy ⟨rfl, rfl, rfl, by decide +kernel, rfl, by decide +kernel, by decide +kernel⟩ (by decide) fun cdv A outer s H E hr => by
    have u2 := room2 hr
    have u1 := room1 hr
    unfold b__law_heavy
    exact (denb_cons (ss (Den.frz (m := .f) (fun q => by cases q) (den_lst a0)))
 (denb_cons (dens_while body_own (tnea v (den_tup a0) u2)
  (denb_cons (ss (ixt (ixl (cb (cr_sortD u2) ad_sort (at1 (Den.now (comp (ent (a1 v a0) fx.n_enumerate) (fun _ _ _ _ _ => (tt (t1 tn (t1 tn t0)))) (fun _ _ _ _ _ => dents_nil) (fun _ _ _ _ _ => (den_tup (a1 (subi (ixt v dI) (ixt v dI)) (a1 v a0)))) [(("_law_spot" : Str), 3), (("_law_one" : Str), 4)])) a0) fx.n_sorted) dI) dI))
  (denb_one (sp2 (Den.frz (m := .f) (fun q => by cases q) (catl v (den_lst (a1 (ixt (ixt v v) dI) a0)))) (ixt (ixt v v) dI)))))
 (denb_one (dens_ret v))))
theorem bi__law_order (fx : Fx K mg cl) : Binds K fx.d__law_order ["_law_some"] [] := fx.p__law_order.bindsN fun _ _ _ _ _ _ us hl => match us, hl with | [_], _ => rfl
theorem ok__law_order (fx : Fx K mg cl) : FnOk P w K mg base (L2N.CX P w) 10 fx.f__law_order fx.d__law_order ["_law_some"] (spD K T cl 1 F__law_order) :=
  def_okD (N := ["_law_some", "_law_hand", "_law_time", "_law_found", "_law_order_here", "_law_one", "_law_above"]) (k := 9) fx.p__law_order ⟨rfl, rfl, rfl, by decide +kernel, rfl, by decide +kernel, by decide +kernel⟩ (by decide) fun cdv A outer s H E hr => by
    have u2 := room2 hr
    have u1 := room1 hr
    unfold b__law_order
    exact (denb_cons (sp2 (Den.frz (m := .f) (fun q => by cases q) (den_lst a0)) (Den.frz (m := .f) (fun q => by cases q) (den_lst a0)))
 (denb_cons (sfor body_own (deni_list (Den.frz (m := .f) (fun q => by cases q) (cb (cr_sortDct (by rfl)) ad_sortDct (at1 (Den.now v) a0) fx.n_sorted))) tn
  (denb_one (ss (Den.frz (m := .f) (fun q => by cases q) (catl v (comp (deni_list (cf ((ok__law_flat fx 8).mono (k := 9) (by omega)) fx.m__law_flat fx.p__law_flat.kp (bi__law_flat fx) (a1 (ixd v v u1) (a1 (den_tup a0) a0)) (l1 (l1 l0)) (hx := by exact body_pass))) (fun _ _ _ _ _ => (tt (t1 tn (t1 tn t0)))) (fun _ _ _ _ _ => dents_nil) (fun _ _ _ _ _ => (den_tup (a1 (subi (ixt v dI) (ixt v dI)) (a1 v (a1 (ixt v dI) (a1 (ixt v dI) a0)))))) [(("_law_one" : Str), 5), (("_law_above" : Str), 6)]))))))
 (denb_cons (sfor body_own (deni_list (Den.frz (m := .f) (fun q => by cases q) (den_revL (ssrt u2 (comp (deni_list v) (fun _ _ _ _ _ => tn) (fun _ _ _ _ _ => dents_nil) (fun _ _ _ _ _ => (ixt v dI)) [(("_law_one" : Str), 5)]) fx.n_sorted fx.n_set)))) tn
  (denb_one (ss (Den.frz (m := .f) (fun q => by cases q) (catl v (comp (deni_list v) (fun _ _ _ _ _ => tn) (fun _ _ _ _ _ => (dents_one (teqa (ixt v dI) v u2))) (fun _ _ _ _ _ => v) [(("_law_one" : Str), 5)]))))))
 (denb_one (dens_ret v)))))
theorem bi_law (fx : Fx K mg cl) : Binds K fx.d_law ["_law_script"] [] := fx.p_law.bindsN fun _ _ _ _ _ _ us hl => match us, hl with | [_], _ => rfl
theorem ok_law (fx : Fx K mg cl) (tx : Tx T base fx) : FnOk P w K mg base (L2N.CX P w) 16 fx.f_law fx.d_law ["_law_script"] (spD K T cl 1 F_law) :=
  def_okD (N := ["_law_script", "_law_k", "_law_more", "_law_some", "_law_due", "_law_hand", "_law_name_here", "_law_most", "_law_rows", "_law_tops", "_law_one", "_law_count", "_law_long", "_law_time"]) (k := 15) fx.p_law ⟨rfl, rfl, rfl, by decide +kernel, rfl, by decide +kernel, by decide +kernel⟩ (by decide) fun cdv A outer s H E hr => by
    have u2 := room2 hr
    have u1 := room1 hr
    unfold b_law
    exact (denb_cons (sfor body_own (r1 (a1 (cb (call_max2 (by rfl)) ad_max2 (at1 (Den.now dI) (at1 (Den.now (cb (call_min2 (by rfl)) ad_min2 (at1 (Den.now dI) (at1 (Den.now (cb call_len ad_len (at1 (Den.now v) a0) fx.n_len)) a0)) fx.n_min)) a0)) fx.n_max) a0) fx.n_range) tn
  (denb_cons (ss (cf ((ok__law_drawn fx).mono (k := 15) (by omega)) fx.m__law_drawn fx.p__law_drawn.kp (bi__law_drawn fx) (a1 (cf ((ok__law_cell fx).mono (k := 15) (by omega)) fx.m__law_cell fx.p__law_cell.kp (bi__law_cell fx) (a1 v (a1 v a0)) (l1 (l1 l0)) (hx := by exact body_pass)) (a1 v a0)) (l1 (l1 l0)) (hx := by exact body_pass)))
  (denb_cons (ss (cf ((ok__law_trees fx).mono (k := 15) (by omega)) fx.m__law_trees fx.p__law_trees.kp (bi__law_trees fx) (a1 (fdivi v dI) a0) (l1 l0) (hx := by exact body_pass)))
  (denb_cons (sp2 (cf ((ok__law_all fx).mono (k := 15) (by omega)) fx.m__law_all fx.p__law_all.kp (bi__law_all fx) (a1 v a0) (l1 l0) (hx := by exact body_pass)) dI)
  (denb_cons (ss (cf ((ok__law_table fx).mono (k := 15) (by omega)) fx.m__law_table fx.p__law_table.kp (bi__law_table fx) (a1 v a0) (l1 l0) (hx := by exact body_pass)))
  (denb_cons (dens_if (tnea (cf ((ok_table fx).mono (k := 15) (by omega)) fx.m_table fx.p_table.kp (bi_table fx) (a1 v a0) (l1 l0) (hx := by exact body_pass)) v u2)
   (denb_one (dens_ret dB))
   denb_nil)
  (denb_cons (sford body_own tn
   (denb_one (ss (addi v (cb (cr_sum (by rfl)) ad_sum (at1 (Den.now (comp (deni_tup (ixd v v u1)) (fun _ _ _ _ _ => tn) (fun _ _ _ _ _ => dents_nil) (fun _ _ _ _ _ => (subi (ixt v dI) (ixt v dI))) [(("_law_one" : Str), 10)])) a0) fx.n_sum)))))
  (denb_cons (dens_if (tnea (cb (cr_sum (by rfl)) ad_sum (at1 (Den.now (comp (deni_list v) (fun _ _ _ _ _ => (tt (t1 tn (t1 tn (t1 tn (t1 tn t0)))))) (fun _ _ _ _ _ => dents_nil) (fun _ _ _ _ _ => v) [(("_law_name_here" : Str), 6), (("_law_count" : Str), 11), (("_law_long" : Str), 12), (("_law_time" : Str), 13)])) a0) fx.n_sum) v u2)
   (denb_one (dens_ret dB))
   denb_nil)
  (denb_cons (sfor body_own (deni_list (Den.frz (m := .f) (fun q => by cases q) (den_lst (a1 dS (a1 dS (a1 dS (a1 dS a0))))))) tn
   (denb_one (dens_if (tnea (cf ((ok_callers fx).mono (k := 15) (by omega)) fx.m_callers fx.p_callers.kp (bi_callers fx) (a1 v (a1 v a0)) (l1 (l1 l0)) (hx := by exact body_pass)) (cf ((ok__law_callers fx).mono (k := 15) (by omega)) fx.m__law_callers fx.p__law_callers.kp (bi__law_callers fx) (a1 v (a1 v a0)) (l1 (l1 l0)) (hx := by exact body_pass)) u2)
    (denb_one (dens_ret dB))
    denb_nil)))
  (denb_cons (sfor body_own (deni_list (Den.frz (m := .f) (fun q => by cases q) (den_lst (a1 dI (a1 dI (a1 (modi v dI) (a1 dI a0))))))) tn
   (denb_one (dens_if (tnea (cf ((ok_longest fx tx).mono (k := 15) (by omega)) fx.m_longest fx.p_longest.kp (bi_longest fx) (a1 v (a1 v a0)) (l1 (l1 l0)) (hx := by exact body_pass)) (sll (cf ((ok__law_order fx).mono (k := 15) (by omega)) fx.m__law_order fx.p__law_order.kp (bi__law_order fx) (a1 v a0) (l1 l0) (hx := by exact body_pass)) deno_none (deno_some v)) u2)
    (denb_one (dens_ret dB))
    denb_nil)))
  (denb_cons (sfor body_own (deni_list (Den.frz (m := .f) (fun q => by cases q) (den_lst (a1 dI (a1 dI (a1 dI (a1 dI (a1 dI a0)))))))) tn
   (denb_one (dens_if (tnea (cf ((ok_heavy fx).mono (k := 15) (by omega)) fx.m_heavy fx.p_heavy.kp (bi_heavy fx) (a1 v (a1 v a0)) (l1 (l1 l0)) (hx := by exact body_pass)) (cf ((ok__law_heavy fx).mono (k := 15) (by omega)) fx.m__law_heavy fx.p__law_heavy.kp (bi__law_heavy fx) (a1 (m_get u1 v v (den_tup a0)) a0) (l1 l0) (hx := by exact body_pass)) u2)
    (denb_one (dens_ret dB))
    denb_nil)))
  (denb_one (dens_if (dent_not (tv (cf ((ok__law_refused fx tx).mono (k := 15) (by omega)) fx.m__law_refused fx.p__law_refused.kp (bi__law_refused fx) (a1 v a0) (l1 l0) (hx := by exact body_pass))))
   (denb_one (dens_ret dB))
   denb_nil)))))))))))))
 (denb_one (dens_ret dB)))
end
end
end K30

set_option Elab.async false
set_option linter.all false
set_option maxRecDepth 100000
set_option maxHeartbeats 0
namespace K30
open PySem PySem.Spec PyProof.Rows L2 VS
/-! ### the head -/
def dd__law_drawn : He.DefD := ⟨("_law_drawn", none), "_law_drawn", "_law_drawn", defArgs (top 33), defBody (top 33), defScope (top 33), [], []⟩
def dd__law_name : He.DefD := ⟨("_law_name", none), "_law_name", "_law_name", defArgs (top 36), defBody (top 36), defScope (top 36), [], []⟩
def dd__law_calls : He.DefD := ⟨("_law_calls", none), "_law_calls", "_law_calls", defArgs (top 37), defBody (top 37), defScope (top 37), [], []⟩
def dd__law_trees : He.DefD := ⟨("_law_trees", none), "_law_trees", "_law_trees", defArgs (top 38), defBody (top 38), defScope (top 38), [], []⟩
def dd__law_own : He.DefD := ⟨("_law_own", none), "_law_own", "_law_own", defArgs (top 41), defBody (top 41), defScope (top 41), [], []⟩
def dd__law_table : He.DefD := ⟨("_law_table", none), "_law_table", "_law_table", defArgs (top 42), defBody (top 42), defScope (top 42), [], []⟩
def dd__law_cell : He.DefD := ⟨("_law_cell", none), "_law_cell", "_law_cell", defArgs (top 32), defBody (top 32), defScope (top 32), [], []⟩
def dd__law_flat : He.DefD := ⟨("_law_flat", none), "_law_flat", "_law_flat", defArgs (top 39), defBody (top 39), defScope (top 39), [], []⟩
def dd__law_all : He.DefD := ⟨("_law_all", none), "_law_all", "_law_all", defArgs (top 40), defBody (top 40), defScope (top 40), [], []⟩
def dd_is_name : He.DefD := ⟨("is_name", none), "is_name", "is_name", defArgs (top 16), defBody (top 16), defScope (top 16), [], []⟩
def dd_is_count : He.DefD := ⟨("is_count", none), "is_count", "is_count", defArgs (top 15), defBody (top 15), defScope (top 15), [], []⟩
def dd_are_calls : He.DefD := ⟨("are_calls", none), "are_calls", "are_calls", defArgs (top 18), defBody (top 18), defScope (top 18), [], []⟩
def dd_need_trees : He.DefD := ⟨("need_trees", none), "need_trees", "need_trees", defArgs (top 19), defBody (top 19), defScope (top 19), [], []⟩
def dd_all_calls : He.DefD := ⟨("all_calls", none), "all_calls", "all_calls", defArgs (top 22), defBody (top 22), defScope (top 22), [], []⟩
def dd_every : He.DefD := ⟨("every", none), "every", "every", defArgs (top 26), defBody (top 26), defScope (top 26), [], []⟩
def dd_whole : He.DefD := ⟨("whole", none), "whole", "whole", defArgs (top 20), defBody (top 20), defScope (top 20), [], []⟩
def dd_outer : He.DefD := ⟨("outer", none), "outer", "outer", defArgs (top 25), defBody (top 25), defScope (top 25), [], []⟩
def dd_own : He.DefD := ⟨("own", none), "own", "own", defArgs (top 21), defBody (top 21), defScope (top 21), [], []⟩
def dd_table : He.DefD := ⟨("table", none), "table", "table", defArgs (top 27), defBody (top 27), defScope (top 27), [], []⟩
def dd__law_word : He.DefD := ⟨("_law_word", none), "_law_word", "_law_word", defArgs (top 34), defBody (top 34), defScope (top 34), [], []⟩
def dd__law_told : He.DefD := ⟨("_law_told", none), "_law_told", "_law_told", defArgs (top 35), defBody (top 35), defScope (top 35), [], []⟩
def dd_callers : He.DefD := ⟨("callers", none), "callers", "callers", defArgs (top 29), defBody (top 29), defScope (top 29), [], []⟩
def dd_longest : He.DefD := ⟨("longest", none), "longest", "longest", defArgs (top 28), defBody (top 28), defScope (top 28), [], []⟩
def dd_heavy : He.DefD := ⟨("heavy", none), "heavy", "heavy", defArgs (top 30), defBody (top 30), defScope (top 30), [], []⟩
def dd__law_refused : He.DefD := ⟨("_law_refused", none), "_law_refused", "_law_refused", defArgs (top 46), defBody (top 46), defScope (top 46), [], []⟩
def dd__law_callers : He.DefD := ⟨("_law_callers", none), "_law_callers", "_law_callers", defArgs (top 43), defBody (top 43), defScope (top 43), [], []⟩
def dd__law_heavy : He.DefD := ⟨("_law_heavy", none), "_law_heavy", "_law_heavy", defArgs (top 45), defBody (top 45), defScope (top 45), [], []⟩
def dd__law_order : He.DefD := ⟨("_law_order", none), "_law_order", "_law_order", defArgs (top 44), defBody (top 44), defScope (top 44), [], []⟩
def dd_law : He.DefD := ⟨("law", none), "law", "law", defArgs (top 47), defBody (top 47), defScope (top 47), [], []⟩
def fn : List He.DefD := [dd__law_drawn, dd__law_name, dd__law_calls, dd__law_trees, dd__law_own, dd__law_table, dd__law_cell, dd__law_flat, dd__law_all, dd_is_name, dd_is_count, dd_are_calls, dd_need_trees, dd_all_calls, dd_every, dd_whole, dd_outer, dd_own, dd_table, dd__law_word, dd__law_told, dd_callers, dd_longest, dd_heavy, dd__law_refused, dd__law_callers, dd__law_heavy, dd__law_order, dd_law]
def fa : List He.Fa := [.glo "_law_drawn", .glo "_law_name", .glo "_law_calls", .glo "_law_trees", .glo "_law_own", .glo "_law_table", .glo "_law_cell", .glo "_law_flat", .glo "_law_all", .glo "is_name", .glo "is_count", .glo "are_calls", .glo "need_trees", .glo "all_calls", .glo "every", .glo "whole", .glo "outer", .glo "own", .glo "table", .glo "_law_word", .glo "_law_told", .glo "callers", .glo "longest", .glo "heavy", .glo "_law_refused", .glo "_law_callers", .glo "_law_heavy", .glo "_law_order", .glo "law", .free "ValueError", .free "all", .free "bool", .free "dict", .free "enumerate", .free "int", .free "isinstance", .free "len", .free "max", .free "min", .free "range", .free "set", .free "sorted", .free "str", .free "sum", .free "tuple", .int "MOST_TICK" 1000000, .int "MOST_HAND" 4, .int "MOST_NAME" 8, .str "SMALL" "abcdefghijklmnopqrstuvwxyz", .int "MOST_ASKED" 50, .glo "BadName", .exc "BadName", .glo "BadTick", .exc "BadTick", .glo "BadTrees", .exc "BadTrees", .glo "BadFold", .glo "BadRows", .glo "BadText", .glo "NoHand", .glo "Nothing", .glo "CallError"]
abbrev RR : PySem.W.OpenRow := PySem.W.OpenLaw.row PySem.Challenge.rw_calltimes_k30_whole_tables
def tf : List He.Defn := [("longest", none), ("_law_refused", none)]
abbrev hk : PySem.W.Hook := He.hookX 4 fa fn [] tf (VS.exB (CS8) tf)
def ob (s : PySem.W.SharedT) : He.AlX := He.obsX 4 fa fn [] tf (VS.exB (CS8) tf) (HandSHeadRun.getT s)
theorem ob_eq (s : PySem.W.SharedT) : ob s = hk.obs s.abs := He.obsX_eq (HandSHeadRun.getT_eq s)
def loose : List Str := [("CallError" : Str), ("BadRows" : Str), ("BadTrees" : Str), ("BadTick" : Str), ("NoHand" : Str), ("BadName" : Str), ("BadFold" : Str), ("Nothing" : Str), ("BadText" : Str), ("MOST_TICK" : Str), ("MOST_HAND" : Str), ("MOST_NAME" : Str), ("SMALL" : Str), ("is_count" : Str), ("is_name" : Str), ("are_calls" : Str), ("need_trees" : Str), ("whole" : Str), ("own" : Str), ("all_calls" : Str), ("MOST_ASKED" : Str), ("outer" : Str), ("every" : Str), ("table" : Str), ("longest" : Str), ("callers" : Str), ("heavy" : Str), ("_law_cell" : Str), ("_law_drawn" : Str), ("_law_word" : Str), ("_law_told" : Str), ("_law_name" : Str), ("_law_calls" : Str), ("_law_trees" : Str), ("_law_flat" : Str), ("_law_all" : Str), ("_law_own" : Str), ("_law_table" : Str), ("_law_callers" : Str), ("_law_order" : Str), ("_law_heavy" : Str), ("_law_refused" : Str)]
theorem run (w : World) : HandSHeadRun.RunEq RR (PySem.W.view RR.prog [47]) hk ob 4000 loose w := by
  intro os
  kernel_rfl
theorem facts {K : PySem.W.Frag} {h : Heap} {mg : Str → Option Value} {f : Addr} (X : K.In h) (G : h.Ns mainGlobals mg) (hfa : mg ("law" : Str) = some (.ref f)) (c : He.SaysD fa fn K) (ex : VS.exB (CS8) tf K = true) : ∃ fx : Fx K mg (He.ga K), fx.f_law = f ∧ fx.f_longest = He.fAd K ("longest", none) ∧ fx.f__law_refused = He.fAd K ("_law_refused", none) := by
  obtain ⟨d__law_drawn, p__law_drawn⟩ := c.def_ 0 (d := dd__law_drawn) rfl
  obtain ⟨d__law_name, p__law_name⟩ := c.def_ 1 (d := dd__law_name) rfl
  obtain ⟨d__law_calls, p__law_calls⟩ := c.def_ 2 (d := dd__law_calls) rfl
  obtain ⟨d__law_trees, p__law_trees⟩ := c.def_ 3 (d := dd__law_trees) rfl
  obtain ⟨d__law_own, p__law_own⟩ := c.def_ 4 (d := dd__law_own) rfl
  obtain ⟨d__law_table, p__law_table⟩ := c.def_ 5 (d := dd__law_table) rfl
  obtain ⟨d__law_cell, p__law_cell⟩ := c.def_ 6 (d := dd__law_cell) rfl
  obtain ⟨d__law_flat, p__law_flat⟩ := c.def_ 7 (d := dd__law_flat) rfl
  obtain ⟨d__law_all, p__law_all⟩ := c.def_ 8 (d := dd__law_all) rfl
  obtain ⟨d_is_name, p_is_name⟩ := c.def_ 9 (d := dd_is_name) rfl
  obtain ⟨d_is_count, p_is_count⟩ := c.def_ 10 (d := dd_is_count) rfl
  obtain ⟨d_are_calls, p_are_calls⟩ := c.def_ 11 (d := dd_are_calls) rfl
  obtain ⟨d_need_trees, p_need_trees⟩ := c.def_ 12 (d := dd_need_trees) rfl
  obtain ⟨d_all_calls, p_all_calls⟩ := c.def_ 13 (d := dd_all_calls) rfl
  obtain ⟨d_every, p_every⟩ := c.def_ 14 (d := dd_every) rfl
  obtain ⟨d_whole, p_whole⟩ := c.def_ 15 (d := dd_whole) rfl
  obtain ⟨d_outer, p_outer⟩ := c.def_ 16 (d := dd_outer) rfl
  obtain ⟨d_own, p_own⟩ := c.def_ 17 (d := dd_own) rfl
  obtain ⟨d_table, p_table⟩ := c.def_ 18 (d := dd_table) rfl
  obtain ⟨d__law_word, p__law_word⟩ := c.def_ 19 (d := dd__law_word) rfl
  obtain ⟨d__law_told, p__law_told⟩ := c.def_ 20 (d := dd__law_told) rfl
  obtain ⟨d_callers, p_callers⟩ := c.def_ 21 (d := dd_callers) rfl
  obtain ⟨d_longest, p_longest⟩ := c.def_ 22 (d := dd_longest) rfl
  obtain ⟨d_heavy, p_heavy⟩ := c.def_ 23 (d := dd_heavy) rfl
  obtain ⟨d__law_refused, p__law_refused⟩ := c.def_ 24 (d := dd__law_refused) rfl
  obtain ⟨d__law_callers, p__law_callers⟩ := c.def_ 25 (d := dd__law_callers) rfl
  obtain ⟨d__law_heavy, p__law_heavy⟩ := c.def_ 26 (d := dd__law_heavy) rfl
  obtain ⟨d__law_order, p__law_order⟩ := c.def_ 27 (d := dd__law_order) rfl
  obtain ⟨d_law, p_law⟩ := c.def_ 28 (d := dd_law) rfl
  have e := hfa.symm.trans (He.glo_ok X G (c.fact 28 (f := .glo "law") rfl))
  have e2 := Option.some.inj e
  exact ⟨{ f__law_drawn := _, d__law_drawn := d__law_drawn, p__law_drawn := p__law_drawn, m__law_drawn := He.glo_ok X G (c.fact 0 (f := .glo "_law_drawn") rfl),
           f__law_name := _, d__law_name := d__law_name, p__law_name := p__law_name, m__law_name := He.glo_ok X G (c.fact 1 (f := .glo "_law_name") rfl),
           f__law_calls := _, d__law_calls := d__law_calls, p__law_calls := p__law_calls, m__law_calls := He.glo_ok X G (c.fact 2 (f := .glo "_law_calls") rfl),
           f__law_trees := _, d__law_trees := d__law_trees, p__law_trees := p__law_trees, m__law_trees := He.glo_ok X G (c.fact 3 (f := .glo "_law_trees") rfl),
           f__law_own := _, d__law_own := d__law_own, p__law_own := p__law_own, m__law_own := He.glo_ok X G (c.fact 4 (f := .glo "_law_own") rfl),
           f__law_table := _, d__law_table := d__law_table, p__law_table := p__law_table, m__law_table := He.glo_ok X G (c.fact 5 (f := .glo "_law_table") rfl),
           f__law_cell := _, d__law_cell := d__law_cell, p__law_cell := p__law_cell, m__law_cell := He.glo_ok X G (c.fact 6 (f := .glo "_law_cell") rfl),
           f__law_flat := _, d__law_flat := d__law_flat, p__law_flat := p__law_flat, m__law_flat := He.glo_ok X G (c.fact 7 (f := .glo "_law_flat") rfl),
           f__law_all := _, d__law_all := d__law_all, p__law_all := p__law_all, m__law_all := He.glo_ok X G (c.fact 8 (f := .glo "_law_all") rfl),
           f_is_name := _, d_is_name := d_is_name, p_is_name := p_is_name, m_is_name := He.glo_ok X G (c.fact 9 (f := .glo "is_name") rfl),
           f_is_count := _, d_is_count := d_is_count, p_is_count := p_is_count, m_is_count := He.glo_ok X G (c.fact 10 (f := .glo "is_count") rfl),
           f_are_calls := _, d_are_calls := d_are_calls, p_are_calls := p_are_calls, m_are_calls := He.glo_ok X G (c.fact 11 (f := .glo "are_calls") rfl),
           f_need_trees := _, d_need_trees := d_need_trees, p_need_trees := p_need_trees, m_need_trees := He.glo_ok X G (c.fact 12 (f := .glo "need_trees") rfl),
           f_all_calls := _, d_all_calls := d_all_calls, p_all_calls := p_all_calls, m_all_calls := He.glo_ok X G (c.fact 13 (f := .glo "all_calls") rfl),
           f_every := _, d_every := d_every, p_every := p_every, m_every := He.glo_ok X G (c.fact 14 (f := .glo "every") rfl),
           f_whole := _, d_whole := d_whole, p_whole := p_whole, m_whole := He.glo_ok X G (c.fact 15 (f := .glo "whole") rfl),
           f_outer := _, d_outer := d_outer, p_outer := p_outer, m_outer := He.glo_ok X G (c.fact 16 (f := .glo "outer") rfl),
           f_own := _, d_own := d_own, p_own := p_own, m_own := He.glo_ok X G (c.fact 17 (f := .glo "own") rfl),
           f_table := _, d_table := d_table, p_table := p_table, m_table := He.glo_ok X G (c.fact 18 (f := .glo "table") rfl),
           f__law_word := _, d__law_word := d__law_word, p__law_word := p__law_word, m__law_word := He.glo_ok X G (c.fact 19 (f := .glo "_law_word") rfl),
           f__law_told := _, d__law_told := d__law_told, p__law_told := p__law_told, m__law_told := He.glo_ok X G (c.fact 20 (f := .glo "_law_told") rfl),
           f_callers := _, d_callers := d_callers, p_callers := p_callers, m_callers := He.glo_ok X G (c.fact 21 (f := .glo "callers") rfl),
           f_longest := _, d_longest := d_longest, p_longest := p_longest, m_longest := He.glo_ok X G (c.fact 22 (f := .glo "longest") rfl),
           f_heavy := _, d_heavy := d_heavy, p_heavy := p_heavy, m_heavy := He.glo_ok X G (c.fact 23 (f := .glo "heavy") rfl),
           f__law_refused := _, d__law_refused := d__law_refused, p__law_refused := p__law_refused, m__law_refused := He.glo_ok X G (c.fact 24 (f := .glo "_law_refused") rfl),
           f__law_callers := _, d__law_callers := d__law_callers, p__law_callers := p__law_callers, m__law_callers := He.glo_ok X G (c.fact 25 (f := .glo "_law_callers") rfl),
           f__law_heavy := _, d__law_heavy := d__law_heavy, p__law_heavy := p__law_heavy, m__law_heavy := He.glo_ok X G (c.fact 26 (f := .glo "_law_heavy") rfl),
           f__law_order := _, d__law_order := d__law_order, p__law_order := p__law_order, m__law_order := He.glo_ok X G (c.fact 27 (f := .glo "_law_order") rfl),
           f_law := _, d_law := d_law, p_law := p_law, m_law := He.glo_ok X G (c.fact 28 (f := .glo "law") rfl),
           n_ValueError := He.free_ok X G (c.fact 29 (f := .free "ValueError") rfl),
           n_all := He.free_ok X G (c.fact 30 (f := .free "all") rfl),
           n_bool := He.free_ok X G (c.fact 31 (f := .free "bool") rfl),
           n_dict := He.free_ok X G (c.fact 32 (f := .free "dict") rfl),
           n_enumerate := He.free_ok X G (c.fact 33 (f := .free "enumerate") rfl),
           n_int := He.free_ok X G (c.fact 34 (f := .free "int") rfl),
           n_isinstance := He.free_ok X G (c.fact 35 (f := .free "isinstance") rfl),
           n_len := He.free_ok X G (c.fact 36 (f := .free "len") rfl),
           n_max := He.free_ok X G (c.fact 37 (f := .free "max") rfl),
           n_min := He.free_ok X G (c.fact 38 (f := .free "min") rfl),
           n_range := He.free_ok X G (c.fact 39 (f := .free "range") rfl),
           n_set := He.free_ok X G (c.fact 40 (f := .free "set") rfl),
           n_sorted := He.free_ok X G (c.fact 41 (f := .free "sorted") rfl),
           n_str := He.free_ok X G (c.fact 42 (f := .free "str") rfl),
           n_sum := He.free_ok X G (c.fact 43 (f := .free "sum") rfl),
           n_tuple := He.free_ok X G (c.fact 44 (f := .free "tuple") rfl),
           c_MOST_TICK := He.int_ok X G (c.fact 45 (f := .int "MOST_TICK" 1000000) rfl),
           c_MOST_HAND := He.int_ok X G (c.fact 46 (f := .int "MOST_HAND" 4) rfl),
           c_MOST_NAME := He.int_ok X G (c.fact 47 (f := .int "MOST_NAME" 8) rfl),
           c_SMALL := He.str_ok X G (c.fact 48 (f := .str "SMALL" "abcdefghijklmnopqrstuvwxyz") rfl),
           c_MOST_ASKED := He.int_ok X G (c.fact 49 (f := .int "MOST_ASKED" 50) rfl),
           e_BadName := ⟨He.glo_ok X G (c.fact 50 (f := .glo "BadName") rfl), (He.exc_ok (c.fact 51 (f := .exc "BadName") rfl)).1, (He.exc_ok (c.fact 51 (f := .exc "BadName") rfl)).2.1, (He.exc_ok (c.fact 51 (f := .exc "BadName") rfl)).2.2.1, (He.exc_ok (c.fact 51 (f := .exc "BadName") rfl)).2.2.2⟩,
           e_BadTick := ⟨He.glo_ok X G (c.fact 52 (f := .glo "BadTick") rfl), (He.exc_ok (c.fact 53 (f := .exc "BadTick") rfl)).1, (He.exc_ok (c.fact 53 (f := .exc "BadTick") rfl)).2.1, (He.exc_ok (c.fact 53 (f := .exc "BadTick") rfl)).2.2.1, (He.exc_ok (c.fact 53 (f := .exc "BadTick") rfl)).2.2.2⟩,
           e_BadTrees := ⟨He.glo_ok X G (c.fact 54 (f := .glo "BadTrees") rfl), (He.exc_ok (c.fact 55 (f := .exc "BadTrees") rfl)).1, (He.exc_ok (c.fact 55 (f := .exc "BadTrees") rfl)).2.1, (He.exc_ok (c.fact 55 (f := .exc "BadTrees") rfl)).2.2.1, (He.exc_ok (c.fact 55 (f := .exc "BadTrees") rfl)).2.2.2⟩,
           wf := (VS.exB_ok ex).1, g_cs := VS.mg8 (He.glo_ok X G (c.fact 56 (f := .glo "BadFold") rfl)) (He.glo_ok X G (c.fact 50 (f := .glo "BadName") rfl)) (He.glo_ok X G (c.fact 57 (f := .glo "BadRows") rfl)) (He.glo_ok X G (c.fact 58 (f := .glo "BadText") rfl)) (He.glo_ok X G (c.fact 52 (f := .glo "BadTick") rfl)) (He.glo_ok X G (c.fact 54 (f := .glo "BadTrees") rfl)) (He.glo_ok X G (c.fact 59 (f := .glo "NoHand") rfl)) (He.glo_ok X G (c.fact 60 (f := .glo "Nothing") rfl)), g_ce := He.glo_ok X G (c.fact 61 (f := .glo "CallError") rfl) }, (Value.ref.inj e2).symm, rfl, rfl⟩
end K30
open PySem PySem.W PySem.Calls PyProof.Rows in
theorem K30.holds_of (plain : ∀ ns : List Int, ns.length ≤ 63 → VP.F_law [.scr ns] = .ok (.bl true)) : PySem.Challenge.rw_calltimes_k30_whole_tables.Holds := by
  w_on; o_law
  refine HandSHeadRun.head_any (r := OpenLaw.row PySem.Challenge.rw_calltimes_k30_whole_tables) (q := view (OpenLaw.row PySem.Challenge.rw_calltimes_k30_whole_tables).prog [47]) (H := K30.hk) (ob := K30.ob) (M := 4000) (loose := K30.loose) (d := HandSHeadRun.topDef (OpenLaw.row PySem.Challenge.rw_calltimes_k30_whole_tables).prog 47) (kwd := []) K30.ob_eq
    (by kernel_rfl) (fun s => by kernel_rfl) K30.run (by kernel_rfl) (by kernel_rfl) (by kernel_rfl) (by rfl) (by first | assumption | decide +kernel) (by decide +kernel) ⟨rfl, rfl, rfl, rfl, rfl, by decide +kernel⟩ ?hw ?hc
  case hw => w_witness2
  case hc =>
    refine LamX.walk_ofTsE (l := PySem.Challenge.rw_calltimes_k30_whole_tables) (n := 63) (k := 16) (x := "_law_script") (CX := fun _ => L2.CX0) rfl (by decide) (by kernel_rfl) ⟨rfl, by decide, by decide⟩ ?F (fun _ _ _ _ _ z => z)
    intro w mg fa h Y G hmg0
    obtain ⟨K, KX, c⟩ := Y
    have hmg : mg ("law" : PySem.Str) = some (.ref fa) := by
      have e : (HandSHeadRun.topDef (OpenLaw.row PySem.Challenge.rw_calltimes_k30_whole_tables).prog 47).name = ("law" : PySem.Str) := by kernel_rfl
      rw [← e]
      exact hmg0
    obtain ⟨fx, rfl, hf0, hf1⟩ := K30.facts KX G hmg c.t.d c.more
    have hap := (VS.exB_ok c.more).2
    refine ⟨K, KX, fx.d_law, K30.tf.map (He.cT K), (fun vs H Q _ => VS.spD K (VS.tabT K K30.tf) (He.ga K) 1 VP.F_law vs H Q L2.E0), fun p hp => ?_, fun p hp => ?_, fun p hp => ?_, fun s v => L2.FunD.bindsA (ps := ["_law_script"]) fx.p_law (fun _ _ _ _ _ _ us hl => match us, hl with | [_], _ => rfl) s [v] rfl, fun H a ns hl _ hT hS => VS.law_spT hT hS (plain ns hl), fun base _ _ hTB => VS.fnOk0 (K30.ok_law (T := VS.tabT K K30.tf) (cl := He.ga K) fx ⟨VS.lamT_fn fx.p_longest hap (by decide) hf0 hTB rfl, VS.lamT_fn fx.p__law_refused hap (by decide) hf1 hTB rfl⟩)⟩
    · obtain ⟨q, hq, rfl⟩ := List.mem_map.mp hp
      exact c.empty q hq
    · obtain ⟨q, hq, rfl⟩ := List.mem_map.mp hp
      exact c.out q hq
    · obtain ⟨q, hq, rfl⟩ := List.mem_map.mp hp
      exact PySem.W.codeHd_of_K KX (c.hd q hq)

set_option Elab.async false
set_option linter.all false
set_option maxRecDepth 100000
set_option maxHeartbeats 1000000
namespace VP
open PySem PySem.Spec PyProof.Rows L2 LamX VS
/-! the plain side: calls as a forest -/
inductive Cals where
  | nil | cons (n : Str) (a b : Int) (i r : Cals)
def toDs : Cals → List D
  | .nil => [] | .cons n a b i r => .tup [.str n, .int a, .int b, .tup (toDs i)] :: toDs r
abbrev cD (c : Cals) : D := .tup (toDs c)
abbrev one (n : Str) (a b : Int) (i : Cals) : D := .tup [.str n, .int a, .int b, .tup (toDs i)]
theorem toDs_cons (n : Str) (a b : Int) (i r : Cals) : toDs (.cons n a b i r) = one n a b i :: toDs r := rfl
theorem toDs_nil : toDs .nil = [] := rfl
/-! evaluation -/
section
variable {ρ : VS.Env} {f f' : D → D → R D} {g h k : VS.Env → R D} {fa : List D → R D} {ga : VS.Env → R (List D)} {c c' : VS.Env → R Bool} {o o' : VS.Env → Out}
@[simp] theorem e_op : geOp f g h ρ = (g ρ >>= fun x => h ρ >>= fun y => f x y) := rfl
@[simp] theorem e_A : geA fa ga ρ = (ga ρ >>= fa) := rfl
@[simp] theorem e_1 {f1 : D → R D} : ge1 f1 g ρ = (g ρ >>= f1) := rfl
@[simp] theorem e_nil : gaNil ρ = .ok [] := rfl
@[simp] theorem e_cons : gaCons g ga ρ = (g ρ >>= fun d => ga ρ >>= fun ds => .ok (d :: ds)) := rfl
@[simp] theorem e_I (i : Int) : gI i ρ = .ok (.int i) := rfl
@[simp] theorem e_S (i : Str) : gS i ρ = .ok (.str i) := rfl
@[simp] theorem e_B (i : Bool) : gB i ρ = .ok (.bl i) := rfl
@[simp] theorem e_N : gN ρ = .ok .non := rfl
@[simp] theorem e_gB : geB g ρ = (g ρ >>= boolOf) := rfl
@[simp] theorem e_gO : geOfB c ρ = (c ρ >>= fun b => .ok (.bl b)) := rfl
@[simp] theorem e_bl (b : Bool) : boolOf (.bl b) = .ok b := rfl
@[simp] theorem e_not : gNot c ρ = (c ρ >>= fun b => .ok (!b)) := rfl
@[simp] theorem e_and : gAnd c c' ρ = (c ρ >>= fun b => if b then c' ρ else .ok false) := rfl
@[simp] theorem e_or : gOr c c' ρ = (c ρ >>= fun b => if b then .ok true else c' ρ) := rfl
@[simp] theorem e_andV : gAndV g h ρ = (g ρ >>= boolOf >>= fun b => if b then h ρ else .ok (.bl false)) := rfl
@[simp] theorem e_orV : gOrV g h ρ = (g ρ >>= boolOf >>= fun b => if b then .ok (.bl true) else h ρ) := rfl
@[simp] theorem e_if : geIf c g h ρ = (c ρ >>= fun b => if b then g ρ else h ρ) := rfl
@[simp] theorem e_chain : geChain f f' g h k ρ = (g ρ >>= fun x => h ρ >>= fun y => (f x y >>= boolOf) >>= fun b => if b then (k ρ >>= fun z => f' y z) else .ok (.bl false)) := rfl
@[simp] theorem e_seq : seqO o o' ρ = (match o ρ with | .nx ρ' => o' ρ' | .rt d => .rt d | .bk ρ' => .bk ρ' | .ct ρ' => .ct ρ' | .ex c => .ex c | .no => .no) := rfl
@[simp] theorem e_ifO : ifO c o o' ρ = (match c ρ with | .ok b => if b then o ρ else o' ρ | .ex c => .ex c | .no => .no) := rfl
@[simp] theorem e_ofR (d : D) (q : D → Out) : ofR (.ok d) q = q d := rfl
@[simp] theorem e_run (n : Nat) (ds : List D) : runDef n o ds = (match o (startE n ds) with | .nx _ => .ok .non | .rt d => .ok d | .ex c => .ex c | _ => .no) := rfl
@[simp] theorem e_V (i : Nat) : geV i ρ = (match ρ[i]? with | some (.im d) => .ok d | _ => .no) := rfl
@[simp] theorem e_T (i : Nat) : geT i ρ = (match ρ[i]? with | some (.im d) => .ok d | some (.ow ds) => .ok (.lst ds) | some (.oK kvs) => .ok (.dK kvs) | some (.oT kvs) => .ok (.dT kvs) | _ => .no) := rfl
@[simp] theorem e_addI (i j : Int) : addI (.int i) (.int j) = .ok (.int (i + j)) := rfl
@[simp] theorem e_subI (i j : Int) : subI (.int i) (.int j) = .ok (.int (i - j)) := rfl
@[simp] theorem e_cmI (p : Int → Int → Bool) (i j : Int) : cmI p (.int i) (.int j) = .ok (.bl (p i j)) := rfl
@[simp] theorem e_tupD (ds : List D) (h : ds.length ≤ sizeLine) : tupD ds = .ok (.tup ds) := by unfold tupD; rw [if_pos h]
@[simp] theorem e_own (i : Nat) : ownO i g ρ = ofR (g ρ) fun d => match slOf d with | some sl => .nx (ρ.set i sl) | none => .no := rfl
@[simp] theorem e_app (i : Nat) : appO i g ρ = (match ρ[i]? with | some (.ow ds) => ofR (g ρ) fun d => if ds.length < sizeLine then .nx (ρ.set i (.ow (ds ++ [d]))) else .no | _ => .no) := rfl
@[simp] theorem e_for {t : Tg} {gi : VS.Env → R (List D)} : forO t gi o ρ = (match gi ρ with | .ok ds => runFor (bindT t) o ds ρ | .ex c => .ex c | .no => .no) := rfl
@[simp] theorem e_itL (ds : List D) : itL (.lst ds) = .ok ds := rfl
@[simp] theorem e_itT (ds : List D) : itT (.tup ds) = .ok ds := rfl
@[simp] theorem e_gSeq {q : D → R (List D)} : gSeq q g ρ = (g ρ >>= q) := rfl
@[simp] theorem e_gSeqA {q : List D → R (List D)} : gSeqA q ga ρ = (ga ρ >>= q) := rfl
end
theorem lstD_ok {ds : List D} (h : ds.length ≤ sizeLine) : lstD ds = .ok (.lst ds) := by unfold lstD; rw [if_pos h]
theorem catL_ok {ds es : List D} (h : ds.length + es.length ≤ sizeLine) : catL (.lst ds) (.lst es) = .ok (.lst (ds ++ es)) := by unfold catL; dsimp only; rw [if_pos h]
theorem sl0 : 0 ≤ sizeLine := Nat.zero_le _
theorem sl_ge {n : Nat} (h : n ≤ 16777216) : n ≤ sizeLine := by rw [sizeLine_eq]; exact h

theorem whole_eq (n : Str) (a b : Int) (i : Cals) : F_whole [one n a b i] = .ok (.int (b - a)) := rfl
theorem is_count_eq (i lo hi : Int) : F_is_count [.int i, .int lo, .int hi] = .ok (.bl (decide (lo ≤ i) && decide (i ≤ hi))) := by
  by_cases h : lo ≤ i <;> simp [F_is_count, b_is_count, startE, isiD, isTy, tyD, h]
/-! stack_in -/
def stk : Cals → Int → List Str
  | .nil, _ => [] | .cons n a b i r, t => if a ≤ t ∧ t < b then n :: stk i t else stk r t
def dep : Cals → Nat
  | .nil => 0 | .cons _ _ _ i r => max (dep i + 1) (dep r)
theorem stk_cons (n : Str) (a b : Int) (i r : Cals) (t : Int) : stk (.cons n a b i r) t = if a ≤ t ∧ t < b then n :: stk i t else stk r t := rfl
theorem dep_cons (n : Str) (a b : Int) (i r : Cals) : dep (.cons n a b i r) = max (dep i + 1) (dep r) := rfl
theorem stk_len (c : Cals) (t : Int) : (stk c t).length ≤ dep c := by
  induction c with
  | nil => simp [stk, dep]
  | cons n a b i r hi hr =>
    unfold stk dep
    split
    · rw [List.length_cons]; omega
    · omega
def b_stk (self : List D → R D) : VS.Env → Out := ifO (geB (geChain (cmI fun i j => decide (i ≤ j)) (cmI fun i j => decide (i < j)) (geV 3) (geV 1) (geV 4)))
   (fun ρ => ofR ((geOp catL (geA lstD (gaCons (geV 2) gaNil)) (geA self (gaCons (geV 5) (gaCons (geV 1) gaNil)))) ρ) .rt)
   .nx
def t_4 : Tg := .tp (.cons (.nm 2) (.cons (.nm 3) (.cons (.nm 4) (.cons (.nm 5) .nil))))
theorem bind4 (n : Str) (a b : Int) (i : Cals) (x0 x1 s2 s3 s4 s5 : Sl) : bindT t_4 (one n a b i) [x0, x1, s2, s3, s4, s5] = .ok [x0, x1, .im (.str n), .im (.int a), .im (.int b), .im (cD i)] := rfl
theorem b_stk_no {self : List D → R D} {t a b : Int} {x0 x2 x5 : Sl} (h : ¬ (a ≤ t ∧ t < b)) : b_stk self [x0, .im (.int t), x2, .im (.int a), .im (.int b), x5] = .nx [x0, .im (.int t), x2, .im (.int a), .im (.int b), x5] := by
  by_cases h1 : a ≤ t
  · have h2 : ¬ t < b := fun q => h ⟨h1, q⟩
    simp [b_stk, h1, h2]
  · simp [b_stk, h1]
theorem b_stk_yes {self : List D → R D} {t a b : Int} {n : Str} {i : Cals} {x0 : Sl} {l : List D} (h : a ≤ t ∧ t < b) (hs : self [cD i, .int t] = .ok (.lst l)) (hl : 1 + l.length ≤ sizeLine) :
    b_stk self [x0, .im (.int t), .im (.str n), .im (.int a), .im (.int b), .im (cD i)] = .rt (.lst (.str n :: l)) := by
  have h1 : lstD [D.str n] = .ok (.lst [.str n]) := lstD_ok (sl_ge (by show 1 ≤ _; omega))
  have h2 : catL (.lst [D.str n]) (.lst l) = .ok (.lst (.str n :: l)) := catL_ok hl
  simp [b_stk, h.1, h.2, h1, h2, hs]
theorem stk_for {self : List D → R D} {t : Int} : ∀ (c : Cals), (∀ i : Cals, dep i < dep c → self [cD i, .int t] = .ok (.lst ((stk i t).map .str))) → dep c ≤ 1000 → ∀ (x0 s2 s3 s4 s5 : Sl),
    runFor (bindT t_4) (b_stk self) (toDs c) [x0, .im (.int t), s2, s3, s4, s5] = .rt (.lst ((stk c t).map .str)) ∨ (stk c t = [] ∧ ∃ u2 u3 u4 u5, runFor (bindT t_4) (b_stk self) (toDs c) [x0, .im (.int t), s2, s3, s4, s5] = .nx [x0, .im (.int t), u2, u3, u4, u5])
  | .nil, _, _, x0, s2, s3, s4, s5 => .inr ⟨rfl, s2, s3, s4, s5, rfl⟩
  | .cons n a b i r, hs, hd, x0, s2, s3, s4, s5 => by
    have d1 : dep i < dep (.cons n a b i r) := by rw [dep_cons]; omega
    have d2 : dep r ≤ dep (.cons n a b i r) := by rw [dep_cons]; omega
    rw [toDs_cons]
    unfold runFor
    rw [bind4]
    dsimp only
    by_cases h : a ≤ t ∧ t < b
    · left
      have hl := stk_len i t
      rw [b_stk_yes h (hs i d1) (by rw [List.length_map]; exact sl_ge (by omega))]
      rw [stk_cons, if_pos h]; rfl
    · rw [b_stk_no h]
      have ih := stk_for (self := self) (t := t) r (fun j hj => hs j (by omega)) (by omega) x0 (.im (.str n)) (.im (.int a)) (.im (.int b)) (.im (cD i))
      have e : stk (.cons n a b i r) t = stk r t := by rw [stk_cons, if_neg h]
      rw [e]
      exact ih
theorem stack_in_eq : ∀ (j : Nat) (c : Cals) (t : Int), dep c < j → dep c ≤ 1000 → F_stack_in j [cD c, .int t] = .ok (.lst ((stk c t).map .str))
  | 0, c, t, h, _ => by omega
  | j + 1, c, t, h, h2 => by
    have key := stk_for (self := F_stack_in j) (t := t) c (fun i hi => stack_in_eq j i t (by omega) (by omega)) h2 (.im (cD c)) .un .un .un .un
    have l0 : lstD [] = .ok (.lst []) := lstD_ok sl0
    have e : F_stack_in (j + 1) [cD c, .int t] = (match (match runFor (bindT t_4) (b_stk (F_stack_in j)) (toDs c) [.im (cD c), .im (.int t), .un, .un, .un, .un] with | .nx ρ' => ofR (lstD []) .rt | .rt d => .rt d | .bk ρ' => .bk ρ' | .ct ρ' => .ct ρ' | .ex c => .ex c | .no => .no) with | .nx _ => .ok .non | .rt d => .ok d | .ex c => .ex c | _ => .no) := rfl
    rw [e]
    rcases key with k | ⟨k1, u2, u3, u4, u5, k⟩
    · rw [k]
    · rw [k, l0, k1]; rfl
end VP

set_option Elab.async false
set_option linter.all false
set_option maxRecDepth 100000
set_option maxHeartbeats 1000000
namespace VP
open PySem PySem.Spec PyProof.Rows L2 LamX VS
def NM : List Str := ["a", "b", "c", "ab", "work", "abcdefgh"]
theorem is_name_eq : ∀ n ∈ NM, F_is_name [.str n] = .ok (.bl true) := by
  intro n hn
  unfold NM at hn
  rcases List.mem_cons.mp hn with rfl | hn; · rfl
  rcases List.mem_cons.mp hn with rfl | hn; · rfl
  rcases List.mem_cons.mp hn with rfl | hn; · rfl
  rcases List.mem_cons.mp hn with rfl | hn; · rfl
  rcases List.mem_cons.mp hn with rfl | hn; · rfl
  rcases List.mem_cons.mp hn with rfl | hn; · rfl
  cases hn
theorem comp_map {α : Type} {b : D → VS.Env → R VS.Env} {tt : VS.Env → R Bool} {g : VS.Env → R D} {ρ : VS.Env} {u : α → D} {p : α → Bool} {h : α → D} : ∀ l : List α, (∀ x ∈ l, ∃ ρ1, b (u x) ρ = .ok ρ1 ∧ tt ρ1 = .ok (p x) ∧ (p x = true → g ρ1 = .ok (h x))) →
    runComp b tt g ρ (l.map u) = .ok ((l.filter p).map h)
  | [], _ => rfl
  | x :: l, H => by
    obtain ⟨ρ1, h1, h2, h3⟩ := H x List.mem_cons_self
    have ih := comp_map l fun y hy => H y (List.mem_cons_of_mem _ hy)
    rw [List.map_cons]
    unfold runComp
    rw [h1]; dsimp only
    rw [h2]
    cases e : p x with
    | true => dsimp only; rw [h3 e, ih, List.filter_cons_of_pos e, List.map_cons]
    | false => dsimp only; rw [ih, List.filter_cons_of_neg (by rw [e]; decide)]
theorem comp_all {α : Type} {b : D → VS.Env → R VS.Env} {g : VS.Env → R D} {ρ : VS.Env} {u : α → D} {h : α → D} (l : List α) (H : ∀ x ∈ l, ∃ ρ1, b (u x) ρ = .ok ρ1 ∧ g ρ1 = .ok (h x)) :
    runComp b (fun _ => .ok true) g ρ (l.map u) = .ok (l.map h) := by
  have := comp_map (b := b) (tt := fun _ => .ok true) (g := g) (ρ := ρ) (u := u) (p := fun _ => true) (h := h) l fun x hx => by
    obtain ⟨ρ1, h1, h2⟩ := H x hx
    exact ⟨ρ1, h1, rfl, fun _ => h2⟩
  rw [this, List.filter_eq_self.mpr (fun _ _ => rfl)]
theorem compE_all {α : Type} {t : Tg} {vs : List Nat} {gi : VS.Env → R (List D)} {g : VS.Env → R D} {ρ : VS.Env} {u : α → D} {h : α → D} (l : List α) (hi : gi ρ = .ok (l.map u)) (hl : l.length ≤ sizeLine) (H : ∀ x ∈ l, ∃ ρ1, bindT t (u x) (wipeE ρ vs) = .ok ρ1 ∧ g ρ1 = .ok (h x)) :
    compE t vs gi (fun _ => .ok true) g ρ = .ok (.lst (l.map h)) := by
  unfold compE
  rw [hi]; dsimp only
  rw [if_pos (by rw [List.length_map]; exact hl), comp_all l H]
theorem compE_filter {α : Type} {t : Tg} {vs : List Nat} {gi : VS.Env → R (List D)} {g : VS.Env → R D} {tt : VS.Env → R Bool} {p : α → Bool} {ρ : VS.Env} {u : α → D} {h : α → D} (l : List α) (hi : gi ρ = .ok (l.map u)) (hl : l.length ≤ sizeLine)
    (H : ∀ x ∈ l, ∃ ρ1, bindT t (u x) (wipeE ρ vs) = .ok ρ1 ∧ tt ρ1 = .ok (p x) ∧ (p x = true → g ρ1 = .ok (h x))) : compE t vs gi tt g ρ = .ok (.lst ((l.filter p).map h)) := by
  unfold compE
  rw [hi]; dsimp only
  rw [if_pos (by rw [List.length_map]; exact hl), comp_map l H]
/-- a loop that ends: its invariant by what is done -/
theorem for_inv {α : Type} {b : D → VS.Env → R VS.Env} {f : VS.Env → Out} {u : α → D} (Inv : List α → VS.Env → Prop) : ∀ (rest done : List α) (ρ : VS.Env), Inv done ρ →
    (∀ dn x rs ρ, dn ++ x :: rs = done ++ rest → Inv dn ρ → ∃ ρ1 ρ2, b (u x) ρ = .ok ρ1 ∧ (f ρ1 = .nx ρ2 ∨ f ρ1 = .ct ρ2) ∧ Inv (dn ++ [x]) ρ2) → ∃ ρ', runFor b f (rest.map u) ρ = .nx ρ' ∧ Inv (done ++ rest) ρ'
  | [], done, ρ, h0, _ => ⟨ρ, rfl, by rw [List.append_nil]; exact h0⟩
  | x :: rest, done, ρ, h0, H => by
    obtain ⟨ρ1, ρ2, h1, h2, h3⟩ := H done x rest ρ rfl h0
    obtain ⟨ρ', h4, h5⟩ := for_inv Inv rest (done ++ [x]) ρ2 h3 fun dn y rs ρ e hi => H dn y rs ρ (by rw [e, List.append_assoc]; rfl) hi
    refine ⟨ρ', ?_, by rw [List.append_assoc] at h5; exact h5⟩
    rw [List.map_cons]
    unfold runFor
    rw [h1]; dsimp only
    rcases h2 with h2 | h2 <;> rw [h2] <;> exact h4
theorem for_all {α : Type} {b : D → VS.Env → R VS.Env} {f : VS.Env → Out} {u : α → D} (Inv : List α → VS.Env → Prop) (l : List α) (ρ : VS.Env) (h0 : Inv [] ρ)
    (H : ∀ dn x rs ρ, dn ++ x :: rs = l → Inv dn ρ → ∃ ρ1 ρ2, b (u x) ρ = .ok ρ1 ∧ (f ρ1 = .nx ρ2 ∨ f ρ1 = .ct ρ2) ∧ Inv (dn ++ [x]) ρ2) : ∃ ρ', runFor b f (l.map u) ρ = .nx ρ' ∧ Inv l ρ' := by
  have := for_inv Inv l [] ρ h0 H
  simpa using this
/-! tops -/
structure Nd where
  n : Str
  a : Int
  b : Int
  i : Cals
def tops : Cals → List Nd
  | .nil => [] | .cons n a b i r => ⟨n, a, b, i⟩ :: tops r
def ndD (q : Nd) : D := one q.n q.a q.b q.i
theorem toDs_tops : ∀ c, toDs c = (tops c).map ndD
  | .nil => rfl
  | .cons n a b i r => by rw [toDs_cons, toDs_tops r]; rfl
theorem dep_tops {c : Cals} {q : Nd} (h : q ∈ tops c) : dep q.i < dep c := by
  induction c with
  | nil => cases h
  | cons n a b i r hi hr =>
    rw [dep_cons]
    rcases List.mem_cons.mp h with rfl | h
    · show dep i < _; omega
    · have := hr h; omega
/-- how many calls -/
def cnt : Cals → Nat
  | .nil => 0 | .cons _ _ _ i r => 1 + cnt i + cnt r
theorem cnt_cons (n : Str) (a b : Int) (i r : Cals) : cnt (.cons n a b i r) = 1 + cnt i + cnt r := rfl
theorem tops_len (c : Cals) : (tops c).length ≤ cnt c := by
  induction c with
  | nil => exact Nat.le_refl _
  | cons n a b i r hi hr => rw [cnt_cons]; show (tops r).length + 1 ≤ _; omega
theorem cnt_tops {c : Cals} {q : Nd} (h : q ∈ tops c) : cnt q.i < cnt c := by
  induction c with
  | nil => cases h
  | cons n a b i r hi hr =>
    rw [cnt_cons]
    rcases List.mem_cons.mp h with rfl | h
    · show cnt i < _; omega
    · have := hr h; omega
theorem dep_cnt (c : Cals) : dep c ≤ cnt c := by
  induction c with
  | nil => exact Nat.le_refl _
  | cons n a b i r hi hr => rw [cnt_cons, dep_cons]; omega
/-! depth_of -/
theorem maxI_eq {ns : List Int} {m : Int} (h1 : m ∈ ns) (h2 : ∀ y ∈ ns, y ≤ m) : maxI ns = m := by
  have := maxI_is ns (fun e => by rw [e] at h1; cases h1)
  have a := this.2 m h1
  have b := h2 _ this.1
  omega
theorem intsD_map : ∀ ns : List Int, intsD (ns.map .int) = some ns
  | [] => rfl
  | n :: ns => by rw [List.map_cons, intsD, intsD_map ns]; rfl
end VP

set_option Elab.async false
set_option linter.all false
set_option maxRecDepth 100000
set_option maxHeartbeats 1000000
namespace VP
open PySem PySem.Spec PyProof.Rows L2 LamX VS
theorem dep_max (c : Cals) : maxI (0 :: (tops c).map fun q => (1 + dep q.i : Int)) = dep c := by
  refine maxI_eq ?_ ?_
  · induction c with
    | nil => exact List.mem_cons_self
    | cons n a b i r hi hr =>
      rw [dep_cons]
      show _ ∈ (0 : Int) :: (1 + dep i : Int) :: _
      by_cases h : dep r ≤ dep i + 1
      · rw [Nat.max_eq_left h]; exact List.mem_cons_of_mem _ (by rw [List.mem_cons]; left; push_cast; omega)
      · rw [Nat.max_eq_right (by omega)]
        rcases List.mem_cons.mp hr with e | e
        · omega
        · exact List.mem_cons_of_mem _ (List.mem_cons_of_mem _ e)
  · intro y hy
    rcases List.mem_cons.mp hy with rfl | hy
    · omega
    · obtain ⟨q, hq, rfl⟩ := List.mem_map.mp hy
      have := dep_tops hq
      omega
theorem depth_of_eq : ∀ (j : Nat) (c : Cals), dep c < j → cnt c ≤ 10000 → F_depth_of j [cD c] = .ok (.int (dep c))
  | 0, c, h, _ => by omega
  | j + 1, c, h, hc => by
    have hl := tops_len c
    have hcomp : compE (.nm 1) [1] (gSeq itT (geV 0)) (fun _ => .ok true) (geOp addI (gI 1) (geA (F_depth_of j) (gaCons (geOp ixT (geV 1) (gI 3)) gaNil))) [.im (cD c), .un] = .ok (.lst ((tops c).map fun q => .int (1 + dep q.i))) := by
      refine compE_all (u := ndD) (h := fun q : Nd => .int (1 + dep q.i)) (tops c) ?_ (sl_ge (by omega)) fun q hq => ⟨[.im (cD c), .im (ndD q)], rfl, ?_⟩
      · show R.ok (toDs c) = _; rw [toDs_tops]
      · have h1 := dep_tops hq
        have h2 := cnt_tops hq
        have ih := depth_of_eq j q.i (by omega) (by omega)
        have e : geOp ixT (geV 1) (gI 3) [.im (cD c), .im (ndD q)] = .ok (cD q.i) := rfl
        simp only [e_op, e_A, e_cons, e_nil, e_I, R.ok_bind] at e ⊢
        rw [e]
        simp only [R.ok_bind]
        rw [ih]; rfl
    have h0 : lstD [D.int 0] = .ok (.lst [.int 0]) := lstD_ok (sl_ge (by show 1 ≤ _; omega))
    have h1 : catL (.lst [D.int 0]) (.lst ((tops c).map fun q => .int (1 + dep q.i))) = .ok (.lst ((0 :: (tops c).map fun q => (1 + dep q.i : Int)).map .int)) := by
      rw [catL_ok (sl_ge (by rw [List.length_map]; show 1 + _ ≤ _; omega)), List.map_cons, List.map_map]; rfl
    have h2 : maxL [.lst ((0 :: (tops c).map fun q => (1 + dep q.i : Int)).map .int)] = .ok (.int (dep c)) := by
      unfold maxL
      dsimp only
      rw [intsD_map]
      dsimp only
      rw [dep_max]
    have st : startE 2 [cD c] = [.im (cD c), .un] := rfl
    simp [F_depth_of, b_depth_of, C_depth_of_1, st, hcomp, h0, h1, h2, -List.map_cons, -List.map_map]

/-! are_calls: drawn calls are calls -/
def val : Cals → Int → Int → Prop
  | .nil, _, _ => True | .cons n a b i r, lo, hi => n ∈ NM ∧ lo ≤ a ∧ a ≤ b ∧ b ≤ hi ∧ val i a b ∧ val r b hi
theorem val_cons {n : Str} {a b : Int} {i r : Cals} {lo hi : Int} : val (.cons n a b i r) lo hi = (n ∈ NM ∧ lo ≤ a ∧ a ≤ b ∧ b ≤ hi ∧ val i a b ∧ val r b hi) := rfl
theorem val_up : ∀ {c : Cals} {lo hi hi' : Int}, val c lo hi → hi ≤ hi' → val c lo hi'
  | .nil, _, _, _, _, _ => trivial
  | .cons n a b i r, lo, hi, hi', h, k => by
    rw [val_cons] at h ⊢
    exact ⟨h.1, h.2.1, h.2.2.1, by omega, h.2.2.2.2.1, val_up h.2.2.2.2.2 k⟩
def b_are (self : List D → R D) : VS.Env → Out := (seqO (ifO (gOr (gNot (geB (ge1 (isiD .tuple) (geV 3)))) (gOr (geB (geOp cmNe (geA lenD (gaCons (geV 3) gaNil)) (gI 4))) (gOr (gNot (geB (geA F_is_name (gaCons (geOp ixT (geV 3) (gI 0)) gaNil)))) (gNot (geB (geA F_is_count (gaCons (geOp ixT (geV 3) (gI 1)) (gaCons (geV 1) (gaCons (geV 2) gaNil)))))))))
   (fun ρ => ofR ((gB false) ρ) .rt)
   .nx)
  (seqO (ifO (gOr (gNot (geB (geA F_is_count (gaCons (geOp ixT (geV 3) (gI 2)) (gaCons (geOp ixT (geV 3) (gI 1)) (gaCons (geV 2) gaNil)))))) (gNot (geB (geA self (gaCons (geOp ixT (geV 3) (gI 3)) (gaCons (geOp ixT (geV 3) (gI 1)) (gaCons (geOp ixT (geV 3) (gI 2)) gaNil)))))))
   (fun ρ => ofR ((gB false) ρ) .rt)
   .nx)
  (fun ρ => ofR ((geOp ixT (geV 3) (gI 2)) ρ) fun d => .nx (ρ.set 1 (.im d)))))
theorem b_are_step {self : List D → R D} {x0 : Sl} {lo hi : Int} {n : Str} {a b : Int} {i : Cals} (hn : n ∈ NM) (h1 : lo ≤ a) (h2 : a ≤ b) (h3 : b ≤ hi) (hs : self [cD i, .int a, .int b] = .ok (.bl true)) :
    b_are self [x0, .im (.int lo), .im (.int hi), .im (one n a b i)] = .nx [x0, .im (.int b), .im (.int hi), .im (one n a b i)] := by
  have e0 : geOp ixT (geV 3) (gI 0) [x0, .im (.int lo), .im (.int hi), .im (one n a b i)] = .ok (.str n) := rfl
  have e1 : geOp ixT (geV 3) (gI 1) [x0, .im (.int lo), .im (.int hi), .im (one n a b i)] = .ok (.int a) := rfl
  have e2 : geOp ixT (geV 3) (gI 2) [x0, .im (.int lo), .im (.int hi), .im (one n a b i)] = .ok (.int b) := rfl
  have e3 : geOp ixT (geV 3) (gI 3) [x0, .im (.int lo), .im (.int hi), .im (one n a b i)] = .ok (cD i) := rfl
  have e4 : geB (ge1 (isiD .tuple) (geV 3)) [x0, .im (.int lo), .im (.int hi), .im (one n a b i)] = .ok true := rfl
  have e5 : geB (geOp cmNe (geA lenD (gaCons (geV 3) gaNil)) (gI 4)) [x0, .im (.int lo), .im (.int hi), .im (one n a b i)] = .ok false := rfl
  have e6 : F_is_count [.int a, .int lo, .int hi] = .ok (.bl true) := by rw [is_count_eq, decide_eq_true h1, decide_eq_true (by omega : a ≤ hi)]; rfl
  have e7 : F_is_count [.int b, .int a, .int hi] = .ok (.bl true) := by rw [is_count_eq, decide_eq_true h2, decide_eq_true h3]; rfl
  have e8 := is_name_eq n hn
  have v1 : geV 1 [x0, .im (.int lo), .im (.int hi), .im (one n a b i)] = .ok (.int lo) := rfl
  have v2 : geV 2 [x0, .im (.int lo), .im (.int hi), .im (one n a b i)] = .ok (.int hi) := rfl
  simp only [b_are, e_seq, e_ifO, e_or, e_not, e4, e5, R.ok_bind]
  simp only [e_gB, e_A, e_cons, e_nil, e0, e1, e2, e3, v1, v2, R.ok_bind, e6, e7, e8, hs, e_bl, Bool.not_true, Bool.false_eq_true, if_false, e_ofR]
  rfl
theorem are_for {self : List D → R D} {hi : Int} : ∀ (c : Cals) (lo : Int), val c lo hi → (∀ (i : Cals) (a b : Int), dep i < dep c → val i a b → self [cD i, .int a, .int b] = .ok (.bl true)) → ∀ (x0 s3 : Sl),
    ∃ lo' u3, runFor (bindT (.nm 3)) (b_are self) (toDs c) [x0, .im (.int lo), .im (.int hi), s3] = .nx [x0, .im (.int lo'), .im (.int hi), u3]
  | .nil, lo, _, _, x0, s3 => ⟨lo, s3, rfl⟩
  | .cons n a b i r, lo, v, hs, x0, s3 => by
    rw [val_cons] at v
    have d1 : dep i < dep (.cons n a b i r) := by rw [dep_cons]; omega
    have d2 : dep r ≤ dep (.cons n a b i r) := by rw [dep_cons]; omega
    obtain ⟨lo', u3, e⟩ := are_for (self := self) r b v.2.2.2.2.2 (fun j a b hj => hs j a b (by omega)) x0 (.im (one n a b i))
    refine ⟨lo', u3, ?_⟩
    rw [toDs_cons]
    unfold runFor
    have e1 : bindT (.nm 3) (one n a b i) [x0, .im (.int lo), .im (.int hi), s3] = .ok [x0, .im (.int lo), .im (.int hi), .im (one n a b i)] := rfl
    rw [e1]; dsimp only
    rw [b_are_step v.1 v.2.1 v.2.2.1 v.2.2.2.1 (hs i a b d1 v.2.2.2.2.1)]
    exact e
theorem are_calls_eq : ∀ (j : Nat) (c : Cals) (lo hi : Int), dep c < j → val c lo hi → F_are_calls j [cD c, .int lo, .int hi] = .ok (.bl true)
  | 0, c, lo, hi, h, _ => by omega
  | j + 1, c, lo, hi, h, v => by
    obtain ⟨lo', u3, e⟩ := are_for (self := F_are_calls j) c lo v (fun i a b hi v => are_calls_eq j i a b (by omega) v) (.im (cD c)) .un
    have e1 : geB (ge1 (isiD .tuple) (geV 0)) [.im (cD c), .im (.int lo), .im (.int hi), .un] = .ok true := rfl
    have e2 : gSeq itT (geV 0) [.im (cD c), .im (.int lo), .im (.int hi), .un] = .ok (toDs c) := rfl
    have st : startE 4 [cD c, .int lo, .int hi] = [.im (cD c), .im (.int lo), .im (.int hi), .un] := rfl
    show runDef 4 (b_are_calls (F_are_calls j)) _ = _
    unfold b_are_calls L_are_calls_1
    simp only [e_run, st, e_seq, e_ifO, e_not, e1, R.ok_bind, Bool.not_true, Bool.false_eq_true, if_false, e_for, e2]
    unfold b_are at e
    rw [e]
    rfl
end VP

set_option Elab.async false
set_option linter.all false
set_option maxRecDepth 100000
set_option maxHeartbeats 1000000
namespace VP
open PySem PySem.Spec PyProof.Rows L2 LamX VS
/-! all calls -/
def allq : Cals → List Nd
  | .nil => [] | .cons n a b i r => ⟨n, a, b, i⟩ :: (allq i ++ allq r)
theorem allq_len (c : Cals) : (allq c).length = cnt c := by
  induction c with
  | nil => rfl
  | cons n a b i r hi hr => show (_ :: (allq i ++ allq r)).length = _; rw [List.length_cons, List.length_append, hi, hr, cnt_cons]; omega
def b_all (self : List D → R D) : VS.Env → Out := (seqO (appO 1 (geV 2)) (extO 1 (geA self (gaCons (geOp ixT (geV 2) (gI 3)) gaNil))))
theorem b_all_step {self : List D → R D} {x0 : Sl} {acc : List D} {q : Nd} {l : List D} (hs : self [cD q.i] = .ok (.lst l)) (hl : acc.length + 1 + l.length ≤ sizeLine) :
    b_all self [x0, .ow acc, .im (ndD q)] = .nx [x0, .ow (acc ++ ndD q :: l), .im (ndD q)] := by
  have h1 : appO 1 (geV 2) [x0, .ow acc, .im (ndD q)] = .nx [x0, .ow (acc ++ [ndD q]), .im (ndD q)] := by
    simp [show acc.length < sizeLine by omega]
  have e3 : geOp ixT (geV 2) (gI 3) [x0, .ow (acc ++ [ndD q]), .im (ndD q)] = .ok (cD q.i) := rfl
  have e4 : geA self (gaCons (geOp ixT (geV 2) (gI 3)) gaNil) [x0, .ow (acc ++ [ndD q]), .im (ndD q)] = .ok (.lst l) := by
    simp only [e_A, e_cons, e_nil, e3, R.ok_bind, hs]
  simp only [b_all, e_seq, h1]
  unfold extO
  simp only [List.getElem?_cons_succ, List.getElem?_cons_zero, e4, e_ofR, itemsD]
  rw [if_pos (by rw [List.length_append, List.length_cons, List.length_nil]; omega)]
  simp
theorem all_for {self : List D → R D} : ∀ (c : Cals), (∀ q ∈ tops c, self [cD q.i] = .ok (.lst ((allq q.i).map ndD))) → ∀ (x0 s2 : Sl) (acc : List D), acc.length + cnt c ≤ sizeLine →
    ∃ u2, runFor (bindT (.nm 2)) (b_all self) (toDs c) [x0, .ow acc, s2] = .nx [x0, .ow (acc ++ (allq c).map ndD), u2]
  | .nil, _, x0, s2, acc, _ => ⟨s2, by rw [toDs_nil]; show Out.nx _ = _; simp [allq]⟩
  | .cons n a b i r, hs, x0, s2, acc, hl => by
    rw [cnt_cons] at hl
    have hl2 : ((allq i).map ndD).length = cnt i := by rw [List.length_map, allq_len]
    obtain ⟨u2, e⟩ := all_for (self := self) r (fun q hq => hs q (List.mem_cons_of_mem _ hq)) x0 (.im (one n a b i)) (acc ++ one n a b i :: (allq i).map ndD) (by rw [List.length_append, List.length_cons, hl2]; omega)
    refine ⟨u2, ?_⟩
    rw [toDs_cons]
    unfold runFor
    have e1 : bindT (.nm 2) (one n a b i) [x0, .ow acc, s2] = .ok [x0, .ow acc, .im (one n a b i)] := rfl
    rw [e1]; dsimp only
    have e2 := b_all_step (self := self) (x0 := x0) (acc := acc) (q := ⟨n, a, b, i⟩) (hs ⟨n, a, b, i⟩ List.mem_cons_self) (by rw [hl2]; omega)
    have e2' : b_all self [x0, .ow acc, .im (one n a b i)] = .nx [x0, .ow (acc ++ one n a b i :: (allq i).map ndD), .im (one n a b i)] := e2
    rw [e2']; dsimp only
    rw [e]
    have e3 : acc ++ one n a b i :: (allq i).map ndD ++ (allq r).map ndD = acc ++ (allq (.cons n a b i r)).map ndD := by
      show _ = acc ++ (one n a b i :: ((allq i ++ allq r).map ndD))
      rw [List.map_append, List.append_assoc]; rfl
    rw [e3]
theorem all_calls_eq : ∀ (j : Nat) (c : Cals), dep c < j → cnt c ≤ 100000 → F_all_calls j [cD c] = .ok (.lst ((allq c).map ndD))
  | 0, c, h, _ => by omega
  | j + 1, c, h, hc => by
    obtain ⟨u2, e⟩ := all_for (self := F_all_calls j) c (fun q hq => all_calls_eq j q.i (by have := dep_tops hq; omega) (by have := cnt_tops hq; omega)) (.im (cD c)) .un [] (sl_ge (by show 0 + _ ≤ _; omega))
    have st : startE 3 [cD c] = [.im (cD c), .un, .un] := rfl
    have e0 : lstD [] = .ok (.lst []) := lstD_ok sl0
    have e1 : ownO 1 (geA lstD gaNil) [.im (cD c), .un, .un] = .nx [.im (cD c), .ow [], .un] := by simp [e0, slOf]
    have e2 : gSeq itT (geV 0) [.im (cD c), .ow [], .un] = .ok (toDs c) := rfl
    show runDef 3 (b_all_calls (F_all_calls j)) _ = _
    unfold b_all_calls L_all_calls_1
    unfold b_all at e
    simp only [e_run, st, e_seq, e1, e_for, e2, e]
    simp [frzO, frzSl, frozen]
/-! outer -/
def outq : Cals → List Str → List (Str × Int)
  | .nil, _ => [] | .cons n a b i r, ar => (if n ∈ ar then [] else [(n, b - a)]) ++ (outq i (ar ++ [n]) ++ outq r ar)
theorem outq_cons (n : Str) (a b : Int) (i r : Cals) (ar : List Str) : outq (.cons n a b i r) ar = (if n ∈ ar then [] else [(n, b - a)]) ++ (outq i (ar ++ [n]) ++ outq r ar) := rfl
theorem outq_len (c : Cals) : ∀ ar, (outq c ar).length ≤ cnt c := by
  induction c with
  | nil => intro ar; exact Nat.le_refl _
  | cons n a b i r hi hr =>
    intro ar
    have h1 := hi (ar ++ [n])
    have h2 := hr ar
    rw [outq_cons, cnt_cons, List.length_append, List.length_append]
    split <;> simp <;> omega
def pD (p : Str × Int) : D := .tup [.str p.1, .int p.2]
theorem eqD_str (x y : Str) : eqD (.str x) (.str y) = decide (x = y) := by
  unfold eqD toPy
  by_cases h : x = y
  · subst h; simp [PyData.eqv]
  · simp [PyData.eqv, h]
theorem inF_str {neg : Bool} (n : Str) (ar : List Str) : inF neg (.str n) (.lst (ar.map .str)) = .ok (.bl (if neg then !decide (n ∈ ar) else decide (n ∈ ar))) := by
  unfold inF
  have h1 : ((ar.map D.str).all flatD) = true := by rw [List.all_map]; exact List.all_eq_true.mpr fun _ _ => rfl
  have h2 : ((ar.map D.str).any fun d => eqD d (.str n)) = decide (n ∈ ar) := by
    rw [List.any_map, Bool.eq_iff_iff, List.any_eq_true, decide_eq_true_eq]
    constructor
    · rintro ⟨x, hx, e⟩
      have := eqD_str x n
      have e' : eqD (.str x) (.str n) = true := e
      rw [this, decide_eq_true_eq] at e'
      exact e' ▸ hx
    · intro h; exact ⟨n, h, by show eqD (.str n) (.str n) = true; rw [eqD_str]; simp⟩
  simp only [itemsD, flatD, h1, h2, Bool.and_self, if_true]
end VP

set_option Elab.async false
set_option linter.all false
set_option maxRecDepth 100000
set_option maxHeartbeats 1000000
namespace VP
open PySem PySem.Spec PyProof.Rows L2 LamX VS
abbrev sL (ar : List Str) : D := .lst (ar.map .str)
def b_out (self : List D → R D) : VS.Env → Out := (seqO (ifO (geB (geOp (inF true) (geOp ixT (geV 3) (gI 0)) (geV 1)))
   (appO 2 (geA tupD (gaCons (geOp ixT (geV 3) (gI 0)) (gaCons (geA F_whole (gaCons (geV 3) gaNil)) gaNil))))
   .nx)
  (extO 2 (geA self (gaCons (geOp ixT (geV 3) (gI 3)) (gaCons (geOp catL (geV 1) (geA lstD (gaCons (geOp ixT (geV 3) (gI 0)) gaNil))) gaNil)))))
theorem b_out_step {self : List D → R D} {x0 : Sl} {acc : List D} {ar : List Str} {q : Nd} {l : List D} (hs : self [cD q.i, sL (ar ++ [q.n])] = .ok (.lst l)) (ha : ar.length + 1 ≤ sizeLine) (hl : acc.length + 1 + l.length ≤ sizeLine) :
    b_out self [x0, .im (sL ar), .ow acc, .im (ndD q)] = .nx [x0, .im (sL ar), .ow (acc ++ (if q.n ∈ ar then [] else [pD (q.n, q.b - q.a)]) ++ l), .im (ndD q)] := by
  have e0 : ∀ acc, geOp ixT (geV 3) (gI 0) [x0, .im (sL ar), .ow acc, .im (ndD q)] = .ok (.str q.n) := fun _ => rfl
  have e3 : ∀ acc, geOp ixT (geV 3) (gI 3) [x0, .im (sL ar), .ow acc, .im (ndD q)] = .ok (cD q.i) := fun _ => rfl
  have v1 : ∀ acc, geV 1 [x0, .im (sL ar), .ow acc, .im (ndD q)] = .ok (sL ar) := fun _ => rfl
  have v3 : ∀ acc, geV 3 [x0, .im (sL ar), .ow acc, .im (ndD q)] = .ok (ndD q) := fun _ => rfl
  have w : F_whole [ndD q] = .ok (.int (q.b - q.a)) := whole_eq q.n q.a q.b q.i
  have l1 : lstD [D.str q.n] = .ok (.lst [.str q.n]) := lstD_ok (sl_ge (by show 1 ≤ _; omega))
  have c1 : catL (sL ar) (.lst [D.str q.n]) = .ok (sL (ar ++ [q.n])) := by
    rw [catL_ok (by rw [List.length_map]; exact ha)]
    simp
  have ext : ∀ acc', acc'.length + l.length ≤ sizeLine → extO 2 (geA self (gaCons (geOp ixT (geV 3) (gI 3)) (gaCons (geOp catL (geV 1) (geA lstD (gaCons (geOp ixT (geV 3) (gI 0)) gaNil))) gaNil))) [x0, .im (sL ar), .ow acc', .im (ndD q)] = .nx [x0, .im (sL ar), .ow (acc' ++ l), .im (ndD q)] := by
    intro acc' h
    have e4 : geA self (gaCons (geOp ixT (geV 3) (gI 3)) (gaCons (geOp catL (geV 1) (geA lstD (gaCons (geOp ixT (geV 3) (gI 0)) gaNil))) gaNil)) [x0, .im (sL ar), .ow acc', .im (ndD q)] = .ok (.lst l) := by
      have e5 : geOp catL (geV 1) (geA lstD (gaCons (geOp ixT (geV 3) (gI 0)) gaNil)) [x0, .im (sL ar), .ow acc', .im (ndD q)] = .ok (sL (ar ++ [q.n])) := by
        rw [e_op, v1, R.ok_bind, e_A, e_cons, e0, R.ok_bind, e_nil, R.ok_bind, R.ok_bind, l1, R.ok_bind, c1]
      rw [e_A, e_cons, e3, R.ok_bind, e_cons, e5, R.ok_bind, e_nil, R.ok_bind, R.ok_bind, R.ok_bind, hs]
    unfold extO
    simp only [List.getElem?_cons_succ, List.getElem?_cons_zero, e4, e_ofR, itemsD]
    rw [if_pos h]
    rfl
  have t0 : geB (geOp (inF true) (geOp ixT (geV 3) (gI 0)) (geV 1)) [x0, .im (sL ar), .ow acc, .im (ndD q)] = .ok (!decide (q.n ∈ ar)) := by
    rw [e_gB, e_op, e0, R.ok_bind, v1, R.ok_bind, inF_str]; rfl
  unfold b_out
  rw [e_seq, e_ifO, t0]
  by_cases h : q.n ∈ ar
  · rw [decide_eq_true h, if_pos h, List.append_nil]
    exact ext acc (by omega)
  · rw [decide_eq_false h, if_neg h]
    have a1 : appO 2 (geA tupD (gaCons (geOp ixT (geV 3) (gI 0)) (gaCons (geA F_whole (gaCons (geV 3) gaNil)) gaNil))) [x0, .im (sL ar), .ow acc, .im (ndD q)] = .nx [x0, .im (sL ar), .ow (acc ++ [pD (q.n, q.b - q.a)]), .im (ndD q)] := by
      have e6 : geA tupD (gaCons (geOp ixT (geV 3) (gI 0)) (gaCons (geA F_whole (gaCons (geV 3) gaNil)) gaNil)) [x0, .im (sL ar), .ow acc, .im (ndD q)] = .ok (pD (q.n, q.b - q.a)) := by
        rw [e_A, e_cons, e0, R.ok_bind, e_cons, e_A, e_cons, v3, R.ok_bind, e_nil, R.ok_bind, R.ok_bind, w, R.ok_bind, R.ok_bind, R.ok_bind, R.ok_bind]
        exact e_tupD _ (sl_ge (by show 2 ≤ _; omega))
      rw [e_app]
      simp only [List.getElem?_cons_succ, List.getElem?_cons_zero, e6, e_ofR]
      rw [if_pos (by omega)]
      rfl
    simp only [Bool.not_false, if_true, a1]
    exact ext _ (by rw [List.length_append, List.length_cons, List.length_nil]; omega)
theorem out_for {self : List D → R D} {ar : List Str} : ∀ (c : Cals), (∀ q ∈ tops c, self [cD q.i, sL (ar ++ [q.n])] = .ok (.lst ((outq q.i (ar ++ [q.n])).map pD))) → ar.length ≤ 1000 → ∀ (x0 s2 : Sl) (acc : List D), acc.length + cnt c ≤ sizeLine →
    ∃ u2, runFor (bindT (.nm 3)) (b_out self) (toDs c) [x0, .im (sL ar), .ow acc, s2] = .nx [x0, .im (sL ar), .ow (acc ++ (outq c ar).map pD), u2]
  | .nil, _, _, x0, s2, acc, _ => ⟨s2, by rw [toDs_nil]; show Out.nx _ = _; simp [outq]⟩
  | .cons n a b i r, hs, ha, x0, s2, acc, hl => by
    rw [cnt_cons] at hl
    have hl2 := outq_len i (ar ++ [n])
    have e2 := b_out_step (self := self) (x0 := x0) (acc := acc) (ar := ar) (q := ⟨n, a, b, i⟩) (hs ⟨n, a, b, i⟩ List.mem_cons_self) (sl_ge (by omega)) (by rw [List.length_map]; show acc.length + 1 + (outq i (ar ++ [n])).length ≤ _; omega)
    have e2' : b_out self [x0, .im (sL ar), .ow acc, .im (one n a b i)] = .nx [x0, .im (sL ar), .ow (acc ++ (if n ∈ ar then [] else [pD (n, b - a)]) ++ (outq i (ar ++ [n])).map pD), .im (one n a b i)] := e2
    obtain ⟨u2, e⟩ := out_for (self := self) r (fun q hq => hs q (List.mem_cons_of_mem _ hq)) ha x0 (.im (one n a b i)) (acc ++ (if n ∈ ar then [] else [pD (n, b - a)]) ++ (outq i (ar ++ [n])).map pD) (by
      rw [List.length_append, List.length_append, List.length_map]
      split <;> simp <;> omega)
    refine ⟨u2, ?_⟩
    rw [toDs_cons]
    unfold runFor
    have e1 : bindT (.nm 3) (one n a b i) [x0, .im (sL ar), .ow acc, s2] = .ok [x0, .im (sL ar), .ow acc, .im (one n a b i)] := rfl
    rw [e1]; dsimp only
    rw [e2']; dsimp only
    rw [e]
    have e3 : acc ++ (if n ∈ ar then [] else [pD (n, b - a)]) ++ (outq i (ar ++ [n])).map pD ++ (outq r ar).map pD = acc ++ (outq (.cons n a b i r) ar).map pD := by
      rw [outq_cons, List.map_append, List.map_append, List.append_assoc, List.append_assoc]
      congr 1
      split <;> rfl
    rw [e3]
theorem outer_eq : ∀ (j : Nat) (c : Cals) (ar : List Str), dep c < j → cnt c ≤ 100000 → ar.length + dep c ≤ 1000 → F_outer j [cD c, sL ar] = .ok (.lst ((outq c ar).map pD))
  | 0, c, ar, h, _, _ => by omega
  | j + 1, c, ar, h, hc, ha => by
    obtain ⟨u2, e⟩ := out_for (self := F_outer j) (ar := ar) c (fun q hq => outer_eq j q.i _ (by have := dep_tops hq; omega) (by have := cnt_tops hq; omega) (by have := dep_tops hq; rw [List.length_append, List.length_cons, List.length_nil]; omega)) (by omega) (.im (cD c)) .un [] (sl_ge (by show 0 + _ ≤ _; omega))
    have st : startE 4 [cD c, sL ar] = [.im (cD c), .im (sL ar), .un, .un] := rfl
    have e0 : lstD [] = .ok (.lst []) := lstD_ok sl0
    have e1 : ownO 2 (geA lstD gaNil) [.im (cD c), .im (sL ar), .un, .un] = .nx [.im (cD c), .im (sL ar), .ow [], .un] := by simp [e0, slOf]
    have e2 : gSeq itT (geV 0) [.im (cD c), .im (sL ar), .ow [], .un] = .ok (toDs c) := rfl
    show runDef 4 (b_outer (F_outer j)) _ = _
    unfold b_outer L_outer_1
    unfold b_out at e
    simp only [e_run, st, e_seq, e1, e_for, e2, e]
    simp [frzO, frzSl, frozen]
/-! own -/
def tsum (c : Cals) : Int := ((tops c).map fun q => q.b - q.a).sum
theorem own_eq (q : Nd) (hc : cnt q.i ≤ 100000) : F_own [ndD q] = .ok (.int (q.b - q.a - tsum q.i)) := by
  have hl := tops_len q.i
  have w : F_whole [ndD q] = .ok (.int (q.b - q.a)) := whole_eq q.n q.a q.b q.i
  have hcomp : compE (.nm 1) [1] (gSeq itT (geOp ixT (geV 0) (gI 3))) (fun _ => .ok true) (geA F_whole (gaCons (geV 1) gaNil)) [.im (ndD q), .un] = .ok (.lst ((tops q.i).map fun q => .int (q.b - q.a))) := by
    refine compE_all (u := ndD) (h := fun q : Nd => .int (q.b - q.a)) (tops q.i) ?_ (sl_ge (by omega)) fun p hp => ⟨[.im (ndD q), .im (ndD p)], rfl, ?_⟩
    · show R.ok (toDs q.i) = _; rw [toDs_tops]
    · exact whole_eq p.n p.a p.b p.i
  have s1 : sumD [.lst ((tops q.i).map fun q => D.int (q.b - q.a))] = .ok (.int (tsum q.i)) := by
    have : ((tops q.i).map fun q => D.int (q.b - q.a)) = ((tops q.i).map fun q => q.b - q.a).map .int := by rw [List.map_map]; rfl
    rw [this]
    unfold sumD
    dsimp only
    rw [intsD_map]; rfl
  have st : startE 2 [ndD q] = [.im (ndD q), .un] := rfl
  have v0 : geV 0 [.im (ndD q), .un] = .ok (ndD q) := rfl
  unfold F_own b_own C_own_1
  simp only [e_run, st, e_op, e_A, e_cons, e_nil, v0, R.ok_bind, w, hcomp, s1, e_subI, e_ofR]
end VP

set_option Elab.async false
set_option linter.all false
set_option maxRecDepth 100000
set_option maxHeartbeats 1000000
namespace VP
open PySem PySem.Spec PyProof.Rows L2 LamX VS
abbrev Trs := List (Int × Cals)
def tK (ts : Trs) : List (Key × D) := ts.map fun p => ((Sum.inl p.1 : Key), cD p.2)
abbrev tD (ts : Trs) : D := .dK (tK ts)
structure TV (ts : Trs) : Prop where
  pw : (ts.map (·.1)).Pairwise (· < ·)
  ok : ∀ p ∈ ts, 1 ≤ p.1 ∧ p.1 ≤ 4 ∧ val p.2 0 1000000 ∧ dep p.2 ≤ 4 ∧ cnt p.2 ≤ 1000
theorem TV.nd {ts : Trs} (t : TV ts) : (ts.map (·.1)).Nodup := t.pw.imp fun h e => by omega
theorem pw_len {l : List Int} (h : l.Pairwise (· < ·)) : ∀ {lo hi : Int}, (∀ x ∈ l, lo ≤ x ∧ x ≤ hi) → l.length ≤ (hi + 1 - lo).toNat := by
  induction l with
  | nil => intro lo hi _; simp
  | cons a l ih =>
    intro lo hi k
    obtain ⟨h1, h2⟩ := List.pairwise_cons.mp h
    have h3 := k a List.mem_cons_self
    have := ih h2 (lo := a + 1) (hi := hi) fun x hx => by
      have := h1 x hx
      have := k x (List.mem_cons_of_mem _ hx)
      omega
    rw [List.length_cons]
    omega
theorem TV.len {ts : Trs} (t : TV ts) : ts.length ≤ 4 := by
  have := pw_len t.pw (lo := 1) (hi := 4) fun x hx => by
    obtain ⟨p, hp, rfl⟩ := List.mem_map.mp hx
    have := t.ok p hp
    exact ⟨this.1, this.2.1⟩
  simpa using this
theorem lk_tK {ts : Trs} (nd : (ts.map (·.1)).Nodup) {p : Int × Cals} (hp : p ∈ ts) : lk (tK ts) (.inl p.1) = some (cD p.2) := by
  induction ts with
  | nil => cases hp
  | cons q ts ih =>
    rw [List.map_cons, List.nodup_cons] at nd
    unfold lk tK
    rw [List.map_cons, List.find?_cons]
    rcases List.mem_cons.mp hp with rfl | hp
    · simp
    · have : ¬ q.1 = p.1 := fun e => nd.1 (e ▸ List.mem_map.mpr ⟨p, hp, rfl⟩)
      have e : decide ((Sum.inl q.1 : Key) = Sum.inl p.1) = false := decide_eq_false fun z => this (Sum.inl.inj z)
      simp only [e]
      exact ih nd.2 hp
theorem look_tD {ts : Trs} (nd : (ts.map (·.1)).Nodup) {p : Int × Cals} (hp : p ∈ ts) : look (tD ts) (.int p.1) = some (some (cD p.2)) := by
  show (some (.inl p.1 : Key)).map _ = _
  rw [Option.map_some, lk_tK nd hp]
theorem ix_tD {ts : Trs} (nd : (ts.map (·.1)).Nodup) {p : Int × Cals} (hp : p ∈ ts) : ixD (tD ts) (.int p.1) = .ok (cD p.2) := by
  unfold ixD; rw [look_tD nd hp]
theorem keys_tD (ts : Trs) : keysOf (tD ts) = some (ts.map fun p => .int p.1) := by
  show some ((tK ts).map fun kd => keyV kd.1) = _
  unfold tK
  rw [List.map_map]; rfl
theorem compDE_all {ts : Trs} {t : Tg} {vs : List Nat} {i : Nat} {g : VS.Env → R D} {ρ : VS.Env} {h : Int × Cals → D} (hi : ρ[i]? = some (.im (tD ts))) (hl : ts.length ≤ sizeLine) (H : ∀ p ∈ ts, ∃ ρ1, bindT t (.int p.1) (wipeE ρ vs) = .ok ρ1 ∧ g ρ1 = .ok (h p)) :
    compDE t vs i (fun _ => .ok true) g ρ = .ok (.lst (ts.map h)) := by
  unfold compDE
  rw [hi]
  dsimp only
  rw [keys_tD]
  exact compE_all (u := fun p : Int × Cals => D.int p.1) ts rfl hl H
theorem blsD_true : ∀ {α : Type} (l : List α), blsD (l.map fun _ => .bl true) = some (l.map fun _ => true)
  | _, [] => rfl
  | _, x :: l => by rw [List.map_cons, blsD, blsD_true l]; rfl
theorem allD_true {α : Type} (l : List α) : allD [.lst (l.map fun _ => D.bl true)] = .ok (.bl true) := by
  unfold allD
  dsimp only
  rw [blsD_true]
  dsimp only
  congr 2
  rw [List.all_map]
  exact List.all_eq_true.mpr fun _ _ => rfl
theorem need_trees_eq {ts : Trs} (t : TV ts) : F_need_trees [tD ts] = .ok .non := by
  have hl := t.len
  have st : startE 2 [tD ts] = [.im (tD ts), .un] := rfl
  have e1 : geB (ge1 (isiD .dict) (geV 0)) [.im (tD ts), .un] = .ok true := rfl
  have c1 : compDE (.nm 1) [1] 0 (fun _ => .ok true) (geA F_is_count (gaCons (geV 1) (gaCons (gI 1) (gaCons (gI 4) gaNil)))) [.im (tD ts), .un] = .ok (.lst (ts.map fun _ => .bl true)) := by
    refine compDE_all (h := fun _ => .bl true) rfl (sl_ge (by omega)) fun p hp => ⟨[.im (tD ts), .im (.int p.1)], rfl, ?_⟩
    have v1 : geV 1 [.im (tD ts), .im (.int p.1)] = .ok (.int p.1) := rfl
    have := t.ok p hp
    rw [e_A, e_cons, v1, R.ok_bind, e_cons, e_I, R.ok_bind, e_cons, e_I, R.ok_bind, e_nil, R.ok_bind, R.ok_bind, R.ok_bind, R.ok_bind, is_count_eq, decide_eq_true this.1, decide_eq_true this.2.1]; rfl
  have c2 : compDE (.nm 1) [1] 0 (fun _ => .ok true) (geA (F_are_calls 8) (gaCons (geOp ixD (geV 0) (geV 1)) (gaCons (gI 0) (gaCons (gI 1000000) gaNil)))) [.im (tD ts), .un] = .ok (.lst (ts.map fun _ => .bl true)) := by
    refine compDE_all (h := fun _ => .bl true) rfl (sl_ge (by omega)) fun p hp => ⟨[.im (tD ts), .im (.int p.1)], rfl, ?_⟩
    have v0 : geV 0 [.im (tD ts), .im (.int p.1)] = .ok (tD ts) := rfl
    have v1 : geV 1 [.im (tD ts), .im (.int p.1)] = .ok (.int p.1) := rfl
    have := t.ok p hp
    rw [e_A, e_cons, e_op, v0, R.ok_bind, v1, R.ok_bind, ix_tD t.nd hp, R.ok_bind, e_cons, e_I, R.ok_bind, e_cons, e_I, R.ok_bind, e_nil, R.ok_bind, R.ok_bind, R.ok_bind, R.ok_bind, are_calls_eq 8 p.2 0 1000000 (by omega) this.2.2.1]
  have a1 := allD_true ts
  unfold F_need_trees b_need_trees C_need_trees_2 C_need_trees_1
  simp only [e_run, st, e_seq, e_ifO, e_or, e_not, e1, e_gB, e_A, e_cons, e_nil, c1, c2, a1, R.ok_bind, e_bl, Bool.not_true, Bool.false_eq_true, if_false]
/-! the module's small checks -/
theorem need_tick_eq {t : Int} (h1 : 0 ≤ t) (h2 : t ≤ 1000000) : F_need_tick [.int t] = .ok .non := by
  have st : startE 1 [D.int t] = [.im (.int t)] := rfl
  have v0 : geV 0 [.im (.int t)] = .ok (.int t) := rfl
  have c : F_is_count [.int t, .int 0, .int 1000000] = .ok (.bl true) := by rw [is_count_eq, decide_eq_true h1, decide_eq_true h2]; rfl
  unfold F_need_tick b_need_tick
  simp only [e_run, st, e_ifO, e_not, e_gB, e_A, e_cons, e_nil, v0, e_I, R.ok_bind, c, e_bl, Bool.not_true, Bool.false_eq_true, if_false]
theorem need_hand_eq {ts : Trs} (t : TV ts) {p : Int × Cals} (hp : p ∈ ts) : F_need_hand [tD ts, .int p.1] = .ok .non := by
  have st : startE 2 [tD ts, .int p.1] = [.im (tD ts), .im (.int p.1)] := rfl
  have v0 : geV 0 [.im (tD ts), .im (.int p.1)] = .ok (tD ts) := rfl
  have v1 : geV 1 [.im (tD ts), .im (.int p.1)] = .ok (.int p.1) := rfl
  have := t.ok p hp
  have c : F_is_count [.int p.1, .int 1, .int 4] = .ok (.bl true) := by rw [is_count_eq, decide_eq_true this.1, decide_eq_true this.2.1]; rfl
  have i : inD true (.int p.1) (tD ts) = .ok (.bl false) := by unfold inD; rw [look_tD t.nd hp]; rfl
  have n := need_trees_eq t
  unfold F_need_hand b_need_hand
  simp only [e_run, st, e_seq, e_ifO, e_or, e_not, e_gB, e_op, e_A, e_cons, e_nil, v0, v1, e_I, R.ok_bind, n, e_ofR, c, i, e_bl, Bool.not_true, Bool.false_eq_true, if_false]
theorem stack_at_eq {ts : Trs} (t : TV ts) {p : Int × Cals} (hp : p ∈ ts) {k : Int} (h1 : 0 ≤ k) (h2 : k ≤ 1000000) : F_stack_at [tD ts, .int p.1, .int k] = .ok (sL (stk p.2 k)) := by
  have st : startE 3 [tD ts, .int p.1, .int k] = [.im (tD ts), .im (.int p.1), .im (.int k)] := rfl
  have v0 : geV 0 [.im (tD ts), .im (.int p.1), .im (.int k)] = .ok (tD ts) := rfl
  have v1 : geV 1 [.im (tD ts), .im (.int p.1), .im (.int k)] = .ok (.int p.1) := rfl
  have v2 : geV 2 [.im (tD ts), .im (.int p.1), .im (.int k)] = .ok (.int k) := rfl
  have := t.ok p hp
  have c := stack_in_eq 8 p.2 k (by omega) (by omega)
  have n1 := need_hand_eq t hp
  have n2 := need_tick_eq h1 h2
  unfold F_stack_at b_stack_at
  simp only [e_run, st, e_seq, e_op, e_A, e_cons, e_nil, v0, v1, v2, R.ok_bind, n1, n2, e_ofR, ix_tD t.nd hp, c]
theorem deepest_eq {ts : Trs} (t : TV ts) : ∃ m : Int, F_deepest [tD ts] = .ok (.int m) ∧ 0 ≤ m ∧ ∀ p ∈ ts, (dep p.2 : Int) ≤ m := by
  have hl := t.len
  have st : startE 2 [tD ts] = [.im (tD ts), .un] := rfl
  have v0 : geV 0 [.im (tD ts), .un] = .ok (tD ts) := rfl
  have c1 : compDE (.nm 1) [1] 0 (fun _ => .ok true) (geA (F_depth_of 8) (gaCons (geOp ixD (geV 0) (geV 1)) gaNil)) [.im (tD ts), .un] = .ok (.lst (ts.map fun p => .int (dep p.2))) := by
    refine compDE_all (h := fun p => .int (dep p.2)) rfl (sl_ge (by omega)) fun p hp => ⟨[.im (tD ts), .im (.int p.1)], rfl, ?_⟩
    have w0 : geV 0 [.im (tD ts), .im (.int p.1)] = .ok (tD ts) := rfl
    have w1 : geV 1 [.im (tD ts), .im (.int p.1)] = .ok (.int p.1) := rfl
    have := t.ok p hp
    rw [e_A, e_cons, e_op, w0, R.ok_bind, w1, R.ok_bind, ix_tD t.nd hp, R.ok_bind, e_nil, R.ok_bind, R.ok_bind, depth_of_eq 8 p.2 (by omega) (by omega)]
  have l0 : lstD [D.int 0] = .ok (.lst [.int 0]) := lstD_ok (sl_ge (by show 1 ≤ _; omega))
  have c2 : catL (.lst [D.int 0]) (.lst (ts.map fun p => .int (dep p.2))) = .ok (.lst ((0 :: ts.map fun p => (dep p.2 : Int)).map .int)) := by
    rw [catL_ok (sl_ge (by rw [List.length_map]; show 1 + _ ≤ _; omega)), List.map_cons, List.map_map]; rfl
  have m1 : maxL [.lst ((0 :: ts.map fun p => (dep p.2 : Int)).map .int)] = .ok (.int (maxI (0 :: ts.map fun p => (dep p.2 : Int)))) := by
    unfold maxL
    dsimp only
    rw [intsD_map]
  have n := need_trees_eq t
  have mx := maxI_is (0 :: ts.map fun p => (dep p.2 : Int)) (by simp)
  refine ⟨_, ?_, mx.2 0 List.mem_cons_self, fun p hp => mx.2 _ (List.mem_cons_of_mem _ (List.mem_map.mpr ⟨p, hp, rfl⟩))⟩
  unfold F_deepest b_deepest C_deepest_1
  simp only [e_run, st, e_seq, e_op, e_A, e_cons, e_nil, v0, e_I, R.ok_bind, n, e_ofR, c1, l0, c2, m1]
end VP

set_option Elab.async false
set_option linter.all false
set_option maxRecDepth 100000
set_option maxHeartbeats 1000000
namespace VP
open PySem PySem.Spec PyProof.Rows L2 LamX VS
/-! dicts of counts by names -/
abbrev Cnt := List (Str × Int)
def kD (cs : Cnt) : List (Key × D) := cs.map fun p => ((Sum.inr p.1 : Key), D.int p.2)
def gt (cs : Cnt) (n : Str) : Int := ((cs.find? fun p => decide (p.1 = n)).map (·.2)).getD 0
def hs (cs : Cnt) (n : Str) : Bool := cs.any fun p => decide (p.1 = n)
def bump (cs : Cnt) (n : Str) (v : Int) : Cnt := if hs cs n then cs.map (fun p => if p.1 = n then (p.1, gt cs n + v) else p) else cs ++ [(n, gt cs n + v)]
theorem hs_iff {cs : Cnt} {n : Str} : hs cs n = true ↔ n ∈ cs.map (·.1) := by
  unfold hs
  rw [List.any_eq_true, List.mem_map]
  exact ⟨fun ⟨p, h, e⟩ => ⟨p, h, of_decide_eq_true e⟩, fun ⟨p, h, e⟩ => ⟨p, h, decide_eq_true e⟩⟩
theorem inr_dec (x y : Str) : decide ((Sum.inr x : Key) = Sum.inr y) = decide (x = y) := by
  by_cases h : x = y
  · subst h; simp
  · rw [decide_eq_false h]; exact decide_eq_false fun e => h (Sum.inr.inj e)
theorem lk_kD (cs : Cnt) (n : Str) : lk (kD cs) (.inr n) = if hs cs n then some (.int (gt cs n)) else none := by
  induction cs with
  | nil => rfl
  | cons p cs ih =>
    unfold lk kD gt hs at *
    rw [List.map_cons, List.find?_cons, List.find?_cons, List.any_cons]
    dsimp only
    rw [inr_dec]
    by_cases h : p.1 = n
    · simp [h]
    · simp only [h, decide_false, Bool.false_or]
      exact ih
theorem pk_kD (cs : Cnt) (n : Str) (v : Int) : pk (kD cs) (.inr n) (.int (gt cs n + v)) = kD (bump cs n v) := by
  unfold pk bump
  have h1 : ((kD cs).any fun kv => decide (kv.1 = Sum.inr n)) = hs cs n := by
    unfold kD hs
    rw [List.any_map]
    congr 1
    funext p
    exact inr_dec _ _
  rw [h1]
  split
  · unfold kD
    rw [List.map_map, List.map_map]
    apply List.map_congr_left
    intro p _
    show (if (Sum.inr p.1 : Key) = Sum.inr n then _ else _) = _
    by_cases h : p.1 = n
    · simp [h]
    · have : ¬ (Sum.inr p.1 : Key) = Sum.inr n := fun e => h (Sum.inr.inj e)
      simp [h, this]
  · unfold kD; simp
theorem gt_map (x : Int) (n m : Str) : ∀ cs : Cnt, gt (cs.map fun p => if p.1 = n then (p.1, x) else p) m = if m = n ∧ hs cs n = true then x else gt cs m
  | [] => by simp [gt, hs]
  | p :: cs => by
    have ih := gt_map x n m cs
    unfold gt hs at *
    rw [List.map_cons, List.find?_cons, List.find?_cons, List.any_cons]
    by_cases h : p.1 = n
    · by_cases h2 : n = m
      · subst h2; simp [h]
      · have h3 : ¬ m = n := fun e => h2 e.symm
        simp [h, h2, h3] at ih ⊢
        exact ih
    · by_cases h2 : p.1 = m
      · have h3 : ¬ m = n := fun e => h (h2.trans e)
        simp [h, h2, h3]
      · have hd : decide (p.1 = n) = false := decide_eq_false h
        have hd2 : decide (p.1 = m) = false := decide_eq_false h2
        rw [if_neg h, hd2, hd, Bool.false_or]
        exact ih
theorem gt_none {cs : Cnt} {n : Str} (h : hs cs n = false) : gt cs n = 0 := by
  unfold hs at h
  unfold gt
  have : (cs.find? fun p => decide (p.1 = n)) = none := by
    rw [List.find?_eq_none]
    intro p hp e
    rw [List.any_eq_false] at h
    exact h p hp e
  rw [this]; rfl
theorem gt_app {cs ds : Cnt} {n : Str} : gt (cs ++ ds) n = if hs cs n then gt cs n else gt ds n := by
  unfold gt hs
  rw [List.find?_append]
  by_cases h : (cs.any fun p => decide (p.1 = n)) = true
  · rw [if_pos h]
    obtain ⟨p, hp, e⟩ := List.any_eq_true.mp h
    cases hf : cs.find? fun p => decide (p.1 = n) with
    | none => rw [List.find?_eq_none] at hf; exact absurd e (hf p hp)
    | some q => rfl
  · rw [if_neg h]
    have : (cs.find? fun p => decide (p.1 = n)) = none := by
      rw [List.find?_eq_none]
      intro p hp e
      exact h (List.any_eq_true.mpr ⟨p, hp, e⟩)
    rw [this]; rfl
theorem gt_bump (cs : Cnt) (n m : Str) (v : Int) : gt (bump cs n v) m = gt cs m + if n = m then v else 0 := by
  unfold bump
  by_cases h : hs cs n = true
  · rw [if_pos h, gt_map]
    by_cases e : n = m
    · subst e; simp [h]
    · have : ¬ m = n := fun z => e z.symm
      simp [e, this]
  · rw [if_neg h, gt_app]
    have h' : hs cs n = false := by simpa using h
    have g0 := gt_none h'
    by_cases e : n = m
    · subst e; simp [h', g0, gt]
    · by_cases k : hs cs m = true
      · simp [k, e]
      · have k' : hs cs m = false := by simpa using k
        rw [if_neg k, gt_none k']; simp [gt, e]
theorem keys_bump (cs : Cnt) (n : Str) (v : Int) : (bump cs n v).map (·.1) = if hs cs n then cs.map (·.1) else cs.map (·.1) ++ [n] := by
  unfold bump
  split
  · rw [List.map_map]
    apply List.map_congr_left
    intro p _
    show (if p.1 = n then _ else _ : Str × Int).1 = p.1
    split <;> rfl
  · simp
def bumps (cs : Cnt) (l : Cnt) : Cnt := l.foldl (fun c p => bump c p.1 p.2) cs
def tot (l : Cnt) (m : Str) : Int := (l.map fun p => if p.1 = m then p.2 else 0).sum
theorem tot_nil (m : Str) : tot [] m = 0 := rfl
theorem tot_cons (p : Str × Int) (l : Cnt) (m : Str) : tot (p :: l) m = (if p.1 = m then p.2 else 0) + tot l m := by unfold tot; rw [List.map_cons, List.sum_cons]
theorem tot_app (l k : Cnt) (m : Str) : tot (l ++ k) m = tot l m + tot k m := by unfold tot; rw [List.map_append, List.sum_append]
theorem gt_bumps (m : Str) : ∀ (l cs : Cnt), gt (bumps cs l) m = gt cs m + tot l m
  | [], cs => by show gt cs m = _; rw [tot_nil, Int.add_zero]
  | p :: l, cs => by
    show gt (bumps (bump cs p.1 p.2) l) m = _
    rw [gt_bumps m l, gt_bump, tot_cons]; omega
theorem keys_bumps (m : Str) : ∀ (l cs : Cnt), m ∈ (bumps cs l).map (·.1) ↔ m ∈ cs.map (·.1) ∨ m ∈ l.map (·.1)
  | [], cs => by show _ ∈ cs.map _ ↔ _; simp
  | p :: l, cs => by
    show m ∈ (bumps (bump cs p.1 p.2) l).map _ ↔ _
    rw [keys_bumps m l, keys_bump, List.map_cons, List.mem_cons]
    split
    · rename_i h
      rw [hs_iff] at h
      constructor
      · rintro (a | a)
        · exact .inl a
        · exact .inr (.inr a)
      · rintro (a | a | a)
        · exact .inl a
        · exact .inl (a ▸ h)
        · exact .inr a
    · rw [List.mem_append, List.mem_singleton, or_assoc]
theorem nd_bumps : ∀ (l cs : Cnt), (cs.map (·.1)).Nodup → ((bumps cs l).map (·.1)).Nodup
  | [], cs, h => h
  | p :: l, cs, h => by
    show ((bumps (bump cs p.1 p.2) l).map _).Nodup
    refine nd_bumps l _ ?_
    rw [keys_bump]
    split
    · exact h
    · rename_i k
      rw [List.nodup_append]
      refine ⟨h, by simp, fun a ha b hb => ?_⟩
      rw [List.mem_singleton] at hb
      subst hb
      exact fun e => k (hs_iff.mpr (e ▸ ha))
theorem len_bump (cs : Cnt) (n : Str) (v : Int) : (bump cs n v).length ≤ cs.length + 1 := by
  unfold bump; split <;> simp
theorem len_bumps : ∀ (l cs : Cnt), (bumps cs l).length ≤ cs.length + l.length
  | [], cs => Nat.le_refl _
  | p :: l, cs => by
    have h1 := len_bumps l (bump cs p.1 p.2)
    have h2 := len_bump cs p.1 p.2
    show (bumps (bump cs p.1 p.2) l).length ≤ _
    rw [List.length_cons]; omega
theorem bumps_app (cs l k : Cnt) : bumps cs (l ++ k) = bumps (bumps cs l) k := List.foldl_append
theorem bumps_one (cs : Cnt) (p : Str × Int) : bumps cs [p] = bump cs p.1 p.2 := rfl
/-- d[k] = d.get(k, 0) + v -/
theorem put_bump {i : Nat} {gk gv : VS.Env → R D} {ρ : VS.Env} {cs : Cnt} {n : Str} {v : Int} (hi : ρ[i]? = some (.oK (kD cs))) (hk : gk ρ = .ok (.str n)) (hv : gv ρ = .ok (.int v)) (hl : cs.length < sizeLine) :
    putO i (geOp addI (geGet (geT i) gk (gI 0)) gv) gk ρ = .nx (ρ.set i (.oK (kD (bump cs n v)))) := by
  have e1 : geGet (geT i) gk (gI 0) ρ = .ok (.int (gt cs n)) := by
    unfold geGet geT
    rw [hi]
    show (do let y ← gk ρ; let z ← gI 0 ρ; getD2 (.dK (kD cs)) y z) = _
    rw [hk, R.ok_bind, e_I, R.ok_bind]
    unfold getD2
    show (match (some (.inr n : Key)).map fun k => lk (kD cs) k with | some o => R.ok (o.getD (.int 0)) | _ => .no) = _
    rw [Option.map_some, lk_kD]
    by_cases h : hs cs n = true
    · rw [if_pos h]; rfl
    · rw [if_neg h]
      have h' : hs cs n = false := by simpa using h
      rw [gt_none h']; rfl
  have hl2 : (kD cs).length < sizeLine := by unfold kD; rw [List.length_map]; exact hl
  unfold putO
  rw [e_op, e1, R.ok_bind, hv, R.ok_bind, e_addI, e_ofR, hi]
  dsimp only
  rw [if_pos (show isOwn (Sl.oK (kD cs)) = true from rfl), hk, e_ofR]
  unfold putS
  show (match (some (.inr n : Key)).bind fun k => if (kD cs).length < sizeLine then some (Sl.oK (pk (kD cs) k (.int (gt cs n + v)))) else none with | some sl' => Out.nx (ρ.set i sl') | none => .no) = _
  rw [Option.bind_some, if_pos hl2, pk_kD]
end VP

set_option Elab.async false
set_option linter.all false
set_option maxRecDepth 100000
set_option maxHeartbeats 1000000
namespace VP
open PySem PySem.Spec PyProof.Rows L2 LamX VS
theorem srtK_id {ks : List Key} (h : ks.Pairwise fun a b => leK a b = true) : srtK ks = ks :=
  List.Perm.eq_of_pairwise (fun a b _ _ h q => leK_anti a b h q) (srtK_pw ks) h (srtK_perm ks)
theorem srt_tD {ts : Trs} (t : TV ts) : sortDct [tD ts] = .ok (.lst (ts.map fun p => .int p.1)) := by
  have hl := t.len
  have e : (tK ts).map (·.1) = ts.map fun p => (Sum.inl p.1 : Key) := by unfold tK; rw [List.map_map]; rfl
  have h1 : (tK ts).length < 64 := by unfold tK; rw [List.length_map]; omega
  have h2 : sameK ((tK ts).map (·.1)) = true := by
    rw [e]
    unfold sameK
    rw [Bool.or_eq_true]; left
    rw [List.all_map]
    exact List.all_eq_true.mpr fun _ _ => rfl
  have h3 : srtK ((tK ts).map (·.1)) = (tK ts).map (·.1) := by
    rw [e]
    refine srtK_id ?_
    have := t.pw
    rw [List.pairwise_map] at this ⊢
    exact this.imp fun {a b} h => by unfold leK; exact decide_eq_true (by omega)
  unfold sortDct
  dsimp only
  rw [if_pos ⟨h1, h2⟩, h3, e, List.map_map]; rfl
def evq (ts : Trs) : List Nd := ts.flatMap fun p => allq p.2
theorem evq_len {ts : Trs} (t : ∀ p ∈ ts, cnt p.2 ≤ 1000) : (evq ts).length ≤ 1000 * ts.length := by
  induction ts with
  | nil => exact Nat.le_refl _
  | cons p ts ih =>
    unfold evq at *
    rw [List.flatMap_cons, List.length_append, allq_len, List.length_cons]
    have h1 := t p List.mem_cons_self
    have h2 := ih fun q hq => t q (List.mem_cons_of_mem _ hq)
    omega
theorem evq_app (a b : Trs) : evq (a ++ b) = evq a ++ evq b := by unfold evq; rw [List.flatMap_append]
theorem evq_one (p : Int × Cals) : evq [p] = allq p.2 := by unfold evq; simp
theorem every_eq {ts : Trs} (t : TV ts) : F_every [tD ts] = .ok (.lst ((evq ts).map ndD)) := by
  have hl := t.len
  have st : startE 3 [tD ts] = [.im (tD ts), .un, .un] := rfl
  have e0 : lstD [] = .ok (.lst []) := lstD_ok sl0
  have e1 : ownO 1 (geA lstD gaNil) [.im (tD ts), .un, .un] = .nx [.im (tD ts), .ow [], .un] := by simp [e0, slOf]
  have e2 : gSeq itL (geA sortDct (gaCons (geV 0) gaNil)) [.im (tD ts), .ow [], .un] = .ok (ts.map fun p => .int p.1) := by
    have v0 : geV 0 [.im (tD ts), .ow [], .un] = .ok (tD ts) := rfl
    rw [e_gSeq, e_A, e_cons, v0, R.ok_bind, e_nil, R.ok_bind, R.ok_bind, srt_tD t]; rfl
  obtain ⟨ρ', e3, u2, rfl⟩ := for_all (b := bindT (.nm 2)) (f := extO 1 (geA (F_all_calls 8) (gaCons (geOp ixD (geV 0) (geV 2)) gaNil))) (u := fun p : Int × Cals => D.int p.1)
    (fun dn ρ => ∃ u2, ρ = [.im (tD ts), .ow ((evq dn).map ndD), u2]) ts [.im (tD ts), .ow [], .un] ⟨.un, rfl⟩ (by
      rintro dn p rs ρ e ⟨u2, rfl⟩
      have hp : p ∈ ts := by rw [← e]; simp
      refine ⟨[.im (tD ts), .ow ((evq dn).map ndD), .im (.int p.1)], _, rfl, .inl ?_, ⟨.im (.int p.1), rfl⟩⟩
      have w0 : geV 0 [.im (tD ts), .ow ((evq dn).map ndD), .im (.int p.1)] = .ok (tD ts) := rfl
      have w2 : geV 2 [.im (tD ts), .ow ((evq dn).map ndD), .im (.int p.1)] = .ok (.int p.1) := rfl
      have o := t.ok p hp
      have a := all_calls_eq 8 p.2 (by omega) (by omega)
      unfold extO
      have g : geA (F_all_calls 8) (gaCons (geOp ixD (geV 0) (geV 2)) gaNil) [.im (tD ts), .ow ((evq dn).map ndD), .im (.int p.1)] = .ok (.lst ((allq p.2).map ndD)) := by
        rw [e_A, e_cons, e_op, w0, R.ok_bind, w2, R.ok_bind, ix_tD t.nd hp, R.ok_bind, e_nil, R.ok_bind, R.ok_bind, a]
      simp only [List.getElem?_cons_succ, List.getElem?_cons_zero, g, e_ofR, itemsD]
      have hd : (evq dn).length ≤ 4000 := by
        have h1 := evq_len (ts := dn) fun q hq => (t.ok q (by rw [← e]; simp [hq])).2.2.2.2
        have h2 : dn.length ≤ ts.length := by rw [← e]; simp
        omega
      rw [if_pos (by rw [List.length_map, List.length_map, allq_len]; exact sl_ge (by omega)), evq_app, evq_one, List.map_append]
      rfl)
  unfold F_every b_every L_every_1
  simp only [e_run, st, e_seq, e1, e_for, e2, e3]
  simp [frzO, frzSl, frozen]
/-! the table -/
def cI1 (q : Nd) : Str × Int := (q.n, 1)
def oI1 (q : Nd) : Str × Int := (q.n, q.b - q.a - tsum q.i)
def outs (ts : Trs) : Cnt := ts.flatMap fun p => outq p.2 []
def tC (ts : Trs) : Cnt := bumps [] ((evq ts).map cI1)
def tO (ts : Trs) : Cnt := bumps [] ((evq ts).map oI1)
def tW (ts : Trs) : Cnt := bumps [] (outs ts)
theorem outs_len {ts : Trs} (t : ∀ p ∈ ts, cnt p.2 ≤ 1000) : (outs ts).length ≤ 1000 * ts.length := by
  induction ts with
  | nil => exact Nat.le_refl _
  | cons p ts ih =>
    unfold outs at *
    rw [List.flatMap_cons, List.length_append, List.length_cons]
    have h1 := t p List.mem_cons_self
    have h2 := ih fun q hq => t q (List.mem_cons_of_mem _ hq)
    have h3 := outq_len p.2 []
    omega
theorem allq_cnt {c : Cals} {q : Nd} (h : q ∈ allq c) : cnt q.i < cnt c := by
  induction c with
  | nil => cases h
  | cons n a b i r hi hr =>
    rw [cnt_cons]
    rcases List.mem_cons.mp h with rfl | h
    · show cnt i < _; omega
    · rcases List.mem_append.mp h with h | h
      · have := hi h; omega
      · have := hr h; omega
theorem evq_cnt {ts : Trs} (t : ∀ p ∈ ts, cnt p.2 ≤ 1000) {q : Nd} (h : q ∈ evq ts) : cnt q.i ≤ 1000 := by
  unfold evq at h
  obtain ⟨p, hp, hq⟩ := List.mem_flatMap.mp h
  have := allq_cnt hq
  have := t p hp
  omega
theorem table_loop1 {ts : Trs} (hc : ∀ p ∈ ts, cnt p.2 ≤ 1000) (hl : ts.length ≤ 4) (x0 x2 x4 x6 x7 : Sl) : ∃ u1, runFor (bindT (.nm 1)) (seqO (putO 3 (geOp addI (geGet (geT 3) (geOp ixT (geV 1) (gI 0)) (gI 0)) (gI 1)) (geOp ixT (geV 1) (gI 0)))
      (putO 5 (geOp addI (geGet (geT 5) (geOp ixT (geV 1) (gI 0)) (gI 0)) (geA F_own (gaCons (geV 1) gaNil))) (geOp ixT (geV 1) (gI 0)))) ((evq ts).map ndD) [x0, .un, x2, .oK [], x4, .oK [], x6, x7] =
    .nx [x0, u1, x2, .oK (kD (tC ts)), x4, .oK (kD (tO ts)), x6, x7] := by
  obtain ⟨ρ', e, u1, rfl⟩ := for_all (b := bindT (.nm 1)) (f := seqO (putO 3 (geOp addI (geGet (geT 3) (geOp ixT (geV 1) (gI 0)) (gI 0)) (gI 1)) (geOp ixT (geV 1) (gI 0)))
      (putO 5 (geOp addI (geGet (geT 5) (geOp ixT (geV 1) (gI 0)) (gI 0)) (geA F_own (gaCons (geV 1) gaNil))) (geOp ixT (geV 1) (gI 0)))) (u := ndD)
    (fun dn ρ => ∃ u1, ρ = [x0, u1, x2, .oK (kD (bumps [] (dn.map cI1))), x4, .oK (kD (bumps [] (dn.map oI1))), x6, x7]) (evq ts) [x0, .un, x2, .oK [], x4, .oK [], x6, x7] ⟨.un, rfl⟩ (by
      rintro dn q rs ρ e ⟨u1, rfl⟩
      have hq : q ∈ evq ts := by rw [← e]; simp
      have hd : dn.length ≤ 4000 := by
        have h1 := evq_len hc
        have h2 : dn.length ≤ (evq ts).length := by rw [← e]; simp
        omega
      have k1 := len_bumps (dn.map cI1) []
      have k2 := len_bumps (dn.map oI1) []
      rw [List.length_map] at k1 k2
      refine ⟨[x0, .im (ndD q), x2, .oK (kD (bumps [] (dn.map cI1))), x4, .oK (kD (bumps [] (dn.map oI1))), x6, x7], _, rfl, .inl ?_, ⟨.im (ndD q), rfl⟩⟩
      have p1 := put_bump (i := 3) (gk := geOp ixT (geV 1) (gI 0)) (gv := gI 1) (ρ := [x0, .im (ndD q), x2, .oK (kD (bumps [] (dn.map cI1))), x4, .oK (kD (bumps [] (dn.map oI1))), x6, x7]) (cs := bumps [] (dn.map cI1)) (n := q.n) (v := 1) rfl rfl rfl (by rw [sizeLine_eq]; simp at k1; omega)
      have p2 := put_bump (i := 5) (gk := geOp ixT (geV 1) (gI 0)) (gv := geA F_own (gaCons (geV 1) gaNil)) (ρ := [x0, .im (ndD q), x2, .oK (kD (bump (bumps [] (dn.map cI1)) q.n 1)), x4, .oK (kD (bumps [] (dn.map oI1))), x6, x7]) (cs := bumps [] (dn.map oI1)) (n := q.n) (v := q.b - q.a - tsum q.i) rfl rfl (own_eq q (by have := evq_cnt hc hq; omega)) (by rw [sizeLine_eq]; simp at k2; omega)
      rw [e_seq, p1]
      dsimp only [List.set]
      rw [p2, List.map_append, List.map_append, bumps_app, bumps_app]
      rfl)
  exact ⟨u1, e⟩
def f_tab2 : VS.Env → Out := putO 4 (geOp addI (geGet (geT 4) (geV 6) (gI 0)) (geV 7)) (geV 6)
theorem table_loop2 {l : Cnt} {cs : Cnt} (hl : cs.length + l.length ≤ 100000) (x0 x1 x2 x3 x5 x6 x7 : Sl) : ∃ u6 u7, runFor (bindT (.tp (.cons (.nm 6) (.cons (.nm 7) .nil)))) f_tab2 (l.map pD) [x0, x1, x2, x3, .oK (kD cs), x5, x6, x7] = .nx [x0, x1, x2, x3, .oK (kD (bumps cs l)), x5, u6, u7] := by
  obtain ⟨ρ', e, u6, u7, rfl⟩ := for_all (b := bindT (.tp (.cons (.nm 6) (.cons (.nm 7) .nil)))) (f := f_tab2) (u := pD) (fun dn ρ => ∃ u6 u7, ρ = [x0, x1, x2, x3, .oK (kD (bumps cs dn)), x5, u6, u7]) l [x0, x1, x2, x3, .oK (kD cs), x5, x6, x7] ⟨x6, x7, rfl⟩ (by
      rintro dn q rs ρ e ⟨u6, u7, rfl⟩
      have hd : dn.length ≤ l.length := by rw [← e]; simp
      have k1 := len_bumps dn cs
      refine ⟨[x0, x1, x2, x3, .oK (kD (bumps cs dn)), x5, .im (.str q.1), .im (.int q.2)], _, rfl, .inl ?_, ⟨.im (.str q.1), .im (.int q.2), rfl⟩⟩
      have p1 := put_bump (i := 4) (gk := geV 6) (gv := geV 7) (ρ := [x0, x1, x2, x3, .oK (kD (bumps cs dn)), x5, .im (.str q.1), .im (.int q.2)]) (cs := bumps cs dn) (n := q.1) (v := q.2) rfl rfl rfl (by rw [sizeLine_eq]; omega)
      unfold f_tab2
      rw [p1, bumps_app]
      rfl)
  exact ⟨u6, u7, e⟩
end VP

set_option Elab.async false
set_option linter.all false
set_option maxRecDepth 100000
set_option maxHeartbeats 1000000
namespace VP
open PySem PySem.Spec PyProof.Rows L2 LamX VS
theorem nd_len : ∀ (l m : List Str), l.Nodup → (∀ x ∈ l, x ∈ m) → l.length ≤ m.length
  | [], m, _, _ => Nat.zero_le _
  | x :: l, m, nd, h => by
    obtain ⟨n1, n2⟩ := List.nodup_cons.mp nd
    have hx := h x List.mem_cons_self
    have := nd_len l (m.erase x) n2 fun y hy => by
      have hy2 := h y (List.mem_cons_of_mem _ hy)
      have : y ≠ x := fun e => n1 (e ▸ hy)
      exact (List.mem_erase_of_ne this).mpr hy2
    rw [List.length_erase_of_mem hx] at this
    have hp : 0 < m.length := List.length_pos_of_mem hx
    rw [List.length_cons]; omega
theorem val_names {c : Cals} : ∀ {lo hi : Int}, val c lo hi → ∀ q ∈ allq c, q.n ∈ NM := by
  induction c with
  | nil => intro lo hi _ q h; cases h
  | cons n a b i r ihi ihr =>
    intro lo hi v q h
    rw [val_cons] at v
    rcases List.mem_cons.mp h with rfl | h
    · exact v.1
    · rcases List.mem_append.mp h with h | h
      · exact ihi v.2.2.2.2.1 q h
      · exact ihr v.2.2.2.2.2 q h
theorem evq_names {ts : Trs} (t : TV ts) : ∀ q ∈ evq ts, q.n ∈ NM := fun q h => by
  unfold evq at h
  obtain ⟨p, hp, hq⟩ := List.mem_flatMap.mp h
  exact val_names (t.ok p hp).2.2.1 q hq
theorem mem_tC {ts : Trs} {n : Str} : n ∈ (tC ts).map (·.1) ↔ n ∈ (evq ts).map (·.n) := by
  unfold tC
  rw [keys_bumps, List.map_map]
  constructor
  · rintro (h | h)
    · cases h
    · exact h
  · exact .inr
theorem mem_tO {ts : Trs} {n : Str} : n ∈ (tO ts).map (·.1) ↔ n ∈ (evq ts).map (·.n) := by
  unfold tO
  rw [keys_bumps, List.map_map]
  constructor
  · rintro (h | h)
    · cases h
    · exact h
  · exact .inr
theorem outq_has {c : Cals} : ∀ {ar : List Str} {n : Str}, n ∈ (allq c).map (·.n) → n ∉ ar → n ∈ (outq c ar).map (·.1) := by
  induction c with
  | nil => intro ar n h; cases h
  | cons m a b i r hi hr =>
    intro ar n h hn
    rw [outq_cons, List.map_append, List.map_append, List.mem_append, List.mem_append]
    by_cases e : n = m
    · subst e; left; rw [if_neg hn]; simp
    · right
      have h' : n = m ∨ n ∈ ((allq i ++ allq r).map (·.n)) := List.mem_cons.mp h
      rcases h' with h' | h'
      · exact absurd h' e
      · rw [List.map_append, List.mem_append] at h'
        rcases h' with h' | h'
        · left; exact hi h' (by rw [List.mem_append, not_or]; exact ⟨hn, by simpa using e⟩)
        · right; exact hr h' hn
theorem mem_tW {ts : Trs} {n : Str} (h : n ∈ (evq ts).map (·.n)) : n ∈ (tW ts).map (·.1) := by
  unfold tW
  rw [keys_bumps]
  right
  obtain ⟨q, hq, rfl⟩ := List.mem_map.mp h
  unfold evq at hq
  obtain ⟨p, hp, hq⟩ := List.mem_flatMap.mp hq
  have := outq_has (c := p.2) (ar := []) (n := q.n) (List.mem_map.mpr ⟨q, hq, rfl⟩) (by simp)
  unfold outs
  rw [List.map_flatMap]
  exact List.mem_flatMap.mpr ⟨p, hp, this⟩
def ksI (cs : Cnt) : List Key := cs.map fun p => Sum.inr p.1
theorem kD_keys (cs : Cnt) : (kD cs).map (·.1) = ksI cs := by unfold kD ksI; rw [List.map_map]; rfl
theorem ksI_inr (cs : Cnt) : (ksI cs).all (fun k => !isL k) = true := by unfold ksI; rw [List.all_map]; exact List.all_eq_true.mpr fun _ _ => rfl
def nmsC (cs : Cnt) : List Str := (srtK (ksI cs)).map keyT
theorem srt_inr (cs : Cnt) : (srtK (ksI cs)).all (fun k => !isL k) = true := by
  rw [List.all_eq_true]
  intro k hk
  exact List.all_eq_true.mp (ksI_inr cs) k ((srtK_perm _).mem_iff.mp hk)
theorem nms_inr (cs : Cnt) : srtK (ksI cs) = (nmsC cs).map Sum.inr := all_inr (srt_inr cs)
theorem mem_nms {cs : Cnt} {n : Str} : n ∈ nmsC cs ↔ n ∈ cs.map (·.1) := by
  constructor
  · intro h
    have : (Sum.inr n : Key) ∈ srtK (ksI cs) := by rw [nms_inr]; exact List.mem_map.mpr ⟨n, h, rfl⟩
    have := (srtK_perm _).mem_iff.mp this
    unfold ksI at this
    obtain ⟨p, hp, e⟩ := List.mem_map.mp this
    exact List.mem_map.mpr ⟨p, hp, Sum.inr.inj e⟩
  · intro h
    obtain ⟨p, hp, rfl⟩ := List.mem_map.mp h
    have : (Sum.inr p.1 : Key) ∈ srtK (ksI cs) := (srtK_perm _).mem_iff.mpr (List.mem_map.mpr ⟨p, hp, rfl⟩)
    rw [nms_inr] at this
    obtain ⟨x, hx, e⟩ := List.mem_map.mp this
    exact (Sum.inr.inj e) ▸ hx
theorem sort_kD {cs : Cnt} (h : cs.length < 64) : sortDct [.dK (kD cs)] = .ok (.lst ((nmsC cs).map .str)) := by
  have h1 : (kD cs).length < 64 := by unfold kD; rw [List.length_map]; exact h
  have h2 : sameK ((kD cs).map (·.1)) = true := by
    rw [kD_keys]; unfold sameK; rw [ksI_inr, Bool.or_true]
  unfold sortDct
  dsimp only
  rw [if_pos ⟨h1, h2⟩, kD_keys, nms_inr, List.map_map]; rfl
theorem ix_kD {cs : Cnt} {n : Str} (h : n ∈ cs.map (·.1)) : ixD (.dK (kD cs)) (.str n) = .ok (.int (gt cs n)) := by
  unfold ixD
  show (match (some (.inr n : Key)).map fun k => lk (kD cs) k with | some (some v) => R.ok v | _ => .no) = _
  rw [Option.map_some, lk_kD, if_pos (hs_iff.mpr h)]
theorem tC_len {ts : Trs} (t : TV ts) : (tC ts).length ≤ 6 := by
  have nd : ((tC ts).map (·.1)).Nodup := nd_bumps _ _ (by simp)
  have := nd_len _ NM nd fun x hx => by
    obtain ⟨q, hq, rfl⟩ := List.mem_map.mp (mem_tC.mp hx)
    exact evq_names t q hq
  rw [List.length_map] at this
  exact this
def rowD (ts : Trs) (n : Str) : D := .tup [.str n, .int (gt (tC ts) n), .int (gt (tW ts) n), .int (gt (tO ts) n)]
def nms (ts : Trs) : List Str := nmsC (tC ts)
theorem forD_eq {ts : Trs} {t : Tg} {i : Nat} {f : VS.Env → Out} {ρ ρ' : VS.Env} (hi : ρ[i]? = some (.im (tD ts))) (h : runFor (bindT t) f (ts.map fun p => .int p.1) ρ = .nx ρ') : forDO t i f ρ = .nx ρ' := by
  unfold forDO
  rw [hi]
  dsimp only
  rw [keys_tD]
  dsimp only
  rw [h]; rfl
theorem table_eq {ts : Trs} (t : TV ts) : F_table [tD ts] = .ok (.lst ((nms ts).map (rowD ts))) := by
  have hl := t.len
  have hc : ∀ p ∈ ts, cnt p.2 ≤ 1000 := fun p hp => (t.ok p hp).2.2.2.2
  have st : startE 8 [tD ts] = [.im (tD ts), .un, .un, .un, .un, .un, .un, .un] := rfl
  have n1 := need_trees_eq t
  have v0 : geV 0 [.im (tD ts), .un, .un, .un, .un, .un, .un, .un] = .ok (tD ts) := rfl
  have p3 : parO3 3 4 5 .f .f .f (fun _ => .ok (.dK [])) (fun _ => .ok (.dK [])) (fun _ => .ok (.dK [])) [.im (tD ts), .un, .un, .un, .un, .un, .un, .un] = .nx [.im (tD ts), .un, .un, .oK [], .oK [], .oK [], .un, .un] := rfl
  have i1 : gSeq itL (geA F_every (gaCons (geV 0) gaNil)) [.im (tD ts), .un, .un, .oK [], .oK [], .oK [], .un, .un] = .ok ((evq ts).map ndD) := by
    have w0 : geV 0 [.im (tD ts), .un, .un, .oK [], .oK [], .oK [], .un, .un] = .ok (tD ts) := rfl
    rw [e_gSeq, e_A, e_cons, w0, R.ok_bind, e_nil, R.ok_bind, R.ok_bind, every_eq t]; rfl
  obtain ⟨u1, l1⟩ := table_loop1 hc hl (.im (tD ts)) .un (.oK []) .un .un
  obtain ⟨ρ', l2, u2, u6, u7, rfl⟩ := for_all (b := bindT (.nm 2)) (f := forO (.tp (.cons (.nm 6) (.cons (.nm 7) .nil))) (gSeq itL (geA (F_outer 8) (gaCons (geOp ixD (geV 0) (geV 2)) (gaCons (geA lstD gaNil) gaNil)))) f_tab2) (u := fun p : Int × Cals => D.int p.1)
    (fun dn ρ => ∃ u2 u6 u7, ρ = [.im (tD ts), u1, u2, .oK (kD (tC ts)), .oK (kD (bumps [] (outs dn))), .oK (kD (tO ts)), u6, u7]) ts [.im (tD ts), u1, .un, .oK (kD (tC ts)), .oK [], .oK (kD (tO ts)), .un, .un] ⟨.un, .un, .un, rfl⟩ (by
      rintro dn p rs ρ e ⟨u2, u6, u7, rfl⟩
      have hp : p ∈ ts := by rw [← e]; simp
      have o := t.ok p hp
      have hd : (outs dn).length ≤ 4000 := by
        have h1 := outs_len (ts := dn) fun q hq => hc q (by rw [← e]; simp [hq])
        have h2 : dn.length ≤ ts.length := by rw [← e]; simp
        omega
      have k1 := len_bumps (outs dn) []
      have k2 := outq_len p.2 []
      simp at k1
      obtain ⟨w6, w7, l3⟩ := table_loop2 (l := outq p.2 []) (cs := bumps [] (outs dn)) (by omega) (.im (tD ts)) u1 (.im (.int p.1)) (.oK (kD (tC ts))) (.oK (kD (tO ts))) u6 u7
      refine ⟨[.im (tD ts), u1, .im (.int p.1), .oK (kD (tC ts)), .oK (kD (bumps [] (outs dn))), .oK (kD (tO ts)), u6, u7], _, rfl, .inl ?_, ⟨.im (.int p.1), w6, w7, rfl⟩⟩
      have w0 : geV 0 [.im (tD ts), u1, .im (.int p.1), .oK (kD (tC ts)), .oK (kD (bumps [] (outs dn))), .oK (kD (tO ts)), u6, u7] = .ok (tD ts) := rfl
      have w2 : geV 2 [.im (tD ts), u1, .im (.int p.1), .oK (kD (tC ts)), .oK (kD (bumps [] (outs dn))), .oK (kD (tO ts)), u6, u7] = .ok (.int p.1) := rfl
      have g : gSeq itL (geA (F_outer 8) (gaCons (geOp ixD (geV 0) (geV 2)) (gaCons (geA lstD gaNil) gaNil))) [.im (tD ts), u1, .im (.int p.1), .oK (kD (tC ts)), .oK (kD (bumps [] (outs dn))), .oK (kD (tO ts)), u6, u7] = .ok ((outq p.2 []).map pD) := by
        have e0 : lstD [] = .ok (sL []) := lstD_ok sl0
        rw [e_gSeq, e_A, e_cons, e_op, w0, R.ok_bind, w2, R.ok_bind, ix_tD t.nd hp, R.ok_bind, e_cons, e_A, e_nil, R.ok_bind, e0]
        simp only [R.ok_bind]
        rw [outer_eq 8 p.2 [] (by omega) (by omega) (by show 0 + _ ≤ _; omega)]; rfl
      rw [e_for, g]
      dsimp only
      rw [l3]
      have : outs (dn ++ [p]) = outs dn ++ outq p.2 [] := by unfold outs; rw [List.flatMap_append]; simp
      rw [this, bumps_app])
  have f1 : forDO (.nm 2) 0 (forO (.tp (.cons (.nm 6) (.cons (.nm 7) .nil))) (gSeq itL (geA (F_outer 8) (gaCons (geOp ixD (geV 0) (geV 2)) (gaCons (geA lstD gaNil) gaNil)))) f_tab2) [.im (tD ts), u1, .un, .oK (kD (tC ts)), .oK [], .oK (kD (tO ts)), .un, .un] =
      .nx [.im (tD ts), u1, u2, .oK (kD (tC ts)), .oK (kD (tW ts)), .oK (kD (tO ts)), u6, u7] := forD_eq rfl l2
  have hn : (nms ts).length ≤ 6 := by
    have := tC_len t
    unfold nms nmsC
    rw [List.length_map, (srtK_perm _).length_eq]
    unfold ksI
    rw [List.length_map]; exact this
  have c1 : compE (.nm 6) [6] (gSeq itL (geA sortDct (gaCons (geT 3) gaNil))) (fun _ => .ok true) (geA tupD (gaCons (geV 6) (gaCons (geOp ixD (geT 3) (geV 6)) (gaCons (geOp ixD (geT 4) (geV 6)) (gaCons (geOp ixD (geT 5) (geV 6)) gaNil)))))
      [.im (tD ts), u1, u2, .oK (kD (tC ts)), .oK (kD (tW ts)), .oK (kD (tO ts)), u6, u7] = .ok (.lst ((nms ts).map (rowD ts))) := by
    refine compE_all (u := D.str) (h := rowD ts) (nms ts) ?_ (sl_ge (by omega)) fun n hn => ⟨[.im (tD ts), u1, u2, .oK (kD (tC ts)), .oK (kD (tW ts)), .oK (kD (tO ts)), .im (.str n), u7], rfl, ?_⟩
    · have w3 : geT 3 [.im (tD ts), u1, u2, .oK (kD (tC ts)), .oK (kD (tW ts)), .oK (kD (tO ts)), u6, u7] = .ok (.dK (kD (tC ts))) := rfl
      rw [e_gSeq, e_A, e_cons, w3, R.ok_bind, e_nil, R.ok_bind, R.ok_bind, sort_kD (by have := tC_len t; omega)]; rfl
    · have m1 : n ∈ (tC ts).map (·.1) := mem_nms.mp hn
      have m2 := mem_tW (mem_tC.mp m1)
      have m3 : n ∈ (tO ts).map (·.1) := mem_tO.mpr (mem_tC.mp m1)
      have w3 : geT 3 [.im (tD ts), u1, u2, .oK (kD (tC ts)), .oK (kD (tW ts)), .oK (kD (tO ts)), .im (.str n), u7] = .ok (.dK (kD (tC ts))) := rfl
      have w4 : geT 4 [.im (tD ts), u1, u2, .oK (kD (tC ts)), .oK (kD (tW ts)), .oK (kD (tO ts)), .im (.str n), u7] = .ok (.dK (kD (tW ts))) := rfl
      have w5 : geT 5 [.im (tD ts), u1, u2, .oK (kD (tC ts)), .oK (kD (tW ts)), .oK (kD (tO ts)), .im (.str n), u7] = .ok (.dK (kD (tO ts))) := rfl
      have w6 : geV 6 [.im (tD ts), u1, u2, .oK (kD (tC ts)), .oK (kD (tW ts)), .oK (kD (tO ts)), .im (.str n), u7] = .ok (.str n) := rfl
      simp only [e_A, e_cons, e_nil, e_op, w3, w4, w5, w6, R.ok_bind, ix_kD m1, ix_kD m2, ix_kD m3]
      exact e_tupD _ (sl_ge (by show 4 ≤ _; omega))
  unfold F_table b_table C_table_1 L_table_3 L_table_2 L_table_1
  unfold f_tab2 at f1
  simp only [e_run, st, e_seq, e_A, e_cons, e_nil, v0, R.ok_bind, n1, e_ofR, p3, e_for, i1, l1, f1]
  rw [c1]
  rfl
end VP

set_option Elab.async false
set_option linter.all false
set_option maxRecDepth 100000
set_option maxHeartbeats 1000000
namespace VP
open PySem PySem.Spec PyProof.Rows L2 LamX VS
theorem mulI_ok {i j : Int} (h : okMul i j) : mulI (.int i) (.int j) = .ok (.int (i * j)) := by unfold mulI; dsimp only; rw [if_pos h]
theorem fdivI_ok {i j : Int} (h : CDivW i j) : fdivI (.int i) (.int j) = .ok (.int (i / j)) := by unfold fdivI; dsimp only; rw [if_pos h]
theorem modI_ok {i j : Int} (h : 0 < j) : modI (.int i) (.int j) = .ok (.int (i % j)) := by unfold modI; dsimp only; rw [if_pos h]
theorem log_lt {x : Int} {n : Nat} (h0 : 0 ≤ x) (h : x < 2 ^ n) : x.natAbs.log2 ≤ n := by
  have : x.natAbs < 2 ^ n := by
    have e : (x.natAbs : Int) = x := Int.natAbs_of_nonneg h0
    have : ((x.natAbs : Nat) : Int) < ((2 ^ n : Nat) : Int) := by rw [e]; push_cast; exact h
    exact Int.ofNat_lt.mp this
  by_cases hz : x.natAbs = 0
  · rw [hz]; simp
  · exact Nat.le_of_lt ((Nat.log2_lt hz).mpr this)
theorem mul_wide {i j : Int} {n m : Nat} (hi : 0 ≤ i) (hi2 : i < 2 ^ n) (hj : 0 ≤ j) (hj2 : j < 2 ^ m) (h : n + m < 1000000) : okMul i j := .inr (by
  have a := log_lt hi hi2
  have b := log_lt hj hj2
  unfold CMulW; omega)
def p1 : Int := 340282366920938463463374607431768211507
def p2 : Int := 340282366920938463463374607431768211297
def p3 : Int := 18446744073709551557
def dr (c k : Int) : Int :=
  let m := (c * 6364136223846793005 + (k + 1) * 1442695040888963407) % p1
  let m := m * m % p2
  let m := (m % p3 + 1) * (m / p3 + 1) * m
  m % p1
theorem dr_pos (c k : Int) : 0 ≤ dr c k := Int.emod_nonneg _ (by decide)
theorem drawn_eq (c k : Int) : F__law_drawn [.int c, .int k] = .ok (.int (dr c k)) := by
  have st : startE 3 [D.int c, D.int k] = [.im (.int c), .im (.int k), .un] := rfl
  generalize hm : (c * 6364136223846793005 + (k + 1) * 1442695040888963407) % p1 = m
  have m0 : 0 ≤ m := hm ▸ Int.emod_nonneg _ (by decide)
  have m1 : m < 2 ^ 129 := Int.lt_trans (hm ▸ Int.emod_lt_of_pos _ (by decide)) (by decide)
  generalize hn : m * m % p2 = n
  have n0 : 0 ≤ n := hn ▸ Int.emod_nonneg _ (by decide)
  have n1 : n < 2 ^ 129 := Int.lt_trans (hn ▸ Int.emod_lt_of_pos _ (by decide)) (by decide)
  have a0 : 0 ≤ n % p3 := Int.emod_nonneg _ (by decide)
  have a1 : n % p3 < 2 ^ 64 := Int.lt_trans (Int.emod_lt_of_pos _ (by decide)) (by decide)
  have b0 : 0 ≤ n / p3 := Int.ediv_nonneg n0 (by decide)
  have b1 : n / p3 < 2 ^ 129 := Int.lt_of_le_of_lt (Int.ediv_le_self _ n0) n1
  have c0 : 0 ≤ (n % p3 + 1) * (n / p3 + 1) := Int.mul_nonneg (by omega) (by omega)
  have c1 : (n % p3 + 1) * (n / p3 + 1) < 2 ^ 200 := by
    have h1 : n % p3 + 1 ≤ 2 ^ 64 := by omega
    have h2 : n / p3 + 1 ≤ 2 ^ 129 := by omega
    have h3 : (n % p3 + 1) * (n / p3 + 1) ≤ 2 ^ 64 * 2 ^ 129 := Int.mul_le_mul h1 h2 (by omega) (by decide)
    exact Int.lt_of_le_of_lt h3 (by decide)
  have e : dr c k = (n % p3 + 1) * (n / p3 + 1) * n % p1 := by unfold dr; simp only [hm, hn]
  have k1 : okMul c 6364136223846793005 := .inl (.inr ⟨by decide, by decide⟩)
  have k2 : okMul (k + 1) 1442695040888963407 := .inl (.inr ⟨by decide, by decide⟩)
  have k3 : okMul m m := mul_wide m0 m1 m0 m1 (by decide)
  have k4 : okMul (n % p3 + 1) (n / p3 + 1) := mul_wide (n := 65) (m := 130) (by omega) (by omega) (by omega) (by omega) (by decide)
  have k5 : okMul ((n % p3 + 1) * (n / p3 + 1)) n := mul_wide c0 c1 n0 n1 (by decide)
  have d1 : CDivW n 18446744073709551557 := ⟨by decide, by decide +kernel⟩
  rw [e]
  unfold F__law_drawn b__law_drawn
  have hm' : (c * 6364136223846793005 + (k + 1) * 1442695040888963407) % 340282366920938463463374607431768211507 = m := hm
  have hn' : m * m % 340282366920938463463374607431768211297 = n := hn
  simp [st, mulI_ok k1, mulI_ok k2, modI_ok, hm', mulI_ok k3, hn', fdivI_ok d1]
  have k4' : mulI (.int (n % 18446744073709551557 + 1)) (.int (n / 18446744073709551557 + 1)) = .ok (.int ((n % p3 + 1) * (n / p3 + 1))) := mulI_ok k4
  have k5' := mulI_ok k5
  rw [k4', R.ok_bind, k5', e_ofR]
  simp [modI_ok]
  rfl
theorem name_eq (m : Int) : ∃ n ∈ NM, F__law_name [.int m] = .ok (.str n) := by
  have h0 := Int.emod_nonneg (m / 8) (by decide : (6 : Int) ≠ 0)
  have h1 := Int.emod_lt_of_pos (m / 8) (by decide : (0 : Int) < 6)
  generalize hx : m / 8 % 6 = x at h0 h1
  have st : startE 1 [D.int m] = [.im (.int m)] := rfl
  have v0 : geV 0 [.im (.int m)] = .ok (.int m) := rfl
  have l0 : lstD [D.str "a", .str "b", .str "c", .str "ab", .str "work", .str "abcdefgh"] = .ok (.lst [.str "a", .str "b", .str "c", .str "ab", .str "work", .str "abcdefgh"]) := lstD_ok (sl_ge (by show 6 ≤ _; omega))
  have key : F__law_name [.int m] = (match ixL (.lst [.str "a", .str "b", .str "c", .str "ab", .str "work", .str "abcdefgh"]) (.int x) with | .ok d => .ok d | .ex c => .ex c | .no => .no) := by
    unfold F__law_name b__law_name
    simp only [e_run, st, e_op, e_A, e_cons, e_nil, e_S, e_I, v0, R.ok_bind, l0, fdivI_ok (show CDivW m 8 from ⟨by decide, by decide +kernel⟩), modI_ok (show (0 : Int) < 6 by decide), hx]
    cases ixL (.lst [.str "a", .str "b", .str "c", .str "ab", .str "work", .str "abcdefgh"]) (.int x) <;> rfl
  have : x = 0 ∨ x = 1 ∨ x = 2 ∨ x = 3 ∨ x = 4 ∨ x = 5 := by omega
  rw [key]
  rcases this with rfl | rfl | rfl | rfl | rfl | rfl
  · exact ⟨"a", by decide, rfl⟩
  · exact ⟨"b", by decide, rfl⟩
  · exact ⟨"c", by decide, rfl⟩
  · exact ⟨"ab", by decide, rfl⟩
  · exact ⟨"work", by decide, rfl⟩
  · exact ⟨"abcdefgh", by decide, rfl⟩
end VP

set_option Elab.async false
set_option linter.all false
set_option maxRecDepth 100000
set_option maxHeartbeats 1000000
namespace VP
open PySem PySem.Spec PyProof.Rows L2 LamX VS
/-! a call more at the end -/
def capp : Cals → Str → Int → Int → Cals → Cals
  | .nil, n, a, b, i => .cons n a b i .nil
  | .cons m x y j r, n, a, b, i => .cons m x y j (capp r n a b i)
theorem toDs_capp (n : Str) (a b : Int) (i : Cals) : ∀ c, toDs (capp c n a b i) = toDs c ++ [one n a b i]
  | .nil => rfl
  | .cons m x y j r => by show _ :: toDs (capp r n a b i) = _; rw [toDs_capp n a b i r]; rfl
theorem cnt_capp (n : Str) (a b : Int) (i : Cals) : ∀ c, cnt (capp c n a b i) = cnt c + (1 + cnt i)
  | .nil => by show 1 + cnt i + 0 = 0 + _; omega
  | .cons m x y j r => by show 1 + cnt j + cnt (capp r n a b i) = 1 + cnt j + cnt r + _; rw [cnt_capp n a b i r]; omega
theorem dep_capp (n : Str) (a b : Int) (i : Cals) {d : Nat} : ∀ c, dep c ≤ d → dep i + 1 ≤ d → dep (capp c n a b i) ≤ d
  | .nil, _, h => by show max (dep i + 1) 0 ≤ d; omega
  | .cons m x y j r, h, h2 => by
    rw [dep_cons] at h
    show max (dep j + 1) (dep (capp r n a b i)) ≤ d
    have := dep_capp n a b i r (d := d) (by omega) h2
    omega
theorem val_capp {n : Str} {a b : Int} {i : Cals} (hn : n ∈ NM) (hab : a ≤ b) (vi : val i a b) : ∀ {c : Cals} {lo h : Int}, val c lo h → lo ≤ h → h ≤ a → val (capp c n a b i) lo b
  | .nil, lo, h, _, h1, h2 => ⟨hn, by omega, hab, Int.le_refl _, vi, trivial⟩
  | .cons m x y j r, lo, h, v, h1, h2 => by
    rw [val_cons] at v
    exact ⟨v.1, v.2.1, v.2.2.1, by omega, v.2.2.2.2.1, val_capp hn hab vi v.2.2.2.2.2 v.2.2.2.1 h2⟩
theorem capp_ne (n : Str) (a b : Int) (i : Cals) : ∀ c, capp c n a b i ≠ .nil
  | .nil => fun e => by cases e
  | .cons m x y j r => fun e => by cases e
def KK : Nat → Nat
  | 0 => 0 | d + 1 => 3 * (1 + KK d)
theorem ix3 {x : Int} (h0 : 0 ≤ x) (h1 : x < 3) : ∃ v : Int, 0 < v ∧ ixL (.lst [.int 1, .int 4, .int 9]) (.int x) = .ok (.int v) := by
  have : x = 0 ∨ x = 1 ∨ x = 2 := by omega
  rcases this with rfl | rfl | rfl
  · exact ⟨1, by decide, rfl⟩
  · exact ⟨4, by decide, rfl⟩
  · exact ⟨9, by decide, rfl⟩
theorem ix4 {x : Int} (h0 : 0 ≤ x) (h1 : x < 4) : ∃ v : Int, 0 < v ∧ ixL (.lst [.int 1, .int 7, .int 40, .int 300]) (.int x) = .ok (.int v) := by
  have : x = 0 ∨ x = 1 ∨ x = 2 ∨ x = 3 := by omega
  rcases this with rfl | rfl | rfl | rfl
  · exact ⟨1, by decide, rfl⟩
  · exact ⟨7, by decide, rfl⟩
  · exact ⟨40, by decide, rfl⟩
  · exact ⟨300, by decide, rfl⟩
theorem dv (i : Int) {j : Int} (h : 0 < j) (h2 : j.natAbs.log2 < 9000) : fdivI (.int i) (.int j) = .ok (.int (i / j)) := fdivI_ok ⟨h, h2⟩
noncomputable def f_calls (self : List D → R D) : VS.Env → Out := (seqO (fun ρ => ofR ((geA F__law_drawn (gaCons (geV 0) (gaCons (geV 4) gaNil))) ρ) fun d => .nx (ρ.set 7 (.im d)))
  (seqO (fun ρ => ofR ((geOp addI (geV 6) (geOp modI (geOp fdivI (geV 7) (gI 8)) (geOp ixL (geA lstD (gaCons (gI 1) (gaCons (gI 4) (gaCons (gI 9) gaNil)))) (geOp modI (geV 7) (gI 3))))) ρ) fun d => .nx (ρ.set 8 (.im d)))
  (seqO (fun ρ => ofR ((geOp addI (geV 8) (geOp modI (geOp fdivI (geV 7) (gI 512)) (geOp ixL (geA lstD (gaCons (gI 1) (gaCons (gI 7) (gaCons (gI 40) (gaCons (gI 300) gaNil))))) (geOp modI (geOp fdivI (geV 7) (gI 64)) (gI 4))))) ρ) fun d => .nx (ρ.set 9 (.im d)))
  (ifO (geB (geOp (cmI fun i j => decide (i ≤ j)) (geV 9) (geV 2)))
   (seqO (appO 5 (geA tupD (gaCons (geA F__law_name (gaCons (geOp fdivI (geV 7) (gI 16)) gaNil)) (gaCons (geV 8) (gaCons (geV 9) (gaCons (geA self (gaCons (geA F__law_drawn (gaCons (geV 7) (gaCons (gI 1) gaNil))) (gaCons (geV 8) (gaCons (geV 9) (gaCons (geOp subI (geV 3) (gI 1)) gaNil))))) gaNil))))))
   (fun ρ => ofR ((geV 9) ρ) fun d => .nx (ρ.set 6 (.im d))))
   .nx))))
/-- what is drawn: calls within two ticks -/
def Drawn (F : List D → R D) (d : Nat) : Prop := ∀ (m lo hi : Int), ∃ c, F [.int m, .int lo, .int hi, .int d] = .ok (cD c) ∧ val c lo hi ∧ dep c ≤ d ∧ cnt c ≤ KK d
theorem calls_step {self : List D → R D} {d : Nat} (hs : Drawn self d) {m lo hi h : Int} {c : Cals} {x : Int} {u7 u8 u9 : Sl} (v : val c lo h) (h1 : lo ≤ h) (hc : cnt c ≤ 1000) :
    ∃ c' h' w7 w8 w9, f_calls self [.im (.int m), .im (.int lo), .im (.int hi), .im (.int (d + 1 : Nat)), .im (.int x), .ow (toDs c), .im (.int h), u7, u8, u9] = .nx [.im (.int m), .im (.int lo), .im (.int hi), .im (.int (d + 1 : Nat)), .im (.int x), .ow (toDs c'), .im (.int h'), w7, w8, w9] ∧
      val c' lo h' ∧ lo ≤ h' ∧ (c' = c ∧ h' = h ∨ h' ≤ hi ∧ cnt c' ≤ cnt c + (1 + KK d) ∧ (dep c ≤ d + 1 → dep c' ≤ d + 1)) := by
  generalize hone : dr m x = o
  have e1 : F__law_drawn [.int m, .int x] = .ok (.int o) := by rw [drawn_eq, hone]
  obtain ⟨v3, v3p, ev3⟩ := ix3 (Int.emod_nonneg o (by decide : (3 : Int) ≠ 0)) (Int.emod_lt_of_pos o (by decide))
  obtain ⟨v4, v4p, ev4⟩ := ix4 (Int.emod_nonneg (o / 64) (by decide : (4 : Int) ≠ 0)) (Int.emod_lt_of_pos (o / 64) (by decide))
  have q1 : 0 ≤ o / 8 % v3 := Int.emod_nonneg _ (by omega)
  have q2 : 0 ≤ o / 512 % v4 := Int.emod_nonneg _ (by omega)
  generalize hf : h + o / 8 % v3 = fi
  generalize hg : fi + o / 512 % v4 = la
  have l3 : lstD [D.int 1, .int 4, .int 9] = .ok (.lst [.int 1, .int 4, .int 9]) := lstD_ok (sl_ge (by show 3 ≤ _; omega))
  have l4 : lstD [D.int 1, .int 7, .int 40, .int 300] = .ok (.lst [.int 1, .int 7, .int 40, .int 300]) := lstD_ok (sl_ge (by show 4 ≤ _; omega))
  have s1 : f_calls self [.im (.int m), .im (.int lo), .im (.int hi), .im (.int (d + 1 : Nat)), .im (.int x), .ow (toDs c), .im (.int h), u7, u8, u9] =
      (ifO (geB (geOp (cmI fun i j => decide (i ≤ j)) (geV 9) (geV 2)))
        (seqO (appO 5 (geA tupD (gaCons (geA F__law_name (gaCons (geOp fdivI (geV 7) (gI 16)) gaNil)) (gaCons (geV 8) (gaCons (geV 9) (gaCons (geA self (gaCons (geA F__law_drawn (gaCons (geV 7) (gaCons (gI 1) gaNil))) (gaCons (geV 8) (gaCons (geV 9) (gaCons (geOp subI (geV 3) (gI 1)) gaNil))))) gaNil))))))
          (fun ρ => ofR ((geV 9) ρ) fun d => .nx (ρ.set 6 (.im d)))) .nx) [.im (.int m), .im (.int lo), .im (.int hi), .im (.int (d + 1 : Nat)), .im (.int x), .ow (toDs c), .im (.int h), .im (.int o), .im (.int fi), .im (.int la)] := by
    unfold f_calls
    have a1 : (geA F__law_drawn (gaCons (geV 0) (gaCons (geV 4) gaNil))) [.im (.int m), .im (.int lo), .im (.int hi), .im (.int (d + 1 : Nat)), .im (.int x), .ow (toDs c), .im (.int h), u7, u8, u9] = .ok (.int o) := e1
    have a2 : (geOp addI (geV 6) (geOp modI (geOp fdivI (geV 7) (gI 8)) (geOp ixL (geA lstD (gaCons (gI 1) (gaCons (gI 4) (gaCons (gI 9) gaNil)))) (geOp modI (geV 7) (gI 3))))) [.im (.int m), .im (.int lo), .im (.int hi), .im (.int (d + 1 : Nat)), .im (.int x), .ow (toDs c), .im (.int h), .im (.int o), u8, u9] = .ok (.int fi) := by
      have w7 : geV 7 [.im (.int m), .im (.int lo), .im (.int hi), .im (.int (d + 1 : Nat)), .im (.int x), .ow (toDs c), .im (.int h), .im (.int o), u8, u9] = .ok (.int o) := rfl
      have w6 : geV 6 [.im (.int m), .im (.int lo), .im (.int hi), .im (.int (d + 1 : Nat)), .im (.int x), .ow (toDs c), .im (.int h), .im (.int o), u8, u9] = .ok (.int h) := rfl
      simp only [e_op, e_A, e_cons, e_nil, e_I, w6, w7, R.ok_bind, l3, dv o (show (0 : Int) < 8 by decide) (by decide +kernel), modI_ok (show (0 : Int) < 3 by decide), ev3, modI_ok v3p, e_addI, hf]
    have a3 : (geOp addI (geV 8) (geOp modI (geOp fdivI (geV 7) (gI 512)) (geOp ixL (geA lstD (gaCons (gI 1) (gaCons (gI 7) (gaCons (gI 40) (gaCons (gI 300) gaNil))))) (geOp modI (geOp fdivI (geV 7) (gI 64)) (gI 4))))) [.im (.int m), .im (.int lo), .im (.int hi), .im (.int (d + 1 : Nat)), .im (.int x), .ow (toDs c), .im (.int h), .im (.int o), .im (.int fi), u9] = .ok (.int la) := by
      have w7 : geV 7 [.im (.int m), .im (.int lo), .im (.int hi), .im (.int (d + 1 : Nat)), .im (.int x), .ow (toDs c), .im (.int h), .im (.int o), .im (.int fi), u9] = .ok (.int o) := rfl
      have w8 : geV 8 [.im (.int m), .im (.int lo), .im (.int hi), .im (.int (d + 1 : Nat)), .im (.int x), .ow (toDs c), .im (.int h), .im (.int o), .im (.int fi), u9] = .ok (.int fi) := rfl
      simp only [e_op, e_A, e_cons, e_nil, e_I, w7, w8, R.ok_bind, l4, dv o (show (0 : Int) < 512 by decide) (by decide +kernel), dv o (show (0 : Int) < 64 by decide) (by decide +kernel), modI_ok (show (0 : Int) < 4 by decide), ev4, modI_ok v4p, e_addI, hg]
    rw [e_seq, a1, e_ofR]
    dsimp only [List.set]
    rw [e_seq, a2, e_ofR]
    dsimp only [List.set]
    rw [e_seq, a3, e_ofR]
    rfl
  rw [s1, e_ifO]
  have w : geB (geOp (cmI fun i j => decide (i ≤ j)) (geV 9) (geV 2)) [.im (.int m), .im (.int lo), .im (.int hi), .im (.int (d + 1 : Nat)), .im (.int x), .ow (toDs c), .im (.int h), .im (.int o), .im (.int fi), .im (.int la)] = .ok (decide (la ≤ hi)) := rfl
  rw [w]
  dsimp only
  by_cases hl : la ≤ hi
  · rw [if_pos (decide_eq_true hl)]
    obtain ⟨nm, hnm, en⟩ := name_eq (o / 16)
    obtain ⟨ci, eci, vci, dci, cci⟩ := hs (dr o 1) fi la
    have hfa : h ≤ fi := by omega
    have hab : fi ≤ la := by omega
    have a4 : geA tupD (gaCons (geA F__law_name (gaCons (geOp fdivI (geV 7) (gI 16)) gaNil)) (gaCons (geV 8) (gaCons (geV 9) (gaCons (geA self (gaCons (geA F__law_drawn (gaCons (geV 7) (gaCons (gI 1) gaNil))) (gaCons (geV 8) (gaCons (geV 9) (gaCons (geOp subI (geV 3) (gI 1)) gaNil))))) gaNil)))) [.im (.int m), .im (.int lo), .im (.int hi), .im (.int (d + 1 : Nat)), .im (.int x), .ow (toDs c), .im (.int h), .im (.int o), .im (.int fi), .im (.int la)] = .ok (one nm fi la ci) := by
      have w7 : geV 7 [.im (.int m), .im (.int lo), .im (.int hi), .im (.int (d + 1 : Nat)), .im (.int x), .ow (toDs c), .im (.int h), .im (.int o), .im (.int fi), .im (.int la)] = .ok (.int o) := rfl
      have w8 : geV 8 [.im (.int m), .im (.int lo), .im (.int hi), .im (.int (d + 1 : Nat)), .im (.int x), .ow (toDs c), .im (.int h), .im (.int o), .im (.int fi), .im (.int la)] = .ok (.int fi) := rfl
      have w9 : geV 9 [.im (.int m), .im (.int lo), .im (.int hi), .im (.int (d + 1 : Nat)), .im (.int x), .ow (toDs c), .im (.int h), .im (.int o), .im (.int fi), .im (.int la)] = .ok (.int la) := rfl
      have w3 : geV 3 [.im (.int m), .im (.int lo), .im (.int hi), .im (.int (d + 1 : Nat)), .im (.int x), .ow (toDs c), .im (.int h), .im (.int o), .im (.int fi), .im (.int la)] = .ok (.int (d + 1 : Nat)) := rfl
      have ed : ((d + 1 : Nat) : Int) - 1 = (d : Int) := by omega
      simp only [e_A, e_cons, e_nil, e_op, e_I, w3, w7, w8, w9, R.ok_bind, dv o (show (0 : Int) < 16 by decide) (by decide +kernel), en, drawn_eq, e_subI, ed, eci]
      exact e_tupD _ (sl_ge (by show 4 ≤ _; omega))
    have hlen : (toDs c).length < sizeLine := by
      have := tops_len c
      rw [toDs_tops, List.length_map, sizeLine_eq]; omega
    refine ⟨capp c nm fi la ci, la, .im (.int o), .im (.int fi), .im (.int la), ?_, val_capp hnm hab vci v h1 hfa, by omega, .inr ⟨hl, ?_, fun hd => dep_capp nm fi la ci c hd (by omega)⟩⟩
    · rw [e_seq, e_app]
      simp only [List.getElem?_cons_succ, List.getElem?_cons_zero, a4, e_ofR]
      rw [if_pos hlen, ← toDs_capp]
      rfl
    · rw [cnt_capp]; omega
  · rw [if_neg (by rw [decide_eq_false hl]; decide)]
    exact ⟨c, h, .im (.int o), .im (.int fi), .im (.int la), rfl, v, h1, .inl ⟨rfl, rfl⟩⟩

theorem calls_loop {self : List D → R D} {d : Nat} (hs : Drawn self d) (hk : KK (d + 1) ≤ 900) {m lo hi : Int} (n : Nat) (hn : n ≤ 3) : ∃ c h u4 u7 u8 u9, runFor (bindT (.nm 4)) (f_calls self) (upto 0 n) [.im (.int m), .im (.int lo), .im (.int hi), .im (.int (d + 1 : Nat)), .un, .ow [], .im (.int lo), .un, .un, .un] =
      .nx [.im (.int m), .im (.int lo), .im (.int hi), .im (.int (d + 1 : Nat)), u4, .ow (toDs c), .im (.int h), u7, u8, u9] ∧ val c lo hi ∧ dep c ≤ d + 1 ∧ cnt c ≤ KK (d + 1) := by
  obtain ⟨ρ', e, c, h, u4, u7, u8, u9, rfl, v, hl, hh, hc, hd⟩ := for_all (b := bindT (.nm 4)) (f := f_calls self) (u := fun i : Nat => D.int (0 + (i : Int)))
    (fun dn ρ => ∃ c h u4 u7 u8 u9, ρ = [.im (.int m), .im (.int lo), .im (.int hi), .im (.int (d + 1 : Nat)), u4, .ow (toDs c), .im (.int h), u7, u8, u9] ∧ val c lo h ∧ lo ≤ h ∧ (c = .nil ∨ h ≤ hi) ∧ cnt c ≤ dn.length * (1 + KK d) ∧ dep c ≤ d + 1)
    (List.range n) [.im (.int m), .im (.int lo), .im (.int hi), .im (.int (d + 1 : Nat)), .un, .ow [], .im (.int lo), .un, .un, .un] ⟨.nil, lo, .un, .un, .un, .un, rfl, trivial, Int.le_refl _, .inl rfl, Nat.zero_le _, Nat.zero_le _⟩ (by
      rintro dn x rs ρ e ⟨c, h, u4, u7, u8, u9, rfl, v, hl, hh, hc, hd⟩
      have hlen : dn.length + 1 ≤ 3 := by
        have := congrArg List.length e
        rw [List.length_append, List.length_cons, List.length_range] at this
        omega
      have hk' : KK (d + 1) = 3 * (1 + KK d) := rfl
      have hm : dn.length * (1 + KK d) ≤ 2 * (1 + KK d) := Nat.mul_le_mul_right _ (by omega)
      obtain ⟨c', h', w7, w8, w9, e1, v', hl', hor⟩ := calls_step (self := self) (d := d) hs (m := m) (lo := lo) (hi := hi) (h := h) (c := c) (x := 0 + (x : Int)) (u7 := u7) (u8 := u8) (u9 := u9) v hl (by omega)
      refine ⟨[.im (.int m), .im (.int lo), .im (.int hi), .im (.int (d + 1 : Nat)), .im (.int (0 + (x : Int))), .ow (toDs c), .im (.int h), u7, u8, u9], _, rfl, .inl e1, c', h', .im (.int (0 + (x : Int))), w7, w8, w9, rfl, v', hl', ?_, ?_, ?_⟩
      · rcases hor with ⟨rfl, rfl⟩ | ⟨h1, _⟩
        · exact hh
        · exact .inr h1
      · rw [List.length_append, List.length_cons, List.length_nil, Nat.zero_add, Nat.add_mul, Nat.one_mul]
        rcases hor with ⟨rfl, rfl⟩ | ⟨_, h2, _⟩ <;> omega
      · rcases hor with ⟨rfl, rfl⟩ | ⟨_, _, h3⟩
        · exact hd
        · exact h3 hd)
  refine ⟨c, h, u4, u7, u8, u9, e, ?_, hd, ?_⟩
  · rcases hh with rfl | hh
    · trivial
    · exact val_up v hh
  · rw [List.length_range] at hc
    have hk' : KK (d + 1) = 3 * (1 + KK d) := rfl
    have : n * (1 + KK d) ≤ 3 * (1 + KK d) := Nat.mul_le_mul_right _ hn
    omega
theorem KK_le {a b : Nat} (h : a ≤ b) : KK a ≤ KK b := by
  induction b with
  | zero => rw [Nat.le_zero.mp h]; exact Nat.le_refl _
  | succ b ih =>
    rcases Nat.lt_or_ge b a with h1 | h1
    · have : a = b + 1 := by omega
      rw [this]; exact Nat.le_refl _
    · have := ih h1
      have e : KK (b + 1) = 3 * (1 + KK b) := rfl
      omega
theorem calls_eq : ∀ (j d : Nat), d < j → KK d ≤ 900 → Drawn (F__law_calls j) d
  | 0, d, h, _ => by omega
  | j + 1, d, hj, hk => fun m lo hi => by
    have st : startE 10 [D.int m, .int lo, .int hi, .int d] = [.im (.int m), .im (.int lo), .im (.int hi), .im (.int d), .un, .un, .un, .un, .un, .un] := rfl
    have l0 : lstD [] = .ok (.lst []) := lstD_ok sl0
    have p2 : parO2 5 6 .f .c (geA lstD gaNil) (geV 1) [.im (.int m), .im (.int lo), .im (.int hi), .im (.int d), .un, .un, .un, .un, .un, .un] = .nx [.im (.int m), .im (.int lo), .im (.int hi), .im (.int d), .un, .ow [], .im (.int lo), .un, .un, .un] := by
      unfold parO2
      rw [e_A, e_nil, R.ok_bind, l0, e_ofR]
      rfl
    have fin : ∀ (c : Cals) (h : Int) (u4 u7 u8 u9 : Sl), geA tupOf (gaCons (geT 5) gaNil) [.im (.int m), .im (.int lo), .im (.int hi), .im (.int d), u4, .ow (toDs c), .im (.int h), u7, u8, u9] = .ok (cD c) := fun _ _ _ _ _ _ => rfl
    have v0 : geV 0 [.im (.int m), .im (.int lo), .im (.int hi), .im (.int d), .un, .ow [], .im (.int lo), .un, .un, .un] = .ok (.int m) := rfl
    have v3 : geV 3 [.im (.int m), .im (.int lo), .im (.int hi), .im (.int d), .un, .ow [], .im (.int lo), .un, .un, .un] = .ok (.int d) := rfl
    cases d with
    | zero =>
      refine ⟨.nil, ?_, trivial, Nat.le_refl _, Nat.zero_le _⟩
      have g : gSeqA rng1 (gaCons (geIf (geB (geOp (cmI fun i j => decide (j < i)) (geV 3) (gI 0))) (geOp modI (geV 0) (gI 4)) (gI 0)) gaNil) [.im (.int m), .im (.int lo), .im (.int hi), .im (.int (0 : Nat)), .un, .ow [], .im (.int lo), .un, .un, .un] = .ok [] := rfl
      show runDef 10 (b__law_calls (F__law_calls j)) _ = _
      unfold b__law_calls L__law_calls_1
      simp only [e_run, st, e_seq, p2, e_for, g]
      rfl
    | succ d =>
      have ih := calls_eq j d (by omega) (Nat.le_trans (KK_le (Nat.le_succ d)) hk)
      have n0 : 0 ≤ m % 4 := Int.emod_nonneg _ (by decide)
      have n1 : m % 4 < 4 := Int.emod_lt_of_pos _ (by decide)
      obtain ⟨c, h, u4, u7, u8, u9, e, v, hd, hc⟩ := calls_loop (self := F__law_calls j) (d := d) ih hk (m := m) (lo := lo) (hi := hi) (m % 4).toNat (by omega)
      refine ⟨c, ?_, v, hd, hc⟩
      have hd0 : decide ((0 : Int) < ((d + 1 : Nat) : Int)) = true := decide_eq_true (by omega)
      have g : gSeqA rng1 (gaCons (geIf (geB (geOp (cmI fun i j => decide (j < i)) (geV 3) (gI 0))) (geOp modI (geV 0) (gI 4)) (gI 0)) gaNil) [.im (.int m), .im (.int lo), .im (.int hi), .im (.int (d + 1 : Nat)), .un, .ow [], .im (.int lo), .un, .un, .un] = .ok (upto 0 (m % 4).toNat) := by
        rw [e_gSeqA, e_cons, e_if, e_gB, e_op, v3, R.ok_bind, e_I, R.ok_bind, e_cmI, R.ok_bind, e_bl, R.ok_bind, if_pos hd0, e_op, v0, R.ok_bind, e_I, R.ok_bind, modI_ok (by decide), R.ok_bind, e_nil, R.ok_bind, R.ok_bind]
        unfold rng1
        dsimp only
        rw [if_pos ⟨by omega, by omega⟩]
      show runDef 10 (b__law_calls (F__law_calls j)) _ = _
      unfold b__law_calls L__law_calls_1
      unfold f_calls at e
      simp only [e_run, st, e_seq, p2, e_for, g, e, fin, e_ofR]
end VP

set_option Elab.async false
set_option linter.all false
set_option maxRecDepth 100000
set_option maxHeartbeats 1000000
namespace VP
open PySem PySem.Spec PyProof.Rows L2 LamX VS
theorem toPy_one (n : Str) (a b : Int) (i : Cals) : toPy (one n a b i) = .tuple [.str n, .int a, .int b, .tuple (toPys (toDs i))] := rfl
theorem NM_ok : ∀ n ∈ NM, PyData.strOk n = true := by
  intro n hn
  unfold NM at hn
  rcases List.mem_cons.mp hn with rfl | hn; · decide +kernel
  rcases List.mem_cons.mp hn with rfl | hn; · decide +kernel
  rcases List.mem_cons.mp hn with rfl | hn; · decide +kernel
  rcases List.mem_cons.mp hn with rfl | hn; · decide +kernel
  rcases List.mem_cons.mp hn with rfl | hn; · decide +kernel
  rcases List.mem_cons.mp hn with rfl | hn; · decide +kernel
  cases hn
theorem lay_calls : ∀ {c : Cals} {lo hi : Int}, val c lo hi → PyData.canLayAll0 (toPys (toDs c)) = true
  | .nil, _, _, _ => rfl
  | .cons n a b i r, lo, hi, v => by
    rw [val_cons] at v
    rw [toDs_cons, toPys, toPy_one, PyData.canLayAll0, lay_calls v.2.2.2.2.2, Bool.and_true]
    simp [PyData.canLay0, PyData.canLayAll0, lay_calls v.2.2.2.2.1, NM_ok n v.1]
def isC : Cals → Bool | .nil => false | .cons .. => true
theorem depth_calls : ∀ c : Cals, PyData.depthAll (toPys (toDs c)) ≤ 2 * dep c
  | .nil => Nat.le_refl _
  | .cons n a b i r => by
    have h1 := depth_calls i
    have h2 := depth_calls r
    rw [toDs_cons, toPys, toPy_one, PyData.depthAll, dep_cons]
    simp only [PyData.depth, PyData.depthAll]
    omega
theorem shp_calls {c : Cals} {lo hi : Int} (v : val c lo hi) (h : dep c ≤ 90) : shp (cD c) = true := by
  have h1 := depth_calls c
  unfold shp
  rw [Bool.and_eq_true, decide_eq_true_eq]
  refine ⟨?_, ?_⟩
  · show PyData.canLay0 (.tuple _) = true
    rw [PyData.canLay0]; exact lay_calls v
  · show PyData.depth (.tuple _) ≤ 200
    rw [PyData.depth]; omega
theorem ne_nil {c : Cals} {lo hi : Int} (v : val c lo hi) (h : dep c ≤ 90) : cmNe (cD c) (.tup []) = .ok (.bl (isC c)) := by
  have s1 := shp_calls v h
  have s2 : shp (.tup []) = true := rfl
  unfold cmNe
  rw [s1, s2]
  cases c with
  | nil => rfl
  | cons n a b i r => rfl
/-! the trees that are drawn -/
structure TG (ts : Trs) : Prop where
  pw : (ts.map (·.1)).Pairwise (· < ·)
  ok : ∀ p ∈ ts, 1 ≤ p.1 ∧ p.1 ≤ 4 ∧ val p.2 0 904 ∧ dep p.2 ≤ 4 ∧ cnt p.2 ≤ 120 ∧ p.2 ≠ .nil
theorem TG.tv {ts : Trs} (t : TG ts) : TV ts := ⟨t.pw, fun p hp => by
  have h := t.ok p hp
  exact ⟨h.1, h.2.1, val_up h.2.2.1 (by decide), h.2.2.2.1, by omega⟩⟩
theorem val_lo {c : Cals} {lo lo' hi : Int} (h : val c lo hi) (k : lo' ≤ lo) : val c lo' hi := by
  cases c with
  | nil => trivial
  | cons n a b i r => rw [val_cons] at h ⊢; exact ⟨h.1, by omega, h.2.2⟩
noncomputable def f_trees : VS.Env → Out := (seqO (fun ρ => ofR ((geA F__law_drawn (gaCons (geV 0) (gaCons (geOp addI (gI 10) (geV 2)) gaNil))) ρ) fun d => .nx (ρ.set 3 (.im d)))
  (seqO (fun ρ => ofR ((geA (F__law_calls 8) (gaCons (geOp fdivI (geV 3) (gI 8)) (gaCons (geOp modI (geV 3) (gI 5)) (gaCons (geOp addI (gI 5) (geOp modI (geOp fdivI (geV 3) (gI 64)) (gI 900))) (gaCons (gI 4) gaNil))))) ρ) fun d => .nx (ρ.set 4 (.im d)))
  (ifO (gAnd (geB (geOp cmNe (geV 4) (geA tupD gaNil))) (geB (geOp (cmI fun i j => decide (j < i)) (geOp modI (geV 3) (gI 3)) (gI 0))))
   (putO 1 (geV 4) (geV 2))
   .nx)))
theorem pk_new {ts : Trs} {x : Int} {c : Cals} (h : ∀ p ∈ ts, p.1 ≠ x) : pk (tK ts) (.inl x) (cD c) = tK (ts ++ [(x, c)]) := by
  unfold pk
  have : ((tK ts).any fun kv => decide (kv.1 = (Sum.inl x : Key))) = false := by
    unfold tK
    rw [List.any_map, List.any_eq_false]
    intro p hp e
    exact h p hp (Sum.inl.inj (of_decide_eq_true e))
  rw [this]
  unfold tK
  simp
theorem trees_step {m x : Int} {ts : Trs} {u3 u4 : Sl} (hx : ∀ p ∈ ts, p.1 < x) (h1 : 1 ≤ x) (h4 : x ≤ 4) (t : TG ts) : ∃ ts' w3 w4, f_trees [.im (.int m), .oK (tK ts), .im (.int x), u3, u4] = .nx [.im (.int m), .oK (tK ts'), .im (.int x), w3, w4] ∧ TG ts' ∧ ∀ p ∈ ts', p.1 ≤ x := by
  generalize hone : dr m (10 + x) = o
  have e1 : F__law_drawn [.int m, .int (10 + x)] = .ok (.int o) := by rw [drawn_eq, hone]
  have q0 : 0 ≤ o % 5 := Int.emod_nonneg _ (by decide)
  have q1 : o / 64 % 900 < 900 := Int.emod_lt_of_pos _ (by decide)
  obtain ⟨c, ec, vc, dc, cc⟩ := calls_eq 8 4 (by decide) (by decide) (o / 8) (o % 5) (5 + o / 64 % 900)
  have kk : KK 4 = 120 := rfl
  rw [kk] at cc
  have v' : val c 0 904 := val_lo (val_up vc (by omega)) q0
  have s1 : f_trees [.im (.int m), .oK (tK ts), .im (.int x), u3, u4] = (ifO (gAnd (geB (geOp cmNe (geV 4) (geA tupD gaNil))) (geB (geOp (cmI fun i j => decide (j < i)) (geOp modI (geV 3) (gI 3)) (gI 0))))
   (putO 1 (geV 4) (geV 2)) .nx) [.im (.int m), .oK (tK ts), .im (.int x), .im (.int o), .im (cD c)] := by
    unfold f_trees
    have a1 : geA F__law_drawn (gaCons (geV 0) (gaCons (geOp addI (gI 10) (geV 2)) gaNil)) [.im (.int m), .oK (tK ts), .im (.int x), u3, u4] = .ok (.int o) := e1
    have a2 : geA (F__law_calls 8) (gaCons (geOp fdivI (geV 3) (gI 8)) (gaCons (geOp modI (geV 3) (gI 5)) (gaCons (geOp addI (gI 5) (geOp modI (geOp fdivI (geV 3) (gI 64)) (gI 900))) (gaCons (gI 4) gaNil)))) [.im (.int m), .oK (tK ts), .im (.int x), .im (.int o), u4] = .ok (cD c) := by
      have w3 : geV 3 [.im (.int m), .oK (tK ts), .im (.int x), .im (.int o), u4] = .ok (.int o) := rfl
      simp only [e_op, e_A, e_cons, e_nil, e_I, w3, R.ok_bind, dv o (show (0 : Int) < 8 by decide) (by decide +kernel), dv o (show (0 : Int) < 64 by decide) (by decide +kernel), modI_ok (show (0 : Int) < 5 by decide), modI_ok (show (0 : Int) < 900 by decide), e_addI]
      exact ec
    rw [e_seq, a1, e_ofR]
    dsimp only [List.set]
    rw [e_seq, a2, e_ofR]
    rfl
  have w : gAnd (geB (geOp cmNe (geV 4) (geA tupD gaNil))) (geB (geOp (cmI fun i j => decide (j < i)) (geOp modI (geV 3) (gI 3)) (gI 0))) [.im (.int m), .oK (tK ts), .im (.int x), .im (.int o), .im (cD c)] = .ok ((isC c) && decide (0 < o % 3)) := by
    have w3 : geV 3 [.im (.int m), .oK (tK ts), .im (.int x), .im (.int o), .im (cD c)] = .ok (.int o) := rfl
    have w4 : geV 4 [.im (.int m), .oK (tK ts), .im (.int x), .im (.int o), .im (cD c)] = .ok (cD c) := rfl
    have t0 : tupD [] = .ok (.tup []) := e_tupD _ sl0
    rw [e_and, e_gB, e_op, w4, R.ok_bind, e_A, e_nil, R.ok_bind, t0, R.ok_bind, ne_nil vc (by omega), R.ok_bind, e_bl, R.ok_bind, e_gB, e_op, e_op, w3, R.ok_bind, e_I, R.ok_bind, modI_ok (by decide), R.ok_bind, e_I, R.ok_bind, e_cmI, R.ok_bind, e_bl]
    cases c <;> rfl
  rw [s1, e_ifO, w]
  dsimp only
  by_cases hc : ((isC c) && decide (0 < o % 3)) = true
  · rw [if_pos hc]
    have hcn : c ≠ .nil := fun e => by rw [e] at hc; cases hc
    have hl := t.tv.len
    refine ⟨ts ++ [(x, c)], .im (.int o), .im (cD c), ?_, ⟨?_, ?_⟩, ?_⟩
    · have hkl : (tK ts).length < sizeLine := by unfold tK; rw [List.length_map, sizeLine_eq]; omega
      have e : putO 1 (geV 4) (geV 2) [.im (.int m), .oK (tK ts), .im (.int x), .im (.int o), .im (cD c)] = (match putS (.oK (tK ts)) (.int x) (cD c) with | some sl' => .nx [.im (.int m), sl', .im (.int x), .im (.int o), .im (cD c)] | none => .no) := rfl
      rw [e]
      unfold putS
      show (match (some (.inl x : Key)).bind fun k => if (tK ts).length < sizeLine then some (Sl.oK (pk (tK ts) k (cD c))) else none with | some sl' => _ | none => _) = _
      rw [Option.bind_some, if_pos hkl, pk_new (fun p hp => by have := hx p hp; omega)]
    · rw [List.map_append, List.pairwise_append]
      refine ⟨t.pw, List.pairwise_singleton _ _, fun a ha b hb => ?_⟩
      obtain ⟨p, hp, rfl⟩ := List.mem_map.mp ha
      rw [List.map_cons, List.map_nil, List.mem_singleton] at hb
      subst hb
      exact hx p hp
    · intro p hp
      rcases List.mem_append.mp hp with hp | hp
      · exact t.ok p hp
      · rw [List.mem_singleton] at hp
        subst hp
        exact ⟨h1, h4, v', dc, cc, hcn⟩
    · intro p hp
      rcases List.mem_append.mp hp with hp | hp
      · have := hx p hp; omega
      · rw [List.mem_singleton] at hp; subst hp; exact Int.le_refl _
  · rw [if_neg hc]
    exact ⟨ts, .im (.int o), .im (cD c), rfl, t, fun p hp => by have := hx p hp; omega⟩
theorem trees_eq (m : Int) : ∃ ts, F__law_trees [.int m] = .ok (tD ts) ∧ TG ts := by
  obtain ⟨ρ', e, ts, u2, u3, u4, rfl, t, _⟩ := for_all (b := bindT (.nm 2)) (f := f_trees) (u := fun i : Nat => D.int (1 + (i : Int)))
    (fun dn ρ => ∃ ts u2 u3 u4, ρ = [.im (.int m), .oK (tK ts), u2, u3, u4] ∧ TG ts ∧ ∀ p ∈ ts, p.1 ≤ dn.length) (List.range 4) [.im (.int m), .oK (tK []), .un, .un, .un] ⟨[], .un, .un, .un, rfl, ⟨List.Pairwise.nil, fun p hp => by cases hp⟩, fun p hp => by cases hp⟩ (by
      rintro dn x rs ρ e ⟨ts, u2, u3, u4, rfl, t, hp⟩
      have hlen : dn.length < 4 := by
        have := congrArg List.length e
        rw [List.length_append, List.length_cons, List.length_range] at this
        omega
      have hx : x = dn.length := by
        have : (List.range 4)[dn.length]? = some x := by rw [← e, List.getElem?_append_right (Nat.le_refl _)]; simp
        rw [List.getElem?_range hlen] at this
        exact (Option.some.inj this).symm
      obtain ⟨ts', w3, w4, e1, t', hp'⟩ := trees_step (m := m) (x := 1 + (x : Int)) (ts := ts) (u3 := u3) (u4 := u4) (fun p h => by have := hp p h; omega) (by omega) (by omega) t
      refine ⟨[.im (.int m), .oK (tK ts), .im (.int (1 + (x : Int))), u3, u4], _, rfl, .inl e1, ts', .im (.int (1 + (x : Int))), w3, w4, rfl, t', fun p h => ?_⟩
      have := hp' p h
      rw [List.length_append, List.length_cons, List.length_nil]
      push_cast
      omega)
  refine ⟨ts, ?_, t⟩
  have st : startE 5 [D.int m] = [.im (.int m), .un, .un, .un, .un] := rfl
  have e1 : ownO 1 (fun _ => .ok (.dK [])) [.im (.int m), .un, .un, .un, .un] = .nx [.im (.int m), .oK (tK []), .un, .un, .un] := rfl
  have g : gSeqA rng2 (gaCons (gI 1) (gaCons (gI 5) gaNil)) [.im (.int m), .oK (tK []), .un, .un, .un] = .ok (upto 1 4) := rfl
  have e' : runFor (bindT (.nm 2)) f_trees (upto 1 4) [.im (.int m), .oK (tK []), .un, .un, .un] = .nx [.im (.int m), .oK (tK ts), u2, u3, u4] := e
  unfold F__law_trees b__law_trees L__law_trees_1
  unfold f_trees at e'
  simp only [e_run, st, e_seq, e1, e_for, g, e']
  simp [frzO, frzSl, frozen]
/-! a cell -/
theorem at_in {α : Type} {xs : List α} {i : Int} (h0 : 0 ≤ i) (h1 : i < xs.length) : ∃ v, atI xs i = some v := by
  unfold atI ixN
  rw [if_pos h0, if_pos h1]
  exact ⟨xs[i.toNat], List.getElem?_eq_getElem (by omega)⟩
theorem cell_eq (ns : List Int) (hl : ns.length ≤ 63) (k : Nat) : ∃ c : Int, F__law_cell [.scr ns, .int k] = .ok (.int c) := by
  have st : startE 2 [D.scr ns, .int k] = [.im (.scr ns), .im (.int k)] := rfl
  have v0 : geV 0 [.im (.scr ns), .im (.int k)] = .ok (.scr ns) := rfl
  have v1 : geV 1 [.im (.scr ns), .im (.int k)] = .ok (.int k) := rfl
  have l0 : lstD [] = .ok (.lst []) := lstD_ok sl0
  have lay : ∀ ns : List Int, PyData.canLayAll0 (ns.map .int) = true := fun ns => by
    induction ns with
    | nil => rfl
    | cons n ns ih => rw [List.map_cons, PyData.canLayAll0, ih]; rfl
  have s1 : shp (.scr ns) = true := by
    unfold shp
    rw [Bool.and_eq_true, decide_eq_true_eq]
    refine ⟨?_, ?_⟩
    · show PyData.canLay0 (.list _) = true
      rw [PyData.canLay0]; exact lay ns
    · show PyData.depth (.list _) ≤ 200
      rw [PyData.depth, PySem.W.depth_ints]; omega
  have e0 : cmEq (.scr ns) (.lst []) = .ok (.bl (eqD (.scr ns) (.lst []))) := by
    unfold cmEq
    rw [s1]; rfl
  cases ns with
  | nil =>
    refine ⟨k * 7919, ?_⟩
    have e1 : eqD (.scr []) (.lst []) = true := rfl
    unfold F__law_cell b__law_cell
    simp only [e_run, st, e_seq, e_ifO, e_gB, e_op, e_A, e_nil, v0, v1, e_I, R.ok_bind, l0, e0, e1, e_bl, if_true, mulI_ok (show okMul (k : Int) 7919 from .inl (.inr ⟨by decide, by decide⟩)), e_ofR]
  | cons n ns =>
    have e1 : eqD (.scr (n :: ns)) (.lst []) = false := rfl
    have hp : (0 : Int) < ((n :: ns).length : Nat) := by rw [List.length_cons]; omega
    have r0 : 0 ≤ (k : Int) % ((n :: ns).length : Nat) := Int.emod_nonneg _ (by omega)
    have r1 : (k : Int) % ((n :: ns).length : Nat) < ((n :: ns).length : Nat) := Int.emod_lt_of_pos _ hp
    obtain ⟨v, ev⟩ := at_in (xs := n :: ns) r0 r1
    have ic : ixC (.scr (n :: ns)) (.int ((k : Int) % ((n :: ns).length : Nat))) = .ok (.int v) := by unfold ixC; dsimp only; rw [ev]
    have dl : fdivI (.int (k : Int)) (.int ((n :: ns).length : Nat)) = .ok (.int ((k : Int) / ((n :: ns).length : Nat))) := fdivI_ok ⟨hp, by
      have h2 : (((n :: ns).length : Nat) : Int).natAbs = (n :: ns).length := Int.natAbs_natCast _
      rw [h2]
      have : (n :: ns).length.log2 ≤ (n :: ns).length := Nat.log2_le_self _
      omega⟩
    have ln : lenD [.scr (n :: ns)] = .ok (.int ((n :: ns).length : Nat)) := rfl
    refine ⟨v + (k : Int) / ((n :: ns).length : Nat) * 104729, ?_⟩
    unfold F__law_cell b__law_cell
    simp only [e_run, st, e_seq, e_ifO, e_gB, e_op, e_A, e_nil, e_cons, v0, v1, e_I, R.ok_bind, l0, e0, e1, e_bl, Bool.false_eq_true, if_false, ln, modI_ok hp, ic, dl, mulI_ok (show okMul ((k : Int) / ((n :: ns).length : Nat)) 104729 from .inl (.inr ⟨by decide, by decide⟩)), e_addI, e_ofR]
end VP

set_option Elab.async false
set_option linter.all false
set_option maxRecDepth 100000
set_option maxHeartbeats 1000000
namespace VP
open PySem PySem.Spec PyProof.Rows L2 LamX VS
/-! sums over ticks -/
def sumR (f : Int → Int) (lo : Int) : Nat → Int
  | 0 => 0 | k + 1 => f lo + sumR f (lo + 1) k
theorem sumR_split (f : Int → Int) : ∀ (m k : Nat) (lo : Int), sumR f lo (m + k) = sumR f lo m + sumR f (lo + m) k
  | 0, k, lo => by rw [Nat.zero_add]; show sumR f lo k = 0 + sumR f (lo + 0) k; rw [Int.add_zero, Int.zero_add]
  | m + 1, k, lo => by
    have e : m + 1 + k = (m + k) + 1 := by omega
    rw [e]
    show f lo + sumR f (lo + 1) (m + k) = f lo + sumR f (lo + 1) m + sumR f (lo + ((m + 1 : Nat) : Int)) k
    rw [sumR_split f m k (lo + 1)]
    have : lo + 1 + (m : Int) = lo + ((m + 1 : Nat) : Int) := by omega
    rw [this]; omega
theorem sumR_end (f : Int → Int) (k : Nat) (lo : Int) : sumR f lo (k + 1) = sumR f lo k + f (lo + k) := by
  rw [sumR_split f k 1 lo]
  show _ + (f (lo + k) + 0) = _
  omega
theorem sumR_congr {f g : Int → Int} : ∀ (k : Nat) (lo : Int), (∀ t, lo ≤ t → t < lo + k → f t = g t) → sumR f lo k = sumR g lo k
  | 0, _, _ => rfl
  | k + 1, lo, h => by
    show f lo + sumR f (lo + 1) k = g lo + sumR g (lo + 1) k
    rw [h lo (Int.le_refl _) (by omega), sumR_congr k (lo + 1) fun t h1 h2 => h t (by omega) (by omega)]
theorem sumR_const (x : Int) : ∀ (k : Nat) (lo : Int), sumR (fun _ => x) lo k = x * k
  | 0, _ => by show 0 = x * 0; omega
  | k + 1, lo => by
    show x + sumR (fun _ => x) (lo + 1) k = _
    rw [sumR_const x k (lo + 1)]
    push_cast
    rw [Int.mul_add, Int.mul_one]; omega
theorem sumR_add (f g : Int → Int) : ∀ (k : Nat) (lo : Int), sumR (fun t => f t + g t) lo k = sumR f lo k + sumR g lo k
  | 0, _ => rfl
  | k + 1, lo => by
    show f lo + g lo + sumR (fun t => f t + g t) (lo + 1) k = f lo + sumR f (lo + 1) k + (g lo + sumR g (lo + 1) k)
    rw [sumR_add f g k (lo + 1)]; omega
theorem sumR_neg (f : Int → Int) : ∀ (k : Nat) (lo : Int), sumR (fun t => 1 - f t) lo k = k - sumR f lo k
  | 0, _ => rfl
  | k + 1, lo => by
    show 1 - f lo + sumR (fun t => 1 - f t) (lo + 1) k = _ - (f lo + sumR f (lo + 1) k)
    rw [sumR_neg f k (lo + 1)]; push_cast; omega
/-- from one tick to another -/
def sumI (f : Int → Int) (lo hi : Int) : Int := sumR f lo (hi - lo).toNat
theorem sumI_split (f : Int → Int) {lo mid hi : Int} (h1 : lo ≤ mid) (h2 : mid ≤ hi) : sumI f lo hi = sumI f lo mid + sumI f mid hi := by
  unfold sumI
  have e : (hi - lo).toNat = (mid - lo).toNat + (hi - mid).toNat := by omega
  rw [e, sumR_split]
  have : lo + ((mid - lo).toNat : Int) = mid := by omega
  rw [this]
theorem sumI_congr {f g : Int → Int} {lo hi : Int} (h : ∀ t, lo ≤ t → t < hi → f t = g t) : sumI f lo hi = sumI g lo hi := by
  unfold sumI
  exact sumR_congr _ _ fun t h1 h2 => h t h1 (by omega)
theorem sumI_zero {f : Int → Int} {lo hi : Int} (h : ∀ t, lo ≤ t → t < hi → f t = 0) : sumI f lo hi = 0 := by
  rw [sumI_congr (g := fun _ => 0) h]; unfold sumI; rw [sumR_const]; omega
theorem sumI_one {f : Int → Int} {lo hi : Int} (hl : lo ≤ hi) (h : ∀ t, lo ≤ t → t < hi → f t = 1) : sumI f lo hi = hi - lo := by
  rw [sumI_congr (g := fun _ => 1) h]; unfold sumI; rw [sumR_const]; omega
/-! what runs, tick by tick -/
theorem stk_before {c : Cals} : ∀ {lo hi t : Int}, val c lo hi → t < lo → stk c t = [] := by
  induction c with
  | nil => intro lo hi t _ _; rfl
  | cons n a b i r hi hr =>
    intro lo h t v ht
    rw [val_cons] at v
    rw [stk_cons, if_neg (by omega)]
    exact hr v.2.2.2.2.2 (by omega)
theorem stk_mid {n : Str} {a b : Int} {i r : Cals} {t : Int} (h1 : a ≤ t) (h2 : t < b) : stk (.cons n a b i r) t = n :: stk i t := by rw [stk_cons, if_pos ⟨h1, h2⟩]
theorem stk_pre {n : Str} {a b : Int} {i r : Cals} {lo hi t : Int} (v : val (.cons n a b i r) lo hi) (h : t < a) : stk (.cons n a b i r) t = [] := by
  rw [val_cons] at v
  rw [stk_cons, if_neg (by omega)]
  exact stk_before v.2.2.2.2.2 (by omega)
theorem stk_post {n : Str} {a b : Int} {i r : Cals} {t : Int} (h : b ≤ t) : stk (.cons n a b i r) t = stk r t := by rw [stk_cons, if_neg (by omega)]
theorem sum3 (f : List Str → Int) (f0 : f [] = 0) {n : Str} {a b : Int} {i r : Cals} {lo hi : Int} (v : val (.cons n a b i r) lo hi) :
    sumI (fun t => f (stk (.cons n a b i r) t)) lo hi = sumI (fun t => f (n :: stk i t)) a b + sumI (fun t => f (stk r t)) b hi := by
  have v' := v
  rw [val_cons] at v'
  rw [sumI_split _ v'.2.1 (by omega : a ≤ hi), sumI_split _ v'.2.2.1 v'.2.2.2.1]
  rw [sumI_zero (f := fun t => f (stk (.cons n a b i r) t)) fun t h1 h2 => by rw [stk_pre v h2, f0]]
  rw [Int.zero_add]
  congr 1
  · exact sumI_congr fun t h1 h2 => by rw [stk_mid h1 h2]
  · exact sumI_congr fun t h1 h2 => by rw [stk_post h1]
def run1 (l : List Str) : Int := if l = [] then 0 else 1
def last1 (n : Str) (l : List Str) : Int := if l.getLast? = some n then 1 else 0
def in1 (n : Str) (l : List Str) : Int := if n ∈ l then 1 else 0
theorem tsum_cons (n : Str) (a b : Int) (i r : Cals) : tsum (.cons n a b i r) = (b - a) + tsum r := by
  unfold tsum
  show ((b - a) :: ((tops r).map fun q => q.b - q.a)).sum = _
  rw [List.sum_cons]
theorem claimB {c : Cals} : ∀ {lo hi : Int}, val c lo hi → sumI (fun t => run1 (stk c t)) lo hi = tsum c := by
  induction c with
  | nil => intro lo hi _; exact sumI_zero fun t _ _ => rfl
  | cons n a b i r _ ihr =>
    intro lo hi v
    have v' := v
    rw [val_cons] at v'
    rw [sum3 run1 rfl v, ihr v'.2.2.2.2.2, sumI_one (f := fun t => run1 (n :: stk i t)) v'.2.2.1 fun t _ _ => rfl, tsum_cons]
theorem last_cons (n m : Str) (l : List Str) : last1 n (m :: l) = last1 n l + if m = n then 1 - run1 l else 0 := by
  unfold last1 run1
  cases l with
  | nil =>
    by_cases e : m = n
    · subst e; simp
    · simp [e]
  | cons x l =>
    rw [List.getLast?_cons_cons]
    simp
theorem tot_all_cons (n m : Str) (a b : Int) (i r : Cals) : tot ((allq (.cons m a b i r)).map oI1) n = (if m = n then b - a - tsum i else 0) + tot ((allq i).map oI1) n + tot ((allq r).map oI1) n := by
  show tot ((oI1 ⟨m, a, b, i⟩) :: ((allq i ++ allq r).map oI1)) n = _
  rw [tot_cons, List.map_append, tot_app]
  show (if m = n then b - a - tsum i else 0) + _ = _
  omega
theorem claimA {n : Str} {c : Cals} : ∀ {lo hi : Int}, val c lo hi → sumI (fun t => last1 n (stk c t)) lo hi = tot ((allq c).map oI1) n := by
  induction c with
  | nil => intro lo hi _; exact sumI_zero fun t _ _ => rfl
  | cons m a b i r ihi ihr =>
    intro lo hi v
    have v' := v
    rw [val_cons] at v'
    rw [sum3 (last1 n) rfl v, ihr v'.2.2.2.2.2, tot_all_cons]
    have e : sumI (fun t => last1 n (m :: stk i t)) a b = (if m = n then b - a - tsum i else 0) + tot ((allq i).map oI1) n := by
      rw [sumI_congr (g := fun t => last1 n (stk i t) + if m = n then 1 - run1 (stk i t) else 0) fun t _ _ => last_cons n m _]
      have : sumI (fun t => last1 n (stk i t) + if m = n then 1 - run1 (stk i t) else 0) a b = sumI (fun t => last1 n (stk i t)) a b + sumI (fun t => if m = n then 1 - run1 (stk i t) else 0) a b := sumR_add _ _ _ _
      rw [this, ihi v'.2.2.2.2.1]
      by_cases h : m = n
      · simp only [h, if_true]
        have : sumI (fun t => 1 - run1 (stk i t)) a b = ((b - a).toNat : Int) - sumI (fun t => run1 (stk i t)) a b := sumR_neg _ _ _
        rw [this, claimB v'.2.2.2.2.1]
        have := v'.2.2.1
        omega
      · simp only [h, if_false]
        rw [sumI_zero fun _ _ _ => rfl]; omega
    rw [e]
def ou (n : Str) : Cals → Int
  | .nil => 0 | .cons m a b i r => (if m = n then b - a else ou n i) + ou n r
theorem claimC {n : Str} {c : Cals} : ∀ {lo hi : Int}, val c lo hi → sumI (fun t => in1 n (stk c t)) lo hi = ou n c := by
  induction c with
  | nil => intro lo hi _; exact sumI_zero fun t _ _ => rfl
  | cons m a b i r ihi ihr =>
    intro lo hi v
    have v' := v
    rw [val_cons] at v'
    rw [sum3 (in1 n) rfl v, ihr v'.2.2.2.2.2]
    show _ = (if m = n then b - a else ou n i) + ou n r
    by_cases h : m = n
    · rw [if_pos h, sumI_one (f := fun t => in1 n (m :: stk i t)) v'.2.2.1 fun t _ _ => by unfold in1; rw [if_pos (by rw [h]; exact List.mem_cons_self)]]
    · rw [if_neg h, ← ihi v'.2.2.2.2.1]
      congr 1
      refine sumI_congr fun t _ _ => ?_
      unfold in1
      have : (n ∈ m :: stk i t) ↔ n ∈ stk i t := by rw [List.mem_cons]; exact ⟨fun q => q.elim (fun e => absurd e.symm h) id, .inr⟩
      by_cases k : n ∈ stk i t
      · rw [if_pos k, if_pos (this.mpr k)]
      · rw [if_neg k, if_neg (fun q => k (this.mp q))]
theorem tot_out {n : Str} {c : Cals} : ∀ ar : List Str, tot (outq c ar) n = if n ∈ ar then 0 else ou n c := by
  induction c with
  | nil => intro ar; show (0 : Int) = _; split <;> rfl
  | cons m a b i r ihi ihr =>
    intro ar
    rw [outq_cons, tot_app, tot_app, ihi, ihr]
    show _ = if n ∈ ar then 0 else (if m = n then b - a else ou n i) + ou n r
    by_cases h : n ∈ ar
    · rw [if_pos h, if_pos (List.mem_append_left _ h), if_pos h]
      by_cases k : m ∈ ar
      · rw [if_pos k]; rfl
      · rw [if_neg k, tot_cons, if_neg (fun e => k (by have e' : m = n := e; rw [e']; exact h))]; rfl
    · rw [if_neg h, if_neg h]
      by_cases e : m = n
      · subst e
        rw [if_neg h, if_pos (List.mem_append_right _ List.mem_cons_self), if_pos rfl, tot_cons, if_pos rfl, tot_nil]; omega
      · rw [if_neg e]
        have hn : n ∉ ar ++ [m] := by
          rw [List.mem_append, not_or]
          exact ⟨h, by simpa using fun q => e q.symm⟩
        rw [if_neg hn]
        by_cases k : m ∈ ar
        · rw [if_pos k, tot_nil]; omega
        · rw [if_neg k, tot_cons, if_neg e, tot_nil]; omega
/-! the last tick -/
def lastb : Cals → Int
  | .nil => 0 | .cons _ _ b _ .nil => b | .cons _ _ _ _ (.cons m a b i r) => lastb (.cons m a b i r)
theorem lastb_ge {c : Cals} : ∀ {lo hi : Int}, val c lo hi → c ≠ .nil → lo ≤ lastb c ∧ lastb c ≤ hi := by
  induction c with
  | nil => intro lo hi _ h; exact absurd rfl h
  | cons n a b i r _ ihr =>
    intro lo hi v _
    rw [val_cons] at v
    cases r with
    | nil => show lo ≤ b ∧ b ≤ hi; omega
    | cons m x y j r =>
      have := ihr v.2.2.2.2.2 (fun e => by cases e)
      show lo ≤ lastb (.cons m x y j r) ∧ lastb (.cons m x y j r) ≤ hi
      omega
theorem val_lastb {c : Cals} : ∀ {lo hi : Int}, val c lo hi → c ≠ .nil → val c lo (lastb c) := by
  induction c with
  | nil => intro lo hi _ _; trivial
  | cons n a b i r _ ihr =>
    intro lo hi v _
    rw [val_cons] at v
    cases r with
    | nil => exact ⟨v.1, v.2.1, v.2.2.1, Int.le_refl _, v.2.2.2.2.1, trivial⟩
    | cons m x y j r =>
      have h1 := ihr v.2.2.2.2.2 (fun e => by cases e)
      have h2 := lastb_ge v.2.2.2.2.2 (fun e => by cases e)
      exact ⟨v.1, v.2.1, v.2.2.1, h2.1, v.2.2.2.2.1, h1⟩
theorem ix_last : ∀ {c : Cals}, c ≠ .nil → ∃ q : Nd, ixT (cD c) (.int (0 - 1)) = .ok (ndD q) ∧ q.b = lastb c := by
  intro c h
  have key : ∀ c : Cals, c ≠ .nil → ∃ q : Nd, (tops c).getLast? = some q ∧ q.b = lastb c := by
    intro c
    induction c with
    | nil => exact fun h => absurd rfl h
    | cons n a b i r _ ihr =>
      intro _
      cases r with
      | nil => exact ⟨⟨n, a, b, i⟩, rfl, rfl⟩
      | cons m x y j r =>
        obtain ⟨q, h1, h2⟩ := ihr (fun e => by cases e)
        exact ⟨q, by show (_ :: tops (.cons m x y j r)).getLast? = _; rw [show tops (.cons m x y j r) = ⟨m, x, y, j⟩ :: tops r from rfl, List.getLast?_cons_cons]; exact h1, h2⟩
  obtain ⟨q, h1, h2⟩ := key c h
  refine ⟨q, ?_, h2⟩
  have hp : 0 < (tops c).length := by
    cases c with
    | nil => exact absurd rfl h
    | cons n a b i r => show 0 < (tops r).length + 1; omega
  unfold ixT
  dsimp only
  have : atI (toDs c) (0 - 1) = some (ndD q) := by
    unfold atI ixN
    rw [if_neg (by decide), toDs_tops, List.length_map, if_pos (by omega), Option.bind_some, List.getElem?_map]
    have e : (0 - 1 + ((tops c).length : Int)).toNat = (tops c).length - 1 := by omega
    rw [e, ← List.getLast?_eq_getElem?, h1]; rfl
  rw [this]
theorem stk_names {c : Cals} {t : Int} {n : Str} (h : n ∈ stk c t) : n ∈ (allq c).map (·.n) := by
  induction c with
  | nil => cases h
  | cons m a b i r hi hr =>
    rw [stk_cons] at h
    show n ∈ m :: ((allq i ++ allq r).map (·.n))
    rw [List.map_append, List.mem_cons, List.mem_append]
    split at h
    · rcases List.mem_cons.mp h with h | h
      · exact .inl h
      · exact .inr (.inl (hi h))
    · exact .inr (.inr (hr h))
end VP

set_option Elab.async false
set_option linter.all false
set_option maxRecDepth 100000
set_option maxHeartbeats 1000000
/-! PX: evaluation by simp; loops by what holds of the live slots. -/
namespace VP
open PySem PySem.Spec PyProof.Rows L2 LamX VS
section
variable {ρ : VS.Env} {g gk gv gl gh : VS.Env → R D} {o : VS.Env → Out} {t : Tg}
@[simp] theorem e_pop0 (i : Nat) : pop0O i t ρ = (match ρ[i]? with
  | some (.ow (d :: ds)) => (match bindT t d (List.set ρ i (.ow ds)) with | .ok ρ' => .nx ρ' | _ => .no)
  | _ => .no) := rfl
@[simp] theorem e_ext (i : Nat) : extO i g ρ = (match ρ[i]? with
  | some (.ow ds) => ofR (g ρ) fun d => (match itemsD d with
    | some es => if ds.length + es.length ≤ sizeLine then .nx (List.set ρ i (.ow (ds ++ es))) else .no
    | none => .no)
  | _ => .no) := rfl
@[simp] theorem e_popO (i : Nat) (j : Option Nat) : popO i j ρ = (match ρ[i]? with
  | some (.ow ds) => (match ds[ds.length - 1]? with
    | some d => (match j with | some j => if i = j then .no else .nx (List.set (List.set ρ i (.ow ds.dropLast)) j (.im d)) | none => .nx (List.set ρ i (.ow ds.dropLast)))
    | none => .no)
  | _ => .no) := rfl
@[simp] theorem e_put (i : Nat) : putO i gv gk ρ = ofR (gv ρ) fun d => (match ρ[i]? with
  | some sl => if isOwn sl then ofR (gk ρ) fun k => (match putS sl k d with | some sl' => .nx (List.set ρ i sl') | none => .no) else .no
  | _ => .no) := rfl
@[simp] theorem e_setO (i : Nat) : setO i gv gk ρ = ofR (gv ρ) fun d => (match ρ[i]? with
  | some (.ow ds) => ofR (gk ρ) fun k => (match k with
    | .int k => (match ixN ds.length k with | some j => .nx (List.set ρ i (.ow (ds.set j d))) | none => .no)
    | _ => .no)
  | _ => .no) := rfl
@[simp] theorem e_get : geGet g gk gv ρ = (g ρ >>= fun x => if isDct x then (gk ρ >>= fun y => gv ρ >>= fun z => getD2 x y z) else .no) := rfl
@[simp] theorem e_frz (i : Nat) : frzO i o ρ = (match ρ[i]? with
  | some sl => (match frozen sl with | some d => o (List.set ρ i (.im d)) | none => .no)
  | none => .no) := by
  unfold frzO frzSl
  cases e : ρ[i]? with
  | none => rfl
  | some sl => dsimp only; cases e2 : frozen sl <;> rfl
@[simp] theorem e_fd (i : Nat) : forDO t i o ρ = (match ρ[i]? with
  | some (.im d) => (match keysOf d with | some ks => noEx (runFor (bindT t) o ks ρ) | none => .no)
  | _ => .no) := rfl
@[simp] theorem e_cd (vs : List Nat) (i : Nat) (tt : VS.Env → R Bool) : compDE t vs i tt g ρ = (match ρ[i]? with
  | some (.im d) => (match keysOf d with | some ks => compE t vs (fun _ => .ok ks) tt g ρ | none => .no)
  | _ => .no) := rfl
@[simp] theorem e_p2 (i j : Nat) (m1 m2 : Md) {ga gb : VS.Env → R D} : parO2 i j m1 m2 ga gb ρ = ofR (ga ρ) fun a => ofR (gb ρ) fun b =>
  (match slM m1 a, slM m2 b with | some s1, some s2 => .nx (List.set (List.set ρ i s1) j s2) | _, _ => .no) := rfl
@[simp] theorem e_p3 (i j l : Nat) (m1 m2 m3 : Md) {ga gb gc : VS.Env → R D} : parO3 i j l m1 m2 m3 ga gb gc ρ = ofR (ga ρ) fun a => ofR (gb ρ) fun b => ofR (gc ρ) fun c =>
  (match slM m1 a, slM m2 b, slM m3 c with | some s1, some s2, some s3 => .nx (List.set (List.set (List.set ρ i s1) j s2) l s3) | _, _, _ => .no) := rfl
@[simp] theorem e_slMc (d : D) : slM .c d = some (.im d) := rfl
@[simp] theorem e_slMfl (ds : List D) : slM .f (.lst ds) = some (.ow ds) := rfl
@[simp] theorem e_slMfk (ds : List (Key × D)) : slM .f (.dK ds) = some (.oK ds) := rfl
@[simp] theorem e_slMft (ds : List (List Key × D)) : slM .f (.dT ds) = some (.oT ds) := rfl
@[simp] theorem e_slOl (ds : List D) : slOf (.lst ds) = some (.ow ds) := rfl
@[simp] theorem e_slOk (ds : List (Key × D)) : slOf (.dK ds) = some (.oK ds) := rfl
@[simp] theorem e_slOt (ds : List (List Key × D)) : slOf (.dT ds) = some (.oT ds) := rfl
@[simp] theorem e_fzl (ds : List D) : frozen (.ow ds) = some (.lst ds) := rfl
@[simp] theorem e_fzk (ds : List (Key × D)) : frozen (.oK ds) = some (.dK ds) := rfl
@[simp] theorem e_fzt (ds : List (List Key × D)) : frozen (.oT ds) = some (.dT ds) := rfl
@[simp] theorem e_isOl (ds : List D) : isOwn (.ow ds) = true := rfl
@[simp] theorem e_isOk (ds : List (Key × D)) : isOwn (.oK ds) = true := rfl
@[simp] theorem e_isOt (ds : List (List Key × D)) : isOwn (.oT ds) = true := rfl
@[simp] theorem e_itl (ds : List D) : itemsD (.lst ds) = some ds := rfl
@[simp] theorem e_itt (ds : List D) : itemsD (.tup ds) = some ds := rfl
@[simp] theorem e_isDk (ds : List (Key × D)) : isDct (.dK ds) = true := rfl
@[simp] theorem e_isDt (ds : List (List Key × D)) : isDct (.dT ds) = true := rfl
@[simp] theorem e_bnm (i : Nat) (d : D) : bindT (.nm i) d ρ = .ok (List.set ρ i (.im d)) := rfl
@[simp] theorem e_btp (ts : Tgs) (ds : List D) : bindT (.tp ts) (.tup ds) ρ = bindTs ts ds ρ := rfl
@[simp] theorem e_bsn : bindTs .nil [] ρ = .ok ρ := rfl
@[simp] theorem e_bsc (u : Tg) (ts : Tgs) (d : D) (ds : List D) : bindTs (.cons u ts) (d :: ds) ρ = (bindT u d ρ >>= bindTs ts ds) := rfl
@[simp] theorem e_wn : wipeE ρ [] = ρ := rfl
@[simp] theorem e_wc (v : Nat) (vs : List Nat) : wipeE ρ (v :: vs) = List.set (wipeE ρ vs) v .un := rfl
@[simp] theorem e_gon : goNone ρ = .ok none := rfl
@[simp] theorem e_gos : goSome g ρ = (g ρ >>= fun d => match d with | .int i => .ok (some i) | _ => .no) := rfl
@[simp] theorem e_sl (f : D → Option Int → Option Int → R D) {gl gh : VS.Env → R (Option Int)} : geSl f g gl gh ρ = (g ρ >>= fun x => gl ρ >>= fun lo => gh ρ >>= fun hi => f x lo hi) := rfl
end
section
@[simp] theorem v_listt (ds : List D) : listD [.tup ds] = .ok (.lst ds) := rfl
@[simp] theorem v_listl (ds : List D) : listD [.lst ds] = .ok (.lst ds) := rfl
@[simp] theorem v_tupl (ds : List D) : tupOf [.lst ds] = .ok (.tup ds) := rfl
@[simp] theorem v_tupt (ds : List D) : tupOf [.tup ds] = .ok (.tup ds) := rfl
@[simp] theorem v_cat (i j : List D) : catL (.lst i) (.lst j) = if i.length + j.length ≤ sizeLine then .ok (.lst (i ++ j)) else .no := rfl
@[simp] theorem v_addT (i j : List D) : addT (.tup i) (.tup j) = if i.length + j.length ≤ sizeLine then .ok (.tup (i ++ j)) else .no := rfl
@[simp] theorem v_rev (i : List D) : revL (.lst i) = .ok (.lst i.reverse) := rfl
@[simp] theorem v_max2 (i j : Int) : max2 [.int i, .int j] = .ok (.int (if j > i then j else i)) := rfl
@[simp] theorem v_min2 (i j : Int) : min2 [.int i, .int j] = .ok (.int (if j < i then j else i)) := rfl
@[simp] theorem v_slL (ds : List D) (lo hi : Option Int) : slL (.lst ds) lo hi = .ok (.lst (cut ds lo hi)) := rfl
@[simp] theorem v_slT (ds : List D) (lo hi : Option Int) : slT (.tup ds) lo hi = .ok (.tup (cut ds lo hi)) := rfl
@[simp] theorem v_lenL (ds : List D) : lenD [.lst ds] = .ok (.int ds.length) := rfl
@[simp] theorem v_lenT (ds : List D) : lenD [.tup ds] = .ok (.int ds.length) := rfl
@[simp] theorem v_tupD (ds : List D) (h : ds.length ≤ 1000) : tupD ds = .ok (.tup ds) := by unfold tupD; rw [if_pos (sl_ge (by omega))]
@[simp] theorem v_lstD (ds : List D) (h : ds.length ≤ 1000) : lstD ds = .ok (.lst ds) := lstD_ok (sl_ge (by omega))
@[simp] theorem v_ix0 (a : D) (l : List D) : ixT (.tup (a :: l)) (.int 0) = .ok a := by
  have : ixN (l.length + 1) 0 = some 0 := by unfold ixN; rw [if_pos (by omega), if_pos (by omega)]; rfl
  simp [ixT, atI, this]
@[simp] theorem v_ix1 (a b : D) (l : List D) : ixT (.tup (a :: b :: l)) (.int 1) = .ok b := by
  have : ixN (l.length + 1 + 1) 1 = some 1 := by unfold ixN; rw [if_pos (by omega), if_pos (by omega)]; rfl
  simp [ixT, atI, this]
@[simp] theorem v_ix2 (a b c : D) (l : List D) : ixT (.tup (a :: b :: c :: l)) (.int 2) = .ok c := by
  have : ixN (l.length + 1 + 1 + 1) 2 = some 2 := by unfold ixN; rw [if_pos (by omega), if_pos (by omega)]; rfl
  simp [ixT, atI, this]
@[simp] theorem v_ix3 (a b c d : D) (l : List D) : ixT (.tup (a :: b :: c :: d :: l)) (.int 3) = .ok d := by
  have : ixN (l.length + 1 + 1 + 1 + 1) 3 = some 3 := by unfold ixN; rw [if_pos (by omega), if_pos (by omega)]; rfl
  simp [ixT, atI, this]
theorem eqv_refl' {d : D} (h : shp d = true) : eqD d d = true := SeqAt.eqv_refl _ (shp_iff h).1
theorem cmNe_refl {d : D} (h : shp d = true) : cmNe d d = .ok (.bl false) := by unfold cmNe; rw [h, eqv_refl' h]; rfl
theorem cmEq_refl {d : D} (h : shp d = true) : cmEq d d = .ok (.bl true) := by unfold cmEq; rw [h, eqv_refl' h]; rfl
@[simp] theorem eqD_int (i j : Int) : eqD (.int i) (.int j) = decide (i = j) := by
  unfold eqD toPy
  simp [PyData.eqv]
  rw [Bool.eq_iff_iff]; simp
@[simp] theorem eqD_str' (x y : Str) : eqD (.str x) (.str y) = decide (x = y) := eqD_str x y
theorem shp_int (i : Int) : shp (.int i) = true := rfl
@[simp] theorem v_nei (i j : Int) : cmNe (.int i) (.int j) = .ok (.bl (!decide (i = j))) := by unfold cmNe; rw [shp_int, shp_int, eqD_int]; rfl
@[simp] theorem v_eqi (i j : Int) : cmEq (.int i) (.int j) = .ok (.bl (decide (i = j))) := by unfold cmEq; rw [shp_int, shp_int, eqD_int]; rfl
/-- while: a measure -/
theorem while_inv {c : VS.Env → R Bool} {f : VS.Env → Out} (Inv : Nat → VS.Env → Prop) (h0 : ∀ ρ, Inv 0 ρ → c ρ = .ok false) (hs : ∀ n ρ, Inv (n + 1) ρ → c ρ = .ok true ∧ ∃ ρ' m, (f ρ = .nx ρ' ∨ f ρ = .ct ρ') ∧ m ≤ n ∧ Inv m ρ') :
    ∀ (fuel n : Nat) (ρ : VS.Env), n < fuel → Inv n ρ → ∃ ρ', runWhile c f fuel ρ = .nx ρ' ∧ Inv 0 ρ'
  | 0, n, _, h, _ => absurd h (Nat.not_lt_zero n)
  | fuel + 1, 0, ρ, _, i => ⟨ρ, by unfold runWhile; rw [h0 ρ i], i⟩
  | fuel + 1, n + 1, ρ, h, i => by
    obtain ⟨e1, ρ', m, e2, hm, i2⟩ := hs n ρ i
    obtain ⟨ρ2, e3, i3⟩ := while_inv Inv h0 hs fuel m ρ' (by omega) i2
    refine ⟨ρ2, ?_, i3⟩
    unfold runWhile
    rw [e1]; dsimp only
    rcases e2 with e2 | e2 <;> rw [e2] <;> exact e3
@[simp] theorem noEx_nx (ρ : VS.Env) : noEx (.nx ρ) = .nx ρ := rfl
end
/-- the outcome o goes on with a state of which P holds -/
def To {S : Type} (e : S → VS.Env) (P : S → Prop) (o : Out) : Prop := ∃ s, (o = .nx (e s) ∨ o = .ct (e s)) ∧ P s
theorem to_nx {S : Type} {e : S → VS.Env} {P : S → Prop} {s : S} (h : P s) : To e P (.nx (e s)) := ⟨s, .inl rfl, h⟩
theorem to_ct {S : Type} {e : S → VS.Env} {P : S → Prop} {s : S} (h : P s) : To e P (.ct (e s)) := ⟨s, .inr rfl, h⟩
/-- what a turn does -/
def Bd {S : Type} (e : S → VS.Env) (P : S → Prop) (f : VS.Env → Out) : R VS.Env → Prop
  | .ok ρ => To e P (f ρ) | _ => False
@[simp] theorem bd_ok {S : Type} {e : S → VS.Env} {P : S → Prop} {f : VS.Env → Out} {ρ : VS.Env} : Bd e P f (.ok ρ) = To e P (f ρ) := rfl
theorem for_to {α S : Type} {e : S → VS.Env} {b : D → VS.Env → R VS.Env} {f : VS.Env → Out} {u : α → D} (P : List α → S → Prop) (l : List α)
    (H : ∀ dn x rs s, dn ++ x :: rs = l → P dn s → ∀ Q : S → Prop, (∀ s', P (dn ++ [x]) s' → Q s') → Bd e Q f (b (u x) (e s))) (s : S) (h0 : P [] s) : ∃ s', runFor b f (l.map u) (e s) = .nx (e s') ∧ P l s' := by
  obtain ⟨ρ', h, s', rfl, hp⟩ := for_all (b := b) (f := f) (u := u) (fun dn ρ => ∃ s, ρ = e s ∧ P dn s) l (e s) ⟨s, rfl, h0⟩ (by
    rintro dn x rs ρ h ⟨s, rfl, hp⟩
    have := H dn x rs s h hp _ (fun _ z => z)
    cases eb : b (u x) (e s) with
    | ok ρ1 =>
      rw [eb] at this
      obtain ⟨s', h2, h3⟩ := this
      exact ⟨ρ1, e s', rfl, h2, s', rfl, h3⟩
    | ex c => rw [eb] at this; exact this.elim
    | no => rw [eb] at this; exact this.elim)
  exact ⟨s', h, hp⟩
theorem while_to {S : Type} {e : S → VS.Env} {c : VS.Env → R Bool} {f : VS.Env → Out} (P : Nat → S → Prop) (h0 : ∀ s, P 0 s → c (e s) = .ok false) (hs : ∀ n s, P (n + 1) s → c (e s) = .ok true ∧ ∀ Q : S → Prop, (∀ s' m, m ≤ n → P m s' → Q s') → To e Q (f (e s)))
    (fuel n : Nat) (s : S) (hf : n < fuel) (hp : P n s) : ∃ s', runWhile c f fuel (e s) = .nx (e s') ∧ P 0 s' := by
  obtain ⟨ρ', h, s', rfl, hp⟩ := while_inv (c := c) (f := f) (fun n ρ => ∃ s, ρ = e s ∧ P n s) (by rintro ρ ⟨s, rfl, hp⟩; exact h0 s hp) (by
    rintro n ρ ⟨s, rfl, hp⟩
    obtain ⟨h1, h2⟩ := hs n s hp
    obtain ⟨s', h2, m, hm, h3⟩ := h2 (fun s' => ∃ m, m ≤ n ∧ P m s') (fun s' m h k => ⟨m, h, k⟩)
    exact ⟨h1, e s', m, h2, hm, s', rfl, h3⟩) fuel n (e s) hf ⟨s, rfl, hp⟩
  exact ⟨s', h, hp⟩
/-- texts of names alone -/
theorem lay_names : ∀ {c : Cals}, (∀ q ∈ allq c, q.n ∈ NM) → PyData.canLayAll0 (toPys (toDs c)) = true
  | .nil, _ => rfl
  | .cons n a b i r, v => by
    have h1 : ∀ q ∈ allq i, q.n ∈ NM := fun q hq => v q (List.mem_cons_of_mem _ (List.mem_append_left _ hq))
    have h2 : ∀ q ∈ allq r, q.n ∈ NM := fun q hq => v q (List.mem_cons_of_mem _ (List.mem_append_right _ hq))
    rw [toDs_cons, toPys, toPy_one, PyData.canLayAll0, lay_names h2, Bool.and_true]
    have h0 := NM_ok n (v ⟨n, a, b, i⟩ List.mem_cons_self)
    simp [PyData.canLay0, PyData.canLayAll0, lay_names h1, h0]
theorem ne_list {c : Cals} (v : ∀ q ∈ allq c, q.n ∈ NM) (h : dep c ≤ 90) : cmNe (.lst (toDs c)) (.lst []) = .ok (.bl (isC c)) := by
  have h1 : shp (.lst (toDs c)) = true := by
    have := lay_names v
    have d := depth_calls c
    unfold shp
    rw [Bool.and_eq_true]
    refine ⟨by simp [toPy, PyData.canLay0, this], decide_eq_true ?_⟩
    show (PyData.list (toPys (toDs c))).depth ≤ 200
    unfold PyData.depth
    omega
  have h2 : shp (.lst []) = true := rfl
  unfold cmNe
  rw [h1, h2]
  cases c with
  | nil => rfl
  | cons n a b i r => rfl
theorem shp_nm {n : Str} (h : n ∈ NM) : shp (.str n) = true := by
  have := NM_ok n h
  unfold shp
  rw [Bool.and_eq_true]
  exact ⟨by simp [toPy, PyData.canLay0, this], decide_eq_true (by simp [toPy, PyData.depth])⟩
theorem eq_nm {x y : Str} (hx : x ∈ NM) (hy : y ∈ NM) : cmEq (.str x) (.str y) = .ok (.bl (decide (x = y))) := by
  unfold cmEq
  rw [shp_nm hx, shp_nm hy, eqD_str]; rfl
theorem ne_nm {x y : Str} (hx : x ∈ NM) (hy : y ∈ NM) : cmNe (.str x) (.str y) = .ok (.bl (!decide (x = y))) := by
  unfold cmNe
  rw [shp_nm hx, shp_nm hy, eqD_str]; rfl
theorem nm_tops {c : Cals} {q : Nd} (v : ∀ q ∈ allq c, q.n ∈ NM) (h : q ∈ tops c) : q.n ∈ NM ∧ ∀ p ∈ allq q.i, p.n ∈ NM := by
  induction c with
  | nil => cases h
  | cons n a b i r _ ih =>
    rcases List.mem_cons.mp h with rfl | h
    · exact ⟨v ⟨n, a, b, i⟩ List.mem_cons_self, fun p hp => v p (List.mem_cons_of_mem _ (List.mem_append_left _ hp))⟩
    · exact ih (fun p hp => v p (List.mem_cons_of_mem _ (List.mem_append_right _ hp))) h
theorem rng2_ok {i j : Int} (h1 : -1000000000 ≤ i) (h2 : i ≤ 1000000000) (h3 : -1000000000 ≤ j) (h4 : j ≤ 1000000000) : rng2 [.int i, .int j] = .ok (upto i (j - i).toNat) := by
  unfold rng2
  dsimp only
  rw [if_pos ⟨by omega, by omega, by omega, by omega⟩]
theorem rng1_ok {j : Int} (h3 : -1000000000 ≤ j) (h4 : j ≤ 1000000000) : rng1 [.int j] = .ok (upto 0 j.toNat) := by
  unfold rng1
  dsimp only
  rw [if_pos ⟨by omega, by omega⟩]
theorem upto0 (n : Nat) : upto 0 n = (List.range n).map fun i : Nat => D.int (i : Int) := by
  unfold upto
  refine List.map_congr_left fun i _ => ?_
  rw [Int.zero_add]
theorem rng1_nat {n : Nat} (h : n ≤ 1000000000) : rng1 [.int (n : Int)] = .ok ((List.range n).map fun i : Nat => D.int (i : Int)) := by
  rw [rng1_ok (by omega) (by omega), Int.toNat_natCast, upto0]
theorem to_seq {S : Type} {e : S → VS.Env} {Q : S → Prop} {o o' : VS.Env → Out} {s : S} (s1 : S) (h : o (e s) = .nx (e s1)) (k : To e Q (o' (e s1))) : To e Q (seqO o o' (e s)) := by
  rw [e_seq, h]; exact k
theorem to_seqL {S : Type} {e : S → VS.Env} {P Q : S → Prop} {o o' : VS.Env → Out} {s : S} (h : ∃ s1, o (e s) = .nx (e s1) ∧ P s1) (k : ∀ s1, P s1 → To e Q (o' (e s1))) : To e Q (seqO o o' (e s)) := by
  obtain ⟨s1, h1, h2⟩ := h
  exact to_seq s1 h1 (k s1 h2)
theorem to_o {S : Type} {e : S → VS.Env} {P Q : S → Prop} {o : VS.Env → Out} {s : S} (h : ∃ s1, o (e s) = .nx (e s1) ∧ P s1) (k : ∀ s1, P s1 → Q s1) : To e Q (o (e s)) := by
  obtain ⟨s1, h1, h2⟩ := h
  rw [h1]; exact to_nx (k s1 h2)
/-- data that may be held against other data -/
def okR (d : D) : Bool := (toPy d).canLay0 && decide ((toPy d).depth ≤ 90)
theorem okR_str {n : Str} (h : n ∈ NM) : okR (.str n) = true := by
  have := NM_ok n h
  unfold okR
  rw [Bool.and_eq_true]
  exact ⟨by simp [toPy, PyData.canLay0, this], decide_eq_true (by simp [toPy, PyData.depth])⟩
theorem lay_all {ds : List D} (h : ∀ d ∈ ds, okR d = true) : PyData.canLayAll0 (toPys ds) = true ∧ PyData.depthAll (toPys ds) ≤ 90 := by
  induction ds with
  | nil => exact ⟨rfl, Nat.zero_le _⟩
  | cons d ds ih =>
    have h1 := h d List.mem_cons_self
    have h2 := ih fun e he => h e (List.mem_cons_of_mem _ he)
    unfold okR at h1
    rw [Bool.and_eq_true, decide_eq_true_eq] at h1
    rw [toPys, PyData.canLayAll0, PyData.depthAll, h1.1, h2.1]
    exact ⟨rfl, by omega⟩
theorem shp_lst {ds : List D} (h : ∀ d ∈ ds, okR d = true) : shp (.lst ds) = true := by
  have := lay_all h
  unfold shp
  rw [Bool.and_eq_true]
  refine ⟨by simp [toPy, PyData.canLay0, this.1], decide_eq_true ?_⟩
  show (PyData.list (toPys ds)).depth ≤ 200
  unfold PyData.depth
  omega
theorem okR_row {h a b : Int} {n : Str} (hn : n ∈ NM) : okR (.tup [.int h, .int a, .str n, .int b]) = true := by
  have := NM_ok n hn
  unfold okR
  rw [Bool.and_eq_true]
  exact ⟨by simp [toPy, toPys, PyData.canLay0, PyData.canLayAll0, this], decide_eq_true (by simp [toPy, toPys, PyData.depth, PyData.depthAll])⟩
/-- dict(pairs) of names told once -/
theorem pk_app {κ α : Type} [DecidableEq κ] {kvs : List (κ × α)} {k : κ} {v : α} (h : k ∉ kvs.map (·.1)) : pk kvs k v = kvs ++ [(k, v)] := by
  unfold pk
  rw [if_neg]
  intro z
  rw [List.any_eq_true] at z
  obtain ⟨p, hp, e⟩ := z
  exact h (List.mem_map.mpr ⟨p, hp, of_decide_eq_true e⟩)
theorem mg_nd {κ α : Type} [DecidableEq κ] : ∀ {more kvs : List (κ × α)}, ((kvs ++ more).map (·.1)).Nodup → VS.mg kvs more = kvs ++ more
  | [], kvs, _ => by rw [List.append_nil]; rfl
  | p :: more, kvs, h => by
    have e : VS.mg kvs (p :: more) = VS.mg (pk kvs p.1 p.2) more := rfl
    have hp : p.1 ∉ kvs.map (·.1) := fun z => by
      rw [List.map_append, List.nodup_append] at h
      exact h.2.2 p.1 z p.1 (by simp) rfl
    rw [e, pk_app hp, mg_nd (by rw [List.append_assoc]; exact h), List.append_assoc]; rfl
theorem pairs_pD : ∀ l : Cnt, pairsD (l.map pD) = some (kD l)
  | [] => rfl
  | p :: l => by rw [List.map_cons, pairsD, pairs_pD l]; rfl
theorem dictP_pD {l : Cnt} (nd : (l.map (·.1)).Nodup) : dictP [.lst (l.map pD)] = .ok (.dK (kD l)) := by
  show (match pairsD (l.map pD) with | some kvs => R.ok (D.dK (VS.mg [] kvs)) | none => .no) = _
  rw [pairs_pD]
  dsimp only
  rw [mg_nd (kvs := []) (by
    rw [List.nil_append]
    unfold kD
    rw [List.map_map]
    have e : (l.map ((fun x : Key × D => x.1) ∘ fun p => ((Sum.inr p.1 : Key), D.int p.2))) = (l.map (·.1)).map (Sum.inr : Str → Key) := by rw [List.map_map]; rfl
    rw [e, List.nodup_iff_pairwise_ne, List.pairwise_map]
    rw [List.nodup_iff_pairwise_ne] at nd
    exact nd.imp fun h e => h (Sum.inr.inj e))]
  rfl
end VP

set_option Elab.async false
set_option linter.all false
set_option maxRecDepth 100000
set_option maxHeartbeats 1000000
/-! lists: last, first, all but the last; displays. -/
namespace VP
open PySem PySem.Spec PyProof.Rows L2 LamX VS
@[simp] theorem v_neg1 : subI (.int 0) (.int 1) = .ok (.int (-1)) := rfl
@[simp] theorem zsub1 : (0 : Int) - 1 = -1 := rfl
theorem cut_init {α : Type} (l : List α) : cut l none (some (-1)) = l.dropLast := by
  unfold cut
  rw [HT.sIx_none, List.drop_zero, List.dropLast_eq_take]
  congr 1
  unfold HT.sIx
  dsimp only
  rw [if_pos (by decide)]; omega
theorem cut_tail {α : Type} (l : List α) : cut l (some 1) none = l.tail := by
  unfold cut
  rw [HT.sIx_none]
  have : HT.sIx l.length 0 (some 1) = min 1 l.length := HT.sIx_nat l.length 0 1
  rw [this]
  cases l with
  | nil => rfl
  | cons a l =>
    have e : min 1 (a :: l).length = 1 := by rw [List.length_cons]; omega
    rw [e, List.drop_one, List.tail_cons, List.length_cons, List.take_of_length_le (by omega)]
theorem cut_take {α : Type} (l : List α) (n : Nat) : cut l none (some (n : Int)) = l.take n := by
  unfold cut
  rw [HT.sIx_none, List.drop_zero, HT.sIx_nat, Nat.sub_zero]
  rcases Nat.le_total n l.length with h | h
  · rw [Nat.min_eq_left h]
  · rw [Nat.min_eq_right h, List.take_of_length_le (Nat.le_refl _), List.take_of_length_le h]
theorem ixN_last {n : Nat} (h : 0 < n) : ixN n (-1) = some (n - 1) := by
  unfold ixN
  rw [if_neg (by decide), if_pos (by omega)]
  congr 1; omega
theorem ixN_nat {n k : Nat} (h : k < n) : ixN n (k : Int) = some k := by
  unfold ixN
  rw [if_pos (by omega), if_pos (by omega), Int.toNat_natCast]
theorem ixL_last {init : List D} {d : D} : ixL (.lst (init ++ [d])) (.int (-1)) = .ok d := by
  unfold ixL atI
  dsimp only
  rw [ixN_last (by simp)]
  simp
theorem ixL_nat {l : List D} {k : Nat} {d : D} (h : l[k]? = some d) : ixL (.lst l) (.int (k : Int)) = .ok d := by
  unfold ixL atI
  dsimp only
  rw [ixN_nat (List.getElem?_eq_some_iff.mp h).1]
  simp [h]
theorem ixL_int {l : List D} {i : Int} {d : D} (h0 : 0 ≤ i) (h : l[i.toNat]? = some d) : ixL (.lst l) (.int i) = .ok d := by
  have := ixL_nat h
  rwa [Int.toNat_of_nonneg h0] at this
theorem set_last {α : Type} (init : List α) (d e : α) : (init ++ [d]).set init.length e = init ++ [e] := by simp
theorem ne_nilR {ds : List D} (h : ∀ d ∈ ds, okR d = true) : cmNe (.lst ds) (.lst []) = .ok (.bl (!ds.isEmpty)) := by
  have h1 := shp_lst h
  have h2 : shp (.lst []) = true := rfl
  unfold cmNe
  rw [h1, h2]
  cases ds <;> rfl
theorem ne_tupnil {c : Cals} : isC c = !(toDs c).isEmpty := by cases c <;> rfl
@[simp] theorem e_ofRx (c : Str) (q : D → Out) : ofR (.ex c) q = .ex c := rfl
@[simp] theorem r_bindx {α β : Type} (c : Str) (f : α → R β) : (R.ex c >>= f) = .ex c := rfl
end VP

set_option Elab.async false
set_option linter.all false
set_option maxRecDepth 100000
set_option maxHeartbeats 1000000
/-! dicts of counts by name (from k70's PK2). -/
namespace VP
open PySem PySem.Spec PyProof.Rows L2 LamX VS
theorem look_kD (cs : Cnt) (n : Str) : look (.dK (kD cs)) (.str n) = some (if hs cs n then some (.int (gt cs n)) else none) := by
  show (some (.inr n : Key)).map (fun k => lk (kD cs) k) = _
  rw [← lk_kD]; rfl
theorem in_kD (neg : Bool) (cs : Cnt) (n : Str) : inD neg (.str n) (.dK (kD cs)) = .ok (.bl (if neg then !hs cs n else hs cs n)) := by
  unfold inD
  rw [look_kD]
  cases neg <;> cases hs cs n <;> rfl
theorem get_kD0 (cs : Cnt) (n : Str) : getD2 (.dK (kD cs)) (.str n) (.int 0) = .ok (.int (gt cs n)) := by
  unfold getD2
  rw [look_kD]
  cases h : hs cs n with
  | true => rfl
  | false => rw [gt_none h]; rfl
theorem ix_kD' {cs : Cnt} {n : Str} (h : hs cs n = true) : ixD (.dK (kD cs)) (.str n) = .ok (.int (gt cs n)) := ix_kD (hs_iff.mp h)
theorem putS_kD (cs : Cnt) (n : Str) (x : Int) (hl : cs.length < sizeLine) : putS (.oK (kD cs)) (.str n) (.int x) = some (.oK (kD (bump cs n (x - gt cs n)))) := by
  have e : x = gt cs n + (x - gt cs n) := by omega
  have h : (kD cs).length < sizeLine := by unfold kD; rw [List.length_map]; exact hl
  show (some (.inr n : Key)).bind (fun k => if (kD cs).length < sizeLine then some (Sl.oK (pk (kD cs) k (.int x))) else none) = _
  rw [Option.bind_some, if_pos h]
  conv => lhs; rw [e]
  rw [pk_kD]
theorem keys_kD (cs : Cnt) : keysOf (.dK (kD cs)) = some ((cs.map (·.1)).map D.str) := by
  show some ((kD cs).map fun kd => keyV kd.1) = _
  unfold kD
  rw [List.map_map, List.map_map]; rfl
theorem compDE_kD {cs : Cnt} {vs : List Nat} {i j : Nat} {g : VS.Env → R D} {ρ : VS.Env} {h : Str → D} (hi : ρ[i]? = some (.im (.dK (kD cs)))) (hl : cs.length ≤ 10000) (H : ∀ n ∈ cs.map (·.1), g ((wipeE ρ vs).set j (.im (.str n))) = .ok (h n)) :
    compDE (.nm j) vs i (fun _ => .ok true) g ρ = .ok (.lst ((cs.map (·.1)).map h)) := by
  unfold compDE
  rw [hi]
  dsimp only
  rw [keys_kD]
  dsimp only
  exact compE_all (t := .nm j) (vs := vs) (gi := fun _ => .ok ((cs.map (·.1)).map D.str)) (ρ := ρ) (u := D.str) (h := h) (cs.map (·.1)) rfl (sl_ge (by rw [List.length_map]; omega)) fun n hn => ⟨_, rfl, H n hn⟩
theorem lk_none {ts : Trs} {h : Int} (hn : h ∉ ts.map (·.1)) : lk (tK ts) (.inl h) = none := by
  induction ts with
  | nil => rfl
  | cons q ts ih =>
    rw [List.map_cons, List.mem_cons, not_or] at hn
    unfold lk tK
    rw [List.map_cons, List.find?_cons]
    have e : decide ((Sum.inl q.1 : Key) = Sum.inl h) = false := decide_eq_false fun z => hn.1 (Sum.inl.inj z).symm
    simp only [e]
    exact ih hn.2
theorem get_tD {ts : Trs} (nd : (ts.map (·.1)).Nodup) {p : Int × Cals} (hp : p ∈ ts) (x : D) : getD2 (tD ts) (.int p.1) x = .ok (cD p.2) := by
  unfold getD2; rw [look_tD nd hp]; rfl
theorem get_none {ts : Trs} {h : Int} (hn : h ∉ ts.map (·.1)) (x : D) : getD2 (tD ts) (.int h) x = .ok x := by
  unfold getD2
  have : look (tD ts) (.int h) = some none := by
    show (some (.inl h : Key)).map _ = _
    rw [Option.map_some, lk_none hn]
  rw [this]; rfl
end VP

set_option Elab.async false
set_option linter.all false
set_option maxRecDepth 100000
set_option maxHeartbeats 1000000
/-! _law_flat, _law_all. -/
namespace VP
open PySem PySem.Spec PyProof.Rows L2 LamX VS
abbrev Fl := List (Nd × List Str)
def flq : Cals → List Str → Fl
  | .nil, _ => [] | .cons n a b i r, ab => (⟨n, a, b, i⟩, ab) :: (flq i (ab ++ [n]) ++ flq r ab)
theorem flq_cons (n : Str) (a b : Int) (i r : Cals) (ab : List Str) : flq (.cons n a b i r) ab = (⟨n, a, b, i⟩, ab) :: (flq i (ab ++ [n]) ++ flq r ab) := rfl
theorem flq_fst : ∀ (c : Cals) (ab : List Str), (flq c ab).map (·.1) = allq c
  | .nil, _ => rfl
  | .cons n a b i r, ab => by rw [flq_cons, List.map_cons, List.map_append, flq_fst i, flq_fst r]; rfl
theorem flq_len (c : Cals) (ab : List Str) : (flq c ab).length = cnt c := by
  rw [← allq_len, ← flq_fst c ab, List.length_map]
def flT (ab : List Str) (l : List Nd) : Fl := l.flatMap fun q => (q, ab) :: flq q.i (ab ++ [q.n])
theorem flq_tops (ab : List Str) : ∀ c : Cals, flq c ab = flT ab (tops c)
  | .nil => rfl
  | .cons n a b i r => by
    rw [flq_cons, flq_tops ab r]; rfl
def flD (x : Nd × List Str) : D := .tup [ndD x.1, .tup (x.2.map .str)]
theorem flT_len {c : Cals} {ab : List Str} {dn rs : List Nd} {q : Nd} (e : dn ++ q :: rs = tops c) : (flT ab dn).length + 1 + (flq q.i (ab ++ [q.n])).length ≤ cnt c := by
  have h := flq_len c ab
  rw [flq_tops, ← e] at h
  unfold flT at *
  rw [List.flatMap_append, List.flatMap_cons, List.length_append, List.length_append, List.length_cons] at h
  omega
theorem law_flat_eq : ∀ (j : Nat) (c : Cals) (ab : List Str), dep c < j → cnt c ≤ 100000 → ab.length + dep c ≤ 1000 → F__law_flat j [cD c, .tup (ab.map .str)] = .ok (.lst ((flq c ab).map flD)) := by
  intro j
  induction j with
  | zero => intro c ab h; omega
  | succ j ih =>
    intro c ab hd hc ha
    obtain ⟨s', e, p1, p2, p3⟩ := for_to (e := S__law_flat.e) (b := bindT (.nm 3)) (f := L__law_flat_1 (F__law_flat j)) (u := ndD)
      (fun dn s => s.calls_here = .im (cD c) ∧ s.above = .im (.tup (ab.map .str)) ∧ s.found = .ow ((flT ab dn).map flD)) (tops c) (by
        rintro dn q rs s e ⟨h1, h2, h3⟩ Q hQ
        have hq : q ∈ tops c := by rw [← e]; simp
        have d1 := dep_tops hq
        have c1 := cnt_tops hq
        have l1 := flT_len (ab := ab) e
        have i1 := ih q.i (ab ++ [q.n]) (by omega) (by omega) (by rw [List.length_append, List.length_cons, List.length_nil]; omega)
        have er : flT ab (dn ++ [q]) = flT ab dn ++ ((q, ab) :: flq q.i (ab ++ [q.n])) := by unfold flT; simp
        rw [er] at hQ
        obtain ⟨n, a, b, i⟩ := q
        dsimp only at i1 l1 hQ
        generalize flT ab dn = ac at *
        generalize flq i (ab ++ [n]) = fi at *
        have z1 : ac.length < sizeLine := by rw [sizeLine_eq]; omega
        have z2 : ab.length + 1 ≤ sizeLine := by rw [sizeLine_eq]; omega
        have z3 : ac.length + 1 + fi.length ≤ sizeLine := by rw [sizeLine_eq]; omega
        simp only [List.map_append, List.map_cons, List.map_nil] at i1
        simp [L__law_flat_1, ndD, h1, h2, h3, z1, z2, z3, i1]
        exact to_nx (hQ _ ⟨rfl, rfl, by simp [flD, ndD]⟩)) (S__law_flat.mk (.im (cD c)) (.im (.tup (ab.map .str))) (.ow []) .un) ⟨rfl, rfl, rfl⟩
    rw [← toDs_tops] at e
    rw [← flq_tops] at p3
    unfold F__law_flat b__law_flat
    rw [e_run, S__law_flat.st]
    simp [e, p3]
def alq (ts : Trs) : Fl := ts.flatMap fun p => flq p.2 []
theorem alq_fst (ts : Trs) : (alq ts).map (·.1) = evq ts := by
  unfold alq evq
  rw [List.map_flatMap]
  congr 1
  funext p
  exact flq_fst _ _
theorem law_all_eq {ts : Trs} (t : TV ts) : F__law_all [tD ts] = .ok (.lst ((alq ts).map flD)) := by
  have tl := t.len
  have sr := srt_tD t
  obtain ⟨s', e, p1, p2⟩ := for_to (e := S__law_all.e) (b := bindT (.nm 2)) (f := L__law_all_1) (u := fun p : Int × Cals => D.int p.1)
    (fun dn s => s.trees_here = .im (tD ts) ∧ s.found = .im (.lst ((alq dn).map flD))) ts (by
      rintro dn p rs s e ⟨h1, h2⟩ Q hQ
      have hp : p ∈ ts := by rw [← e]; simp
      have tp := t.ok p hp
      have ix := ix_tD t.nd hp
      have fq := law_flat_eq 8 p.2 [] (by omega) (by omega) (by simp; omega)
      have hd : dn.length ≤ 4 := by have := congrArg List.length e; simp at this; omega
      have al : (alq dn).length ≤ 4000 := by
        have h := congrArg List.length (alq_fst dn)
        rw [List.length_map] at h
        have := evq_len (ts := dn) fun q hq => (t.ok q (by rw [← e]; simp [hq])).2.2.2.2
        omega
      have fl := flq_len p.2 []
      have er : alq (dn ++ [p]) = alq dn ++ flq p.2 [] := by unfold alq; simp
      rw [er] at hQ
      generalize alq dn = ac at *
      generalize flq p.2 [] = fi at *
      have z : ac.length + fi.length ≤ sizeLine := by rw [sizeLine_eq]; omega
      simp only [List.map_nil] at fq
      simp [L__law_all_1, h1, h2, ix, fq, z]
      exact to_nx (hQ _ ⟨rfl, by simp⟩)) (S__law_all.mk (.im (tD ts)) (.im (.lst [])) .un) ⟨rfl, rfl⟩
  unfold F__law_all b__law_all
  rw [e_run, S__law_all.st]
  simp [sr, e, p2]
theorem val_in {c : Cals} : ∀ {lo hi : Int}, val c lo hi → ∀ q ∈ allq c, lo ≤ q.a ∧ q.a ≤ q.b ∧ q.b ≤ hi := by
  induction c with
  | nil => intro _ _ _ q hq; cases hq
  | cons n a b i r ih1 ih2 =>
    intro lo hi v q hq
    obtain ⟨_, v1, v2, v3, v4, v5⟩ := v
    rcases List.mem_cons.mp hq with rfl | hq
    · exact ⟨v1, v2, v3⟩
    · rcases List.mem_append.mp hq with hq | hq
      · have := ih1 v4 q hq; omega
      · have := ih2 v5 q hq; omega
theorem tops_all {c : Cals} {q : Nd} (h : q ∈ tops c) : q ∈ allq c := by
  induction c with
  | nil => cases h
  | cons n a b i r _ ih =>
    rcases List.mem_cons.mp h with rfl | h
    · exact List.mem_cons_self
    · exact List.mem_cons_of_mem _ (List.mem_append_right _ (ih h))
end VP

set_option Elab.async false
set_option linter.all false
set_option maxRecDepth 100000
set_option maxHeartbeats 1000000
/-! callers. -/
namespace VP
open PySem PySem.Spec PyProof.Rows L2 LamX VS
/-- who calls: the caller's name, its calls -/
def crw (ts : Trs) : List (Str × Cals) := (ts.map fun p => (("" : Str), p.2)) ++ (evq ts).map fun q => (q.n, q.i)
def crD (x : Str × Cals) : D := .tup [.str x.1, cD x.2]
/-- the calls of name n by a caller -/
def cps1 (n : Str) (x : Str × Cals) : Cnt := ((tops x.2).filter fun q => decide (q.n = n)).map fun q => (x.1, q.b - q.a)
def cps (ts : Trs) (n : Str) : Cnt := (crw ts).flatMap (cps1 n)
def one1 (l : Cnt) : Cnt := l.map fun p => (p.1, 1)
def cC (ts : Trs) (n : Str) : Cnt := bumps [] (one1 (cps ts n))
def cT' (ts : Trs) (n : Str) : Cnt := bumps [] (cps ts n)
theorem whole_nd (q : Nd) : F_whole [ndD q] = .ok (.int (q.b - q.a)) := whole_eq q.n q.a q.b q.i
theorem cal_one {n : Str} {nm : Str → Prop} (hn : ∀ x y : Str, nm x → cmEq (.str x) (.str n) = .ok (.bl (decide (x = n)))) (x : Str × Cals) (hx : ∀ q ∈ tops x.2, nm q.n) {l : Cnt} (hl : l.length + (tops x.2).length ≤ 100000) (s : S_callers)
    (h1 : s.name = .im (.str n)) (h2 : s.caller = .im (.str x.1)) (h3 : s.calls = .im (cD x.2)) (h4 : s.counts = .oK (kD (bumps [] (one1 l)))) (h5 : s.times = .oK (kD (bumps [] l))) :
    ∃ s' : S_callers, L_callers_2 s.e = .nx s'.e ∧ s'.trees_here = s.trees_here ∧ s'.name = .im (.str n) ∧ s'.counts = .oK (kD (bumps [] (one1 (l ++ cps1 n x)))) ∧ s'.times = .oK (kD (bumps [] (l ++ cps1 n x))) := by
  obtain ⟨s', e, p1, p2, p3, p4, p5⟩ := for_to (e := S_callers.e) (b := bindT (.nm 7)) (f := L_callers_1) (u := ndD)
    (fun dn s' => s'.trees_here = s.trees_here ∧ s'.name = .im (.str n) ∧ s'.caller = .im (.str x.1) ∧ s'.counts = .oK (kD (bumps [] (one1 (l ++ (dn.filter fun q => decide (q.n = n)).map fun q => (x.1, q.b - q.a))))) ∧ s'.times = .oK (kD (bumps [] (l ++ (dn.filter fun q => decide (q.n = n)).map fun q => (x.1, q.b - q.a))))) (tops x.2) (by
      rintro dn q rs s' e ⟨a1, a2, a3, a4, a5⟩ Q hQ
      have hq : q ∈ tops x.2 := by rw [← e]; simp
      have hd : dn.length < (tops x.2).length := by have := congrArg List.length e; simp at this; omega
      have fl := List.length_filter_le (fun q : Nd => decide (q.n = n)) dn
      have eq1 := hn q.n n (hx q hq)
      have w := whole_nd q
      rw [List.filter_append, List.map_append, ← List.append_assoc] at hQ
      obtain ⟨A, hA⟩ : ∃ A, A = l ++ (dn.filter fun q => decide (q.n = n)).map fun q => (x.1, q.b - q.a) := ⟨_, rfl⟩
      rw [← hA] at a4 a5 hQ
      have lA : A.length < 100000 := by rw [hA, List.length_append, List.length_map]; omega
      have l1 := len_bumps A []
      have l2 := len_bumps (one1 A) []
      have l3 : (one1 A).length = A.length := by unfold one1; simp
      simp only [List.length_nil, Nat.zero_add] at l1 l2
      have x0 : ixT (ndD q) (.int 0) = .ok (.str q.n) := by unfold ndD; simp
      by_cases k : q.n = n
      · have g1 := get_kD0 (bumps [] (one1 A)) x.1
        have g2 := get_kD0 (bumps [] A) x.1
        have p1 := putS_kD (bumps [] (one1 A)) x.1 (gt (bumps [] (one1 A)) x.1 + 1) (by rw [sizeLine_eq]; omega)
        have p2 := putS_kD (bumps [] A) x.1 (gt (bumps [] A) x.1 + (q.b - q.a)) (by rw [sizeLine_eq]; omega)
        have e1 : bumps [] (one1 (A ++ [(x.1, q.b - q.a)])) = bump (bumps [] (one1 A)) x.1 1 := by unfold one1; rw [List.map_append, bumps_app]; rfl
        have e2 : bumps [] (A ++ [(x.1, q.b - q.a)]) = bump (bumps [] A) x.1 (q.b - q.a) := by rw [bumps_app]; rfl
        have s1 : gt (bumps [] (one1 A)) x.1 + 1 - gt (bumps [] (one1 A)) x.1 = 1 := by omega
        have s2 : gt (bumps [] A) x.1 + (q.b - q.a) - gt (bumps [] A) x.1 = q.b - q.a := by omega
        rw [s1] at p1
        rw [s2] at p2
        have ef : ([q].filter fun q => decide (q.n = n)).map (fun q => (x.1, q.b - q.a)) = [(x.1, q.b - q.a)] := by simp [k]
        rw [ef, e1, e2] at hQ
        rw [decide_eq_true k] at eq1
        simp [L_callers_1, x0, a1, a2, a3, a4, a5, eq1, g1, g2, p1, p2, w]
        exact to_nx (hQ _ (by exact ⟨rfl, rfl, rfl, rfl, rfl⟩))
      · have ef : ([q].filter fun q => decide (q.n = n)).map (fun q => (x.1, q.b - q.a)) = [] := by simp [k]
        rw [ef, List.append_nil] at hQ
        rw [decide_eq_false k] at eq1
        simp [L_callers_1, x0, a1, a2, a3, a4, a5, eq1]
        exact to_nx (hQ _ (by exact ⟨rfl, rfl, rfl, rfl, rfl⟩))) s ⟨rfl, h1, h2, by simp [h4], by simp [h5]⟩
  refine ⟨s', ?_, p1, p2, p4, p5⟩
  rw [← toDs_tops] at e
  simp [L_callers_2, h3, e]
theorem cps1_len (n : Str) (x : Str × Cals) : (cps1 n x).length ≤ (tops x.2).length := by unfold cps1; rw [List.length_map]; exact List.length_filter_le _ _
theorem cal_loop {n : Str} {nm : Str → Prop} (hn : ∀ x y : Str, nm x → cmEq (.str x) (.str n) = .ok (.bl (decide (x = n)))) (rw : List (Str × Cals)) (hx : ∀ x ∈ rw, ∀ q ∈ tops x.2, nm q.n) (hl : (rw.map fun x => (tops x.2).length).sum ≤ 50000) (s : S_callers)
    (h1 : s.name = .im (.str n)) (h4 : s.counts = .oK (kD [])) (h5 : s.times = .oK (kD [])) :
    ∃ s' : S_callers, runFor (bindT (.tp (.cons (.nm 5) (.cons (.nm 6) .nil)))) L_callers_2 (rw.map crD) s.e = .nx s'.e ∧ s'.counts = .oK (kD (bumps [] (one1 (rw.flatMap (cps1 n))))) ∧ s'.times = .oK (kD (bumps [] (rw.flatMap (cps1 n)))) := by
  obtain ⟨s', e, p1, p2, p3⟩ := for_to (e := S_callers.e) (b := bindT (.tp (.cons (.nm 5) (.cons (.nm 6) .nil)))) (f := L_callers_2) (u := crD)
    (fun dn s' => s'.name = .im (.str n) ∧ s'.counts = .oK (kD (bumps [] (one1 (dn.flatMap (cps1 n))))) ∧ s'.times = .oK (kD (bumps [] (dn.flatMap (cps1 n))))) rw (by
      rintro dn x rs s' e ⟨a1, a2, a3⟩ Q hQ
      have hxr : x ∈ rw := by rw [← e]; simp
      have fl : ∀ l : List (Str × Cals), (l.flatMap (cps1 n)).length ≤ (l.map fun x => (tops x.2).length).sum := by
        intro l
        induction l with
        | nil => exact Nat.le_refl _
        | cons y l ih =>
          have := cps1_len n y
          rw [List.flatMap_cons, List.length_append, List.map_cons, List.sum_cons]; omega
      have f1 := fl dn
      have f2 : (dn.map fun x => (tops x.2).length).sum + (tops x.2).length ≤ 50000 := by
        rw [← e, List.map_append, List.map_cons, List.sum_append, List.sum_cons] at hl; omega
      obtain ⟨s2, e2, b1, b2, b3, b4⟩ := cal_one hn x (hx x hxr) (l := dn.flatMap (cps1 n)) (by omega) {s' with caller := .im (.str x.1), calls := .im (cD x.2)} a1 rfl rfl a2 a3
      rw [List.flatMap_append, List.flatMap_cons, List.flatMap_nil, List.append_nil] at hQ
      simp [crD, e2]
      exact to_nx (hQ _ ⟨b2, b3, b4⟩)) s ⟨h1, h4, h5⟩
  exact ⟨s', e, p2, p3⟩
theorem bumps_keys1 (l : Cnt) (m : Str) : m ∈ (bumps [] (one1 l)).map (·.1) ↔ m ∈ l.map (·.1) := by
  rw [keys_bumps]
  unfold one1
  rw [List.map_map]
  simp
end VP

set_option Elab.async false
set_option linter.all false
set_option maxRecDepth 100000
set_option maxHeartbeats 1000000
/-! callers: the answer. -/
namespace VP
open PySem PySem.Spec PyProof.Rows L2 LamX VS
theorem tops_sum (f : Nd → Int) : ∀ c : Cals, ((allq c).map fun q => ((tops q.i).map f).sum).sum + ((tops c).map f).sum = ((allq c).map f).sum
  | .nil => rfl
  | .cons n a b i r => by
    have h1 := tops_sum f i
    have h2 := tops_sum f r
    show (((⟨n, a, b, i⟩ : Nd) :: (allq i ++ allq r)).map fun q => ((tops q.i).map f).sum).sum + (((⟨n, a, b, i⟩ : Nd) :: tops r).map f).sum = (((⟨n, a, b, i⟩ : Nd) :: (allq i ++ allq r)).map f).sum
    simp only [List.map_cons, List.map_append, List.sum_cons, List.sum_append]
    omega
theorem crw_sum (f : Nd → Int) (ts : Trs) : ((crw ts).map fun x => ((tops x.2).map f).sum).sum = ((evq ts).map f).sum := by
  unfold crw evq
  rw [List.map_append, List.map_map, List.map_map, List.sum_append]
  induction ts with
  | nil => rfl
  | cons p ts ih =>
    have h := tops_sum f p.2
    simp only [List.map_cons, List.sum_cons, List.flatMap_cons, List.map_append, List.sum_append] at *
    have e1 : ((fun x : Str × Cals => ((tops x.2).map f).sum) ∘ fun p : Int × Cals => (("" : Str), p.2)) p = ((tops p.2).map f).sum := rfl
    have e2 : ((allq p.2).map ((fun x : Str × Cals => ((tops x.2).map f).sum) ∘ fun q : Nd => (q.n, q.i))) = (allq p.2).map fun q => ((tops q.i).map f).sum := rfl
    rw [e1, e2]
    omega
theorem sum_len {α : Type} (l : List α) (f : α → List Nd) : ((l.map fun x => (f x).length).sum : Int) = (l.map fun x => ((f x).map fun _ => (1 : Int)).sum).sum := by
  induction l with
  | nil => rfl
  | cons x l ih =>
    have e : ((f x).map fun _ => (1 : Int)).sum = (f x).length := by
      induction f x with
      | nil => rfl
      | cons _ l ih => rw [List.map_cons, List.sum_cons, ih, List.length_cons]; push_cast; omega
    rw [List.map_cons, List.map_cons, List.sum_cons, List.sum_cons, e]
    push_cast
    omega
theorem crw_len {ts : Trs} (t : TV ts) : ((crw ts).map fun x => (tops x.2).length).sum ≤ 4000 := by
  have h1 := crw_sum (fun _ => 1) ts
  have h2 := sum_len (crw ts) fun x => tops x.2
  have h3 := sum_len [evq ts] fun x => x
  have h4 := evq_len (ts := ts) fun p hp => (t.ok p hp).2.2.2.2
  have h5 := t.len
  simp only [List.map_cons, List.map_nil, List.sum_cons, List.sum_nil] at h3
  rw [h1] at h2
  omega
/-- a name that may be asked for -/
structure NmOk (n : Str) : Prop where
  is : F_is_name [.str n] = .ok (.bl true)
  eq : ∀ x ∈ NM, cmEq (.str x) (.str n) = .ok (.bl (decide (x = n)))
theorem NmOk.nm {n : Str} (h : n ∈ NM) : NmOk n := ⟨is_name_eq n h, fun x hx => eq_nm hx h⟩
theorem crw_nm {ts : Trs} (t : TV ts) : ∀ x ∈ crw ts, (x.1 = "" ∨ x.1 ∈ NM) ∧ ∀ q ∈ tops x.2, q.n ∈ NM := by
  intro x hx
  rcases List.mem_append.mp hx with h | h
  · obtain ⟨p, hp, rfl⟩ := List.mem_map.mp h
    exact ⟨.inl rfl, fun q hq => val_names (t.ok p hp).2.2.1 q (tops_all hq)⟩
  · obtain ⟨q, hq, rfl⟩ := List.mem_map.mp h
    refine ⟨.inr (evq_names t q hq), fun r hr => ?_⟩
    obtain ⟨p, hp, hq⟩ := List.mem_flatMap.mp hq
    have : ∀ {c : Cals} {q : Nd}, q ∈ allq c → ∀ r ∈ tops q.i, r ∈ allq c := by
      intro c
      induction c with
      | nil => intro q h; cases h
      | cons n a b i r ih1 ih2 =>
        intro q h s hs
        rcases List.mem_cons.mp h with rfl | h
        · exact List.mem_cons_of_mem _ (List.mem_append_left _ (tops_all hs))
        · rcases List.mem_append.mp h with h | h
          · exact List.mem_cons_of_mem _ (List.mem_append_left _ (ih1 h s hs))
          · exact List.mem_cons_of_mem _ (List.mem_append_right _ (ih2 h s hs))
    exact val_names (t.ok p hp).2.2.1 r (this hq r hr)
theorem cps_nm {ts : Trs} (t : TV ts) (n : Str) : ∀ x ∈ cps ts n, x.1 = "" ∨ x.1 ∈ NM := by
  intro x hx
  obtain ⟨y, hy, hx⟩ := List.mem_flatMap.mp hx
  obtain ⟨q, _, rfl⟩ := List.mem_map.mp hx
  exact (crw_nm t y hy).1
theorem cC_len {ts : Trs} (t : TV ts) (n : Str) : (cC ts n).length ≤ 7 := by
  have nd : ((cC ts n).map (·.1)).Nodup := nd_bumps _ _ (by simp)
  have := nd_len _ ("" :: NM) nd fun x hx => by
    obtain ⟨y, hy, rfl⟩ := List.mem_map.mp ((bumps_keys1 _ _).mp hx)
    rcases cps_nm t n y hy with h | h
    · rw [h]; exact List.mem_cons_self
    · exact List.mem_cons_of_mem _ h
  rw [List.length_map] at this
  exact this
theorem nmsC_len (cs : Cnt) : (nmsC cs).length = cs.length := by
  unfold nmsC
  rw [List.length_map, (srtK_perm _).length_eq]
  unfold ksI
  rw [List.length_map]
def crow (ts : Trs) (n c : Str) : D := .tup [.str c, .int (gt (cC ts n) c), .int (gt (cT' ts n) c)]
theorem callers_eq {ts : Trs} (t : TV ts) {n : Str} (hn : NmOk n) : F_callers [tD ts, .str n] = .ok (.lst ((nmsC (cC ts n)).map (crow ts n))) := by
  have nt := need_trees_eq t
  have tl := t.len
  have is := hn.is
  have ev := every_eq t
  have el := evq_len (ts := ts) fun p hp => (t.ok p hp).2.2.2.2
  have c1 : ∀ s : S_callers, s.trees_here = .im (tD ts) → C_callers_1 s.e = .ok (.lst (ts.map fun p => crD (("" : Str), p.2))) := fun s h => by
    unfold C_callers_1
    refine compDE_all (by simp [h]) (sl_ge (by omega)) fun p hp => ⟨S_callers.e {s with hand := .im (.int p.1)}, by simp, ?_⟩
    have ix := ix_tD t.nd hp
    simp [h, ix, crD]
  have c2 : ∀ s : S_callers, s.trees_here = .im (tD ts) → C_callers_2 s.e = .ok (.lst ((evq ts).map fun q => crD (q.n, q.i))) := fun s h => by
    unfold C_callers_2
    refine compE_all (u := ndD) (evq ts) (by simp [h, ev]) (sl_ge (by omega)) fun q hq => ⟨S_callers.e {s with one := .im (ndD q)}, by simp, by simp [ndD, crD]⟩
  have er : (ts.map fun p => crD (("" : Str), p.2)) ++ (evq ts).map (fun q => crD (q.n, q.i)) = (crw ts).map crD := by
    unfold crw
    rw [List.map_append, List.map_map, List.map_map]; rfl
  have z : ts.length + (evq ts).length ≤ sizeLine := by rw [sizeLine_eq]; omega
  obtain ⟨s2, e2, b1, b2⟩ := cal_loop (n := n) (nm := fun x => x ∈ NM) (fun x y h => hn.eq x h) (crw ts) (fun x hx => (crw_nm t x hx).2) (by have := crw_len t; omega) (S_callers.mk (.im (tD ts)) (.im (.str n)) (.im (.lst ((crw ts).map crD))) (.oK (kD [])) (.oK (kD [])) .un .un .un .un) rfl rfl rfl
  have b1' : s2.counts = .oK (kD (cC ts n)) := b1
  have b2' : s2.times = .oK (kD (cT' ts n)) := b2
  have cl := cC_len t n
  have c3 : C_callers_3 s2.e = .ok (.lst ((nmsC (cC ts n)).map (crow ts n))) := by
    unfold C_callers_3
    refine compE_all (u := D.str) (h := crow ts n) (nmsC (cC ts n)) ?_ (sl_ge ?_) fun c hc => ⟨S_callers.e {s2 with caller := .im (.str c)}, by simp, ?_⟩
    · have := sort_kD (cs := cC ts n) (by omega)
      simp [b1', this]
    · rw [nmsC_len]; omega
    · have m1 := mem_nms.mp hc
      have m2 : c ∈ (cT' ts n).map (·.1) := by
        unfold cT'
        rw [keys_bumps]
        exact .inr ((bumps_keys1 _ _).mp m1)
      have i1 := ix_kD m1
      have i2 := ix_kD m2
      simp [b1', b2', i1, i2, crow]
  unfold F_callers b_callers
  rw [e_run, S_callers.st]
  have k0 : kD [] = [] := rfl
  rw [k0] at e2
  simp only [← er] at e2
  simp [nt, is, c1, c2, z, e2, c3]
end VP

set_option Elab.async false
set_option linter.all false
set_option maxRecDepth 100000
set_option maxHeartbeats 1000000
/-! longest. -/
namespace VP
open PySem PySem.Spec PyProof.Rows L2 LamX VS
abbrev Rw := List (Int × Nd)
def lrw (ts : Trs) : Rw := ts.flatMap fun p => (allq p.2).map fun q => (p.1, q)
def wh (x : Int × Nd) : Int := x.2.b - x.2.a
def lrD (x : Int × Nd) : D := .tup [.int (wh x), .int x.1, .int x.2.a, .str x.2.n]
theorem lrw_len {ts : Trs} (t : ∀ p ∈ ts, cnt p.2 ≤ 1000) : (lrw ts).length ≤ 1000 * ts.length := by
  have : (lrw ts).length = (evq ts).length := by
    unfold lrw evq
    induction ts with
    | nil => rfl
    | cons p ts ih => rw [List.flatMap_cons, List.flatMap_cons, List.length_append, List.length_append, List.length_map, ih fun q hq => t q (List.mem_cons_of_mem _ hq)]
  rw [this]; exact evq_len t
theorem lg_loop {ts : Trs} (t : TV ts) (s : S_longest) (h1 : s.trees_here = .im (tD ts)) (h2 : s.found = .ow []) :
    ∃ s' : S_longest, runFor (bindT (.nm 3)) L_longest_1 (ts.map fun p => .int p.1) s.e = .nx s'.e ∧ s'.trees_here = .im (tD ts) ∧ s'.most = s.most ∧ s'.found = .ow ((lrw ts).map lrD) := by
  have tl := t.len
  exact for_to (e := S_longest.e) (b := bindT (.nm 3)) (f := L_longest_1) (u := fun p : Int × Cals => D.int p.1)
    (fun dn s' => s'.trees_here = .im (tD ts) ∧ s'.most = s.most ∧ s'.found = .ow ((lrw dn).map lrD)) ts (by
      rintro dn p rs s' e ⟨a1, a2, a3⟩ Q hQ
      have hp : p ∈ ts := by rw [← e]; simp
      have tp := t.ok p hp
      have ix := ix_tD t.nd hp
      have ac := all_calls_eq 8 p.2 (by omega) (by omega)
      have al := allq_len p.2
      have hd : dn.length < ts.length := by have := congrArg List.length e; simp at this; omega
      have l1 := lrw_len (ts := dn) fun q hq => (t.ok q (by rw [← e]; simp [hq])).2.2.2.2
      have c1 : C_longest_1 (S_longest.e {s' with hand := .im (.int p.1)}) = .ok (.lst ((allq p.2).map fun q => lrD (p.1, q))) := by
        unfold C_longest_1
        refine compE_all (u := ndD) (h := fun q => lrD (p.1, q)) (allq p.2) (by simp [a1, ix, ac]) (sl_ge (by omega)) fun q hq => ⟨S_longest.e {s' with hand := .im (.int p.1), one := .im (ndD q)}, by simp, ?_⟩
        have w := whole_nd q
        have x0 : ixT (ndD q) (.int 0) = .ok (.str q.n) := by unfold ndD; simp
        have x1 : ixT (ndD q) (.int 1) = .ok (.int q.a) := by unfold ndD; simp
        simp [w, x0, x1, lrD, wh]
      have er : lrw (dn ++ [p]) = lrw dn ++ (allq p.2).map fun q => (p.1, q) := by unfold lrw; simp
      rw [er] at hQ
      have z : (lrw dn).length + (allq p.2).length ≤ sizeLine := by rw [sizeLine_eq]; omega
      simp only [a1, a3] at c1
      simp [L_longest_1, a1, a3, c1, z]
      refine to_nx (hQ _ ?_)
      exact ⟨rfl, a2, by simp [Function.comp_def]⟩) s ⟨h1, rfl, by rw [h2]; rfl⟩
theorem heads_lr : ∀ l : Rw, headsI (l.map lrD) = some (l.map wh)
  | [] => rfl
  | x :: l => by rw [List.map_cons, headsI, heads_lr l]; rfl
/-- the rows by whole time, the longest first -/
def lgo (ts : Trs) : List Int := ordI (fun i => ((lrw ts).map wh).getD i.toNat 0) (lrw ts).length
theorem lgo_perm (ts : Trs) : (lgo ts).Perm ((List.range (lrw ts).length).map fun i : Nat => (i : Int)) := List.mergeSort_perm _ _
theorem lgo_lt {ts : Trs} {i : Int} (h : i ∈ lgo ts) : 0 ≤ i ∧ i < (lrw ts).length := by
  have := (lgo_perm ts).mem_iff.mp h
  obtain ⟨j, hj, rfl⟩ := List.mem_map.mp this
  rw [List.mem_range] at hj; omega
def lgr (ts : Trs) : Rw := (lgo ts).map fun i => (lrw ts).getD i.toNat (0, ⟨"", 0, 0, .nil⟩)
theorem longest_eq {ts : Trs} (t : TV ts) {m : Nat} (hm : m ≤ 50) : F_longest [tD ts, .int (m : Int)] = .ok (.lst (((lgr ts).take m).map lrD)) := by
  have nt := need_trees_eq t
  have sr := srt_tD t
  have tl := t.len
  have ll := lrw_len (ts := ts) fun p hp => (t.ok p hp).2.2.2.2
  have ic : F_is_count [.int (m : Int), .int 0, .int 50] = .ok (.bl true) := by
    rw [is_count_eq, decide_eq_true (show (0 : Int) ≤ m by omega), decide_eq_true (show (m : Int) ≤ 50 by omega)]; rfl
  obtain ⟨s1, e1, a1, a2, a3⟩ := lg_loop t (S_longest.mk (.im (tD ts)) (.im (.int m)) (.ow []) .un .un .un .un) rfl rfl
  have a2' : s1.most = .im (.int m) := a2
  have ky : keyO (.int ((lrw ts).length : Int)) (.lst ((lrw ts).map lrD)) = .ok (.lst ((lgo ts).map .int)) := by
    unfold keyO
    dsimp only
    rw [heads_lr]
    dsimp only
    rw [if_pos ⟨by rw [List.length_map], by rw [List.length_map]; omega⟩, List.length_map]
    rfl
  have ct : cut ((lgo ts).map D.int) none (some (m : Int)) = ((lgo ts).take m).map .int := by rw [cut_take, List.map_take]
  have c2 : C_longest_2 (S_longest.e {s1 with order := .im (.lst ((lgo ts).map .int))}) = .ok (.lst (((lgr ts).take m).map lrD)) := by
    have eg : ((lgr ts).take m).map lrD = ((lgo ts).take m).map fun i => lrD ((lrw ts).getD i.toNat (0, ⟨"", 0, 0, .nil⟩)) := by
      unfold lgr
      rw [← List.map_take, List.map_map]; rfl
    rw [eg]
    unfold C_longest_2
    refine compE_all (u := D.int) ((lgo ts).take m) (by simp [a2', ct]) (sl_ge (by rw [List.length_take]; omega)) fun i hi => ⟨S_longest.e {s1 with order := .im (.lst ((lgo ts).map .int)), at_ := .im (.int i)}, by simp, ?_⟩
    have hb := lgo_lt (List.mem_of_mem_take hi)
    have hx : ((lrw ts).map lrD)[i.toNat]? = some (lrD ((lrw ts).getD i.toNat (0, ⟨"", 0, 0, .nil⟩))) := by
      rw [List.getElem?_map, List.getD_eq_getElem?_getD]
      cases h : (lrw ts)[i.toNat]? with
      | none => rw [List.getElem?_eq_none_iff] at h; omega
      | some x => rfl
    have := ixL_int hb.1 hx
    simp [a3, this]
  unfold F_longest b_longest
  rw [e_run, S_longest.st]
  simp only [a3] at c2
  simp [nt, ic, sr, e1, a3, ky, c2]
end VP

set_option Elab.async false
set_option linter.all false
set_option maxRecDepth 100000
set_option maxHeartbeats 1000000
/-! heavy. -/
namespace VP
open PySem PySem.Spec PyProof.Rows L2 LamX VS
def whq (q : Nd) : Int := q.b - q.a
def mxq (c : Cals) : Int := maxI ((tops c).map whq)
def pick (c : Cals) : Option Nd := (tops c).find? fun q => decide (whq q = mxq c)
def hvp : Nat → Cals → List Str
  | 0, _ => []
  | j + 1, c => match pick c with | none => [] | some q => q.n :: hvp j q.i
theorem tops_ne {c : Cals} (h : c ≠ .nil) : tops c ≠ [] := by
  cases c with
  | nil => exact absurd rfl h
  | cons n a b i r => exact fun e => by cases e
theorem pick_some {c : Cals} (h : c ≠ .nil) : ∃ q, pick c = some q ∧ q ∈ tops c ∧ whq q = mxq c := by
  have mx := maxI_is ((tops c).map whq) (by simpa using tops_ne h)
  obtain ⟨q, hq, e⟩ := List.mem_map.mp mx.1
  cases hp : pick c with
  | none =>
    have := List.find?_eq_none.mp hp q hq
    simp at this
    exact absurd e this
  | some r =>
    have h1 := List.find?_some hp
    exact ⟨r, rfl, List.mem_of_find?_eq_some hp, of_decide_eq_true h1⟩
theorem pick_nil : pick .nil = none := rfl
theorem hvp_fuel : ∀ (j k : Nat) (c : Cals), dep c ≤ j → dep c ≤ k → hvp j c = hvp k c := by
  intro j
  induction j with
  | zero =>
    intro k c h1 _
    have e : c = .nil := by
      cases c with
      | nil => rfl
      | cons n a b i r => rw [dep_cons] at h1; omega
    subst e
    cases k with
    | zero => rfl
    | succ k => rfl
  | succ j ih =>
    intro k c h1 h2
    cases k with
    | zero =>
      have e : c = .nil := by
        cases c with
        | nil => rfl
        | cons n a b i r => rw [dep_cons] at h2; omega
      subst e; rfl
    | succ k =>
      rw [hvp, hvp]
      cases hp : pick c with
      | none => rfl
      | some q =>
        have d := dep_tops (List.mem_of_find?_eq_some hp)
        show q.n :: hvp j q.i = q.n :: hvp k q.i
        rw [ih k q.i (by omega) (by omega)]
def hvy (c : Cals) : List Str := hvp (dep c) c
theorem hvy_cons {c : Cals} {q : Nd} (h : pick c = some q) : hvy c = q.n :: hvy q.i := by
  have d := dep_tops (List.mem_of_find?_eq_some h)
  unfold hvy
  cases hd : dep c with
  | zero => omega
  | succ j =>
    rw [hvp, h]
    show q.n :: hvp j q.i = _
    rw [hvp_fuel j (dep q.i) q.i (by omega) (Nat.le_refl _)]
theorem whole_cmp (q : Nd) : F_whole [ndD q] = .ok (.int (whq q)) := whole_nd q
theorem val_tops {c : Cals} : ∀ {lo hi : Int}, val c lo hi → ∀ q ∈ tops c, val q.i q.a q.b := by
  induction c with
  | nil => intro _ _ _ q hq; cases hq
  | cons n a b i r _ ih =>
    intro lo hi v q hq
    rcases List.mem_cons.mp hq with rfl | hq
    · exact v.2.2.2.2.1
    · exact ih v.2.2.2.2.2 q hq
theorem heavy_of {ts : Trs} (t : TV ts) {h : Int} {c : Cals} {lo hi : Int} (v : val c lo hi) (hd : dep c ≤ 50) (hc : cnt c ≤ 1000) (hg : getD2 (tD ts) (.int h) (.tup []) = .ok (cD c)) : F_heavy [tD ts, .int h] = .ok (.lst ((hvy c).map .str)) := by
  have nt := need_trees_eq t
  obtain ⟨s', e, d, ac, lo', hi', p1, p2, p3, p4, p5, p6, p7⟩ := while_to (e := S_heavy.e) (c := geB (geOp cmNe (geV 2) (geA tupD gaNil))) (f := L_heavy_1)
    (fun n s => ∃ (d : Cals) (ac : List Str) (lo hi : Int), s.calls = .im (cD d) ∧ s.found = .ow (ac.map .str) ∧ dep d = n ∧ val d lo hi ∧ ac.length + dep d ≤ 60 ∧ cnt d ≤ 1000 ∧ ac ++ hvy d = hvy c)
    (by
      rintro s ⟨d, ac, lo, hi, p1, p2, p3, p4, p5, p6, p7⟩
      have nn := ne_nil p4 (by omega)
      have : isC d = false := by
        cases d with
        | nil => rfl
        | cons n a b i r => rw [dep_cons] at p3; omega
      rw [this] at nn
      simp [p1, nn])
    (by
      rintro n s ⟨d, ac, lo, hi, p1, p2, p3, p4, p5, p6, p7⟩
      have dn : d ≠ .nil := fun e => by subst e; cases p3
      have nn := ne_nil p4 (by omega)
      have : isC d = true := by
        cases d with
        | nil => exact absurd rfl dn
        | cons n a b i r => rfl
      rw [this] at nn
      refine ⟨by simp [p1, nn], fun Q hQ => ?_⟩
      obtain ⟨q, h1, h2, h3⟩ := pick_some dn
      have tl := tops_len d
      have c1 : C_heavy_1 s.e = .ok (.lst ((tops d).map fun q => .int (whq q))) := by
        unfold C_heavy_1
        refine compE_all (u := ndD) (h := fun q => .int (whq q)) (tops d) (by simp [p1, toDs_tops]) (sl_ge (by omega)) fun q hq => ⟨S_heavy.e {s with one := .im (ndD q)}, by simp, ?_⟩
        have w := whole_cmp q
        simp [w]
      have mx : maxL [.lst ((tops d).map fun q => .int (whq q))] = .ok (.int (mxq d)) := by
        have e : ((tops d).map fun q => D.int (whq q)) = ((tops d).map whq).map .int := by rw [List.map_map]; rfl
        unfold maxL mxq
        dsimp only
        rw [e, intsD_map]
        cases hl : (tops d).map whq with
        | nil => exact absurd hl (by simpa using tops_ne dn)
        | cons a l => rfl
      have c2 : C_heavy_2 (S_heavy.e {s with best := .im (.int (mxq d))}) = .ok (.lst (((tops d).filter fun q => decide (whq q = mxq d)).map ndD)) := by
        unfold C_heavy_2
        refine compE_filter (u := ndD) (p := fun q => decide (whq q = mxq d)) (h := ndD) (tops d) ?_ (sl_ge (by omega)) fun q hq => ⟨S_heavy.e {s with best := .im (.int (mxq d)), one := .im (ndD q)}, ?_, ?_, ?_⟩
        · simp [p1, toDs_tops]
        · simp
        · have w := whole_cmp q
          simp [w]
        · intro _; simp
      have i0 : ixL (.lst (((tops d).filter fun q => decide (whq q = mxq d)).map ndD)) (.int 0) = .ok (ndD q) := ixL_nat (k := 0) (by
        have hf : ∀ (p : Nd → Bool) (l : List Nd), (l.filter p)[0]? = l.find? p := by
          intro p l
          induction l with
          | nil => rfl
          | cons a l ih => rw [List.filter_cons, List.find?_cons]; cases p a <;> simp [ih]
        rw [List.getElem?_map, hf]
        show (pick d).map ndD = _
        rw [h1]; rfl)
      have x0 : ixT (ndD q) (.int 0) = .ok (.str q.n) := by unfold ndD; simp
      have x3 : ixT (ndD q) (.int 3) = .ok (cD q.i) := by unfold ndD; simp
      have hy := hvy_cons h1
      have dq := dep_tops h2
      have cq := cnt_tops h2
      have z : ac.length < sizeLine := by rw [sizeLine_eq]; omega
      refine to_seq {s with best := .im (.int (mxq d))} (by simp [c1, mx]) ?_
      refine to_seq {s with best := .im (.int (mxq d)), one := .im (ndD q)} (by simp [c2, i0]) ?_
      simp [x0, x3, p2, z]
      refine to_nx (hQ _ (dep q.i) (by omega) ?_)
      exact ⟨q.i, ac ++ [q.n], q.a, q.b, rfl, by simp, rfl, val_tops p4 q h2, by rw [List.length_append, List.length_cons, List.length_nil]; omega, by omega, by rw [List.append_assoc, ← p7, hy]; rfl⟩) 4096 (dep c) (S_heavy.mk (.im (tD ts)) (.im (.int h)) (.im (cD c)) (.ow []) .un .un) (by omega) ⟨c, [], lo, hi, rfl, rfl, rfl, v, by simp; omega, hc, rfl⟩
  have hd0 : hvy d = [] := by unfold hvy; rw [p3]; rfl
  rw [hd0, List.append_nil] at p7
  rw [p7] at p2
  unfold F_heavy b_heavy
  rw [e_run, S_heavy.st]
  simp [nt, hg, e, p2]
end VP

set_option Elab.async false
set_option linter.all false
set_option maxRecDepth 100000
set_option maxHeartbeats 1000000
/-! sorted(set(names)) (from k22's PL14); sums by name. -/
namespace VP
open PySem PySem.Spec PyProof.Rows L2 LamX VS
/-! names once each, in order -/
def sset (p : List Str) : List Str := (srtK ((p.map Sum.inr).foldl insK [])).map keyT
theorem keysD_str : ∀ p : List Str, keysD (p.map .str) = some (p.map Sum.inr)
  | [] => rfl
  | x :: p => by
    rw [List.map_cons, keysD, keysD_str p]; rfl
theorem fold_inr (p : List Str) : ((p.map (Sum.inr : Str → Key)).foldl insK []).all (fun k => !isL k) = true := by
  rw [List.all_eq_true]
  intro k hk
  rcases mem_foldK.mp hk with h | h
  · cases h
  · obtain ⟨x, _, rfl⟩ := List.mem_map.mp h; rfl
theorem sset_inr (p : List Str) : srtK ((p.map Sum.inr).foldl insK []) = (sset p).map Sum.inr := by
  refine all_inr ?_
  rw [List.all_eq_true]
  intro k hk
  exact List.all_eq_true.mp (fold_inr p) k ((srtK_perm _).mem_iff.mp hk)
theorem mem_sset {p : List Str} {n : Str} : n ∈ sset p ↔ n ∈ p := by
  have h : (Sum.inr n : Key) ∈ (sset p).map Sum.inr ↔ n ∈ sset p := by
    rw [List.mem_map]
    exact ⟨fun ⟨x, h, e⟩ => Sum.inr.inj e ▸ h, fun h => ⟨n, h, rfl⟩⟩
  rw [← h, ← sset_inr, (srtK_perm _).mem_iff, mem_foldK, List.mem_map]
  constructor
  · rintro (h | ⟨x, h, e⟩)
    · cases h
    · exact Sum.inr.inj e ▸ h
  · exact fun h => .inr ⟨n, h, rfl⟩
theorem nd_insK {ks : List Key} {k : Key} (h : ks.Nodup) : (insK ks k).Nodup := by
  unfold insK
  split
  · exact h
  · rename_i q
    exact List.nodup_cons.mpr ⟨fun z => q (hasK_iff.mpr z), h⟩
theorem nd_foldK : ∀ (l ks : List Key), ks.Nodup → (l.foldl insK ks).Nodup
  | [], _, h => h
  | k :: l, ks, h => nd_foldK l _ (nd_insK h)
theorem nd_sset (p : List Str) : (sset p).Nodup := by
  have h : ((sset p).map (Sum.inr : Str → Key)).Nodup := by
    rw [← sset_inr]
    exact (srtK_perm _).nodup_iff.mpr (nd_foldK _ _ List.nodup_nil)
  rw [List.nodup_iff_pairwise_ne, List.pairwise_map] at h
  rw [List.nodup_iff_pairwise_ne]
  exact h.imp fun h e => h (by rw [e])
theorem sortSet_eq {p : List Str} (h : p.length ≤ 1000) : sortSet (sL p) = .ok (sL (sset p)) := by
  unfold sortSet
  show (match keysD (p.map D.str) with | some ks => sortKs ks | none => .no) = _
  rw [keysD_str]
  dsimp only
  unfold sortKs
  rw [if_pos ⟨by rw [List.length_map]; unfold scanBound; omega, by unfold sameK; rw [Bool.or_eq_true]; right; rw [List.all_map]; exact List.all_eq_true.mpr fun _ _ => rfl⟩, sset_inr, List.map_map]
  rfl
/-- sums by key -/
def sk {α : Type} (k : α → Str) (f : α → Int) (l : List α) (n : Str) : Int := (l.map fun x => if k x = n then f x else 0).sum
theorem sk_sum {α : Type} (k : α → Str) (f : α → Int) : ∀ {N : List Str} {l : List α}, N.Nodup → (∀ x ∈ l, k x ∈ N) → (N.map (sk k f l)).sum = (l.map f).sum := by
  intro N l nd h
  induction l with
  | nil =>
    have : N.map (sk k f []) = N.map fun _ => 0 := rfl
    rw [this]
    clear h nd this
    induction N with
    | nil => rfl
    | cons n N ih => rw [List.map_cons, List.sum_cons, ih]; rfl
  | cons x l ih =>
    have ih := ih fun y hy => h y (List.mem_cons_of_mem _ hy)
    have hx := h x List.mem_cons_self
    have e : ∀ M : List Str, (M.map (sk k f (x :: l))).sum = (M.map fun n => if k x = n then f x else 0).sum + (M.map (sk k f l)).sum := by
      intro M
      induction M with
      | nil => rfl
      | cons n M ih =>
        have e2 : sk k f (x :: l) n = (if k x = n then f x else 0) + sk k f l n := by unfold sk; rw [List.map_cons, List.sum_cons]
        rw [List.map_cons, List.map_cons, List.map_cons, List.sum_cons, List.sum_cons, List.sum_cons, ih, e2]; omega
    have e3 : ∀ M : List Str, M.Nodup → (M.map fun n => if k x = n then f x else 0).sum = if k x ∈ M then f x else 0 := by
      intro M
      induction M with
      | nil => intro _; rfl
      | cons n M ih =>
        intro nd
        rw [List.nodup_cons] at nd
        rw [List.map_cons, List.sum_cons, ih nd.2]
        by_cases e : k x = n
        · subst e; simp [nd.1]
        · simp [e]
    rw [e, e3 N nd, if_pos hx, ih, List.map_cons, List.sum_cons]
theorem tot_sk (l : Cnt) (n : Str) : tot l n = sk (·.1) (·.2) l n := rfl
theorem gt_bumps0 (l : Cnt) (n : Str) : gt (bumps [] l) n = tot l n := by
  rw [gt_bumps]
  have : gt [] n = 0 := rfl
  omega
theorem nms_nd {cs : Cnt} (nd : (cs.map (·.1)).Nodup) : (nmsC cs).Nodup := by
  have h : ((nmsC cs).map (Sum.inr : Str → Key)).Nodup := by
    rw [← nms_inr]
    refine (srtK_perm _).nodup_iff.mpr ?_
    have e : ksI cs = (cs.map (·.1)).map Sum.inr := by unfold ksI; rw [List.map_map]; rfl
    rw [e, List.nodup_iff_pairwise_ne, List.pairwise_map]
    rw [List.nodup_iff_pairwise_ne] at nd
    exact nd.imp fun h z => h (Sum.inr.inj z)
  rw [List.nodup_iff_pairwise_ne, List.pairwise_map] at h
  rw [List.nodup_iff_pairwise_ne]
  exact h.imp fun h e => h (by rw [e])
theorem eq_of_inr {a b : List Str} (h : a.map (Sum.inr : Str → Key) = b.map Sum.inr) : a = b := by
  have := congrArg (List.map keyT) h
  rw [List.map_map, List.map_map] at this
  have e : (keyT ∘ (Sum.inr : Str → Key)) = id := rfl
  rwa [e, List.map_id, List.map_id] at this
theorem sset_nms {cs : Cnt} (nd : (cs.map (·.1)).Nodup) : sset (nmsC cs) = nmsC cs := by
  refine eq_of_inr ?_
  rw [← sset_inr, ← nms_inr]
  refine srtK_of_perm ?_
  refine (List.perm_ext_iff_of_nodup (nd_foldK _ _ List.nodup_nil) ?_).mpr fun k => ?_
  · have e : ksI cs = (cs.map (·.1)).map Sum.inr := by unfold ksI; rw [List.map_map]; rfl
    rw [e, List.nodup_iff_pairwise_ne, List.pairwise_map]
    rw [List.nodup_iff_pairwise_ne] at nd
    exact nd.imp fun h z => h (Sum.inr.inj z)
  · rw [mem_foldK, (srtK_perm _).mem_iff]
    simp
/-- sums over the sorted names -/
theorem nms_tot (l : Cnt) : ((nmsC (bumps [] l)).map (gt (bumps [] l))).sum = (l.map (·.2)).sum := by
  have e : (nmsC (bumps [] l)).map (gt (bumps [] l)) = (nmsC (bumps [] l)).map (sk (·.1) (·.2) l) := List.map_congr_left fun n _ => gt_bumps0 l n
  rw [e]
  exact sk_sum _ _ (nms_nd (nd_bumps _ _ (by simp))) fun x hx => mem_nms.mpr ((keys_bumps _ _ _).mpr (.inr (List.mem_map.mpr ⟨x, hx, rfl⟩)))
end VP

set_option Elab.async false
set_option linter.all false
set_option maxRecDepth 100000
set_option maxHeartbeats 1000000
/-! sums over callers; own times below whole times. -/
namespace VP
open PySem PySem.Spec PyProof.Rows L2 LamX VS
def ownq (q : Nd) : Int := q.b - q.a - tsum q.i
theorem tsum_le {c : Cals} : ∀ {lo hi : Int}, val c lo hi → lo ≤ hi → 0 ≤ tsum c ∧ tsum c ≤ hi - lo := by
  induction c with
  | nil => intro lo hi _ h; exact ⟨Int.le_refl _, by show (0 : Int) ≤ _; omega⟩
  | cons n a b i r _ ih =>
    intro lo hi v h
    have := ih v.2.2.2.2.2 v.2.2.2.1
    have v1 := v.2.1
    have v2 := v.2.2.1
    rw [tsum_cons]; omega
def osum (n : Str) (c : Cals) : Int := sk (·.n) ownq (allq c) n
theorem osum_cons (n m : Str) (a b : Int) (i r : Cals) : osum n (.cons m a b i r) = (if m = n then b - a - tsum i else 0) + (osum n i + osum n r) := by
  unfold osum sk
  show (((⟨m, a, b, i⟩ : Nd) :: (allq i ++ allq r)).map fun x => if x.n = n then ownq x else 0).sum = _
  rw [List.map_cons, List.sum_cons, List.map_append, List.sum_append]
  rfl
theorem osum_le {n : Str} {c : Cals} : ∀ {lo hi : Int}, val c lo hi → osum n c ≤ tsum c := by
  induction c with
  | nil => intro _ _ _; exact Int.le_refl _
  | cons m a b i r ih1 ih2 =>
    intro lo hi v
    have h1 := ih1 v.2.2.2.2.1
    have h2 := ih2 v.2.2.2.2.2
    have h3 := tsum_le v.2.2.2.2.1 v.2.2.1
    rw [osum_cons, tsum_cons]
    split <;> omega
theorem outq_nn {n : Str} {c : Cals} : ∀ {lo hi : Int} {ar : List Str}, val c lo hi → 0 ≤ tot (outq c ar) n := by
  induction c with
  | nil => intro _ _ _ _; exact Int.le_refl _
  | cons m a b i r ih1 ih2 =>
    intro lo hi ar v
    have h1 := ih1 (ar := ar ++ [m]) v.2.2.2.2.1
    have h2 := ih2 (ar := ar) v.2.2.2.2.2
    have v2 := v.2.2.1
    rw [outq_cons, tot_app, tot_app]
    split
    · rw [tot_nil]; omega
    · rw [tot_cons, tot_nil]; dsimp only; split <;> omega
theorem osum_out {n : Str} {c : Cals} : ∀ {lo hi : Int} {ar : List Str}, val c lo hi → n ∉ ar → osum n c ≤ tot (outq c ar) n := by
  induction c with
  | nil => intro _ _ _ _ _; exact Int.le_refl _
  | cons m a b i r ih1 ih2 =>
    intro lo hi ar v hn
    have h2 := ih2 (ar := ar) v.2.2.2.2.2 hn
    rw [outq_cons, tot_app, tot_app, osum_cons]
    by_cases e : m = n
    · subst e
      have h1 := osum_le (n := m) v.2.2.2.2.1
      have h3 := outq_nn (n := m) (ar := ar ++ [m]) v.2.2.2.2.1
      rw [if_pos rfl, if_neg hn, tot_cons, tot_nil]
      dsimp only
      rw [if_pos rfl]; omega
    · have h1 := ih1 (ar := ar ++ [m]) v.2.2.2.2.1 (by simp [hn]; exact fun z => e z.symm)
      have h4 : 0 ≤ tot (if m ∈ ar then [] else [(m, b - a)]) n := by
        split
        · exact Int.le_refl _
        · rw [tot_cons, tot_nil]; dsimp only; rw [if_neg e]; exact Int.le_refl _
      rw [if_neg e]; omega
theorem gt_tO {ts : Trs} (n : Str) : gt (tO ts) n = sk (·.n) ownq (evq ts) n := by
  unfold tO
  rw [gt_bumps0, tot_sk]
  unfold sk
  rw [List.map_map]; rfl
theorem gt_tC' {ts : Trs} (n : Str) : gt (tC ts) n = sk (·.n) (fun _ => 1) (evq ts) n := by
  unfold tC
  rw [gt_bumps0, tot_sk]
  unfold sk
  rw [List.map_map]; rfl
/-- own times are no more than whole times -/
theorem own_whole {ts : Trs} (v : ∀ p ∈ ts, ∃ lo hi, val p.2 lo hi) (n : Str) : gt (tO ts) n ≤ gt (tW ts) n := by
  rw [gt_tO]
  unfold tW outs evq
  rw [gt_bumps0]
  induction ts with
  | nil => exact Int.le_refl _
  | cons p ts ih =>
    have ih := ih fun q hq => v q (List.mem_cons_of_mem _ hq)
    obtain ⟨lo, hi, vp⟩ := v p List.mem_cons_self
    have h := osum_out (n := n) (ar := []) vp (by simp)
    rw [List.flatMap_cons, List.flatMap_cons, tot_app]
    have e : sk (·.n) ownq (allq p.2 ++ ts.flatMap fun p => allq p.2) n = osum n p.2 + sk (·.n) ownq (ts.flatMap fun p => allq p.2) n := by
      unfold osum sk; rw [List.map_append, List.sum_append]
    rw [e]; omega
theorem nms_keys {ts : Trs} : ∀ q ∈ evq ts, q.n ∈ nms ts := fun q hq => by
  unfold nms
  exact mem_nms.mpr (mem_tC.mpr (List.mem_map.mpr ⟨q, hq, rfl⟩))
theorem nms_nd' (ts : Trs) : (nms ts).Nodup := nms_nd (nd_bumps _ _ (by simp))
/-- sums over a caller's calls of a name -/
theorem cps_sum (f : Int → Int) (ts : Trs) (n : Str) : ((cps ts n).map fun p => f p.2).sum = sk (·.n) (fun q => f (whq q)) (evq ts) n := by
  have e : sk (·.n) (fun q => f (whq q)) (evq ts) n = ((evq ts).map fun q => if q.n = n then f (whq q) else 0).sum := rfl
  rw [e, ← crw_sum]
  unfold cps
  generalize crw ts = l
  induction l with
  | nil => rfl
  | cons x l ih =>
    rw [List.flatMap_cons, List.map_append, List.sum_append, ih, List.map_cons, List.sum_cons]
    congr 1
    unfold cps1
    rw [List.map_map]
    generalize tops x.2 = k
    induction k with
    | nil => rfl
    | cons q k ih =>
      rw [List.filter_cons, List.map_cons, List.sum_cons, ← ih]
      by_cases e : q.n = n
      · simp [e]; rfl
      · simp [e]
theorem num_sum (ts : Trs) (n : Str) : ((nmsC (cC ts n)).map (gt (cC ts n))).sum = gt (tC ts) n := by
  unfold cC
  rw [nms_tot, gt_tC', ← cps_sum (fun _ => 1)]
  unfold one1
  rw [List.map_map]; rfl
theorem spent_sum (ts : Trs) (n : Str) : ((nmsC (cC ts n)).map (gt (cT' ts n))).sum = sk (·.n) whq (evq ts) n := by
  rw [← cps_sum fun x => x]
  have e : ((nmsC (cC ts n)).map (gt (cT' ts n))) = (nmsC (cC ts n)).map (sk (·.1) (·.2) (cps ts n)) := List.map_congr_left fun c _ => by unfold cT'; exact gt_bumps0 _ _
  rw [e]
  exact sk_sum _ _ (nms_nd (nd_bumps _ _ (by simp))) fun x hx => mem_nms.mpr ((bumps_keys1 _ _).mpr (List.mem_map.mpr ⟨x, hx, rfl⟩))
end VP

set_option Elab.async false
set_option linter.all false
set_option maxRecDepth 100000
set_option maxHeartbeats 1000000
/-! sorted of pairs of ints. -/
namespace VP
open PySem PySem.Spec PyProof.Rows L2 LamX VS
def ppD (p : Int × Int) : D := .tup [.int p.1, .int p.2]
def lexB (p q : Int × Int) : Bool := decide (p.1 < q.1) || (decide (p.1 = q.1) && decide (p.2 ≤ q.2))
theorem leD_pp (p q : Int × Int) : leD (ppD p) (ppD q) = lexB p q := by
  obtain ⟨a, b⟩ := p
  obtain ⟨c, d⟩ := q
  show (!PyProof.Rows.lexLt itemOrd [.inl 1, .inl c, .inl 1, .inl d, .inl 0] [.inl 1, .inl a, .inl 1, .inl b, .inl 0]) = _
  have e : ∀ i j : Int, PyProof.Rows.itemLt (.inl i) (.inl j) = decide (i < j) := fun i j => rfl
  simp only [PyProof.Rows.lex_cons, e, PyProof.Rows.lexLt, lexB]
  by_cases h1 : c < a
  · have : ¬ a < c := by omega
    have : ¬ a = c := by omega
    simp [*]
  · by_cases h2 : a < c
    · simp [h1, h2]
    · have : a = c := by omega
      subst this
      by_cases h3 : d < b
      · have : ¬ b ≤ d := by omega
        simp [*]
      · have : b ≤ d := by omega
        simp [*]
theorem lexB_total (p q : Int × Int) : (lexB p q || lexB q p) = true := by
  unfold lexB
  by_cases h1 : p.1 < q.1
  · simp [h1]
  · by_cases h2 : q.1 < p.1
    · simp [h2]
    · have : p.1 = q.1 := by omega
      by_cases h3 : p.2 ≤ q.2
      · simp [this, h3]
      · have : q.2 ≤ p.2 := by omega
        simp [*]
theorem lexB_iff (p q : Int × Int) : lexB p q = true ↔ p.1 < q.1 ∨ (p.1 = q.1 ∧ p.2 ≤ q.2) := by unfold lexB; simp
theorem lexB_trans (p q r : Int × Int) (h1 : lexB p q = true) (h2 : lexB q r = true) : lexB p r = true := by
  rw [lexB_iff] at *
  omega
theorem okSort_pp (l : List (Int × Int)) : okSort (l.map ppD) = true := by
  unfold okSort
  simp only [Bool.and_eq_true, Bool.or_eq_true, List.all_eq_true, List.mem_map]
  refine ⟨⟨⟨?_, ?_⟩, ?_⟩, .inl ?_⟩
  · rintro d ⟨p, _, rfl⟩; rfl
  · rintro d ⟨p, _, rfl⟩
    show decide ((PyData.tuple [.int p.1, .int p.2]).depth ≤ 100) = true
    rfl
  · rintro d ⟨p, _, rfl⟩ e ⟨q, _, rfl⟩; rfl
  · rintro d ⟨p, _, rfl⟩; rfl
theorem sortD_pp (l : List (Int × Int)) : sortD [.lst (l.map ppD)] = .ok (.lst ((l.mergeSort lexB).map ppD)) := by
  unfold sortD
  dsimp only
  rw [if_pos (okSort_pp l)]
  unfold srtL
  rw [List.map_mergeSort (r := lexB) (s := leD) (f := ppD) fun a _ b _ => (leD_pp a b).symm]
theorem srt_perm (l : List (Int × Int)) : (l.mergeSort lexB).Perm l := List.mergeSort_perm _ _
theorem srt_pw (l : List (Int × Int)) : (l.mergeSort lexB).Pairwise fun a b => lexB a b = true := List.pairwise_mergeSort (fun a b c => lexB_trans a b c) (fun a b => lexB_total a b) l
end VP

set_option Elab.async false
set_option linter.all false
set_option maxRecDepth 100000
set_option maxHeartbeats 1000000
/-! k30: _law_heavy. -/
namespace VP
open PySem PySem.Spec PyProof.Rows L2 LamX VS
def spl (c : Cals) : List (Int × Int) := (tops c).zipIdx.map fun x => (x.1.a - x.1.b, (x.2 : Int))
theorem enumI_map' {α : Type} (u : α → D) : ∀ (l : List α) (k : Nat), enumI (k : Int) (l.map u) = (l.zipIdx k).map fun x => .tup [.int (x.2 : Int), u x.1]
  | [], _ => rfl
  | a :: l, k => by
    rw [List.map_cons, enumI, List.zipIdx_cons, List.map_cons, ← enumI_map' u l (k + 1)]
    congr 2
theorem find_at {α : Type} {p : α → Bool} : ∀ {l : List α} {i : Nat} {x : α}, l[i]? = some x → p x = true → (∀ j : Nat, j < i → ∀ y, l[j]? = some y → p y = false) → l.find? p = some x
  | [], _, _, h, _, _ => by simp at h
  | a :: l, 0, x, h, hp, _ => by simp at h; subst h; rw [List.find?_cons, hp]
  | a :: l, i + 1, x, h, hp, hn => by
    rw [List.find?_cons, hn 0 (by omega) a rfl]
    exact find_at (by simpa using h) hp fun j hj y hy => hn (j + 1) (by omega) y (by simpa using hy)
theorem spl_head {c : Cals} (h : c ≠ .nil) : ∃ (w : Int) (i : Nat) (q : Nd) (r : List (Int × Int)), (spl c).mergeSort lexB = (w, (i : Int)) :: r ∧ (tops c)[i]? = some q ∧ pick c = some q := by
  have hp := srt_perm (spl c)
  have hs := srt_pw (spl c)
  cases hm : (spl c).mergeSort lexB with
  | nil =>
    have := hp.length_eq
    rw [hm] at this
    unfold spl at this
    rw [List.length_map, List.length_zipIdx] at this
    exact absurd (List.length_eq_zero_iff.mp this.symm) (tops_ne h)
  | cons m r =>
    rw [hm] at hp hs
    have mm : m ∈ spl c := hp.mem_iff.mp List.mem_cons_self
    obtain ⟨x, hx, rfl⟩ := List.mem_map.mp mm
    obtain ⟨q, i⟩ := x
    have hi : (tops c)[i]? = some q := by
      rw [List.mem_iff_getElem?] at hx
      obtain ⟨j, hj⟩ := hx
      rw [List.getElem?_zipIdx] at hj
      cases h3 : (tops c)[j]? with
      | none => rw [h3] at hj; cases hj
      | some y => rw [h3] at hj; simp at hj; obtain ⟨rfl, rfl⟩ := hj; exact h3
    refine ⟨_, i, q, r, rfl, hi, ?_⟩
    have lo : ∀ (j : Nat) (y : Nd), (tops c)[j]? = some y → q.a - q.b < y.a - y.b ∨ (q.a - q.b = y.a - y.b ∧ i ≤ j) := by
      intro j y hy
      have hmem : (y.a - y.b, (j : Int)) ∈ spl c := by
        unfold spl
        refine List.mem_map.mpr ⟨(y, j), ?_, rfl⟩
        rw [List.mem_iff_getElem?]
        exact ⟨j, by rw [List.getElem?_zipIdx, hy]; simp⟩
      have := hp.mem_iff.mpr hmem
      rcases List.mem_cons.mp this with e | e
      · have e1 := congrArg Prod.fst e
        have e2 := congrArg Prod.snd e
        dsimp only at e1 e2
        omega
      · have := (List.pairwise_cons.mp hs).1 _ e
        rw [lexB_iff] at this
        dsimp only at this; omega
    have mx : whq q = mxq c := by
      have m2 := maxI_is ((tops c).map whq) (by simpa using tops_ne h)
      refine Int.le_antisymm (m2.2 _ (List.mem_map.mpr ⟨q, List.mem_of_getElem? hi, rfl⟩)) ?_
      obtain ⟨y, hy, e⟩ := List.mem_map.mp m2.1
      rw [List.mem_iff_getElem?] at hy
      obtain ⟨j, hj⟩ := hy
      have := lo j y hj
      show mxq c ≤ _
      unfold mxq
      rw [← e]
      unfold whq; omega
    exact find_at hi (decide_eq_true mx) fun j hj y hy => decide_eq_false fun e => by
      have := lo j y hy
      unfold whq at mx e
      omega
theorem law_heavy_eq {c : Cals} {lo hi : Int} (v : val c lo hi) (hd : dep c ≤ 50) (hc : cnt c ≤ 1000) : F__law_heavy [cD c] = .ok (.lst ((hvy c).map .str)) := by
  obtain ⟨s', e, d, ac, lo', hi', p1, p2, p3, p4, p5, p6, p7⟩ := while_to (e := S__law_heavy.e) (c := geB (geOp cmNe (geV 0) (geA tupD gaNil))) (f := L__law_heavy_1)
    (fun n s => ∃ (d : Cals) (ac : List Str) (lo hi : Int), s.calls_here = .im (cD d) ∧ s.path = .im (.lst (ac.map .str)) ∧ dep d = n ∧ val d lo hi ∧ ac.length + dep d ≤ 60 ∧ cnt d ≤ 1000 ∧ ac ++ hvy d = hvy c)
    (by
      rintro s ⟨d, ac, lo, hi, p1, p2, p3, p4, p5, p6, p7⟩
      have nn := ne_nil p4 (by omega)
      have : isC d = false := by
        cases d with
        | nil => rfl
        | cons n a b i r => rw [dep_cons] at p3; omega
      rw [this] at nn
      simp [p1, nn])
    (by
      rintro n s ⟨d, ac, lo, hi, p1, p2, p3, p4, p5, p6, p7⟩
      have dn : d ≠ .nil := fun e => by subst e; cases p3
      have nn := ne_nil p4 (by omega)
      have : isC d = true := by
        cases d with
        | nil => exact absurd rfl dn
        | cons n a b i r => rfl
      rw [this] at nn
      refine ⟨by simp [p1, nn], fun Q hQ => ?_⟩
      obtain ⟨w, i, q, r, h1, h2, h3⟩ := spl_head dn
      have hq : q ∈ tops d := List.mem_of_getElem? h2
      have tl := tops_len d
      have em := enumI_map' ndD (tops d) 0
      have em' : enumL ((tops d).map ndD) = (tops d).zipIdx.map fun x => .tup [.int (x.2 : Int), ndD x.1] := em
      have c1 : C__law_heavy_1 s.e = .ok (.lst ((spl d).map ppD)) := by
        unfold C__law_heavy_1 spl
        rw [List.map_map]
        refine compE_all (u := fun x : Nd × Nat => .tup [.int (x.2 : Int), ndD x.1]) (tops d).zipIdx ?_ (sl_ge (by rw [List.length_zipIdx]; omega)) fun x hx => ⟨S__law_heavy.e {s with spot := .im (.int (x.2 : Int)), one := .im (ndD x.1)}, ?_, ?_⟩
        · simp [gSeqA, enmT, p1, toDs_tops, em']
        · simp
        · simp [ndD, ppD]
      have so := sortD_pp (spl d)
      rw [h1] at so
      have i0 : ixL (.lst (ppD (w, (i : Int)) :: r.map ppD)) (.int 0) = .ok (ppD (w, (i : Int))) := ixL_nat (k := 0) rfl
      have x1 : ixT (ppD (w, (i : Int))) (.int 1) = .ok (.int (i : Int)) := by unfold ppD; simp
      have ii : ixT (cD d) (.int (i : Int)) = .ok (ndD q) := by
        unfold ixT cD atI
        dsimp only
        have hl : i < (tops d).length := (List.getElem?_eq_some_iff.mp h2).1
        rw [toDs_tops, ixN_nat (by rw [List.length_map]; exact hl)]
        simp [h2]
      have x0 : ixT (ndD q) (.int 0) = .ok (.str q.n) := by unfold ndD; simp
      have x3 : ixT (ndD q) (.int 3) = .ok (cD q.i) := by unfold ndD; simp
      have hy := hvy_cons h3
      have dq := dep_tops hq
      have cq := cnt_tops hq
      have z : ac.length + 1 ≤ sizeLine := by rw [sizeLine_eq]; omega
      refine to_seq {s with best := .im (.int (i : Int))} (by simp [c1, so, i0, x1]) ?_
      simp [p1, p2, ii, x0, x3, z]
      refine to_nx (hQ _ (dep q.i) (by omega) ?_)
      exact ⟨q.i, ac ++ [q.n], q.a, q.b, rfl, by simp, rfl, val_tops p4 q hq, by rw [List.length_append, List.length_cons, List.length_nil]; omega, by omega, by rw [List.append_assoc, ← p7, hy]; rfl⟩) 4096 (dep c) (S__law_heavy.mk (.im (cD c)) (.im (.lst [])) .un .un .un) (by omega) ⟨c, [], lo, hi, rfl, rfl, rfl, v, by simp; omega, hc, rfl⟩
  have hd0 : hvy d = [] := by unfold hvy; rw [p3]; rfl
  rw [hd0, List.append_nil] at p7
  rw [p7] at p2
  unfold F__law_heavy b__law_heavy
  rw [e_run, S__law_heavy.st]
  simp [e, p2]
end VP

set_option Elab.async false
set_option linter.all false
set_option maxRecDepth 100000
set_option maxHeartbeats 1000000
/-! intervals of ints as lists. -/
namespace VP
open PySem PySem.Spec PyProof.Rows L2 LamX VS
def ivn (a : Int) : Nat → List Int | 0 => [] | n + 1 => a :: ivn (a + 1) n
theorem ivn_range : ∀ (n : Nat) (a : Int), ivn a n = (List.range n).map fun i : Nat => a + (i : Int)
  | 0, _ => rfl
  | n + 1, a => by
    rw [ivn, ivn_range n (a + 1), List.range_succ_eq_map, List.map_cons, List.map_map]
    congr 1
    · simp
    · refine List.map_congr_left fun i _ => ?_
      show a + 1 + (i : Int) = a + ((i + 1 : Nat) : Int)
      omega
theorem ivn_len (n : Nat) (a : Int) : (ivn a n).length = n := by rw [ivn_range]; simp
theorem mem_ivn {n : Nat} {a t : Int} : t ∈ ivn a n ↔ a ≤ t ∧ t < a + n := by
  rw [ivn_range, List.mem_map]
  constructor
  · rintro ⟨i, h, rfl⟩
    rw [List.mem_range] at h; omega
  · rintro ⟨h1, h2⟩
    exact ⟨(t - a).toNat, by rw [List.mem_range]; omega, by omega⟩
theorem ivn_add : ∀ (m n : Nat) (a : Int), ivn a (m + n) = ivn a m ++ ivn (a + m) n
  | 0, n, a => by simp [ivn]
  | m + 1, n, a => by
    have e : m + 1 + n = (m + n) + 1 := by omega
    rw [e, ivn, ivn, ivn_add m n (a + 1), List.cons_append]
    congr 3
    omega
theorem upto_ivn (a : Int) (n : Nat) : upto a n = (ivn a n).map .int := by rw [ivn_range, List.map_map]; rfl
end VP

set_option Elab.async false
set_option linter.all false
set_option maxRecDepth 100000
set_option maxHeartbeats 1000000
/-! k30: _law_order. -/
namespace VP
open PySem PySem.Spec PyProof.Rows L2 LamX VS
def keyZ : Key → Int | .inl i => i | .inr _ => 0
def zset (l : List Int) : List Int := (srtK ((l.map Sum.inl).foldl insK [])).map keyZ
theorem keysD_int : ∀ p : List Int, keysD (p.map .int) = some (p.map Sum.inl)
  | [] => rfl
  | x :: p => by rw [List.map_cons, keysD, keysD_int p]; rfl
theorem foldl_inl (l : List Int) : ∀ k ∈ (l.map (Sum.inl : Int → Key)).foldl insK [], ∃ i, k = .inl i := by
  intro k hk
  rcases mem_foldK.mp hk with h | h
  · cases h
  · obtain ⟨x, _, rfl⟩ := List.mem_map.mp h; exact ⟨x, rfl⟩
theorem zset_inl (l : List Int) : srtK ((l.map Sum.inl).foldl insK []) = (zset l).map Sum.inl := by
  unfold zset
  rw [List.map_map]
  have : ∀ k ∈ srtK ((l.map Sum.inl).foldl insK []), ((Sum.inl : Int → Key) ∘ keyZ) k = k := by
    intro k hk
    obtain ⟨i, rfl⟩ := foldl_inl l k ((srtK_perm _).mem_iff.mp hk)
    rfl
  rw [List.map_congr_left this, List.map_id']
theorem mem_zset {l : List Int} {i : Int} : i ∈ zset l ↔ i ∈ l := by
  have h : (Sum.inl i : Key) ∈ (zset l).map Sum.inl ↔ i ∈ zset l := by
    rw [List.mem_map]
    exact ⟨fun ⟨x, h, e⟩ => Sum.inl.inj e ▸ h, fun h => ⟨i, h, rfl⟩⟩
  rw [← h, ← zset_inl, (srtK_perm _).mem_iff, mem_foldK, List.mem_map]
  constructor
  · rintro (h | ⟨x, h, e⟩)
    · cases h
    · exact Sum.inl.inj e ▸ h
  · exact fun h => .inr ⟨i, h, rfl⟩
theorem zset_pw (l : List Int) : (zset l).Pairwise (· < ·) := by
  have h1 : ((zset l).map (Sum.inl : Int → Key)).Pairwise fun a b => leK a b = true := by rw [← zset_inl]; exact srtK_pw _
  have h2 : ((zset l).map (Sum.inl : Int → Key)).Nodup := by rw [← zset_inl]; exact (srtK_perm _).nodup_iff.mpr (nd_foldK _ _ List.nodup_nil)
  rw [List.pairwise_map] at h1
  rw [List.nodup_iff_pairwise_ne, List.pairwise_map] at h2
  refine (h1.and h2).imp fun {a b} h => ?_
  have e1 : a ≤ b := by
    have := h.1
    simpa [leK] using this
  have e2 : a ≠ b := fun e => h.2 (by rw [e])
  omega
theorem sortSet_int {l : List Int} (h : l.length ≤ 4000) : sortSet (.lst (l.map .int)) = .ok (.lst ((zset l).map .int)) := by
  unfold sortSet
  dsimp only
  rw [keysD_int]
  dsimp only
  unfold sortKs
  rw [if_pos ⟨by rw [List.length_map]; unfold scanBound; omega, by unfold sameK; rw [Bool.or_eq_true]; left; rw [List.all_map]; exact List.all_eq_true.mpr fun _ _ => rfl⟩, zset_inl, List.map_map]
  rfl
theorem zset_len (l : List Int) : (zset l).length ≤ l.length := by
  have h := foldK_len (l := l.map Sum.inl) (ks := [])
  unfold zset
  rw [List.length_map, (srtK_perm _).length_eq]
  simpa using h
/-! the order of indices -/
theorem kyI_le (x : Int → Int) (i j : Int) : PySem.W.dataLe false (kyI x) i j = lexB (0 - x i, i) (0 - x j, j) := leD_pp (0 - x i, i) (0 - x j, j)
theorem ordI_eq {x : Int → Int} {n : Nat} {R : List Int} (hp : R.Perm (ivn 0 n)) (hs : R.Pairwise fun i j => lexB (0 - x i, i) (0 - x j, j) = true) : ordI x n = R := by
  have e : (List.range n).map (fun i : Nat => (i : Int)) = ivn 0 n := by
    rw [ivn_range]
    exact List.map_congr_left fun i _ => by omega
  unfold ordI
  rw [e]
  have p1 : ((ivn 0 n).mergeSort (PySem.W.dataLe false (kyI x))).Perm (ivn 0 n) := List.mergeSort_perm _ _
  have s1 : ((ivn 0 n).mergeSort (PySem.W.dataLe false (kyI x))).Pairwise fun i j => PySem.W.dataLe false (kyI x) i j = true :=
    List.pairwise_mergeSort (fun a b c h1 h2 => by rw [kyI_le] at *; exact lexB_trans _ _ _ h1 h2) (fun a b => by rw [kyI_le, kyI_le]; exact lexB_total _ _) _
  refine List.Perm.eq_of_pairwise (fun a b _ _ h q => ?_) s1 (hs.imp fun h => by rw [kyI_le]; exact h) (p1.trans hp.symm)
  rw [kyI_le, lexB_iff] at h q
  dsimp only at h q
  omega
/-- indices, the greatest x first -/
def idx (x : Int → Int) (n : Nat) (ws : List Int) : List Int := ws.flatMap fun w => (ivn 0 n).filter fun i => decide (x i = w)
theorem ivn_pw : ∀ (n : Nat) (a : Int), (ivn a n).Pairwise (· < ·)
  | 0, _ => .nil
  | n + 1, a => by
    rw [ivn, List.pairwise_cons]
    exact ⟨fun t ht => by rw [mem_ivn] at ht; omega, ivn_pw n _⟩
theorem idx_pw {x : Int → Int} {n : Nat} : ∀ {ws : List Int}, ws.Pairwise (· > ·) → (idx x n ws).Pairwise fun i j => lexB (0 - x i, i) (0 - x j, j) = true
  | [], _ => .nil
  | w :: ws, h => by
    rw [List.pairwise_cons] at h
    unfold idx
    rw [List.flatMap_cons, List.pairwise_append]
    refine ⟨?_, idx_pw h.2, fun i hi j hj => ?_⟩
    · have := (ivn_pw n 0).filter fun i => decide (x i = w)
      rw [List.pairwise_filter]
      refine (ivn_pw n 0).imp fun {i j} hij h1 h2 => ?_
      rw [decide_eq_true_iff] at h1 h2
      rw [lexB_iff]; dsimp only; omega
    · obtain ⟨w2, hw2, hj⟩ := List.mem_flatMap.mp hj
      have h1 := of_decide_eq_true (List.mem_filter.mp hi).2
      have h2 := of_decide_eq_true (List.mem_filter.mp hj).2
      have := h.1 w2 hw2
      rw [lexB_iff]; dsimp only; omega
theorem idx_perm {x : Int → Int} {n : Nat} {ws : List Int} (nd : ws.Pairwise (· > ·)) (h : ∀ i : Int, 0 ≤ i → i < n → x i ∈ ws) : (idx x n ws).Perm (ivn 0 n) := by
  refine (List.perm_ext_iff_of_nodup ?_ ?_).mpr fun i => ?_
  · have hp := idx_pw (x := x) (n := n) nd
    have key : ∀ {ws : List Int}, ws.Pairwise (· > ·) → (idx x n ws).Nodup := by
      intro ws
      induction ws with
      | nil => intro _; exact List.nodup_nil
      | cons w ws ih =>
        intro h
        rw [List.pairwise_cons] at h
        unfold idx
        rw [List.flatMap_cons, List.nodup_append]
        refine ⟨((ivn_pw n 0).imp fun h => by omega : (ivn 0 n).Nodup).filter _, ih h.2, fun i hi j hj e => ?_⟩
        obtain ⟨w2, hw2, hj⟩ := List.mem_flatMap.mp hj
        have h1 := of_decide_eq_true (List.mem_filter.mp hi).2
        have h2 := of_decide_eq_true (List.mem_filter.mp hj).2
        have := h.1 w2 hw2
        subst e
        omega
    exact key nd
  · exact (ivn_pw n 0).imp fun h => by omega
  · constructor
    · intro hi
      obtain ⟨w, _, hi⟩ := List.mem_flatMap.mp hi
      exact (List.mem_filter.mp hi).1
    · intro hi
      have hb := mem_ivn.mp hi
      exact List.mem_flatMap.mpr ⟨x i, h i (by omega) (by omega), List.mem_filter.mpr ⟨hi, decide_eq_true rfl⟩⟩
end VP

set_option Elab.async false
set_option linter.all false
set_option maxRecDepth 100000
set_option maxHeartbeats 1000000
/-! k30: _law_order is the order of longest. -/
namespace VP
open PySem PySem.Spec PyProof.Rows L2 LamX VS
def grp (l : Rw) : Rw := (zset (l.map wh)).reverse.flatMap fun w => l.filter fun x => decide (wh x = w)
theorem ivn_map {α : Type} (l : List α) (d : α) : (ivn 0 l.length).map (fun i => l.getD i.toNat d) = l := by
  rw [ivn_range, List.map_map]
  apply List.ext_getElem?
  intro i
  rw [List.getElem?_map]
  by_cases hi : i < l.length
  · rw [List.getElem?_range hi]
    simp [List.getElem?_eq_getElem hi]
  · rw [List.getElem?_eq_none (by simpa using hi), List.getElem?_eq_none (by omega)]; rfl
theorem filter_ivn {l : Rw} (d : Int × Nd) (w : Int) : (((ivn 0 l.length).filter fun i => decide ((l.map wh).getD i.toNat 0 = w)).map fun i => l.getD i.toNat d) = l.filter fun x => decide (wh x = w) := by
  have e := ivn_map l d
  conv => rhs; rw [← e]
  rw [List.filter_map]
  congr 1
  refine List.filter_congr fun i hi => ?_
  rw [mem_ivn] at hi
  have hl : i.toNat < l.length := by omega
  simp [List.getD_eq_getElem?_getD, List.getElem?_eq_getElem hl]
theorem lgr_grp (ts : Trs) : lgr ts = grp (lrw ts) := by
  have hw : ((zset ((lrw ts).map wh)).reverse).Pairwise (· > ·) := by
    rw [List.pairwise_reverse]
    exact (zset_pw _).imp fun h => h
  have o : lgo ts = idx (fun i => ((lrw ts).map wh).getD i.toNat 0) (lrw ts).length (zset ((lrw ts).map wh)).reverse := by
    unfold lgo
    refine ordI_eq (idx_perm hw fun i h0 h1 => ?_) (idx_pw hw)
    rw [List.mem_reverse, mem_zset]
    have hl : i.toNat < (lrw ts).length := by omega
    rw [List.getD_eq_getElem?_getD, List.getElem?_map, List.getElem?_eq_getElem hl]
    exact List.mem_map.mpr ⟨_, List.getElem_mem hl, rfl⟩
  unfold lgr grp
  rw [o]
  unfold idx
  rw [List.map_flatMap]
  congr 1
  funext w
  exact filter_ivn _ w
theorem order_eq {ts : Trs} (t : TG ts) : F__law_order [tD ts] = .ok (.lst ((lgr ts).map lrD)) := by
  have tl := t.tv.len
  have sr := srt_tD t.tv
  have ll : ∀ dn : Trs, (∀ p ∈ dn, p ∈ ts) → (lrw dn).length ≤ 120 * dn.length := by
    intro dn
    induction dn with
    | nil => intro _; exact Nat.le_refl _
    | cons p dn ih =>
      intro h
      have h1 := ih fun q hq => h q (List.mem_cons_of_mem _ hq)
      have h2 := (t.ok p (h p List.mem_cons_self)).2.2.2.2.1
      have h3 := allq_len p.2
      unfold lrw at *
      rw [List.flatMap_cons, List.length_append, List.length_map, List.length_cons]; omega
  obtain ⟨s1, e1, a1, a2, a3⟩ := for_to (e := S__law_order.e) (b := bindT (.nm 1)) (f := L__law_order_1) (u := fun p : Int × Cals => D.int p.1)
    (fun dn s => s.some_ = .im (tD ts) ∧ s.found = .im (.lst ((lrw dn).map lrD)) ∧ s.order_here = .im (.lst [])) ts (by
      rintro dn p rs s e ⟨h1, h2, h3⟩ Q hQ
      have hp : p ∈ ts := by rw [← e]; simp
      have tp := t.ok p hp
      have ix := ix_tD t.tv.nd hp
      have fq := law_flat_eq 8 p.2 [] (by omega) (by omega) (by simp; omega)
      have al := allq_len p.2
      have fl := flq_len p.2 []
      have hd : dn.length < ts.length := by have := congrArg List.length e; simp at this; omega
      have l1 := ll dn fun q hq => by rw [← e]; simp [hq]
      have c1 : C__law_order_1 (S__law_order.e {s with hand := .im (.int p.1)}) = .ok (.lst ((allq p.2).map fun q => lrD (p.1, q))) := by
        have eq1 : ((allq p.2).map fun q => lrD (p.1, q)) = (flq p.2 []).map fun x => lrD (p.1, x.1) := by
          rw [← flq_fst p.2 [], List.map_map]; rfl
        rw [eq1]
        unfold C__law_order_1
        refine compE_all (u := flD) (h := fun x => lrD (p.1, x.1)) (flq p.2 []) ?_ (sl_ge (by omega)) fun x hx => ⟨S__law_order.e {s with hand := .im (.int p.1), one := .im (ndD x.1), above := .im (.tup (x.2.map .str))}, ?_, ?_⟩
        · simp only [List.map_nil] at fq
          simp [h1, ix, fq]
        · simp [flD]
        · simp [ndD, lrD, wh]
      have er : lrw (dn ++ [p]) = lrw dn ++ (allq p.2).map fun q => (p.1, q) := by unfold lrw; simp
      rw [er] at hQ
      have z : (lrw dn).length + (allq p.2).length ≤ sizeLine := by rw [sizeLine_eq]; omega
      simp only [h1, h2, h3] at c1
      simp [L__law_order_1, h1, h2, h3, c1, z]
      refine to_nx (hQ _ ?_)
      exact ⟨rfl, by simp [Function.comp_def], rfl⟩) (S__law_order.mk (.im (tD ts)) .un .un (.im (.lst [])) (.im (.lst [])) .un .un) ⟨rfl, rfl, rfl⟩
  have lt := ll ts fun p hp => hp
  obtain ⟨l, hlr⟩ : ∃ l, l = lrw ts := ⟨_, rfl⟩
  have c2 : C__law_order_2 s1.e = .ok (.lst (((lrw ts).map wh).map .int)) := by
    rw [List.map_map]
    unfold C__law_order_2
    refine compE_all (u := lrD) (lrw ts) ?_ (sl_ge (by omega)) fun x hx => ⟨S__law_order.e {s1 with one := .im (lrD x)}, ?_, ?_⟩
    · simp [a2]
    · simp
    · simp [lrD]
  have so := sortSet_int (l := (lrw ts).map wh) (by rw [List.length_map]; omega)
  have zl := zset_len ((lrw ts).map wh)
  rw [List.length_map] at zl
  have gl : ∀ ws : List Int, ws.Nodup → (ws.flatMap fun w => (lrw ts).filter fun x => decide (wh x = w)).length ≤ (lrw ts).length := by
    intro ws nd
    have key : ∀ (l : Rw), (ws.flatMap fun w => l.filter fun x => decide (wh x = w)).length ≤ l.length := by
      intro l
      induction l with
      | nil =>
        have : (ws.flatMap fun w => ([] : Rw).filter fun x => decide (wh x = w)) = [] := by simp
        rw [this]; exact Nat.le_refl _
      | cons x l ih =>
        have h : ∀ ws : List Int, ws.Nodup → (ws.flatMap fun w => (x :: l).filter fun x => decide (wh x = w)).length ≤ (ws.flatMap fun w => l.filter fun x => decide (wh x = w)).length + if wh x ∈ ws then 1 else 0 := by
          intro ws
          induction ws with
          | nil => intro _; simp
          | cons w ws ih =>
            intro nd
            rw [List.nodup_cons] at nd
            have := ih nd.2
            rw [List.flatMap_cons, List.flatMap_cons, List.length_append, List.length_append, List.filter_cons]
            by_cases e : wh x = w
            · have e1 : decide (wh x = w) = true := decide_eq_true e
              rw [e] at this ⊢
              rw [if_neg nd.1] at this
              rw [decide_eq_true rfl, if_pos List.mem_cons_self]
              simp only [if_true, List.length_cons]; omega
            · rw [decide_eq_false e]
              simp only [Bool.false_eq_true, if_false]
              by_cases hm : wh x ∈ ws
              · rw [if_pos hm] at this
                rw [if_pos (List.mem_cons_of_mem _ hm)]; omega
              · rw [if_neg hm] at this
                rw [if_neg (by rw [List.mem_cons, not_or]; exact ⟨e, hm⟩)]; omega
        have := h ws nd
        rw [List.length_cons]
        split at this <;> omega
    exact key _
  obtain ⟨s2, e2, b1, b2⟩ := for_to (e := S__law_order.e) (b := bindT (.nm 2)) (f := L__law_order_2) (u := D.int)
    (fun dn s => s.found = .im (.lst ((lrw ts).map lrD)) ∧ s.order_here = .im (.lst ((dn.flatMap fun w => (lrw ts).filter fun x => decide (wh x = w)).map lrD))) (zset ((lrw ts).map wh)).reverse (by
      rintro dn w rs s e ⟨h1, h2⟩ Q hQ
      have ndw : (dn ++ w :: rs).Nodup := by
        rw [e, List.nodup_iff_pairwise_ne, List.pairwise_reverse]
        exact (zset_pw _).imp fun h => by omega
      have g1 := gl dn (List.nodup_append.mp ndw).1
      have fl := List.length_filter_le (fun x => decide (wh x = w)) (lrw ts)
      have c3 : C__law_order_3 (S__law_order.e {s with time := .im (.int w)}) = .ok (.lst (((lrw ts).filter fun x => decide (wh x = w)).map lrD)) := by
        unfold C__law_order_3
        refine compE_filter (u := lrD) (p := fun x => decide (wh x = w)) (h := lrD) (lrw ts) ?_ (sl_ge (by omega)) fun x hx => ⟨S__law_order.e {s with time := .im (.int w), one := .im (lrD x)}, ?_, ?_, ?_⟩
        · simp [h1]
        · simp
        · simp [lrD]
        · intro _; simp
      have er : ((dn ++ [w]).flatMap fun w => (lrw ts).filter fun x => decide (wh x = w)) = (dn.flatMap fun w => (lrw ts).filter fun x => decide (wh x = w)) ++ (lrw ts).filter fun x => decide (wh x = w) := by simp
      rw [er] at hQ
      generalize (dn.flatMap fun w => (lrw ts).filter fun x => decide (wh x = w)) = ac at *
      generalize ((lrw ts).filter fun x => decide (wh x = w)) = fi at *
      have z : ac.length + fi.length ≤ sizeLine := by rw [sizeLine_eq]; omega
      simp only [h1, h2] at c3
      simp [L__law_order_2, h1, h2, c3, z]
      refine to_nx (hQ _ ?_)
      exact ⟨rfl, by simp⟩) s1 ⟨a2, a3⟩
  have eg : (lgr ts) = (zset ((lrw ts).map wh)).reverse.flatMap fun w => (lrw ts).filter fun x => decide (wh x = w) := lgr_grp ts
  rw [← eg] at b2
  rw [List.map_reverse] at e2
  unfold F__law_order b__law_order
  rw [e_run, S__law_order.st]
  simp [-List.map_map, sr, e1, c2, so, e2, b2]
end VP

set_option Elab.async false
set_option linter.all false
set_option maxRecDepth 100000
set_option maxHeartbeats 1000000
/-! k30: _law_table is table. -/
namespace VP
open PySem PySem.Spec PyProof.Rows L2 LamX VS
/-- outermost calls of a name, by what is above -/
theorem flq_tot (n : Str) : ∀ (c : Cals) (ab : List Str), tot (outq c ab) n = (((flq c ab).filter fun x => decide (x.1.n = n) && !decide (n ∈ x.2)).map fun x => whq x.1).sum
  | .nil, _ => rfl
  | .cons m a b i r, ab => by
    rw [outq_cons, flq_cons, tot_app, tot_app, flq_tot n i, flq_tot n r, List.filter_cons, List.filter_append]
    by_cases e : m = n
    · subst e
      by_cases h : m ∈ ab
      · simp [h, tot_nil]
      · simp [h, tot_cons, tot_nil, whq]
    · have z : tot (if m ∈ ab then [] else [(m, b - a)]) n = 0 := by
        split
        · rfl
        · rw [tot_cons, tot_nil]; simp [e]
      simp [e, z]
theorem inF_strT {neg : Bool} (n : Str) (ar : List Str) : inF neg (.str n) (.tup (ar.map .str)) = .ok (.bl (if neg then !decide (n ∈ ar) else decide (n ∈ ar))) := by
  have := inF_str (neg := neg) n ar
  unfold inF at *
  exact this
def mine (ts : Trs) (n : Str) : Fl := (alq ts).filter fun x => decide (x.1.n = n)
theorem mine_cnt (ts : Trs) (n : Str) : ((mine ts n).length : Int) = gt (tC ts) n := by
  rw [gt_tC', ← alq_fst]
  unfold mine sk
  generalize alq ts = l
  induction l with
  | nil => rfl
  | cons x l ih =>
    rw [List.filter_cons, List.map_cons, List.map_cons, List.sum_cons, ← ih]
    by_cases e : x.1.n = n
    · simp [e]; omega
    · simp [e]
theorem mine_own (ts : Trs) (n : Str) : ((mine ts n).map fun x => ownq x.1).sum = gt (tO ts) n := by
  rw [gt_tO, ← alq_fst]
  unfold mine sk
  generalize alq ts = l
  induction l with
  | nil => rfl
  | cons x l ih =>
    rw [List.filter_cons, List.map_cons, List.map_cons, List.sum_cons, ← ih]
    by_cases e : x.1.n = n
    · simp [e]
    · simp [e]
theorem mine_lone (ts : Trs) (n : Str) : (((mine ts n).filter fun x => !decide (n ∈ x.2)).map fun x => whq x.1).sum = gt (tW ts) n := by
  unfold tW outs mine alq
  rw [gt_bumps0, List.filter_filter]
  induction ts with
  | nil => rfl
  | cons p ts ih =>
    rw [List.flatMap_cons, List.flatMap_cons, tot_app, List.filter_append, List.map_append, List.sum_append, ih, flq_tot]
    congr 3
    refine List.filter_congr fun x _ => ?_
    rw [Bool.and_comm]
theorem law_own_eq (q : Nd) (hc : cnt q.i ≤ 1000) : F__law_own [ndD q] = .ok (.int (ownq q)) := by
  have tl := tops_len q.i
  have x1 : ixT (ndD q) (.int 1) = .ok (.int q.a) := by unfold ndD; simp
  have x2 : ixT (ndD q) (.int 2) = .ok (.int q.b) := by unfold ndD; simp
  have x3 : ixT (ndD q) (.int 3) = .ok (cD q.i) := by unfold ndD; simp
  have c1 : ∀ s : S__law_own, s.one = .im (ndD q) → C__law_own_1 s.e = .ok (.lst ((tops q.i).map fun r => .int (whq r))) := fun s h => by
    unfold C__law_own_1
    refine compE_all (u := ndD) (h := fun r => .int (whq r)) (tops q.i) ?_ (sl_ge (by omega)) fun r hr => ⟨S__law_own.e {s with inner := .im (ndD r)}, ?_, ?_⟩
    · simp [h, x3, toDs_tops]
    · simp
    · simp [ndD, whq]
  have m : sumD [.lst ((tops q.i).map fun r => .int (whq r))] = .ok (.int (tsum q.i)) := by
    have e : ((tops q.i).map fun r => D.int (whq r)) = ((tops q.i).map whq).map .int := by rw [List.map_map]; rfl
    unfold sumD
    dsimp only
    rw [e, intsD_map]; rfl
  unfold F__law_own b__law_own
  rw [e_run, S__law_own.st]
  simp [x1, x2, c1, m, ownq]
theorem nms_sset (ts : Trs) : sset ((evq ts).map (·.n)) = nms ts := by
  refine eq_of_inr ?_
  unfold nms
  rw [← sset_inr, ← nms_inr]
  refine srtK_of_perm ?_
  refine (List.perm_ext_iff_of_nodup (nd_foldK _ _ List.nodup_nil) ?_).mpr fun k => ?_
  · have nd : ((tC ts).map (·.1)).Nodup := nd_bumps _ _ (by simp)
    have e : ksI (tC ts) = ((tC ts).map (·.1)).map Sum.inr := by unfold ksI; rw [List.map_map]; rfl
    rw [e, List.nodup_iff_pairwise_ne, List.pairwise_map]
    rw [List.nodup_iff_pairwise_ne] at nd
    exact nd.imp fun h z => h (Sum.inr.inj z)
  · rw [mem_foldK]
    unfold ksI
    constructor
    · rintro (h | h)
      · cases h
      · obtain ⟨x, hx, rfl⟩ := List.mem_map.mp h
        obtain ⟨p, hp, e⟩ := List.mem_map.mp (mem_tC.mpr hx)
        exact List.mem_map.mpr ⟨p, hp, by rw [e]⟩
    · intro h
      obtain ⟨p, hp, rfl⟩ := List.mem_map.mp h
      exact .inr (List.mem_map.mpr ⟨p.1, mem_tC.mp (List.mem_map.mpr ⟨p, hp, rfl⟩), rfl⟩)
theorem alq_ok {ts : Trs} (t : TV ts) : ∀ x ∈ alq ts, x.1 ∈ evq ts := fun x hx => by rw [← alq_fst]; exact List.mem_map.mpr ⟨x, hx, rfl⟩
theorem alq_len {ts : Trs} (t : TG ts) : (alq ts).length ≤ 480 := by
  have h := congrArg List.length (alq_fst ts)
  rw [List.length_map] at h
  have tl := t.tv.len
  have : ∀ dn : Trs, (∀ p ∈ dn, p ∈ ts) → (evq dn).length ≤ 120 * dn.length := by
    intro dn
    induction dn with
    | nil => intro _; exact Nat.le_refl _
    | cons p dn ih =>
      intro hh
      have h1 := ih fun q hq => hh q (List.mem_cons_of_mem _ hq)
      have h2 := (t.ok p (hh p List.mem_cons_self)).2.2.2.2.1
      have h3 := allq_len p.2
      unfold evq at *
      rw [List.flatMap_cons, List.length_append, List.length_cons]; omega
  have := this ts fun p hp => hp
  omega
theorem law_table_eq {ts : Trs} (t : TG ts) : F__law_table [.lst ((alq ts).map flD)] = .ok (.lst ((nms ts).map (rowD ts))) := by
  have al := alq_len t
  have nl : (nms ts).length ≤ 6 := by
    have := tC_len t.tv
    unfold nms
    rw [nmsC_len]; exact this
  have c1 : ∀ s : S__law_table, s.rows = .im (.lst ((alq ts).map flD)) → C__law_table_1 s.e = .ok (.lst ((alq ts).map fun x => .str x.1.n)) := fun s h => by
    unfold C__law_table_1
    refine compE_all (u := flD) (h := fun x => .str x.1.n) (alq ts) ?_ (sl_ge (by omega)) fun x hx => ⟨S__law_table.e {s with one := .im (ndD x.1), above := .im (.tup (x.2.map .str))}, ?_, ?_⟩
    · simp [h]
    · simp [flD]
    · simp [ndD]
  have ss : sortSet (.lst ((alq ts).map fun x => .str x.1.n)) = .ok (.lst ((nms ts).map .str)) := by
    have e : ((alq ts).map fun x => D.str x.1.n) = ((evq ts).map (·.n)).map .str := by rw [← alq_fst, List.map_map, List.map_map]; rfl
    have h := congrArg List.length (alq_fst ts)
    rw [List.length_map] at h
    have := sortSet_eq (p := (evq ts).map (·.n)) (by rw [List.length_map]; omega)
    rw [nms_sset] at this
    rw [e]
    exact this
  obtain ⟨s1, e1, p1, p2⟩ := for_to (e := S__law_table.e) (b := bindT (.nm 2)) (f := L__law_table_1) (u := D.str)
    (fun dn s => s.rows = .im (.lst ((alq ts).map flD)) ∧ s.found = .ow (dn.map (rowD ts))) (nms ts) (by
      rintro dn n rs s e ⟨h1, h2⟩ Q hQ
      have hd : dn.length < (nms ts).length := by have := congrArg List.length e; simp at this; omega
      have hn : n ∈ nms ts := by rw [← e]; simp
      have nn : n ∈ NM := by
        obtain ⟨q, hq, rfl⟩ := List.mem_map.mp (mem_tC.mp (mem_nms.mp hn))
        exact evq_names t.tv q hq
      have ml : (mine ts n).length ≤ (alq ts).length := List.length_filter_le _ _
      have c2 : ∀ s : S__law_table, s.rows = .im (.lst ((alq ts).map flD)) → s.name_here = .im (.str n) → C__law_table_2 s.e = .ok (.lst ((mine ts n).map flD)) := fun s h g => by
        unfold C__law_table_2 mine
        refine compE_filter (u := flD) (p := fun x => decide (x.1.n = n)) (h := flD) (alq ts) ?_ (sl_ge (by omega)) fun x hx => ⟨S__law_table.e {s with one := .im (ndD x.1), above := .im (.tup (x.2.map .str))}, ?_, ?_, ?_⟩
        · simp [h]
        · simp [flD]
        · have := eq_nm (evq_names t.tv x.1 (alq_ok t.tv x hx)) nn
          simp [ndD, g, this]
        · intro _; simp [flD]
      have c3 : ∀ s : S__law_table, s.mine = .im (.lst ((mine ts n).map flD)) → s.name_here = .im (.str n) → C__law_table_3 s.e = .ok (.lst (((mine ts n).filter fun x => !decide (n ∈ x.2)).map fun x => .int (whq x.1))) := fun s h g => by
        unfold C__law_table_3
        refine compE_filter (u := flD) (p := fun x => !decide (n ∈ x.2)) (h := fun x => .int (whq x.1)) (mine ts n) ?_ (sl_ge (by omega)) fun x hx => ⟨S__law_table.e {s with one := .im (ndD x.1), above := .im (.tup (x.2.map .str))}, ?_, ?_, ?_⟩
        · simp [h]
        · simp [flD]
        · have := inF_strT (neg := true) n x.2
          simp [g, this]
        · intro _; simp [ndD, whq]
      have c4 : ∀ s : S__law_table, s.mine = .im (.lst ((mine ts n).map flD)) → C__law_table_4 s.e = .ok (.lst ((mine ts n).map fun x => .int (ownq x.1))) := fun s h => by
        unfold C__law_table_4
        refine compE_all (u := flD) (h := fun x => .int (ownq x.1)) (mine ts n) ?_ (sl_ge (by omega)) fun x hx => ⟨S__law_table.e {s with one := .im (ndD x.1), above := .im (.tup (x.2.map .str))}, ?_, ?_⟩
        · simp [h]
        · simp [flD]
        · have hq := alq_ok t.tv x (List.mem_filter.mp hx).1
          have := law_own_eq x.1 (evq_cnt (fun p hp => (t.tv.ok p hp).2.2.2.2) hq)
          simp [this]
      have m4 : sumD [.lst ((mine ts n).map fun x => .int (ownq x.1))] = .ok (.int (gt (tO ts) n)) := by
        have e : ((mine ts n).map fun x => D.int (ownq x.1)) = ((mine ts n).map fun x => ownq x.1).map .int := by rw [List.map_map]; rfl
        unfold sumD
        dsimp only
        rw [e, intsD_map]
        dsimp only
        rw [mine_own]
      have m3 : sumD [.lst (((mine ts n).filter fun x => !decide (n ∈ x.2)).map fun x => .int (whq x.1))] = .ok (.int (gt (tW ts) n)) := by
        have e : (((mine ts n).filter fun x => !decide (n ∈ x.2)).map fun x => D.int (whq x.1)) = (((mine ts n).filter fun x => !decide (n ∈ x.2)).map fun x => whq x.1).map .int := by rw [List.map_map]; rfl
        unfold sumD
        dsimp only
        rw [e, intsD_map]
        dsimp only
        rw [mine_lone]
      have mc := mine_cnt ts n
      have lm : lenD [.lst ((mine ts n).map flD)] = .ok (.int (gt (tC ts) n)) := by
        show R.ok (D.int (((mine ts n).map flD).length : Int)) = _
        rw [List.length_map, mc]
      have k2 := c2 {s with name_here := .im (.str n)} h1 rfl
      refine (?_ : To S__law_table.e Q (L__law_table_1 (S__law_table.e {s with name_here := .im (.str n)})))
      refine to_seq {s with name_here := .im (.str n), mine := .ow ((mine ts n).map flD)} (by rw [e_own, k2]; rfl) ?_
      have k3 := c3 {s with name_here := .im (.str n), mine := .im (.lst ((mine ts n).map flD))} rfl rfl
      refine to_seq {s with name_here := .im (.str n), mine := .im (.lst ((mine ts n).map flD)), lone := .ow (((mine ts n).filter fun x => !decide (n ∈ x.2)).map fun x => .int (whq x.1))} ?_ ?_
      · simp only [e_frz, S__law_table.g3, e_fzl, S__law_table.w3]
        rw [e_own, k3]; rfl
      have k4 := c4 {s with name_here := .im (.str n), mine := .im (.lst ((mine ts n).map flD)), lone := .ow (((mine ts n).filter fun x => !decide (n ∈ x.2)).map fun x => .int (whq x.1))} rfl
      have z : dn.length < sizeLine := by rw [sizeLine_eq]; omega
      generalize ((mine ts n).map flD) = M at *
      generalize (((mine ts n).filter fun x => !decide (n ∈ x.2)).map fun x => D.int (whq x.1)) = N at *
      generalize ((mine ts n).map fun x => D.int (ownq x.1)) = O at *
      simp only [h1, h2] at k4
      simp [-v_lenL, h1, h2, lm, m3, k4, m4, z]
      refine to_nx (hQ _ ?_)
      exact ⟨rfl, by simp [rowD]⟩) (S__law_table.mk (.im (.lst ((alq ts).map flD))) (.ow []) .un .un .un .un .un) ⟨rfl, rfl⟩
  unfold F__law_table b__law_table
  rw [e_run, S__law_table.st]
  simp [-List.map_map, c1, ss, e1, p2]
end VP

set_option Elab.async false
set_option linter.all false
set_option maxRecDepth 100000
set_option maxHeartbeats 1000000
/-! k30: _law_callers: a dict of lists by name. -/
namespace VP
open PySem PySem.Spec PyProof.Rows L2 LamX VS
def fD (ks : List Str) (f : Str → D) : List (Key × D) := ks.map fun c => ((Sum.inr c : Key), f c)
theorem lk_fD (ks : List Str) (f : Str → D) (c : Str) : lk (fD ks f) (.inr c) = if c ∈ ks then some (f c) else none := by
  induction ks with
  | nil => rfl
  | cons k ks ih =>
    unfold lk fD at *
    rw [List.map_cons, List.find?_cons]
    by_cases e : k = c
    · subst e; simp
    · have h : decide ((Sum.inr k : Key) = Sum.inr c) = false := decide_eq_false fun z => e (Sum.inr.inj z)
      have e' : ¬ c = k := fun z => e z.symm
      simp only [h]
      rw [ih]
      simp [e']
theorem any_fD (ks : List Str) (f : Str → D) (c : Str) : (fD ks f).any (fun kv => decide (kv.1 = (Sum.inr c : Key))) = decide (c ∈ ks) := by
  unfold fD
  rw [List.any_map]
  induction ks with
  | nil => rfl
  | cons k ks ih =>
    rw [List.any_cons, ih]
    by_cases e : k = c
    · subst e; simp
    · have e' : ¬ c = k := fun z => e z.symm
      have h : decide ((Sum.inr k : Key) = Sum.inr c) = false := decide_eq_false fun z => e (Sum.inr.inj z)
      simp only [Function.comp_apply, h, Bool.false_or, List.mem_cons, e', false_or]
theorem pk_fD (ks : List Str) (f : Str → D) (c : Str) (v : D) : pk (fD ks f) (.inr c) v = fD (if c ∈ ks then ks else ks ++ [c]) (fun k => if k = c then v else f k) := by
  unfold pk
  rw [any_fD]
  by_cases h : c ∈ ks
  · rw [if_pos (decide_eq_true h), if_pos h]
    unfold fD
    rw [List.map_map]
    refine List.map_congr_left fun k _ => ?_
    by_cases e : k = c
    · subst e; simp
    · have : ¬ (Sum.inr k : Key) = Sum.inr c := fun z => e (Sum.inr.inj z)
      simp [e, this]
  · rw [if_neg (by simp [h]), if_neg h]
    unfold fD
    rw [List.map_append]
    congr 1
    · refine List.map_congr_left fun k hk => ?_
      have : k ≠ c := fun e => h (e ▸ hk)
      simp [this]
    · simp
/-- callers' whole times, in the order of the rows -/
def lcl (l : Fl) (n : Str) : Cnt := (l.filter fun x => decide (x.1.n = n)).map fun x => (x.2.getLast?.getD "", whq x.1)
def vD (l : Cnt) (c : Str) : D := .lst ((l.filter fun p => decide (p.1 = c)).map fun p => .int p.2)
def ksL (l : Cnt) : List Str := (bumps [] l).map (·.1)
theorem ksL_app (l : Cnt) (c : Str) (w : Int) : ksL (l ++ [(c, w)]) = if c ∈ ksL l then ksL l else ksL l ++ [c] := by
  unfold ksL
  rw [bumps_app]
  show (bump (bumps [] l) c w).map (·.1) = _
  rw [keys_bump]
  by_cases h : c ∈ (bumps [] l).map (·.1)
  · rw [if_pos h, if_pos (hs_iff.mpr h)]
  · rw [if_neg h, if_neg (fun z => h (hs_iff.mp z))]
theorem mem_ksL {l : Cnt} {c : Str} : c ∈ ksL l ↔ c ∈ l.map (·.1) := by
  unfold ksL; rw [keys_bumps]; simp
theorem vD_none {l : Cnt} {c : Str} (h : c ∉ ksL l) : vD l c = .lst [] := by
  rw [mem_ksL] at h
  unfold vD
  have : l.filter (fun p => decide (p.1 = c)) = [] := by
    rw [List.filter_eq_nil_iff]
    intro p hp e
    exact h (List.mem_map.mpr ⟨p, hp, of_decide_eq_true e⟩)
  rw [this]; rfl
theorem get_fD (l : Cnt) (c : Str) : getD2 (.dK (fD (ksL l) (vD l))) (.str c) (.lst []) = .ok (vD l c) := by
  unfold getD2
  show (match (some (.inr c : Key)).map fun k => lk (fD (ksL l) (vD l)) k with | some o => R.ok (o.getD (.lst [])) | _ => .no) = _
  rw [Option.map_some, lk_fD]
  by_cases h : c ∈ ksL l
  · rw [if_pos h]; rfl
  · rw [if_neg h, vD_none h]; rfl
theorem put_fD (l : Cnt) (c : Str) (w : Int) (hl : (ksL l).length < sizeLine) : putS (.oK (fD (ksL l) (vD l))) (.str c) (vD (l ++ [(c, w)]) c) = some (.oK (fD (ksL (l ++ [(c, w)])) (vD (l ++ [(c, w)])))) := by
  have h : (fD (ksL l) (vD l)).length < sizeLine := by unfold fD; rw [List.length_map]; exact hl
  show (some (.inr c : Key)).bind (fun k => if (fD (ksL l) (vD l)).length < sizeLine then some (Sl.oK (pk (fD (ksL l) (vD l)) k (vD (l ++ [(c, w)]) c))) else none) = _
  rw [Option.bind_some, if_pos h, pk_fD, ksL_app]
  congr 3
  funext k
  by_cases e : k = c
  · subst e; simp
  · have e' : ¬ c = k := fun z => e z.symm
    rw [if_neg e]
    unfold vD
    rw [List.filter_append]
    simp [e']
theorem vD_app (l : Cnt) (c : Str) (w : Int) : vD (l ++ [(c, w)]) c = .lst (((l.filter fun p => decide (p.1 = c)).map fun p => D.int p.2) ++ [.int w]) := by
  unfold vD
  rw [List.filter_append, List.map_append]
  simp
end VP

set_option Elab.async false
set_option linter.all false
set_option maxRecDepth 100000
set_option maxHeartbeats 1000000
/-! k30: _law_callers is callers. -/
namespace VP
open PySem PySem.Spec PyProof.Rows L2 LamX VS
def lastD (ab : List Str) : Str := ab.getLast?.getD ""
theorem flq_rel (F : Str → Nd → Int) : ∀ (c : Cals) (ab : List Str), ((flq c ab).map fun x => F (lastD x.2) x.1).sum = ((tops c).map (F (lastD ab))).sum + ((allq c).map fun q => ((tops q.i).map (F q.n)).sum).sum
  | .nil, _ => rfl
  | .cons n a b i r, ab => by
    have h1 := flq_rel F i (ab ++ [n])
    have h2 := flq_rel F r ab
    have e : lastD (ab ++ [n]) = n := by unfold lastD; simp
    rw [e] at h1
    show ((((⟨n, a, b, i⟩ : Nd), ab) :: (flq i (ab ++ [n]) ++ flq r ab)).map fun x => F (lastD x.2) x.1).sum = (((⟨n, a, b, i⟩ : Nd) :: tops r).map (F (lastD ab))).sum + (((⟨n, a, b, i⟩ : Nd) :: (allq i ++ allq r)).map fun q => ((tops q.i).map (F q.n)).sum).sum
    simp only [List.map_cons, List.map_append, List.sum_cons, List.sum_append]
    omega
theorem alq_rel (F : Str → Nd → Int) (ts : Trs) : ((alq ts).map fun x => F (lastD x.2) x.1).sum = ((crw ts).map fun x => ((tops x.2).map (F x.1)).sum).sum := by
  unfold alq crw evq
  rw [List.map_append, List.map_map, List.map_map, List.sum_append]
  induction ts with
  | nil => rfl
  | cons p ts ih =>
    have h := flq_rel F p.2 []
    have e0 : lastD [] = "" := rfl
    rw [e0] at h
    simp only [List.map_cons, List.sum_cons, List.flatMap_cons, List.map_append, List.sum_append] at *
    have e1 : ((fun x : Str × Cals => ((tops x.2).map (F x.1)).sum) ∘ fun p : Int × Cals => (("" : Str), p.2)) p = ((tops p.2).map (F "")).sum := rfl
    have e2 : ((allq p.2).map ((fun x : Str × Cals => ((tops x.2).map (F x.1)).sum) ∘ fun q : Nd => (q.n, q.i))) = (allq p.2).map fun q => ((tops q.i).map (F q.n)).sum := rfl
    rw [e1, e2]
    omega
theorem lcl_tot (g : Int → Int) (ts : Trs) (n c : Str) : (((lcl (alq ts) n).map fun p => if p.1 = c then g p.2 else 0)).sum = ((cps ts n).map fun p => if p.1 = c then g p.2 else 0).sum := by
  have h := alq_rel (fun a q => if q.n = n then (if a = c then g (whq q) else 0) else 0) ts
  have e1 : ((lcl (alq ts) n).map fun p => if p.1 = c then g p.2 else 0).sum = ((alq ts).map fun x => if x.1.n = n then (if lastD x.2 = c then g (whq x.1) else 0) else 0).sum := by
    unfold lcl
    generalize alq ts = l
    rw [List.map_map]
    induction l with
    | nil => rfl
    | cons x l ih =>
      rw [List.filter_cons, List.map_cons, List.sum_cons, ← ih]
      by_cases e : x.1.n = n
      · simp [e]; rfl
      · simp [e]
  have e2 : ((cps ts n).map fun p => if p.1 = c then g p.2 else 0).sum = ((crw ts).map fun x => ((tops x.2).map fun q => if q.n = n then (if x.1 = c then g (whq q) else 0) else 0).sum).sum := by
    unfold cps
    generalize crw ts = l
    induction l with
    | nil => rfl
    | cons x l ih =>
      rw [List.flatMap_cons, List.map_append, List.sum_append, ih, List.map_cons, List.sum_cons]
      congr 1
      unfold cps1
      rw [List.map_map]
      generalize tops x.2 = k
      induction k with
      | nil => rfl
      | cons q k ih =>
        rw [List.filter_cons, List.map_cons, List.sum_cons, ← ih]
        by_cases e : q.n = n
        · simp [e]; rfl
        · simp [e]
  rw [e1, e2]; exact h
theorem tot1_eq (ts : Trs) (n c : Str) : tot (one1 (lcl (alq ts) n)) c = tot (one1 (cps ts n)) c := by
  have := lcl_tot (fun _ => 1) ts n c
  unfold tot one1
  rw [List.map_map, List.map_map]; exact this
theorem totW_eq (ts : Trs) (n c : Str) : tot (lcl (alq ts) n) c = tot (cps ts n) c := lcl_tot (fun w => w) ts n c
theorem mem_tot1 (l : Cnt) (c : Str) : c ∈ l.map (·.1) ↔ 0 < tot (one1 l) c := by
  have nn : ∀ l : Cnt, 0 ≤ tot (one1 l) c := by
    intro l
    induction l with
    | nil => exact Int.le_refl _
    | cons p l ih => show 0 ≤ tot ((p.1, 1) :: one1 l) c; rw [tot_cons]; dsimp only; split <;> omega
  induction l with
  | nil => simp [one1, tot_nil]
  | cons p l ih =>
    have h := nn l
    show _ ↔ 0 < tot ((p.1, 1) :: one1 l) c
    rw [List.map_cons, List.mem_cons, tot_cons]
    dsimp only
    by_cases e : p.1 = c
    · rw [if_pos e]
      exact ⟨fun _ => by omega, fun _ => .inl e.symm⟩
    · rw [if_neg e, Int.zero_add]
      exact ⟨fun z => ih.mp (z.elim (fun q => absurd q.symm e) id), fun z => .inr (ih.mpr z)⟩
theorem keys_eq (ts : Trs) (n : Str) : nmsC (bumps [] (lcl (alq ts) n)) = nmsC (cC ts n) := by
  refine eq_of_inr ?_
  rw [← nms_inr, ← nms_inr]
  refine srtK_of_perm ?_
  have e : ∀ cs : Cnt, ksI cs = (cs.map (·.1)).map Sum.inr := fun cs => by unfold ksI; rw [List.map_map]; rfl
  rw [e, e]
  refine List.Perm.map _ ?_
  refine (List.perm_ext_iff_of_nodup (nd_bumps _ _ (by simp)) (nd_bumps _ _ (by simp))).mpr fun c => ?_
  rw [keys_bumps]
  show _ ↔ c ∈ (bumps [] (one1 (cps ts n))).map (·.1)
  rw [bumps_keys1, mem_tot1 (cps ts n), ← tot1_eq, ← mem_tot1]
  simp
end VP

set_option Elab.async false
set_option linter.all false
set_option maxRecDepth 100000
set_option maxHeartbeats 1000000
/-! k30: _law_callers. -/
namespace VP
open PySem PySem.Spec PyProof.Rows L2 LamX VS
theorem lcl_app (l : Fl) (x : Nd × List Str) (n : Str) : lcl (l ++ [x]) n = lcl l n ++ if x.1.n = n then [(lastD x.2, whq x.1)] else [] := by
  unfold lcl
  rw [List.filter_append, List.map_append]
  by_cases e : x.1.n = n
  · simp [e]; rfl
  · simp [e]
theorem ksL_len (l : Cnt) : (ksL l).length ≤ l.length := by
  have := len_bumps l []
  unfold ksL
  rw [List.length_map]
  simpa using this
theorem lastD_ix {ab : List Str} (h : ab ≠ []) : ixT (.tup (ab.map .str)) (.int (-1)) = .ok (.str (lastD ab)) := by
  rcases List.eq_nil_or_concat ab with e | ⟨i, x, e⟩
  · exact absurd e h
  · rw [List.concat_eq_append] at e
    subst e
    unfold ixT atI
    dsimp only
    rw [ixN_last (by simp)]
    simp [lastD]
theorem ne_tupS {ab : List Str} (h : ∀ x ∈ ab, x ∈ NM) : cmNe (.tup (ab.map .str)) (.tup []) = .ok (.bl (!ab.isEmpty)) := by
  have h0 := lay_all (ds := ab.map .str) fun d hd => by
    obtain ⟨c, hc, rfl⟩ := List.mem_map.mp hd
    exact okR_str (h c hc)
  have h1 : shp (.tup (ab.map .str)) = true := by
    unfold shp
    rw [Bool.and_eq_true]
    refine ⟨by simp [toPy, PyData.canLay0, h0.1], decide_eq_true ?_⟩
    show (PyData.tuple (toPys (ab.map .str))).depth ≤ 200
    unfold PyData.depth
    have := h0.2
    omega
  have h2 : shp (.tup []) = true := rfl
  unfold cmNe
  rw [h1, h2]
  cases ab <;> rfl
theorem flq_above {c : Cals} : ∀ {ab : List Str}, (∀ q ∈ allq c, q.n ∈ NM) → (∀ x ∈ ab, x ∈ NM) → ∀ x ∈ flq c ab, ∀ y ∈ x.2, y ∈ NM := by
  induction c with
  | nil => intro _ _ _ x hx; cases hx
  | cons n a b i r ih1 ih2 =>
    intro ab h1 h2 x hx
    rw [flq_cons] at hx
    have hi : ∀ q ∈ allq i, q.n ∈ NM := fun q hq => h1 q (List.mem_cons_of_mem _ (List.mem_append_left _ hq))
    have hr : ∀ q ∈ allq r, q.n ∈ NM := fun q hq => h1 q (List.mem_cons_of_mem _ (List.mem_append_right _ hq))
    have hn : n ∈ NM := h1 ⟨n, a, b, i⟩ List.mem_cons_self
    rcases List.mem_cons.mp hx with rfl | hx
    · exact h2
    · rcases List.mem_append.mp hx with hx | hx
      · exact ih1 hi (fun y hy => by
          rcases List.mem_append.mp hy with hy | hy
          · exact h2 y hy
          · rw [List.mem_singleton] at hy; subst hy; exact hn) x hx
      · exact ih2 hr h2 x hx
theorem law_callers_eq {ts : Trs} (t : TG ts) {n : Str} (hn : NmOk n) : F__law_callers [.lst ((alq ts).map flD), .str n] = .ok (.lst ((nmsC (cC ts n)).map (crow ts n))) := by
  have al := alq_len t
  obtain ⟨s1, e1, p1, p2, p3⟩ := for_to (e := S__law_callers.e) (b := bindT (.tp (.cons (.nm 3) (.cons (.nm 4) .nil)))) (f := L__law_callers_1) (u := flD)
    (fun dn s => s.rows = .im (.lst ((alq ts).map flD)) ∧ s.name_here = .im (.str n) ∧ s.marks = .oK (fD (ksL (lcl dn n)) (vD (lcl dn n)))) (alq ts) (by
      rintro dn x rs s e ⟨h1, h2, h3⟩ Q hQ
      have hx : x ∈ alq ts := by rw [← e]; simp
      have hd : dn.length < (alq ts).length := by have := congrArg List.length e; simp at this; omega
      have xn := evq_names t.tv x.1 (alq_ok t.tv x hx)
      have xa : ∀ y ∈ x.2, y ∈ NM := by
        obtain ⟨p, hp, hx⟩ := List.mem_flatMap.mp hx
        exact flq_above (val_names (t.ok p hp).2.2.1) (fun y hy => by cases hy) x hx
      have eqn := hn.eq x.1.n xn
      have na := ne_tupS xa
      have x0 : ixT (ndD x.1) (.int 0) = .ok (.str x.1.n) := by unfold ndD; simp
      have x1 : ixT (ndD x.1) (.int 1) = .ok (.int x.1.a) := by unfold ndD; simp
      have x2 : ixT (ndD x.1) (.int 2) = .ok (.int x.1.b) := by unfold ndD; simp
      rw [lcl_app] at hQ
      have ll : (lcl dn n).length ≤ dn.length := by unfold lcl; rw [List.length_map]; exact List.length_filter_le _ _
      have kl := ksL_len (lcl dn n)
      obtain ⟨l, hl⟩ : ∃ l, l = lcl dn n := ⟨_, rfl⟩
      rw [← hl] at h3 hQ ll kl
      by_cases k : x.1.n = n
      · rw [if_pos k] at hQ
        rw [decide_eq_true k] at eqn
        have g1 := get_fD l (lastD x.2)
        have pf := put_fD l (lastD x.2) (whq x.1) (by rw [sizeLine_eq]; omega)
        have va := vD_app l (lastD x.2) (whq x.1)
        rw [va] at pf
        have vl : vD l (lastD x.2) = .lst ((l.filter fun p => decide (p.1 = lastD x.2)).map fun p => D.int p.2) := rfl
        have fl := List.length_filter_le (fun p : Str × Int => decide (p.1 = lastD x.2)) l
        rw [vl] at g1
        have z : (l.filter fun p => decide (p.1 = lastD x.2)).length + 1 ≤ sizeLine := by rw [sizeLine_eq]; omega
        have cw : whq x.1 = x.1.b - x.1.a := rfl
        rw [cw] at pf hQ
        cases hab : x.2 with
        | nil =>
          have ld : lastD x.2 = "" := by rw [hab]; rfl
          rw [ld] at g1 pf z hQ
          rw [hab] at na
          simp only [List.map_nil, List.isEmpty_nil, Bool.not_true] at na
          simp [L__law_callers_1, flD, hab, h1, h2, h3, x0, x1, x2, eqn, na, g1, z, pf]
          refine to_nx (hQ _ ?_)
          exact ⟨rfl, rfl, rfl⟩
        | cons y ys =>
          have ix := lastD_ix (ab := x.2) (by rw [hab]; simp)
          rw [hab] at na ix g1 pf z hQ
          simp only [List.map_cons, List.isEmpty_cons, Bool.not_false] at na ix
          simp [L__law_callers_1, flD, hab, h1, h2, h3, x0, x1, x2, eqn, na, ix, g1, z, pf]
          refine to_nx (hQ _ ?_)
          exact ⟨rfl, rfl, rfl⟩
      · rw [if_neg k, List.append_nil] at hQ
        rw [decide_eq_false k] at eqn
        simp [L__law_callers_1, flD, h1, h2, h3, x0, eqn]
        refine to_nx (hQ _ ?_)
        exact ⟨rfl, rfl, rfl⟩) (S__law_callers.mk (.im (.lst ((alq ts).map flD))) (.im (.str n)) (.oK []) .un .un .un) ⟨rfl, rfl, rfl⟩
  have ke := keys_eq ts n
  obtain ⟨l, hl⟩ : ∃ l, l = lcl (alq ts) n := ⟨_, rfl⟩
  rw [← hl] at p3 ke
  have cl := cC_len t.tv n
  have nl := nmsC_len (bumps [] l)
  have nl2 := nmsC_len (cC ts n)
  rw [ke] at nl
  have sk : sortDct [.dK (fD (ksL l) (vD l))] = .ok (.lst ((nmsC (cC ts n)).map .str)) := by
    have h := sort_kD (cs := bumps [] l) (by omega)
    have e1 : (fD (ksL l) (vD l)).map (·.1) = (kD (bumps [] l)).map (·.1) := by
      unfold fD ksL kD
      rw [List.map_map, List.map_map, List.map_map]; rfl
    have e2 : (fD (ksL l) (vD l)).length = (kD (bumps [] l)).length := by
      have := congrArg List.length e1
      rwa [List.length_map, List.length_map] at this
    unfold sortDct at *
    dsimp only at *
    rw [e1, e2, h, ke]
  have c1 : C__law_callers_1 s1.e = .ok (.lst ((nmsC (cC ts n)).map (crow ts n))) := by
    unfold C__law_callers_1
    refine compE_all (u := D.str) (h := crow ts n) (nmsC (cC ts n)) ?_ (sl_ge (by omega)) fun c hc => ⟨S__law_callers.e {s1 with caller := .im (.str c)}, ?_, ?_⟩
    · simp [p3, sk]
    · simp
    · have hk : c ∈ ksL l := by
        rw [← ke] at hc
        exact mem_nms.mp hc
      have ix : ixD (.dK (fD (ksL l) (vD l))) (.str c) = .ok (vD l c) := by
        unfold ixD
        show (match (some (.inr c : Key)).map fun k => lk (fD (ksL l) (vD l)) k with | some (some v) => R.ok v | _ => .no) = _
        rw [Option.map_some, lk_fD, if_pos hk]
      have ln : lenD [vD l c] = .ok (.int (gt (cC ts n) c)) := by
        have e : gt (cC ts n) c = ((l.filter fun p => decide (p.1 = c)).length : Int) := by
          unfold cC
          rw [gt_bumps0, ← tot1_eq, ← hl]
          clear hl p3 ke nl sk ix hk
          induction l with
          | nil => rfl
          | cons p l ih =>
            show tot ((p.1, 1) :: one1 l) c = _
            rw [tot_cons, ih, List.filter_cons]
            by_cases e : p.1 = c
            · simp [e]; omega
            · simp [e]
        rw [e]
        show R.ok (D.int (((l.filter fun p => decide (p.1 = c)).map fun p => D.int p.2).length : Int)) = _
        rw [List.length_map]
      have sm : sumD [vD l c] = .ok (.int (gt (cT' ts n) c)) := by
        have e : gt (cT' ts n) c = ((l.filter fun p => decide (p.1 = c)).map (·.2)).sum := by
          unfold cT'
          rw [gt_bumps0, ← totW_eq, ← hl]
          clear hl p3 ke nl sk ix hk ln
          induction l with
          | nil => rfl
          | cons p l ih =>
            rw [tot_cons, ih, List.filter_cons]
            by_cases e : p.1 = c
            · simp [e]
            · simp [e]
        have e2 : ((l.filter fun p => decide (p.1 = c)).map fun p => D.int p.2) = ((l.filter fun p => decide (p.1 = c)).map (·.2)).map .int := by rw [List.map_map]; rfl
        rw [e]
        unfold sumD vD
        dsimp only
        rw [e2, intsD_map]
      generalize vD l c = vd at *
      simp [p3, ix, ln, sm, crow]
  unfold F__law_callers b__law_callers
  rw [e_run, S__law_callers.st]
  simp [e1, c1]
end VP

set_option Elab.async false
set_option linter.all false
set_option maxRecDepth 100000
set_option maxHeartbeats 1000000
/-! k30: what is refused. -/
namespace VP
open PySem PySem.Spec PyProof.Rows L2 LamX VS
def bad3 : List D := [D.non, .lst [], .dK [(.inl 0, .tup [])]]
theorem bads {d : D} (h : d ∈ bad3) : F_table [d] = .ex "BadTrees" ∧ F_callers [d, .non] = .ex "BadTrees" ∧ F_longest [d, .non] = .ex "BadTrees" ∧ F_heavy [d, .int 1] = .ex "BadTrees" := by
  have n : F_need_trees [d] = .ex "BadTrees" := by
    unfold bad3 at h
    rcases List.mem_cons.mp h with rfl | h
    · kernel_rfl
    rcases List.mem_cons.mp h with rfl | h
    · kernel_rfl
    rcases List.mem_cons.mp h with rfl | h
    · kernel_rfl
    cases h
  refine ⟨?_, ?_, ?_, ?_⟩
  · unfold F_table b_table
    rw [e_run, S_table.st]
    simp [n]
  · unfold F_callers b_callers
    rw [e_run, S_callers.st]
    simp [n]
  · unfold F_longest b_longest
    rw [e_run, S_longest.st]
    simp [n]
  · unfold F_heavy b_heavy
    rw [e_run, S_heavy.st]
    simp [n]
theorem inCS {c : Str} (h : c ∈ CS8) {g : VS.Env → R D} {ρ : VS.Env} (e : g ρ = .ex c) : gTold CS8 g ρ = .ok (.str c) := by
  unfold gTold
  rw [e]
  dsimp only
  rw [if_pos h]
theorem ref1 {d : D} (h : d ∈ bad3) (s : S__law_refused) (h1 : s.bad = .im d) : ∃ s' : S__law_refused, L__law_refused_1 s.e = .nx s'.e ∧ s'.some_ = s.some_ := by
  obtain ⟨b1, b2, b3, b4⟩ := bads h
  have hc : ("BadTrees" : Str) ∈ CS8 := by decide
  have t1 : ∀ s : S__law_refused, s.bad = .im d → gTold CS8 (geA F_table (gaCons (geV 1) gaNil)) s.e = .ok (.str "BadTrees") := fun s h => inCS hc (by simp [h, b1])
  have t2 : ∀ s : S__law_refused, s.bad = .im d → gTold CS8 (geA F_callers (gaCons (geV 1) (gaCons gN gaNil))) s.e = .ok (.str "BadTrees") := fun s h => inCS hc (by simp [h, b2])
  have t3 : ∀ s : S__law_refused, s.bad = .im d → gTold CS8 (geA F_longest (gaCons (geV 1) (gaCons gN gaNil))) s.e = .ok (.str "BadTrees") := fun s h => inCS hc (by simp [h, b3])
  have t4 : ∀ s : S__law_refused, s.bad = .im d → gTold CS8 (geA F_heavy (gaCons (geV 1) (gaCons (gI 1) gaNil))) s.e = .ok (.str "BadTrees") := fun s h => inCS hc (by simp [h, b4])
  have z : ∀ n : Nat, n ≤ 10 → n < sizeLine := fun n h => by rw [sizeLine_eq]; omega
  have z0 := z 1 (by decide)
  have z1 := z 2 (by decide)
  have z2 := z 3 (by decide)
  have rp : repL (.lst [.str "BadTrees"]) (.int 4) = .ok (.lst [.str "BadTrees", .str "BadTrees", .str "BadTrees", .str "BadTrees"]) := by kernel_rfl
  have ne : cmNe (.lst [.str "BadTrees", .str "BadTrees", .str "BadTrees", .str "BadTrees"]) (.lst [.str "BadTrees", .str "BadTrees", .str "BadTrees", .str "BadTrees"]) = .ok (.bl false) := cmNe_refl (by kernel_rfl)
  refine ⟨{s with said := .ow [.str "BadTrees", .str "BadTrees", .str "BadTrees", .str "BadTrees"]}, ?_, rfl⟩
  have y : geOp repL (geA lstD (gaCons (gS "BadTrees") gaNil)) (gI 4) (S__law_refused.e {s with said := .ow [.str "BadTrees", .str "BadTrees", .str "BadTrees", .str "BadTrees"]}) = .ok (.lst [.str "BadTrees", .str "BadTrees", .str "BadTrees", .str "BadTrees"]) := by
    have y1 : geA lstD (gaCons (gS "BadTrees") gaNil) (S__law_refused.e {s with said := .ow [.str "BadTrees", .str "BadTrees", .str "BadTrees", .str "BadTrees"]}) = .ok (.lst [.str "BadTrees"]) := by simp
    rw [e_op, y1, R.ok_bind, e_I, R.ok_bind, rp]
  have k1 := t1 s h1
  have k2 := t2 {s with said := .ow [.str "BadTrees"]} h1
  have k3 := t3 {s with said := .ow [.str "BadTrees", .str "BadTrees"]} h1
  have k4 := t4 {s with said := .ow [.str "BadTrees", .str "BadTrees", .str "BadTrees"]} h1
  have q1 : ownO 2 (geA lstD (gaCons (gTold CS8 (geA F_table (gaCons (geV 1) gaNil))) gaNil)) s.e = .nx (S__law_refused.e {s with said := .ow [.str "BadTrees"]}) := by simp [k1]
  have q2 : appO 2 (gTold CS8 (geA F_callers (gaCons (geV 1) (gaCons gN gaNil)))) (S__law_refused.e {s with said := .ow [.str "BadTrees"]}) = .nx (S__law_refused.e {s with said := .ow [.str "BadTrees", .str "BadTrees"]}) := by
    simp [k2, z0]
  have q3 : appO 2 (gTold CS8 (geA F_longest (gaCons (geV 1) (gaCons gN gaNil)))) (S__law_refused.e {s with said := .ow [.str "BadTrees", .str "BadTrees"]}) = .nx (S__law_refused.e {s with said := .ow [.str "BadTrees", .str "BadTrees", .str "BadTrees"]}) := by
    simp [k3, z1]
  have q4 : appO 2 (gTold CS8 (geA F_heavy (gaCons (geV 1) (gaCons (gI 1) gaNil)))) (S__law_refused.e {s with said := .ow [.str "BadTrees", .str "BadTrees", .str "BadTrees"]}) = .nx (S__law_refused.e {s with said := .ow [.str "BadTrees", .str "BadTrees", .str "BadTrees", .str "BadTrees"]}) := by
    simp [k4, z2]
  have q5 : geB (geOp cmNe (geT 2) (geOp repL (geA lstD (gaCons (gS "BadTrees") gaNil)) (gI 4))) (S__law_refused.e {s with said := .ow [.str "BadTrees", .str "BadTrees", .str "BadTrees", .str "BadTrees"]}) = .ok false := by
    rw [e_gB, e_op, y]
    simp [ne]
  unfold L__law_refused_1
  rw [e_seq, q1]
  dsimp only
  rw [e_seq, q2]
  dsimp only
  rw [e_seq, q3]
  dsimp only
  rw [e_seq, q4]
  dsimp only
  rw [e_ifO, q5]
  rfl
theorem ref2 {ts : Trs} (t : TV ts) {d : D} (h : d ∈ [D.int (-1), .int 51, .non, .bl true]) (s : S__law_refused) (h0 : s.some_ = .im (tD ts)) (h1 : s.bad = .im d) : L__law_refused_2 s.e = .nx s.e := by
  have nt := need_trees_eq t
  have ic : F_is_count [d, .int 0, .int 50] = .ok (.bl false) := by
    rcases List.mem_cons.mp h with rfl | h
    · kernel_rfl
    rcases List.mem_cons.mp h with rfl | h
    · kernel_rfl
    rcases List.mem_cons.mp h with rfl | h
    · kernel_rfl
    rcases List.mem_cons.mp h with rfl | h
    · kernel_rfl
    cases h
  have lg : F_longest [tD ts, d] = .ex "BadTick" := by
    unfold F_longest b_longest
    rw [e_run, S_longest.st]
    simp [nt, ic]
  have t1 : gTold CS8 (geA F_longest (gaCons (geV 0) (gaCons (geV 1) gaNil))) s.e = .ok (.str "BadTick") := inCS (by decide) (by simp [h0, h1, lg])
  have ne : cmNe (.str "BadTick") (.str "BadTick") = .ok (.bl false) := cmNe_refl (by kernel_rfl)
  simp [L__law_refused_2, t1, ne]
theorem ref3 {ts : Trs} (t : TV ts) {d : D} (h : d ∈ [D.int (-1), .str "", .non, .str "A", .str "abcdefghi"]) (s : S__law_refused) (h0 : s.some_ = .im (tD ts)) (h1 : s.bad = .im d) : L__law_refused_3 s.e = .nx s.e := by
  have nt := need_trees_eq t
  have ic : F_is_name [d] = .ok (.bl false) := by
    rcases List.mem_cons.mp h with rfl | h
    · kernel_rfl
    rcases List.mem_cons.mp h with rfl | h
    · kernel_rfl
    rcases List.mem_cons.mp h with rfl | h
    · kernel_rfl
    rcases List.mem_cons.mp h with rfl | h
    · kernel_rfl
    rcases List.mem_cons.mp h with rfl | h
    · kernel_rfl
    cases h
  have lg : F_callers [tD ts, d] = .ex "BadName" := by
    unfold F_callers b_callers
    rw [e_run, S_callers.st]
    simp [nt, ic]
  have t1 : gTold CS8 (geA F_callers (gaCons (geV 0) (gaCons (geV 1) gaNil))) s.e = .ok (.str "BadName") := inCS (by decide) (by simp [h0, h1, lg])
  have ne : cmNe (.str "BadName") (.str "BadName") = .ok (.bl false) := cmNe_refl (by kernel_rfl)
  simp [L__law_refused_3, t1, ne]
end VP

set_option Elab.async false
set_option linter.all false
set_option maxRecDepth 100000
set_option maxHeartbeats 1000000
/-! k30: the law. -/
namespace VP
open PySem PySem.Spec PyProof.Rows L2 LamX VS
theorem refused_eq {ts : Trs} (t : TV ts) : F__law_refused [tD ts] = .ok (.bl true) := by
  obtain ⟨s1, e1, p1⟩ := for_to (e := S__law_refused.e) (b := bindT (.nm 1)) (f := L__law_refused_1) (u := fun d : D => d) (fun dn s => s.some_ = .im (tD ts)) bad3 (by
    rintro dn d rs s e h1 Q hQ
    have hd : d ∈ bad3 := by rw [← e]; simp
    obtain ⟨s', e2, e3⟩ := ref1 hd {s with bad := .im d} rfl
    simp [e2]
    exact to_nx (hQ _ (by rw [e3]; exact h1))) (S__law_refused.mk (.im (tD ts)) .un .un) rfl
  obtain ⟨s2, e2, p2⟩ := for_to (e := S__law_refused.e) (b := bindT (.nm 1)) (f := L__law_refused_2) (u := fun d : D => d) (fun dn s => s.some_ = .im (tD ts)) [D.int (-1), .int 51, .non, .bl true] (by
    rintro dn d rs s e h1 Q hQ
    have hd : d ∈ [D.int (-1), .int 51, .non, .bl true] := by rw [← e]; simp
    have := ref2 t hd {s with bad := .im d} h1 rfl
    simp [this]
    exact to_nx (hQ _ h1)) s1 p1
  obtain ⟨s3, e3, p3⟩ := for_to (e := S__law_refused.e) (b := bindT (.nm 1)) (f := L__law_refused_3) (u := fun d : D => d) (fun dn s => s.some_ = .im (tD ts)) [D.int (-1), .str "", .non, .str "A", .str "abcdefghi"] (by
    rintro dn d rs s e h1 Q hQ
    have hd : d ∈ [D.int (-1), .str "", .non, .str "A", .str "abcdefghi"] := by rw [← e]; simp
    have := ref3 t hd {s with bad := .im d} h1 rfl
    simp [this]
    exact to_nx (hQ _ h1)) s2 p2
  rw [List.map_id'] at e1 e2 e3
  have i1 : gSeq itL (geA lstD (gaCons gN (gaCons (geA lstD gaNil) (gaCons (geOp disp1 (gI 0) (geA tupD gaNil)) gaNil)))) (S__law_refused.e (S__law_refused.mk (.im (tD ts)) .un .un)) = .ok bad3 := by simp [disp1, keyD, bad3]
  have i2 : gSeq itL (geA lstD (gaCons (ge1 (subI (.int 0)) (gI 1)) (gaCons (gI 51) (gaCons gN (gaCons (gB true) gaNil))))) s1.e = .ok [D.int (-1), .int 51, .non, .bl true] := by simp
  have i3 : gSeq itL (geA lstD (gaCons (ge1 (subI (.int 0)) (gI 1)) (gaCons (gS "") (gaCons gN (gaCons (gS "A") (gaCons (gS "abcdefghi") gaNil)))))) s2.e = .ok [D.int (-1), .str "", .non, .str "A", .str "abcdefghi"] := by simp
  unfold F__law_refused b__law_refused
  rw [e_run, S__law_refused.st, e_seq, e_for, i1]
  dsimp only
  rw [e1]
  dsimp only
  rw [e_seq, e_for, i2]
  dsimp only
  rw [e2]
  dsimp only
  rw [e_seq, e_for, i3]
  dsimp only
  rw [e3]
  rfl
theorem sum_own {ts : Trs} : ((nms ts).map (gt (tO ts))).sum = (ts.map fun p => tsum p.2).sum := by
  have e2 : (nms ts).map (gt (tO ts)) = (nms ts).map (sk (·.n) ownq (evq ts)) := List.map_congr_left fun n _ => gt_tO n
  rw [e2, sk_sum _ _ (nms_nd' ts) nms_keys]
  unfold evq
  clear e2
  induction ts with
  | nil => rfl
  | cons p ts ih =>
    have oa : ((allq p.2).map ownq).sum = tsum p.2 := by
      have h := tops_sum whq p.2
      have e : ∀ l : List Nd, (l.map ownq).sum + (l.map fun q => ((tops q.i).map whq).sum).sum = (l.map whq).sum := by
        intro l
        induction l with
        | nil => rfl
        | cons q l ih =>
          have : ownq q + ((tops q.i).map whq).sum = whq q := by
            have e : ((tops q.i).map whq).sum = tsum q.i := rfl
            rw [e]
            unfold ownq whq; omega
          rw [List.map_cons, List.map_cons, List.map_cons, List.sum_cons, List.sum_cons, List.sum_cons]; omega
      have h2 := e (allq p.2)
      have h3 : ((tops p.2).map whq).sum = tsum p.2 := rfl
      omega
    rw [List.flatMap_cons, List.map_append, List.sum_append, ih, oa, List.map_cons, List.sum_cons]
theorem tops_loop {ts : Trs} (t : TV ts) (s : S_law) (h1 : s.some_ = .im (tD ts)) (h2 : s.tops = .im (.int 0)) : ∃ s' : S_law, forDO (.nm 5) 3 L_law_1 s.e = .nx s'.e ∧ s'.script = s.script ∧ s'.some_ = .im (tD ts) ∧ s'.due = s.due ∧ s'.rows = s.rows ∧ s'.more = s.more ∧ s'.tops = .im (.int (ts.map fun p => tsum p.2).sum) := by
  obtain ⟨s', e, p⟩ := for_to (e := S_law.e) (b := bindT (.nm 5)) (f := L_law_1) (u := fun p : Int × Cals => D.int p.1)
    (fun dn s' => s'.script = s.script ∧ s'.some_ = .im (tD ts) ∧ s'.due = s.due ∧ s'.rows = s.rows ∧ s'.more = s.more ∧ s'.tops = .im (.int (dn.map fun p => tsum p.2).sum)) ts (by
      rintro dn p rs s' e ⟨a1, a2, a3, a4, a5, a6⟩ Q hQ
      have hp : p ∈ ts := by rw [← e]; simp
      have ix := ix_tD t.nd hp
      have tl := tops_len p.2
      have tp := t.ok p hp
      have e1 : ((dn ++ [p]).map fun p => tsum p.2).sum = (dn.map fun p => tsum p.2).sum + tsum p.2 := by rw [List.map_append, List.sum_append]; simp
      rw [e1] at hQ
      have c1 : ∀ s2 : S_law, s2.some_ = .im (tD ts) → s2.hand = .im (.int p.1) → C_law_1 s2.e = .ok (.lst ((tops p.2).map fun r => .int (whq r))) := fun s2 g1 g2 => by
        unfold C_law_1
        refine compE_all (u := ndD) (h := fun r => .int (whq r)) (tops p.2) ?_ (sl_ge (by omega)) fun r hr => ⟨S_law.e {s2 with one := .im (ndD r)}, ?_, ?_⟩
        · simp [g1, g2, ix, toDs_tops]
        · simp
        · simp [ndD, whq]
      have m : sumD [.lst ((tops p.2).map fun r => .int (whq r))] = .ok (.int (tsum p.2)) := by
        have e : ((tops p.2).map fun r => D.int (whq r)) = ((tops p.2).map whq).map .int := by rw [List.map_map]; rfl
        unfold sumD
        dsimp only
        rw [e, intsD_map]; rfl
      have k := c1 {s' with hand := .im (.int p.1)} a2 rfl
      obtain ⟨s2, hs2⟩ : ∃ s2 : S_law, s2 = {s' with hand := .im (.int p.1)} := ⟨_, rfl⟩
      rw [← hs2] at k
      have g6 : s2.tops = .im (.int (dn.map fun p => tsum p.2).sum) := by rw [hs2]; exact a6
      show To S_law.e Q (L_law_1 (S_law.e {s' with hand := .im (.int p.1)}))
      rw [← hs2]
      simp [L_law_1, g6, k, m]
      refine to_nx (hQ _ ?_)
      subst hs2
      exact ⟨a1, a2, a3, a4, a5, rfl⟩) s ⟨rfl, h1, rfl, rfl, rfl, h2⟩
  exact ⟨s', forD_eq (by simp [h1]) e, p⟩
end VP

set_option Elab.async false
set_option linter.all false
set_option maxRecDepth 100000
set_option maxHeartbeats 1000000
/-! k30: the turn, the law. -/
namespace VP
open PySem PySem.Spec PyProof.Rows L2 LamX VS
theorem okR_n3 {a b c : Int} {n : Str} (hn : n ∈ NM) : okR (.tup [.str n, .int a, .int b, .int c]) = true := by
  have := okR_str hn
  unfold okR at *
  rw [Bool.and_eq_true] at *
  obtain ⟨h1, h2⟩ := this
  refine ⟨?_, ?_⟩
  · simp [toPy, toPys, PyData.canLay0, PyData.canLayAll0] at h1 ⊢; exact h1
  · simp [toPy, toPys, PyData.depth, PyData.depthAll]
theorem okR_c2 {a b : Int} {n : Str} (hn : n = "" ∨ n ∈ NM) : okR (.tup [.str n, .int a, .int b]) = true := by
  have := okR_str (n := n)
  have h0 : okR (.str n) = true := by
    rcases hn with rfl | h
    · kernel_rfl
    · exact okR_str h
  unfold okR at *
  rw [Bool.and_eq_true] at *
  obtain ⟨h1, h2⟩ := h0
  refine ⟨?_, ?_⟩
  · simp [toPy, toPys, PyData.canLay0, PyData.canLayAll0] at h1 ⊢; exact h1
  · simp [toPy, toPys, PyData.depth, PyData.depthAll]
theorem okR_l {a b c : Int} {n : Str} (hn : n ∈ NM) : okR (.tup [.int a, .int b, .int c, .str n]) = true := by
  have := okR_str hn
  unfold okR at *
  rw [Bool.and_eq_true] at *
  obtain ⟨h1, h2⟩ := this
  refine ⟨?_, ?_⟩
  · simp [toPy, toPys, PyData.canLay0, PyData.canLayAll0] at h1 ⊢; exact h1
  · simp [toPy, toPys, PyData.depth, PyData.depthAll]
theorem nm_zzz : NmOk "zzz" := by
  refine ⟨by kernel_rfl, fun x hx => ?_⟩
  unfold cmEq
  rw [shp_nm hx, show shp (.str "zzz") = true by kernel_rfl, eqD_str']; rfl
theorem hvy_nm {c : Cals} {lo hi : Int} (v : val c lo hi) : ∀ x ∈ hvy c, x ∈ NM := by
  have all : ∀ (j : Nat) (c : Cals) {lo hi : Int}, val c lo hi → ∀ x ∈ hvp j c, x ∈ NM := by
    intro j
    induction j with
    | zero => intro c lo hi _ x hx; cases hx
    | succ j ih =>
      intro c lo hi v x hx
      rw [hvp] at hx
      cases hpk : pick c with
      | none => rw [hpk] at hx; cases hx
      | some r =>
        rw [hpk] at hx
        have hr := List.mem_of_find?_eq_some hpk
        rcases List.mem_cons.mp hx with rfl | hx
        · exact val_names v r (tops_all hr)
        · exact ih r.i (val_tops v r hr) x hx
  exact all _ _ v
theorem cC_nm' {ts : Trs} (t : TV ts) {n c : Str} (h : c ∈ nmsC (cC ts n)) : c = "" ∨ c ∈ NM := by
  obtain ⟨y, hy, rfl⟩ := List.mem_map.mp ((bumps_keys1 _ _).mp (mem_nms.mp h))
  exact cps_nm t n y hy
theorem lp2 {ts : Trs} (t : TG ts) {n : Str} (hn : NmOk n) (s : S_law) (h1 : s.some_ = .im (tD ts)) (h2 : s.rows = .im (.lst ((alq ts).map flD))) (h3 : s.name_here = .im (.str n)) : L_law_2 s.e = .nx s.e := by
  have a := callers_eq t.tv hn
  have b := law_callers_eq t hn
  have c := cmNe_refl (shp_lst (ds := (nmsC (cC ts n)).map (crow ts n)) fun d hd => by
    obtain ⟨x, hx, rfl⟩ := List.mem_map.mp hd
    exact okR_c2 (cC_nm' t.tv hx))
  simp [L_law_2, h1, h2, h3, a, b, c]
theorem lp3 {ts : Trs} (t : TG ts) {m : Nat} (hm : m ≤ 50) (s : S_law) (h1 : s.some_ = .im (tD ts)) (h3 : s.most = .im (.int m)) : L_law_3 s.e = .nx s.e := by
  have a := longest_eq t.tv hm
  have b := order_eq t
  have ct : cut ((lgr ts).map lrD) none (some (m : Int)) = ((lgr ts).take m).map lrD := by rw [cut_take, List.map_take]
  have mem : ∀ x ∈ lgr ts, x.2.n ∈ NM := fun x hx => by
    rw [lgr_grp] at hx
    obtain ⟨w, _, hx⟩ := List.mem_flatMap.mp hx
    have hx := (List.mem_filter.mp hx).1
    obtain ⟨p, hp, hx⟩ := List.mem_flatMap.mp hx
    obtain ⟨q, hq, rfl⟩ := List.mem_map.mp hx
    exact val_names (t.ok p hp).2.2.1 q hq
  have c := cmNe_refl (shp_lst (ds := ((lgr ts).take m).map lrD) fun d hd => by
    obtain ⟨x, hx, rfl⟩ := List.mem_map.mp hd
    exact okR_l (mem x (List.mem_of_mem_take hx)))
  generalize ((lgr ts).take m).map lrD = L at *
  simp [L_law_3, h1, h3, a, b, ct, c]
theorem lp4 {ts : Trs} (t : TG ts) (h : Int) (s : S_law) (h1 : s.some_ = .im (tD ts)) (h3 : s.hand = .im (.int h)) : L_law_4 s.e = .nx s.e := by
  obtain ⟨c, hc, lo, hi, v, d, n⟩ : ∃ c, getD2 (tD ts) (.int h) (.tup []) = .ok (cD c) ∧ ∃ lo hi, val c lo hi ∧ dep c ≤ 50 ∧ cnt c ≤ 1000 := by
    by_cases hm : h ∈ ts.map (·.1)
    · obtain ⟨p, hp, rfl⟩ := List.mem_map.mp hm
      have tp := t.ok p hp
      exact ⟨p.2, get_tD t.tv.nd hp _, 0, 904, tp.2.2.1, by omega, by omega⟩
    · exact ⟨.nil, get_none hm _, 0, 0, trivial, by decide, by decide⟩
  have a := heavy_of t.tv v d n hc
  have b := law_heavy_eq v d n
  have c2 := cmNe_refl (shp_lst (ds := (hvy c).map .str) fun x hx => by
    obtain ⟨y, hy, rfl⟩ := List.mem_map.mp hx
    exact okR_str (hvy_nm v y hy))
  simp [L_law_4, h1, h3, hc, a, b, c2]
end VP

set_option Elab.async false
set_option linter.all false
set_option maxRecDepth 100000
set_option maxHeartbeats 1000000
/-! k30: the turn, the law. -/
namespace VP
open PySem PySem.Spec PyProof.Rows L2 LamX VS
theorem sum_str3 (l : List Str) (f : Str → Int) : sumD [.lst (l.map fun c => .int (f c))] = .ok (.int (l.map f).sum) := by
  have e : (l.map fun c => D.int (f c)) = (l.map f).map .int := by rw [List.map_map]; rfl
  unfold sumD
  dsimp only
  rw [e, intsD_map]
theorem nms_in {ts : Trs} (t : TV ts) : ∀ n ∈ nms ts, n ∈ NM := by
  intro n hn
  obtain ⟨q, hq, rfl⟩ := List.mem_map.mp (mem_tC.mp (mem_nms.mp hn))
  exact evq_names t q hq
theorem loop2 {ts : Trs} (t : TG ts) (s : S_law) (h0 : s.some_ = .im (tD ts)) (h2 : s.rows = .im (.lst ((alq ts).map flD))) :
    ∃ s' : S_law, forO (.nm 6) (gSeq itL (geA lstD (gaCons (gS "a") (gaCons (gS "b") (gaCons (gS "work") (gaCons (gS "zzz") gaNil)))))) L_law_2 s.e = .nx s'.e ∧ s'.script = s.script ∧ s'.more = s.more ∧ s'.some_ = .im (tD ts) := by
  obtain ⟨s2, e2, p2⟩ := for_to (e := S_law.e) (b := bindT (.nm 6)) (f := L_law_2) (u := D.str) (fun dn s' => s'.script = s.script ∧ s'.more = s.more ∧ s'.some_ = .im (tD ts) ∧ s'.rows = .im (.lst ((alq ts).map flD))) ["a", "b", "work", "zzz"] (by
    rintro dn d rs s' e ⟨a1, a2, a3, a4⟩ Q hQ
    have hd : d ∈ (["a", "b", "work", "zzz"] : List Str) := by rw [← e]; simp
    have ok : NmOk d := by
      simp only [List.mem_cons, List.not_mem_nil, or_false] at hd
      rcases hd with rfl | rfl | rfl | rfl
      · exact NmOk.nm (by simp [NM])
      · exact NmOk.nm (by simp [NM])
      · exact NmOk.nm (by simp [NM])
      · exact nm_zzz
    have k := lp2 t ok {s' with name_here := .im (.str d)} a3 a4 rfl
    simp [k]
    exact to_nx (hQ _ ⟨a1, a2, a3, a4⟩)) s ⟨rfl, rfl, h0, h2⟩
  have i : gSeq itL (geA lstD (gaCons (gS "a") (gaCons (gS "b") (gaCons (gS "work") (gaCons (gS "zzz") gaNil))))) s.e = .ok ((["a", "b", "work", "zzz"] : List Str).map D.str) := by simp
  exact ⟨s2, by rw [e_for, i]; dsimp only; rw [e2], p2.1, p2.2.1, p2.2.2.1⟩
theorem loop3 {ts : Trs} (t : TG ts) (m : Int) (s : S_law) (h0 : s.some_ = .im (tD ts)) (h2 : s.more = .im (.int m)) :
    ∃ s' : S_law, forO (.nm 7) (gSeq itL (geA lstD (gaCons (gI 0) (gaCons (gI 1) (gaCons (geOp modI (geV 2) (gI 51)) (gaCons (gI 50) gaNil)))))) L_law_3 s.e = .nx s'.e ∧ s'.script = s.script ∧ s'.some_ = .im (tD ts) := by
  obtain ⟨r, hr, hr5⟩ : ∃ r : Nat, m % 51 = (r : Int) ∧ r ≤ 50 := ⟨(m % 51).toNat, by omega, by omega⟩
  obtain ⟨s2, e2, p2⟩ := for_to (e := S_law.e) (b := bindT (.nm 7)) (f := L_law_3) (u := fun n : Nat => D.int n) (fun dn s' => s'.script = s.script ∧ s'.some_ = .im (tD ts)) [0, 1, r, 50] (by
    rintro dn d rs s' e ⟨a1, a2⟩ Q hQ
    have hd : d ∈ [0, 1, r, 50] := by rw [← e]; simp
    have ok : d ≤ 50 := by
      simp only [List.mem_cons, List.not_mem_nil, or_false] at hd
      omega
    have k := lp3 t ok {s' with most := .im (.int d)} a2 rfl
    simp [k]
    exact to_nx (hQ _ ⟨a1, a2⟩)) s ⟨rfl, h0⟩
  have i : gSeq itL (geA lstD (gaCons (gI 0) (gaCons (gI 1) (gaCons (geOp modI (geV 2) (gI 51)) (gaCons (gI 50) gaNil))))) s.e = .ok ([0, 1, r, 50].map fun n : Nat => D.int n) := by simp [h2, modI_ok, hr]
  exact ⟨s2, by rw [e_for, i]; dsimp only; rw [e2], p2.1, p2.2⟩
theorem loop4 {ts : Trs} (t : TG ts) (s : S_law) (h0 : s.some_ = .im (tD ts)) :
    ∃ s' : S_law, forO (.nm 5) (gSeq itL (geA lstD (gaCons (gI 1) (gaCons (gI 2) (gaCons (gI 3) (gaCons (gI 4) (gaCons (gI 9) gaNil))))))) L_law_4 s.e = .nx s'.e ∧ s'.script = s.script ∧ s'.some_ = .im (tD ts) := by
  obtain ⟨s2, e2, p2⟩ := for_to (e := S_law.e) (b := bindT (.nm 5)) (f := L_law_4) (u := fun n : Int => D.int n) (fun dn s' => s'.script = s.script ∧ s'.some_ = .im (tD ts)) [1, 2, 3, 4, 9] (by
    rintro dn d rs s' e ⟨a1, a2⟩ Q hQ
    have k := lp4 t d {s' with hand := .im (.int d)} a2 rfl
    simp [k]
    exact to_nx (hQ _ ⟨a1, a2⟩)) s ⟨rfl, h0⟩
  have i : gSeq itL (geA lstD (gaCons (gI 1) (gaCons (gI 2) (gaCons (gI 3) (gaCons (gI 4) (gaCons (gI 9) gaNil)))))) s.e = .ok ([1, 2, 3, 4, 9].map fun n : Int => D.int n) := by simp
  exact ⟨s2, by rw [e_for, i]; dsimp only; rw [e2], p2.1, p2.2⟩
theorem turn {ns : List Int} (hl : ns.length ≤ 63) (k : Nat) (s : S_law) (h1 : s.script = .im (.scr ns)) (h2 : s.k = .im (.int k)) (Q : S_law → Prop) (hQ : ∀ s' : S_law, s'.script = .im (.scr ns) → Q s') : To S_law.e Q (L_law_5 s.e) := by
  obtain ⟨c, ec⟩ := cell_eq ns hl k
  have hd := drawn_eq c k
  generalize dr c k = m at *
  obtain ⟨ts, et, t⟩ := trees_eq (m / 64)
  have d64 := dv m (show (0 : Int) < 64 by decide) (by decide +kernel)
  have te := table_eq t.tv
  have lt := law_table_eq t
  have la := law_all_eq t.tv
  have nl : (nms ts).length ≤ 6 := by
    have := tC_len t.tv
    unfold nms
    rw [nmsC_len]; exact this
  have ne := cmNe_refl (shp_lst (ds := (nms ts).map (rowD ts)) fun d hd => by
    obtain ⟨x, hx, rfl⟩ := List.mem_map.mp hd
    exact okR_n3 (nms_in t.tv x hx))
  refine to_seq {s with more := .im (.int m)} (by simp [h1, h2, ec, hd]) ?_
  refine to_seq {s with more := .im (.int m), some_ := .im (tD ts)} (by simp [d64, et]) ?_
  refine to_seq {s with more := .im (.int m), some_ := .im (tD ts), rows := .im (.lst ((alq ts).map flD)), tops := .im (.int 0)} (by simp [la]) ?_
  refine to_seq {s with more := .im (.int m), some_ := .im (tD ts), rows := .im (.lst ((alq ts).map flD)), tops := .im (.int 0), due := .im (.lst ((nms ts).map (rowD ts)))} (by simp [lt]) ?_
  refine to_seq {s with more := .im (.int m), some_ := .im (tD ts), rows := .im (.lst ((alq ts).map flD)), tops := .im (.int 0), due := .im (.lst ((nms ts).map (rowD ts)))} (by
    generalize (nms ts).map (rowD ts) = L at *
    simp [te, ne]) ?_
  obtain ⟨s1, e1, a1, a2, a3, a4, a5, a6⟩ := tops_loop t.tv {s with more := .im (.int m), some_ := .im (tD ts), rows := .im (.lst ((alq ts).map flD)), tops := .im (.int 0), due := .im (.lst ((nms ts).map (rowD ts)))} rfl rfl
  refine to_seq s1 e1 ?_
  have a1' : s1.script = .im (.scr ns) := by rw [a1]; exact h1
  have a3' : s1.due = .im (.lst ((nms ts).map (rowD ts))) := a3
  have a4' : s1.rows = .im (.lst ((alq ts).map flD)) := a4
  have a5' : s1.more = .im (.int m) := a5
  have c2 : C_law_2 s1.e = .ok (.lst ((nms ts).map fun n => .int (gt (tO ts) n))) := by
    unfold C_law_2
    refine compE_all (u := rowD ts) (nms ts) ?_ (sl_ge (by omega)) fun n hn => ⟨S_law.e {s1 with name_here := .im (.str n), count := .im (.int (gt (tC ts) n)), long := .im (.int (gt (tW ts) n)), time := .im (.int (gt (tO ts) n))}, ?_, ?_⟩
    · simp [a3']
    · simp [rowD]
    · simp
  have m2 := sum_str3 (nms ts) (gt (tO ts))
  rw [sum_own] at m2
  refine to_seq s1 (by simp [a6, c2, m2]) ?_
  obtain ⟨s2, e2, b1, b2, b3⟩ := loop2 t s1 a2 a4'
  refine to_seq s2 e2 ?_
  obtain ⟨s3, e3, d1, d2⟩ := loop3 t m s2 b3 (by rw [b2]; exact a5')
  refine to_seq s3 e3 ?_
  obtain ⟨s4, e4, f1, f2⟩ := loop4 t s3 d2
  refine to_seq s4 e4 ?_
  have rf := refused_eq t.tv
  simp [f2, rf]
  exact to_nx (hQ _ (by rw [f1, d1, b1]; exact a1'))
theorem law_plain (ns : List Int) (hl : ns.length ≤ 63) : F_law [.scr ns] = .ok (.bl true) := by
  have ln : lenD [.scr ns] = .ok (.int ns.length) := rfl
  obtain ⟨s', e, p1⟩ := for_to (e := S_law.e) (b := bindT (.nm 1)) (f := L_law_5) (u := fun i : Nat => D.int (i : Int)) (fun dn s => s.script = .im (.scr ns)) (List.range (max 1 (min 3 ns.length))) (by
    rintro dn k rs s e h1 Q hQ
    have := turn hl k {s with k := .im (.int k)} h1 rfl Q fun s' z => hQ s' z
    simpa using this) (S_law.mk (.im (.scr ns)) .un .un .un .un .un .un .un .un .un .un .un .un .un) rfl
  have r := rng1_nat (n := max 1 (min 3 ns.length)) (by omega)
  have em : (if (if (ns.length : Int) < 3 then (ns.length : Int) else 3) > 1 then (if (ns.length : Int) < 3 then (ns.length : Int) else 3) else 1) = ((max 1 (min 3 ns.length) : Nat) : Int) := by
    (repeat' split) <;> omega
  have r2 : gSeqA rng1 (gaCons (geA max2 (gaCons (gI 1) (gaCons (geA min2 (gaCons (gI 3) (gaCons (geA lenD (gaCons (geV 0) gaNil)) gaNil))) gaNil))) gaNil) (S_law.e (S_law.mk (.im (.scr ns)) .un .un .un .un .un .un .un .un .un .un .un .un .un)) = .ok ((List.range (max 1 (min 3 ns.length))).map fun i : Nat => D.int (i : Int)) := by
    rw [← r, ← em]
    simp [ln]
  unfold F_law b_law
  rw [e_run, S_law.st, e_seq, e_for, r2]
  dsimp only
  rw [e]
  rfl
end VP

set_option maxHeartbeats 4000000
theorem PySem.Challenge.cw_calltimes_k30_whole_tables_holds : PySem.Challenge.rw_calltimes_k30_whole_tables.Holds :=
  K30.holds_of VP.law_plain
