import PyProof.Rows.All
import Wide.All
import OpenK.AllK
import Wide.FinOn
import HandS.Base
import HandS.Call
import HandS.List
import HandS.Comp
import HandS.Ends
import HandS.Dict
import HandS.Iter
import HandS.Words
import HandS.IsInst
import HandS.Wide
import HandS.TupSets
import KE.DataEq
import KE.LtData
import HandS.TupAny
import HandS.WideBits
import HandS.Conv
import HandS.Style
import HandS.Zip
import HandS.Text
import KE.SortData
import HandS.Defaults
import HandS.HeadNt
import KE.DataCmp
import KE.SortCalls
import KE.DataMinMax
import HandS.Rev
import KE.GoesEnum
import KE.KStateDown
import HandS.More
import HandS.WordsExc
import HandS.Head0
import HandS.Head1
import HandS.Head2
import HandS.HeadEnd
import HandS.HeadHook1
import HandS.HeadHook2
import PySem.Challenge.RW_jointmaps_k76_whole_map_counts
set_option Elab.async false
set_option linter.all false
set_option maxRecDepth 100000
set_option autoImplicit false
/-! QA: values as data, their standing in the abstract heap, a def's state -/
namespace Q
open PySem PySem.Spec PyProof.Rows L2
abbrev SS := List (Option V)
/-- the written part; the program, the world (a set's order leans on them) -/
structure KK where
  f : PySem.W.Frag
  P : Program
  w : World
instance : CoeOut KK PySem.W.Frag := ⟨KK.f⟩

/-- a value as data; ref: an object of the store; fn: a closure -/
inductive D where
  | non | bl (b : Bool) | int (i : Int) | str (s : Str) | lst (xs : List D) | tup (xs : List D)
  | dic (kvs : List (D × D)) | set (xs : List D) | ref (n : Nat) | fn (k : Nat) (cs : List D) | raw (xs : List D)
  deriving Inhabited

/-- an object of the store: its class, its attributes -/
structure SO where
  cls : Nat
  fs : List (Str × D)

/-- the state of a def's run -/
structure MS where
  env : List (Option D)
  sto : List SO

/-- an error: its class, what it keeps -/
structure Exn where
  cls : Nat
  val : Option (Str × D)

inductive Res (α : Type) where
  | ok (a : α) (st : MS)
  | err (x : Exn) (st : MS)
  | stuck

/-- objects that never change -/
def still : HO → Bool
  | .tup _ => true
  | .frz _ _ => true
  | .ext _ => true
  | _ => false
def Fz (H H' : Hp) : Prop := ∀ a u, H a = some u → still u = true → H' a = some u
theorem Fz.refl (H : Hp) : Fz H H := fun _ _ h _ => h
theorem Fz.trans {H H1 H2 : Hp} (a : Fz H H1) (b : Fz H1 H2) : Fz H H2 := fun p u h s => b p u (a p u h s) s
theorem Fz.of_same {H H' : Hp} (s : Same H H') : Fz H H' := fun a u h _ => s a u h

/-- a list that is read alone: frozen, or of the written part -/
def FrzL (K : KK) (H : Hp) (a : Addr) (vs : List V) : Prop :=
  (∃ o, H a = some (.frz o (.lst vs))) ∨ SqL K (fun _ => none) a vs
theorem SqL.free {K : KK} {H : Hp} {a : Addr} {vs : List V} (h : SqL K (fun _ => none) a vs) : SqL K H a vs := by
  rcases h with h | h
  · rcases h with h | ⟨o, h⟩
    · cases h
    · cases h
  · exact .inr h
theorem FrzL.sql {K : KK} {H : Hp} {a : Addr} {vs : List V} (h : FrzL K H a vs) : SqL K H a vs := by
  rcases h with ⟨o, h⟩ | h
  · exact .inl (.inr ⟨o, h⟩)
  · exact SqL.free h
theorem FrzL.mono {K : KK} {H H' : Hp} {a : Addr} {vs : List V} (f : Fz H H') (h : FrzL K H a vs) : FrzL K H' a vs := by
  rcases h with ⟨o, h⟩ | h
  · exact .inl ⟨o, f a _ h rfl⟩
  · exact .inr h
theorem SqT.mono {K : KK} {H H' : Hp} {a : Addr} {vs : List V} (f : Fz H H') (h : SqT K H a vs) : SqT K H' a vs := by
  rcases h with h | h
  · rcases h with h | ⟨o, h⟩
    · exact .inl (.inl (f a _ h rfl))
    · exact .inl (.inr ⟨o, f a _ h rfl⟩)
  · exact .inr h

/-- a key of a dict as data -/
def kD : Key → D
  | .inl i => .int i
  | .inr x => .str x

mutual
/-- v holds the data d; lists, dicts, sets in it are frozen -/
def RepD (K : KK) (φ : List Addr) (H : Hp) : D → V → Prop
  | .non, v => v = .non
  | .bl b, v => v = .bl b
  | .int i, v => v = .int i
  | .str s, v => v = .str s
  | .lst xs, v => ∃ a o vs, v = .ref a ∧ H a = some (.frz o (.lst vs)) ∧ RepAll K φ H xs vs
  | .raw xs, v => ∃ a vs, v = .ref a ∧ FrzL K H a vs ∧ RepAll K φ H xs vs
  | .tup xs, v => ∃ a vs, v = .ref a ∧ SqT K H a vs ∧ RepAll K φ H xs vs
  | .dic kvs, v => ∃ a o kv, v = .ref a ∧ H a = some (.frz o (.dK kv)) ∧ RepKv K φ H kvs kv
  | .set xs, v => ∃ a L, v = .ref a ∧ H a = some (SetTO K.P K.w a L) ∧ (∀ p ∈ L, SqT K H p.1 (p.2.map V.int) ∧ D.tup (p.2.map D.int) ∈ xs) ∧ ∀ x ∈ xs, ∃ p ∈ L, x = .tup (p.2.map D.int)
  | .ref n, v => ∃ a, v = .ref a ∧ φ[n]? = some a
  | .fn _ _, _ => False
def RepAll (K : KK) (φ : List Addr) (H : Hp) : List D → List V → Prop
  | [], vs => vs = []
  | d :: ds, vs => ∃ v r, vs = v :: r ∧ RepD K φ H d v ∧ RepAll K φ H ds r
def RepKv (K : KK) (φ : List Addr) (H : Hp) : List (D × D) → List (Key × V) → Prop
  | [], vs => vs = []
  | (k, d) :: ds, vs => ∃ key v r, vs = (key, v) :: r ∧ k = kD key ∧ RepD K φ H d v ∧ RepKv K φ H ds r
end

def Pre (φ φ' : List Addr) : Prop := ∀ (i : Nat) a, φ[i]? = some a → φ'[i]? = some a
theorem Pre.refl (φ : List Addr) : Pre φ φ := fun _ _ h => h
theorem Pre.trans {a b c : List Addr} (x : Pre a b) (y : Pre b c) : Pre a c := fun i p h => y i p (x i p h)

section
variable {K : KK} {φ φ' : List Addr} {H H' : Hp}
mutual
theorem RepD.mono (f : Fz H H') (p : Pre φ φ') : ∀ (d : D) (v : V), RepD K φ H d v → RepD K φ' H' d v
  | .non, _, h => h
  | .bl _, _, h => h
  | .int _, _, h => h
  | .str _, _, h => h
  | .lst xs, v, h => by
    unfold RepD at h ⊢
    obtain ⟨a, o, vs, e, q, r⟩ := h
    exact ⟨a, o, vs, e, f a _ q rfl, RepAll.mono f p xs vs r⟩
  | .raw xs, v, h => by
    unfold RepD at h ⊢
    obtain ⟨a, vs, e, q, r⟩ := h
    exact ⟨a, vs, e, q.mono f, RepAll.mono f p xs vs r⟩
  | .tup xs, v, h => by
    unfold RepD at h ⊢
    obtain ⟨a, vs, e, q, r⟩ := h
    exact ⟨a, vs, e, SqT.mono f q, RepAll.mono f p xs vs r⟩
  | .dic kvs, v, h => by
    unfold RepD at h ⊢
    obtain ⟨a, o, kv, e, q, r⟩ := h
    exact ⟨a, o, kv, e, f a _ q rfl, RepKv.mono f p kvs kv r⟩
  | .set xs, v, h => by
    unfold RepD at h ⊢
    obtain ⟨a, L, e, q, r, t⟩ := h
    exact ⟨a, L, e, f a _ q rfl, fun p hp => ⟨SqT.mono f (r p hp).1, (r p hp).2⟩, t⟩
  | .ref n, v, h => by
    unfold RepD at h ⊢
    obtain ⟨a, e, q⟩ := h
    exact ⟨a, e, p n a q⟩
  | .fn _ _, _, h => by unfold RepD at h; exact h.elim
theorem RepAll.mono (f : Fz H H') (p : Pre φ φ') : ∀ (ds : List D) (vs : List V), RepAll K φ H ds vs → RepAll K φ' H' ds vs
  | [], _, h => by unfold RepAll at h ⊢; exact h
  | d :: ds, vs, h => by
    unfold RepAll at h ⊢
    obtain ⟨v, r, e, q, t⟩ := h
    exact ⟨v, r, e, RepD.mono f p d v q, RepAll.mono f p ds r t⟩
theorem RepKv.mono (f : Fz H H') (p : Pre φ φ') : ∀ (ds : List (D × D)) (vs : List (Key × V)), RepKv K φ H ds vs → RepKv K φ' H' ds vs
  | [], _, h => by unfold RepKv at h ⊢; exact h
  | (k, d) :: ds, vs, h => by
    unfold RepKv at h ⊢
    obtain ⟨key, v, r, e, ek, q, t⟩ := h
    exact ⟨key, v, r, e, ek, RepD.mono f p d v q, RepKv.mono f p ds r t⟩
end
theorem RepAll.cons {d : D} {ds : List D} {v : V} {vs : List V} (h : RepD K φ H d v) (t : RepAll K φ H ds vs) : RepAll K φ H (d :: ds) (v :: vs) := by
  unfold RepAll; exact ⟨v, vs, rfl, h, t⟩
theorem RepAll.nil : RepAll K φ H [] [] := by unfold RepAll; rfl
theorem RepAll.of_cons {d : D} {ds : List D} {vs : List V} (h : RepAll K φ H (d :: ds) vs) : ∃ v r, vs = v :: r ∧ RepD K φ H d v ∧ RepAll K φ H ds r := by
  unfold RepAll at h; exact h
theorem RepAll.of_nil {vs : List V} (h : RepAll K φ H [] vs) : vs = [] := by unfold RepAll at h; exact h
theorem RepAll.length : ∀ {ds : List D} {vs : List V}, RepAll K φ H ds vs → ds.length = vs.length
  | [], _, h => by rw [h.of_nil]; rfl
  | d :: ds, vs, h => by
    obtain ⟨v, r, rfl, _, t⟩ := h.of_cons
    rw [List.length_cons, List.length_cons, RepAll.length t]
theorem RepAll.get : ∀ {ds : List D} {vs : List V} {i : Nat} {d : D}, RepAll K φ H ds vs → ds[i]? = some d → ∃ v, vs[i]? = some v ∧ RepD K φ H d v
  | [], _, _, _, _, e => by simp at e
  | d :: ds, vs, 0, d', h, e => by
    obtain ⟨v, r, rfl, q, _⟩ := h.of_cons
    simp at e
    subst e
    exact ⟨v, rfl, q⟩
  | d :: ds, vs, i + 1, d', h, e => by
    obtain ⟨v, r, rfl, _, t⟩ := h.of_cons
    obtain ⟨w, e1, q⟩ := RepAll.get (i := i) t (by simpa using e)
    exact ⟨w, by simpa using e1, q⟩
theorem RepAll.append : ∀ {ds es : List D} {vs ws : List V}, RepAll K φ H ds vs → RepAll K φ H es ws → RepAll K φ H (ds ++ es) (vs ++ ws)
  | [], _, _, _, h, t => by rw [h.of_nil]; exact t
  | d :: ds, es, vs, ws, h, t => by
    obtain ⟨v, r, rfl, q, u⟩ := h.of_cons
    exact RepAll.cons q (RepAll.append u t)
theorem RepAll.take : ∀ {ds : List D} {vs : List V} (n : Nat), RepAll K φ H ds vs → RepAll K φ H (ds.take n) (vs.take n)
  | _, _, 0, _ => by simp only [List.take_zero]; exact .nil
  | [], _, n + 1, h => by rw [h.of_nil]; exact .nil
  | d :: ds, vs, n + 1, h => by
    obtain ⟨v, r, rfl, q, t⟩ := h.of_cons
    exact RepAll.cons q (RepAll.take n t)
theorem RepAll.drop : ∀ {ds : List D} {vs : List V} (n : Nat), RepAll K φ H ds vs → RepAll K φ H (ds.drop n) (vs.drop n)
  | _, _, 0, h => by simpa using h
  | [], _, n + 1, h => by rw [h.of_nil]; exact .nil
  | d :: ds, vs, n + 1, h => by
    obtain ⟨v, r, rfl, q, t⟩ := h.of_cons
    exact RepAll.drop n t
theorem RepAll.set : ∀ {ds : List D} {vs : List V} (n : Nat) {d : D} {v : V}, RepAll K φ H ds vs → RepD K φ H d v → RepAll K φ H (ds.set n d) (vs.set n v)
  | [], _, n, _, _, h, _ => by rw [h.of_nil]; exact .nil
  | d :: ds, vs, 0, d', v', h, q' => by
    obtain ⟨v, r, rfl, q, t⟩ := h.of_cons
    exact RepAll.cons q' t
  | d :: ds, vs, n + 1, d', v', h, q' => by
    obtain ⟨v, r, rfl, q, t⟩ := h.of_cons
    exact RepAll.cons q (RepAll.set n t q')
theorem RepAll.eraseIdx : ∀ {ds : List D} {vs : List V} (n : Nat), RepAll K φ H ds vs → RepAll K φ H (ds.eraseIdx n) (vs.eraseIdx n)
  | [], _, n, h => by rw [h.of_nil]; exact .nil
  | d :: ds, vs, 0, h => by
    obtain ⟨v, r, rfl, q, t⟩ := h.of_cons
    exact t
  | d :: ds, vs, n + 1, h => by
    obtain ⟨v, r, rfl, q, t⟩ := h.of_cons
    exact RepAll.cons q (RepAll.eraseIdx n t)
theorem RepAll.reverse : ∀ {ds : List D} {vs : List V}, RepAll K φ H ds vs → RepAll K φ H ds.reverse vs.reverse
  | [], _, h => by rw [h.of_nil]; exact .nil
  | d :: ds, vs, h => by
    obtain ⟨v, r, rfl, q, t⟩ := h.of_cons
    rw [List.reverse_cons, List.reverse_cons]
    exact RepAll.append (RepAll.reverse t) (RepAll.cons q .nil)
theorem RepAll.dropLast {ds : List D} {vs : List V} (h : RepAll K φ H ds vs) : RepAll K φ H ds.dropLast vs.dropLast := by
  rw [List.dropLast_eq_take, List.dropLast_eq_take, h.length]
  exact h.take _
theorem RepAll.replicate {d : D} {v : V} (q : RepD K φ H d v) : ∀ n, RepAll K φ H (List.replicate n d) (List.replicate n v)
  | 0 => .nil
  | n + 1 => by rw [List.replicate_succ, List.replicate_succ]; exact .cons q (RepAll.replicate q n)
theorem RepAll.ints : ∀ (ns : List Int), RepAll K φ H (ns.map D.int) (ns.map V.int)
  | [] => .nil
  | n :: ns => by rw [List.map_cons, List.map_cons]; exact .cons (by unfold RepD; rfl) (RepAll.ints ns)
end

/-- a thing of the def's own: nobody else has it, it may change -/
def OwnD (K : KK) (φ : List Addr) (H : Hp) (a : Addr) : D → Prop
  | .lst xs => ∃ vs, H a = some (.lst vs) ∧ RepAll K φ H xs vs
  | .dic kvs => ∃ kv, H a = some (.dK kv) ∧ RepKv K φ H kvs kv
  | _ => False
theorem OwnD.mono {K : KK} {φ φ' : List Addr} {H H' : Hp} {a : Addr} {d : D} (f : Fz H H') (p : Pre φ φ') (e : H' a = H a) (h : OwnD K φ H a d) : OwnD K φ' H' a d := by
  cases d with
  | lst xs => obtain ⟨vs, q, r⟩ := h; exact ⟨vs, e.trans q, r.mono f p⟩
  | dic kvs => obtain ⟨kv, q, r⟩ := h; exact ⟨kv, e.trans q, r.mono f p⟩
  | _ => exact h.elim
theorem OwnD.mut {K : KK} {φ : List Addr} {H : Hp} {a : Addr} {d : D} (h : OwnD K φ H a d) : ∃ u, H a = some u ∧ Mut (some u) ∧ still u = false := by
  cases d with
  | lst xs => obtain ⟨vs, q, r⟩ := h; exact ⟨_, q, trivial, rfl⟩
  | dic kvs => obtain ⟨kv, q, r⟩ := h; exact ⟨_, q, trivial, rfl⟩
  | _ => exact h.elim
theorem OwnD.some {K : KK} {φ : List Addr} {H : Hp} {a : Addr} {d : D} (h : OwnD K φ H a d) : H a ≠ none := by
  obtain ⟨u, e, _⟩ := h.mut
  rw [e]; exact fun z => by cases z

/-- what can be read now -/
def RepR (K : KK) (φ : List Addr) (H : Hp) (d : D) (v : V) : Prop := RepD K φ H d v ∨ ∃ a, v = .ref a ∧ OwnD K φ H a d

/-- what a def's run stands on -/
structure Ctx where
  K : KK
  own : Nat → Bool
  H0 : Hp
  io : List (Nat × Addr)
  cls : Nat → Option Addr
  E : XK
  ret : Bool

/-- an attribute list by values -/
def FsRep (K : KK) (φ : List Addr) (H : Hp) : List (Str × D) → List (Str × V) → Prop
  | [], vs => vs = []
  | (f, d) :: r, vs => ∃ v s, vs = (f, v) :: s ∧ RepD K φ H d v ∧ FsRep K φ H r s
theorem FsRep.mono {K : KK} {φ φ' : List Addr} {H H' : Hp} (f : Fz H H') (p : Pre φ φ') : ∀ {fs : List (Str × D)} {vs : List (Str × V)}, FsRep K φ H fs vs → FsRep K φ' H' fs vs
  | [], _, h => h
  | (g, d) :: r, vs, h => by
    obtain ⟨v, s, e, q, t⟩ := h
    exact ⟨v, s, e, q.mono f p, FsRep.mono f p t⟩

def SOAt (C : Ctx) (φ : List Addr) (H : Hp) (a : Addr) (so : SO) : Prop := ∃ A dx fvs, C.cls so.cls = some A ∧ H a = some (.ins A dx fvs) ∧ FsRep C.K φ H so.fs fvs
structure StoOk (C : Ctx) (φ : List Addr) (sto : List SO) (H : Hp) : Prop where
  len : sto.length = φ.length
  at_ : ∀ (i : Nat) so a, sto[i]? = some so → φ[i]? = some a → SOAt C φ H a so
  nd : φ.Nodup
theorem StoOk.some {C : Ctx} {φ : List Addr} {sto : List SO} {H : Hp} (h : StoOk C φ sto H) {a : Addr} (ha : a ∈ φ) : ∃ A dx fs, H a = some (.ins A dx fs) := by
  obtain ⟨i, hi, e⟩ := List.getElem_of_mem ha
  have hi' : i < sto.length := by rw [h.len]; exact hi
  obtain ⟨A, dx, fvs, _, q, _⟩ := h.at_ i sto[i] a (List.getElem?_eq_getElem hi') (by rw [List.getElem?_eq_getElem hi, e])
  exact ⟨A, dx, fvs, q⟩
theorem StoOk.mono {C : Ctx} {φ : List Addr} {sto : List SO} {H H' : Hp} (h : StoOk C φ sto H) (f : Fz H H') (k : ∀ a ∈ φ, H' a = H a) : StoOk C φ sto H' := by
  refine ⟨h.len, fun i so a e1 e2 => ?_, h.nd⟩
  obtain ⟨A, dx, fvs, q1, q2, q3⟩ := h.at_ i so a e1 e2
  exact ⟨A, dx, fvs, q1, (k a (List.mem_of_getElem? e2)).trans q2, q3.mono f (.refl φ)⟩

/-- a slot of the def's own -/
def Ow (C : Ctx) (σ : SS) (a : Addr) : Prop := ∃ i, C.own i = true ∧ σ[i]? = some (some (.ref a))
def ioA (C : Ctx) (a : Addr) : Prop := ∃ p ∈ C.io, p.2 = a

structure Rel (C : Ctx) (φ : List Addr) (st : MS) (σ : SS) (H : Hp) : Prop where
  len : st.env.length = σ.length
  val : ∀ (i : Nat) d, C.own i = false → st.env[i]? = some (some d) → ∃ v, σ[i]? = some (some v) ∧ RepD C.K φ H d v
  own : ∀ (i : Nat) d, C.own i = true → st.env[i]? = some (some d) → ∃ a, σ[i]? = some (some (.ref a)) ∧ OwnD C.K φ H a d ∧ (C.H0 a = none ∨ (i, a) ∈ C.io)
  dist : ∀ (i j : Nat) d d' a, i ≠ j → C.own i = true → C.own j = true → st.env[i]? = some (some d) → st.env[j]? = some (some d') → σ[i]? = some (some (.ref a)) → σ[j]? ≠ some (some (.ref a))
  alive : ∀ a, Ow C σ a → H a ≠ none
  keep : ∀ a x, C.H0 a = some x → ¬ ioA C a → a ∉ φ → H a = some x
  frz : Fz C.H0 H
  ios : ∀ p ∈ C.io, C.own p.1 = true ∧ σ[p.1]? = some (some (.ref p.2))
  sto : StoOk C φ st.sto H

theorem Rel.same {C : Ctx} {φ : List Addr} {st : MS} {σ : SS} {H H' : Hp} (r : Rel C φ st σ H) (s : Same H H') : Rel C φ st σ H' := by
  have f := Fz.of_same s
  refine ⟨r.len, fun i d o e => ?_, fun i d o e => ?_, r.dist, fun a o => ?_, fun a x h n m => s a x (r.keep a x h n m), r.frz.trans f, r.ios, r.sto.mono f fun a ha => ?_⟩
  · obtain ⟨v, q, t⟩ := r.val i d o e
    exact ⟨v, q, t.mono f (.refl φ)⟩
  · obtain ⟨a, q, t, z⟩ := r.own i d o e
    obtain ⟨u, hu, _⟩ := t.mut
    exact ⟨a, q, t.mono f (.refl φ) (by rw [hu]; exact s a u hu), z⟩
  · have h := r.alive a o
    cases q : H a with
    | none => exact absurd q h
    | some u => rw [s a u q]; exact fun z => by cases z
  · obtain ⟨A, dx, fs, q⟩ := r.sto.some ha
    rw [q]; exact s a _ q

/-- what a piece of code may do to the heap -/
structure Step (C : Ctx) (σ : SS) (φ : List Addr) (H : Hp) (φ' : List Addr) (H' : Hp) : Prop where
  pre : Pre φ φ'
  new : ∀ a ∈ φ', a ∈ φ ∨ H a = none
  fz : Fz H H'
  keep : ∀ a x, H a = some x → ¬ Ow C σ a → a ∉ φ → H' a = some x
  dom : ∀ a, H a ≠ none → H' a ≠ none
theorem Step.refl {C : Ctx} {σ : SS} {φ : List Addr} {H : Hp} : Step C σ φ H φ H := ⟨.refl φ, fun a h => .inl h, .refl H, fun _ _ h _ _ => h, fun _ h => h⟩
theorem Step.same {C : Ctx} {σ : SS} {φ : List Addr} {H H' : Hp} (s : Same H H') : Step C σ φ H φ H' := ⟨.refl φ, fun a h => .inl h, .of_same s, fun a x h _ _ => s a x h, fun a h => by
  cases q : H a with
  | none => exact absurd q h
  | some u => rw [s a u q]; exact fun z => by cases z⟩
theorem Step.trans {C : Ctx} {σ : SS} {φ φ1 φ2 : List Addr} {H H1 H2 : Hp} (a : Step C σ φ H φ1 H1) (b : Step C σ φ1 H1 φ2 H2) : Step C σ φ H φ2 H2 := by
  have nw : ∀ p x, H p = some x → p ∉ φ → p ∉ φ1 := fun p x h n m => by
    rcases a.new p m with z | z
    · exact n z
    · rw [h] at z; cases z
  refine ⟨a.pre.trans b.pre, fun p hp => ?_, a.fz.trans b.fz, fun p x h n m => b.keep p x (a.keep p x h n m) n (nw p x h m), fun p h => b.dom p (a.dom p h)⟩
  rcases b.new p hp with z | z
  · exact a.new p z
  · refine .inr ?_
    cases q : H p with
    | none => rfl
    | some x => exact absurd z (a.dom p (by rw [q]; exact fun z => by cases z))
end Q
set_option Elab.async false
set_option linter.all false
set_option maxRecDepth 100000
set_option autoImplicit false
/-! QB: what expressions do, as functions of a def's state -/
namespace Q
open PySem PySem.Spec PyProof.Rows L2

def Res.bind {α β : Type} (r : Res α) (f : α → MS → Res β) : Res β := match r with
  | .ok a st => f a st
  | .err x st => .err x st
  | .stuck => .stuck

def XRep (C : Ctx) (φ : List Addr) (H : Hp) (x : Exn) (cls : Value) (d : Option Addr) : Prop :=
  ∃ A, C.cls x.cls = some A ∧ cls = .ref A ∧ match x.val with
    | none => d = none
    | some (f, dv) => ∃ da v, d = some da ∧ H da = some (.xd [(f, v)]) ∧ RepD C.K φ H dv v

/-- what is wanted behind a piece of code, by its result -/
def Post {α : Type} (C : Ctx) (σ : SS) (φ : List Addr) (H : Hp) (r : Res α) (P : α → MS → List Addr → Hp → Prop) : Prop := match r with
  | .ok a st' => ∀ φ' H', Rel C φ' st' σ H' → Step C σ φ H φ' H' → P a st' φ' H'
  | .err x st' => ∀ φ' H' cls d, Rel C φ' st' σ H' → Step C σ φ H φ' H' → XRep C φ' H' x cls d → C.E cls d H'
  | .stuck => False

section
variable {α β : Type} {C : Ctx} {σ : SS} {φ φ' : List Addr} {H H' : Hp} {st : MS}
theorem Post.mono {r : Res α} {P P' : α → MS → List Addr → Hp → Prop} (h : Post C σ φ H r P) (f : ∀ a st' φ' H', Rel C φ' st' σ H' → Step C σ φ H φ' H' → P a st' φ' H' → P' a st' φ' H') : Post C σ φ H r P' := by
  cases r with
  | ok a st' => exact fun φ' H' R S => f a st' φ' H' R S (h φ' H' R S)
  | err x st' => exact h
  | stuck => exact h
theorem Post.step {r : Res α} {P : α → MS → List Addr → Hp → Prop} (h : Post C σ φ H r P) (S : Step C σ φ H φ' H') : Post C σ φ' H' r P := by
  cases r with
  | ok a st' => exact fun φ'' H'' R S' => h φ'' H'' R (S.trans S')
  | err x st' => exact fun φ'' H'' cls d R S' => h φ'' H'' cls d R (S.trans S')
  | stuck => exact h
theorem Post.bind {r : Res α} {f : α → MS → Res β} {P : β → MS → List Addr → Hp → Prop} (h : Post C σ φ H (r.bind f) P) : Post C σ φ H r fun a st' φ' H' => Post C σ φ' H' (f a st') P := by
  cases r with
  | ok a st' => exact fun φ' H' R S => Post.step h S
  | err x st' => exact h
  | stuck => exact h
end

/-- a value that nobody else has: it was not there ahead -/
def FreeO (C : Ctx) (φ : List Addr) (H H' : Hp) (d : D) (v : V) : Prop :=
  ∃ a, v = .ref a ∧ OwnD C.K φ H' a d ∧ H a = none
def isOwn : D → Bool
  | .lst _ => true
  | .dic _ => true
  | _ => false
/-- a result: frozen data, or (o) lists and dicts of one's own -/
def ValR (C : Ctx) (o : Bool) (φ : List Addr) (H H' : Hp) (d : D) (v : V) : Prop :=
  if (o && isOwn d) = true then FreeO C φ H H' d v else RepD C.K φ H' d v

def tV (C : Ctx) (o : Bool) (m : MS → Res D) : TE := fun σ H Q => ∃ st φ, Rel C φ st σ H ∧ Post C σ φ H (m st) fun d _ φ' H' => ∀ v, ValR C o φ' H H' d v → Q v H'
def tT (C : Ctx) (m : MS → Res Bool) : TT := fun σ H Q => ∃ st φ, Rel C φ st σ H ∧ Post C σ φ H (m st) fun b st' φ' H' => Q b H'

def ME (X : Cx) (C : Ctx) (o : Bool) (e : Expr) (m : MS → Res D) : Prop := PE X e (tV C o m)
def MT (X : Cx) (C : Ctx) (e : Expr) (m : MS → Res Bool) : Prop := PT X e (tT C m)

theorem PE.weak {X : Cx} {e : Expr} {t t' : TE} (h : PE X e t) (w : ∀ σ H Q, t' σ H Q → t σ H Q) : PE X e t' := ⟨fun pins s σ H Q I q => h.run pins s σ H Q I (w σ H Q q)⟩
theorem PT.weak {X : Cx} {e : Expr} {t t' : TT} (h : PT X e t) (w : ∀ σ H Q, t' σ H Q → t σ H Q) : PT X e t' := ⟨fun pins s σ H Q I q => h.run pins s σ H Q I (w σ H Q q)⟩
theorem PW.weak {X : Cx} {e : Expr} {t t' : TT} (h : PW X e t) (w : ∀ σ H Q, t' σ H Q → t σ H Q) : PW X e t' := ⟨fun wh pins s σ H Q I q => h.run wh pins s σ H Q I (w σ H Q q)⟩

/-! ### freezing -/
def tFz (t : TE) : TE := fun σ H Q => t σ H fun v H1 => Q v H1 ∨ ∃ a u, v = .ref a ∧ H1 a = some u ∧ Mut (some u) ∧ ∀ o, Q v (upd H1 a (.frz o u))
theorem pe_fz {X : Cx} {e : Expr} {t : TE} (h : PE X e t) : PE X e (tFz t) := by
  refine ⟨fun pins s σ H Q I hw => ?_⟩
  refine thn (h.run pins s σ H _ I hw) fun v s1 ⟨x, H1, I1, r, q⟩ => ?_
  rcases q with q | ⟨a, u, e, hu, mu, q⟩
  · exact ⟨x, H1, I1, r, q⟩
  · obtain ⟨od, I2⟩ := I1.lock hu mu
    exact ⟨x, _, I2, r, q od⟩

section
variable {C : Ctx} {σ : SS} {φ φ' : List Addr} {H H' : Hp} {st st' : MS} {d : D} {v : V}
theorem frz_of_own {a : Addr} {u : HO} (o : Obj) (hu : H' a = some u) (h : OwnD C.K φ H' a d) : RepD C.K φ (upd H' a (.frz o u)) d (.ref a) := by
  have f : Fz H' (upd H' a (.frz o u)) := fun b x q s => by
    obtain ⟨u', e, _, n⟩ := h.mut
    have nb : b ≠ a := fun z => by rw [z, e] at q; cases q; rw [n] at s; cases s
    rw [upd_ne nb]; exact q
  cases d with
  | lst xs =>
    obtain ⟨vs, e, r⟩ := h
    rw [hu] at e
    cases e
    unfold RepD
    exact ⟨a, o, vs, rfl, upd_same, r.mono f (.refl φ)⟩
  | dic kvs =>
    obtain ⟨kv, e, r⟩ := h
    rw [hu] at e
    cases e
    unfold RepD
    exact ⟨a, o, kv, rfl, upd_same, r.mono f (.refl φ)⟩
  | _ => exact h.elim
/-- an own thing that no live slot has is frozen -/
theorem Rel.freeze {a : Addr} {u : HO} (o : Obj) (R : Rel C φ' st' σ H') (hu : H' a = some u) (ow : OwnD C.K φ' H' a d) (h0 : C.H0 a = none) (nl : ¬ Ow C σ a) : Rel C φ' st' σ (upd H' a (.frz o u)) := by
  have f : Fz H' (upd H' a (.frz o u)) := fun b x q s => by
    obtain ⟨u', e, _, n⟩ := ow.mut
    have nb : b ≠ a := fun z => by rw [z, e] at q; cases q; rw [n] at s; cases s
    rw [upd_ne nb]; exact q
  refine ⟨R.len, fun i d o' e => ?_, fun i d o' e => ?_, R.dist, fun b ho => ?_, fun b x q n m => ?_, R.frz.trans f, R.ios, R.sto.mono f fun b hb => ?_⟩
  · obtain ⟨v, q, t⟩ := R.val i d o' e
    exact ⟨v, q, t.mono f (.refl _)⟩
  · obtain ⟨b, q, t, z⟩ := R.own i d o' e
    have nb : b ≠ a := fun z => nl ⟨i, o', by rw [q, z]⟩
    exact ⟨b, q, t.mono f (.refl _) (upd_ne nb), z⟩
  · by_cases hb : b = a
    · subst hb; rw [upd_same]; exact fun z => by cases z
    · rw [upd_ne hb]; exact R.alive b ho
  · have nb : b ≠ a := fun z => by rw [z, h0] at q; cases q
    rw [upd_ne nb]; exact R.keep b x q n m
  · have nb : b ≠ a := fun z => by
      obtain ⟨A, dx, fs, e⟩ := R.sto.some hb
      rw [z, hu] at e
      cases e
      cases d with
      | lst xs => obtain ⟨vs, e, r⟩ := ow; rw [hu] at e; cases e
      | dic kvs => obtain ⟨kv, e, r⟩ := ow; rw [hu] at e; cases e
      | _ => exact ow
    exact upd_ne nb
theorem Step.freeze {a : Addr} {u : HO} (o : Obj) (S : Step C σ φ H φ' H') (hu : H' a = some u) (ow : OwnD C.K φ' H' a d) (w : H a = none) : Step C σ φ H φ' (upd H' a (.frz o u)) := by
  refine ⟨S.pre, S.new, fun b x q s => ?_, fun b x q n m => ?_, fun b q => ?_⟩
  · have q' := S.fz b x q s
    have nb : b ≠ a := fun z => by
      obtain ⟨u', e, _, n⟩ := ow.mut
      rw [z, e] at q'
      cases q'
      rw [n] at s
      cases s
    rw [upd_ne nb]; exact q'
  · have nb : b ≠ a := fun z => by rw [z, w] at q; cases q
    rw [upd_ne nb]; exact S.keep b x q n m
  · by_cases hb : b = a
    · subst hb; rw [upd_same]; exact fun z => by cases z
    · rw [upd_ne hb]; exact S.dom b q
end
theorem Rel.none0 {C : Ctx} {φ : List Addr} {st : MS} {σ : SS} {H : Hp} (R : Rel C φ st σ H) {a : Addr} (h : H a = none) : C.H0 a = none := by
  cases e : C.H0 a with
  | none => rfl
  | some x =>
    refine absurd h ?_
    by_cases hi : ioA C a
    · obtain ⟨p, hp, rfl⟩ := hi
      exact R.alive p.2 ⟨p.1, (R.ios p hp).1, (R.ios p hp).2⟩
    · by_cases hf : a ∈ φ
      · obtain ⟨A, dx, fs, q⟩ := R.sto.some hf
        rw [q]; exact fun z => by cases z
      · rw [R.keep a x e hi hf]; exact fun z => by cases z
theorem ValR.rep {C : Ctx} {φ : List Addr} {H H' : Hp} {d : D} {v : V} (h : ValR C false φ H H' d v) : RepD C.K φ H' d v := by
  unfold ValR at h
  rw [Bool.false_and, if_neg Bool.false_ne_true] at h
  exact h
theorem ValR.of_rep {C : Ctx} {o : Bool} {φ : List Addr} {H H' : Hp} {d : D} {v : V} (ho : (o && isOwn d) = false) (h : RepD C.K φ H' d v) : ValR C o φ H H' d v := by
  unfold ValR
  rw [ho, if_neg Bool.false_ne_true]
  exact h
theorem ValR.free {C : Ctx} {φ : List Addr} {H H' : Hp} {d : D} {v : V} (ho : isOwn d = true) (h : ValR C true φ H H' d v) : FreeO C φ H H' d v := by
  unfold ValR at h
  rw [ho, if_pos (show (true && true) = true from rfl)] at h
  exact h
/-- an own result may be frozen -/
theorem ME.fz {X : Cx} {C : Ctx} {e : Expr} {m : MS → Res D} (h : ME X C true e m) : ME X C false e m := by
  refine PE.weak (pe_fz h) fun σ H Q q => ?_
  obtain ⟨st, φ, R, q⟩ := q
  refine ⟨st, φ, R, ?_⟩
  have post : ∀ {r : Res D}, Post C σ φ H r (fun d _ φ' H' => ∀ v, ValR C false φ' H H' d v → Q v H') → Post C σ φ H r (fun d _ φ' H' => ∀ v, ValR C true φ' H H' d v → (Q v H' ∨ ∃ a u, v = .ref a ∧ H' a = some u ∧ Mut (some u) ∧ ∀ o, Q v (upd H' a (.frz o u)))) := by
    intro r q
    cases r with
    | stuck => exact q
    | err x st' => exact q
    | ok d st' =>
      intro φ' H' R' S v hv
      by_cases ho : isOwn d = true
      · obtain ⟨a, rfl, ow, w⟩ := hv.free ho
        obtain ⟨u, hu, mu, _⟩ := ow.mut
        refine .inr ⟨a, u, rfl, hu, mu, fun o => ?_⟩
        exact q φ' _ (R'.freeze o hu ow (R.none0 w) fun z => R.alive a z w) (S.freeze o hu ow w) _ (.of_rep (Bool.false_and _) (frz_of_own o hu ow))
      · rw [Bool.not_eq_true] at ho
        unfold ValR at hv
        rw [ho, Bool.and_false, if_neg Bool.false_ne_true] at hv
        exact .inl (q φ' H' R' S v (.of_rep (Bool.false_and _) hv))
  exact post q

/-! ### constants, slots -/
def eK (d : D) : MS → Res D := fun st => .ok d st
theorem me_tC {X : Cx} {C : Ctx} {o : Bool} {e : Expr} {v : V} {d : D} (h : PE X e (tC v)) (ho : (o && isOwn d) = false) (hd : ∀ φ H, RepD C.K φ H d v) : ME X C o e (eK d) :=
  PE.weak h fun σ H Q ⟨st, φ, R, q⟩ => q φ H R .refl v (.of_rep ho (hd φ H))
section
variable {X : Cx} {C : Ctx} {o : Bool} {k : Nat} {pos : Pos}
theorem me_int {i : Int} : ME X C o (.Constant (.int i) k pos) (eK (.int i)) := me_tC pe_int (by cases o <;> rfl) fun _ _ => by unfold RepD; rfl
theorem me_bl {b : Bool} : ME X C o (.Constant (.bool b) k pos) (eK (.bl b)) := me_tC pe_bl (by cases o <;> rfl) fun _ _ => by unfold RepD; rfl
theorem me_non : ME X C o (.Constant .none k pos) (eK .non) := me_tC pe_non (by cases o <;> rfl) fun _ _ => by unfold RepD; rfl
theorem me_str {x : Str} : ME X C o (.Constant (.str x) k pos) (eK (.str x)) := me_tC pe_str (by cases o <;> rfl) fun _ _ => by unfold RepD; rfl
end
def MS.get (st : MS) (i : Nat) : Option D := (st.env[i]?).bind id
theorem MS.get_some {st : MS} {i : Nat} {d : D} (h : st.get i = some d) : st.env[i]? = some (some d) := by
  unfold MS.get at h
  cases e : st.env[i]? with
  | none => rw [e] at h; cases h
  | some o => rw [e] at h; exact congrArg some h
def eV (i : Nat) : MS → Res D := fun st => match st.get i with
  | some d => .ok d st
  | none => .stuck
theorem me_var {X : Cx} {C : Ctx} {e : Expr} (i : Nat) (h : PE X e (tVar i)) (ho : C.own i = false) : ME X C false e (eV i) := by
  refine PE.weak h fun σ H Q ⟨st, φ, R, q⟩ => ?_
  unfold eV at q
  cases e : st.get i with
  | none => rw [e] at q; exact q.elim
  | some d =>
    rw [e] at q
    obtain ⟨v, e1, r⟩ := R.val i d ho (MS.get_some e)
    exact ⟨v, e1, q φ H R .refl v (.of_rep rfl r)⟩

/-! ### operands: an expression, or a slot of the def's own, read when the operation comes -/
inductive Opd where
  | val (m : MS → Res D)
  | own (i : Nat)
def opT (C : Ctx) : Opd → TE
  | .val m => tV C false m
  | .own i => tVar i
structure MO (X : Cx) (C : Ctx) (e : Expr) (o : Opd) : Prop where
  pe : PE X e (opT C o)
  ok : ∀ i, o = .own i → C.own i = true
theorem mo_val {X : Cx} {C : Ctx} {e : Expr} {m : MS → Res D} (h : ME X C false e m) : MO X C e (.val m) := ⟨h, fun _ e => by cases e⟩
theorem mo_own {X : Cx} {C : Ctx} {e : Expr} (i : Nat) (h : PE X e (tVar i)) (ho : C.own i = true) : MO X C e (.own i) := ⟨h, fun j e => by cases e; exact ho⟩
/-- the operands' data, when the last one has come -/
def opN : List Opd → MS → Res (List D)
  | [], st => .ok [] st
  | .val m :: r, st => (m st).bind fun x st1 => (opN r st1).bind fun xs st2 => .ok (x :: xs) st2
  | .own i :: r, st => match st.get i with
    | none => .stuck
    | some _ => (opN r st).bind fun xs st1 => match st1.get i with
      | some x => .ok (x :: xs) st1
      | none => .stuck
def RepRs (K : KK) (φ : List Addr) (H : Hp) : List D → List V → Prop := Paired (RepR K φ H)
def tOpN (C : Ctx) : List Opd → TA
  | [] => tNil
  | o :: r => tCons (opT C o) (tOpN C r)
theorem runN {X : Cx} {C : Ctx} : ∀ {es : List Expr} {os : List Opd} (hm : Paired (MO X C) es os) {σ : SS} {H : Hp} {φ : List Addr} {st : MS} {R : List V → Hp → Prop}, Rel C φ st σ H →
    Post C σ φ H (opN os st) (fun ds st' φ' H' => ∀ vs, RepRs C.K φ' H' ds vs → R vs H') → tOpN C os σ H R
  | _, _, .nil, σ, H, φ, st, R, rel, h => h φ H rel .refl [] .nil
  | _, _, @Paired.cons _ _ _ e o es os m t, σ, H, φ, st, R, rel, h => by
    cases o with
    | val mv =>
      refine ⟨st, φ, rel, Post.mono (Post.bind h) fun x st1 φ1 H1 R1 S1 h1 v hv => ?_⟩
      refine runN t R1 (Post.mono (Post.bind h1) fun xs st2 φ2 H2 R2 S2 h2 vs hvs => ?_)
      exact h2 φ2 H2 R2 .refl (v :: vs) (.cons (.inl (hv.rep.mono S2.fz S2.pre)) hvs)
    | own i =>
      have ho := m.ok i rfl
      unfold opN at h
      cases e0 : st.get i with
      | none => rw [e0] at h; exact h.elim
      | some x0 =>
        rw [e0] at h
        obtain ⟨a, ea, _⟩ := rel.own i x0 ho (MS.get_some e0)
        refine ⟨.ref a, ea, ?_⟩
        refine runN t rel (Post.mono (Post.bind h) fun xs st2 φ2 H2 R2 S2 h2 vs hvs => ?_)
        cases e : st2.get i with
        | none => rw [e] at h2; exact h2.elim
        | some x =>
          rw [e] at h2
          obtain ⟨a', ea', ow, _⟩ := R2.own i x ho (MS.get_some e)
          rw [ea] at ea'
          cases ea'
          exact h2 φ2 H2 R2 .refl (.ref a :: vs) (.cons (.inr ⟨a, rfl, ow⟩) hvs)
end Q
set_option Elab.async false
set_option linter.all false
set_option maxRecDepth 100000
set_option autoImplicit false
/-! QC: data as the library reads it; equality, membership, order -/
namespace Q
open PySem PySem.Spec PyProof.Rows L2

mutual
/-- the library's data -/
def D.py : D → PyData
  | .non => .none
  | .bl b => .bool b
  | .int i => .int i
  | .str s => .str s
  | .lst xs => .list (D.pyAll xs)
  | .raw xs => .list (D.pyAll xs)
  | .tup xs => .tuple (D.pyAll xs)
  | _ => .none
def D.pyAll : List D → List PyData
  | [] => []
  | x :: xs => D.py x :: D.pyAll xs
end
mutual
/-- numbers, truth values, None, texts, lists, tuples of these -/
def D.pl : D → Bool
  | .non => true
  | .bl _ => true
  | .int _ => true
  | .str _ => true
  | .lst xs => D.plAll xs
  | .tup xs => D.plAll xs
  | _ => false
def D.plAll : List D → Bool
  | [] => true
  | x :: xs => D.pl x && D.plAll xs
end
mutual
def D.eqv : D → D → Bool
  | .non, .non => true
  | .bl a, .bl b => a == b
  | .bl a, .int j => (if a then 1 else 0) == j
  | .int i, .bl b => i == (if b then 1 else 0)
  | .int i, .int j => i == j
  | .str x, .str y => x == y
  | .lst xs, .lst ys => D.eqvAll xs ys
  | .tup xs, .tup ys => D.eqvAll xs ys
  | _, _ => false
def D.eqvAll : List D → List D → Bool
  | [], [] => true
  | x :: xs, y :: ys => D.eqv x y && D.eqvAll xs ys
  | _, _ => false
end
/-- not nested deeper than so -/
def D.sh : Nat → D → Bool
  | 0, .lst _ => false
  | 0, .tup _ => false
  | n + 1, .lst xs => xs.all (D.sh n)
  | n + 1, .tup xs => xs.all (D.sh n)
  | _, _ => true

mutual
theorem D.pl_plain : ∀ d : D, d.pl = true → d.py.plain = true
  | .non, _ => rfl
  | .bl _, _ => rfl
  | .int _, _ => rfl
  | .str _, _ => rfl
  | .lst xs, h => by
    unfold D.pl at h
    unfold D.py PyData.plain
    exact D.plAll_plain xs h
  | .tup xs, h => by
    unfold D.pl at h
    unfold D.py PyData.plain
    exact D.plAll_plain xs h
  | .dic _, h => by unfold D.pl at h; cases h
  | .set _, h => by unfold D.pl at h; cases h
  | .ref _, h => by unfold D.pl at h; cases h
  | .fn _ _, h => by unfold D.pl at h; cases h
  | .raw _, h => by unfold D.pl at h; cases h
theorem D.plAll_plain : ∀ xs : List D, D.plAll xs = true → PyData.plainAll (D.pyAll xs) = true
  | [], _ => by unfold D.pyAll PyData.plainAll; rfl
  | x :: xs, h => by
    unfold D.plAll at h
    rw [Bool.and_eq_true] at h
    unfold D.pyAll PyData.plainAll
    rw [D.pl_plain x h.1, D.plAll_plain xs h.2]
    rfl
end
mutual
theorem D.eqv_py : ∀ a b : D, a.pl = true → b.pl = true → D.eqv a b = PyData.eqv a.py b.py
  | .non, b, _, hb => by cases b <;> first | (unfold D.pl at hb; cases hb; done) | (simp only [D.eqv, D.py, PyData.eqv])
  | .bl _, b, _, hb => by cases b <;> first | (unfold D.pl at hb; cases hb; done) | (simp only [D.eqv, D.py, PyData.eqv])
  | .int _, b, _, hb => by cases b <;> first | (unfold D.pl at hb; cases hb; done) | (simp only [D.eqv, D.py, PyData.eqv])
  | .str _, b, _, hb => by cases b <;> first | (unfold D.pl at hb; cases hb; done) | (simp only [D.eqv, D.py, PyData.eqv])
  | .lst xs, b, ha, hb => by
    cases b with
    | lst ys =>
      unfold D.pl at ha hb
      simp only [D.eqv, D.py, PyData.eqv]
      exact D.eqvAll_py xs ys ha hb
    | _ => first | (unfold D.pl at hb; cases hb; done) | (simp only [D.eqv, D.py, PyData.eqv])
  | .tup xs, b, ha, hb => by
    cases b with
    | tup ys =>
      unfold D.pl at ha hb
      simp only [D.eqv, D.py, PyData.eqv]
      exact D.eqvAll_py xs ys ha hb
    | _ => first | (unfold D.pl at hb; cases hb; done) | (simp only [D.eqv, D.py, PyData.eqv])
  | .dic _, _, h, _ => by unfold D.pl at h; cases h
  | .set _, _, h, _ => by unfold D.pl at h; cases h
  | .ref _, _, h, _ => by unfold D.pl at h; cases h
  | .fn _ _, _, h, _ => by unfold D.pl at h; cases h
  | .raw _, _, h, _ => by unfold D.pl at h; cases h
theorem D.eqvAll_py : ∀ xs ys : List D, D.plAll xs = true → D.plAll ys = true → D.eqvAll xs ys = PyData.eqvAll (D.pyAll xs) (D.pyAll ys)
  | [], [], _, _ => by simp only [D.eqvAll, D.pyAll, PyData.eqvAll]
  | [], _ :: _, _, _ => by simp only [D.eqvAll, D.pyAll, PyData.eqvAll]
  | _ :: _, [], _, _ => by simp only [D.eqvAll, D.pyAll, PyData.eqvAll]
  | x :: xs, y :: ys, ha, hb => by
    unfold D.plAll at ha hb
    rw [Bool.and_eq_true] at ha hb
    simp only [D.eqvAll, D.pyAll, PyData.eqvAll]
    rw [D.eqv_py x y ha.1 hb.1, D.eqvAll_py xs ys ha.2 hb.2]
end
theorem D.pyAll_eq : ∀ xs : List D, D.pyAll xs = xs.map D.py
  | [] => by unfold D.pyAll; rfl
  | x :: xs => by unfold D.pyAll; rw [D.pyAll_eq xs]; rfl
theorem D.plAll_eq : ∀ xs : List D, D.plAll xs = xs.all D.pl
  | [] => by unfold D.plAll; rfl
  | x :: xs => by unfold D.plAll; rw [D.plAll_eq xs]; rfl
theorem depthAll_le {n : Nat} : ∀ {xs : List PyData}, (∀ x ∈ xs, x.depth ≤ n) → PyData.depthAll xs ≤ n
  | [], _ => by unfold PyData.depthAll; exact Nat.zero_le _
  | x :: xs, h => by
    unfold PyData.depthAll
    exact Nat.max_le.mpr ⟨h x List.mem_cons_self, depthAll_le fun y hy => h y (List.mem_cons_of_mem _ hy)⟩
theorem D.sh_depth : ∀ (n : Nat) (d : D), d.pl = true → D.sh n d = true → d.py.depth ≤ n
  | n, .non, _, _ => by unfold D.py PyData.depth; exact Nat.zero_le _
  | n, .bl _, _, _ => by unfold D.py PyData.depth; exact Nat.zero_le _
  | n, .int _, _, _ => by unfold D.py PyData.depth; exact Nat.zero_le _
  | n, .str _, _, _ => by unfold D.py PyData.depth; exact Nat.zero_le _
  | 0, .lst _, _, h => by unfold D.sh at h; cases h
  | 0, .tup _, _, h => by unfold D.sh at h; cases h
  | n + 1, .lst xs, hp, h => by
    unfold D.sh at h
    unfold D.pl at hp
    rw [D.plAll_eq] at hp
    unfold D.py PyData.depth
    refine Nat.succ_le_succ (depthAll_le fun x hx => ?_)
    rw [D.pyAll_eq] at hx
    obtain ⟨y, hy, rfl⟩ := List.mem_map.mp hx
    exact D.sh_depth n y (List.all_eq_true.mp hp y hy) (List.all_eq_true.mp h y hy)
  | n + 1, .tup xs, hp, h => by
    unfold D.sh at h
    unfold D.pl at hp
    rw [D.plAll_eq] at hp
    unfold D.py PyData.depth
    refine Nat.succ_le_succ (depthAll_le fun x hx => ?_)
    rw [D.pyAll_eq] at hx
    obtain ⟨y, hy, rfl⟩ := List.mem_map.mp hx
    exact D.sh_depth n y (List.all_eq_true.mp hp y hy) (List.all_eq_true.mp h y hy)
  | _, .dic _, h, _ => by unfold D.pl at h; cases h
  | _, .set _, h, _ => by unfold D.pl at h; cases h
  | _, .ref _, h, _ => by unfold D.pl at h; cases h
  | _, .fn _ _, h, _ => by unfold D.pl at h; cases h
  | _, .raw _, h, _ => by unfold D.pl at h; cases h

/-! ### reading -/
section
variable {X : Cx} {pins : List (Addr × Obj)} {σ : SS} {H : Hp} {s : Shared} {φ : List Addr} {k : KK}
mutual
theorem RepD.reads (hk : X.K = k.f) (I : Inv X pins σ H s) : ∀ (d : D) (v : V) (u : Value), d.pl = true → RepD k φ H d v → RelV v u → ∃ as, Reads s.heap u d.py as
  | .non, _, _, _, h, r => by
    unfold RepD at h
    subst h
    cases r
    exact ⟨_, Reads.none⟩
  | .bl b, _, _, _, h, r => by
    unfold RepD at h
    subst h
    cases r
    exact ⟨_, Reads.bool b⟩
  | .int i, _, _, _, h, r => by
    unfold RepD at h
    subst h
    obtain ⟨t, rfl⟩ := r
    exact ⟨_, Reads.int i t⟩
  | .str x, _, _, _, h, r => by
    unfold RepD at h
    subst h
    obtain ⟨t, rfl⟩ := r
    exact ⟨_, Reads.str x t⟩
  | .lst ds, _, _, hp, h, r => by
    unfold RepD at h
    unfold D.pl at hp
    obtain ⟨a, o, vs, rfl, hs, ha⟩ := h
    cases r
    obtain ⟨its, rv, ⟨o, n, ho, hc, _, hd⟩, _⟩ := I.list (show SqL X.K H a vs from .inl (.inr ⟨o, hs⟩))
    obtain ⟨as, hr⟩ := RepAll.reads hk I ds _ its hp ha rv
    exact ⟨_, Reads.list ho hc hd (by simpa using hr)⟩
  | .tup ds, _, _, hp, h, r => by
    unfold RepD at h
    unfold D.pl at hp
    obtain ⟨a, vs, rfl, hs, ha⟩ := h
    cases r
    obtain ⟨its, rv, ⟨o, ho, hc, n, hd⟩, _⟩ := I.tuple (hk ▸ hs)
    obtain ⟨as, hr⟩ := RepAll.reads hk I ds _ its hp ha rv
    exact ⟨_, Reads.tuple ho hc hd (by simpa using hr)⟩
  | .dic _, _, _, h, _, _ => by unfold D.pl at h; cases h
  | .set _, _, _, h, _, _ => by unfold D.pl at h; cases h
  | .ref _, _, _, h, _, _ => by unfold D.pl at h; cases h
  | .fn _ _, _, _, h, _, _ => by unfold D.pl at h; cases h
  | .raw _, _, _, h, _, _ => by unfold D.pl at h; cases h
theorem RepAll.reads (hk : X.K = k.f) (I : Inv X pins σ H s) : ∀ (ds : List D) (vs : List V) (us : List Value), D.plAll ds = true → RepAll k φ H ds vs → Vals vs us → ∃ as, ReadsAll s.heap us (D.pyAll ds) as
  | [], _, _, _, h, r => by
    rw [h.of_nil] at r
    cases r
    exact ⟨_, ReadsAll.nil⟩
  | d :: ds, _, _, hp, h, r => by
    unfold D.plAll at hp
    rw [Bool.and_eq_true] at hp
    obtain ⟨v, vr, rfl, h1, h2⟩ := h.of_cons
    cases r with
    | cons r1 r2 =>
      obtain ⟨as, q1⟩ := RepD.reads hk I d _ _ hp.1 h1 r1
      obtain ⟨bs, q2⟩ := RepAll.reads hk I ds _ _ hp.2 h2 r2
      exact ⟨_, ReadsAll.cons q1 q2⟩
end
theorem RepR.reads (hk : X.K = k.f) (I : Inv X pins σ H s) {d : D} {v : V} {u : Value} (hp : d.pl = true) (h : RepR k φ H d v) (r : RelV v u) : ∃ as, Reads s.heap u d.py as := by
  rcases h with h | ⟨a, rfl, h⟩
  · exact h.reads hk I d v u hp r
  · cases d with
    | lst ds =>
      obtain ⟨vs, hs, ha⟩ := h
      unfold D.pl at hp
      cases r
      obtain ⟨its, rv, ⟨o, n, ho, hc, _, hd⟩, _⟩ := I.list (show SqL X.K H a vs from .inl (.inl hs))
      obtain ⟨as, hr⟩ := RepAll.reads hk I ds _ its hp ha rv
      exact ⟨_, Reads.list ho hc hd (by simpa using hr)⟩
    | dic kvs => unfold D.pl at hp; cases hp
    | _ => exact h.elim
end
def shallow (a b : D) : Bool := D.sh 8 a || D.sh 8 b
theorem shallow_le {a b : D} (ha : a.pl = true) (hb : b.pl = true) (h : shallow a b = true) : min a.py.depth b.py.depth ≤ 8 := by
  unfold shallow at h
  rw [Bool.or_eq_true] at h
  rcases h with h | h
  · exact Nat.le_trans (Nat.min_le_left _ _) (D.sh_depth 8 a ha h)
  · exact Nat.le_trans (Nat.min_le_right _ _) (D.sh_depth 8 b hb h)
end Q
set_option Elab.async false
set_option linter.all false
set_option maxRecDepth 100000
set_option autoImplicit false
/-! QD: operations on data -/
namespace Q
open PySem PySem.Spec PyProof.Rows L2

section
variable {K : KK} {φ : List Addr} {H : Hp} {v : V}
theorem RepR.int {i : Int} (h : RepR K φ H (.int i) v) : v = .int i := by
  rcases h with h | ⟨a, _, h⟩
  · unfold RepD at h; exact h
  · exact h.elim
theorem RepR.str {i : Str} (h : RepR K φ H (.str i) v) : v = .str i := by
  rcases h with h | ⟨a, _, h⟩
  · unfold RepD at h; exact h
  · exact h.elim
theorem RepR.bl {i : Bool} (h : RepR K φ H (.bl i) v) : v = .bl i := by
  rcases h with h | ⟨a, _, h⟩
  · unfold RepD at h; exact h
  · exact h.elim
theorem RepR.non (h : RepR K φ H .non v) : v = .non := by
  rcases h with h | ⟨a, _, h⟩
  · unfold RepD at h; exact h
  · exact h.elim
theorem RepR.tup {xs : List D} (h : RepR K φ H (.tup xs) v) : ∃ a vs, v = .ref a ∧ SqT K H a vs ∧ RepAll K φ H xs vs := by
  rcases h with h | ⟨a, _, h⟩
  · unfold RepD at h; exact h
  · exact h.elim
theorem RepR.lst {xs : List D} (h : RepR K φ H (.lst xs) v) : ∃ a vs, v = .ref a ∧ Rd H a (.lst vs) ∧ RepAll K φ H xs vs := by
  rcases h with h | ⟨a, e, h⟩
  · unfold RepD at h
    obtain ⟨a, o, vs, e, q, r⟩ := h
    exact ⟨a, vs, e, .inr ⟨o, q⟩, r⟩
  · obtain ⟨vs, q, r⟩ := h
    exact ⟨a, vs, e, .inl q, r⟩
theorem RepR.raw {xs : List D} (h : RepR K φ H (.raw xs) v) : ∃ a vs, v = .ref a ∧ SqL K H a vs ∧ RepAll K φ H xs vs := by
  rcases h with h | ⟨a, e, h⟩
  · unfold RepD at h
    obtain ⟨a, vs, e, q, r⟩ := h
    exact ⟨a, vs, e, q.sql, r⟩
  · exact h.elim
theorem RepRs.one {d : D} {vs : List V} (h : RepRs K φ H [d] vs) : ∃ v, vs = [v] ∧ RepR K φ H d v := by
  cases h with
  | cons a t => cases t; exact ⟨_, rfl, a⟩
theorem RepRs.two {d e : D} {vs : List V} (h : RepRs K φ H [d, e] vs) : ∃ v w, vs = [v, w] ∧ RepR K φ H d v ∧ RepR K φ H e w := by
  cases h with
  | cons a t => cases t with
    | cons b t => cases t; exact ⟨_, _, rfl, a, b⟩
theorem RepRs.nil {vs : List V} (h : RepRs K φ H [] vs) : vs = [] := by cases h; rfl
end

/-- a new result of an operation -/
abbrev ValN (C : Ctx) (φ : List Addr) (o : Bool) (H H' : Hp) (d : D) (v : V) : Prop := ValR C o φ H H' d v
theorem ValN.of_rep {C : Ctx} {φ : List Addr} {o : Bool} {H H' : Hp} {d : D} {v : V} (ho : (o && isOwn d) = false) (h : RepD C.K φ H' d v) : ValN C φ o H H' d v := ValR.of_rep ho h
theorem ValR.shift {C : Ctx} {o : Bool} {σ : SS} {φ φ1 φ' : List Addr} {H H1 H' : Hp} {d : D} {v : V} (S : Step C σ φ H φ1 H1) (h : ValR C o φ' H1 H' d v) : ValR C o φ' H H' d v := by
  unfold ValR at h ⊢
  split
  · rename_i hc
    rw [if_pos hc] at h
    obtain ⟨a, e, ow, w⟩ := h
    refine ⟨a, e, ow, ?_⟩
    cases q : H a with
    | none => rfl
    | some x => exact absurd w (S.dom a (by rw [q]; exact fun z => by cases z))
  · rename_i hc
    rw [if_neg hc] at h
    exact h

/-! ### argument lists -/
structure MA (X : Cx) (C : Ctx) (es : List Expr) (os : List Opd) : Prop where
  pa : PA X es (tOpN C os)
  all : Paired (MO X C) es os
theorem ma_nil {X : Cx} {C : Ctx} : MA X C [] [] := ⟨pa_nil, .nil⟩
theorem ma_cons {X : Cx} {C : Ctx} {e : Expr} {es : List Expr} {o : Opd} {os : List Opd} (h : MO X C e o) (t : MA X C es os) (hs : starEach (e :: es) X.env = (false, eval e X.env) :: starEach es X.env := by rfl) : MA X C (e :: es) (o :: os) :=
  ⟨pa_cons h.pe t.pa hs, .cons h t.all⟩

def eOp (g : List D → Option D) (os : List Opd) : MS → Res D := fun st => (opN os st).bind fun ds st' => match g ds with
  | some d => .ok d st'
  | none => .stuck
def OpD (C : Ctx) (o : Bool) (r : List V → Hp → VK → Prop) (g : List D → Option D) : Prop :=
  ∀ φ st σ H, Rel C φ st σ H → ∀ ds vs d Q, RepRs C.K φ H ds vs → g ds = some d → (∀ v H', Same H H' → ValN C φ o H H' d v → Q v H') → r vs H Q
theorem run_op {X : Cx} {C : Ctx} {o : Bool} {es : List Expr} {os : List Opd} {r : List V → Hp → VK → Prop} {g : List D → Option D} (hm : Paired (MO X C) es os) (hg : OpD C o r g) {σ : SS} {H : Hp} {Q : VK} (h : tV C o (eOp g os) σ H Q) : tOpN C os σ H fun vs H1 => r vs H1 Q := by
  obtain ⟨st, φ, R, q⟩ := h
  unfold eOp at q
  have b := Post.bind q
  -- the step from the start is needed for the result
  have b' : Post C σ φ H (opN os st) fun ds st' φ' H' => Step C σ φ H φ' H' ∧ Rel C φ' st' σ H' ∧ Post C σ φ' H' (match g ds with | some d => .ok d st' | none => .stuck) fun d _ φ'' H'' => ∀ v, ValR C o φ'' H H'' d v → Q v H'' :=
    Post.mono b fun ds st' φ' H' R' S' p => ⟨S', R', p⟩
  refine runN hm R (Post.mono b' fun ds st' φ' H' R' S' p vs hvs => ?_)
  obtain ⟨_, _, p⟩ := p
  cases e : g ds with
  | none => rw [e] at p; exact p.elim
  | some d =>
    rw [e] at p
    refine hg φ' st' σ H' R' ds vs d Q hvs e fun v H'' s hv => ?_
    exact p φ' H'' (R'.same s) (.same s) v (ValR.shift S' hv)
/-- two operands -/
def rB (r : R2) : List V → Hp → VK → Prop := fun vs H Q => ∃ x y, vs = [x, y] ∧ r x y H Q
theorem run_bin {X : Cx} {C : Ctx} {o : Bool} {a b : Expr} {oa ob : Opd} {r : R2} {g : List D → Option D} (ha : MO X C a oa) (hb : MO X C b ob) (hg : OpD C o (rB r) g) {σ : SS} {H : Hp} {Q : VK} (h : tV C o (eOp g [oa, ob]) σ H Q) : tOp r (opT C oa) (opT C ob) σ H Q := by
  have t : tOpN C [oa, ob] σ H fun vs H1 => rB r vs H1 Q := run_op (.cons ha (.cons hb .nil)) hg h
  have t' : opT C oa σ H fun x H1 => opT C ob σ H1 fun y H2 => rB r [x, y] H2 Q := t
  unfold tOp
  have m1 : (fun x H1 => opT C ob σ H1 fun y H2 => rB r [x, y] H2 Q) = fun x H1 => opT C ob σ H1 fun y H2 => r x y H2 Q := by
    funext x H1
    congr 1
    funext y H2
    refine propext ⟨fun ⟨x', y', e, q⟩ => ?_, fun q => ⟨x, y, rfl, q⟩⟩
    cases e
    exact q
  rw [m1] at t'
  exact t'
section
variable {X : Cx} {C : Ctx} {o : Bool} {a b : Expr} {oa ob : Opd} {r : R2} {g : List D → Option D} {pos : Pos}
theorem me_bin {op : Operator} (ho : OpR X (binaryOp op) r) (hg : OpD C o (rB r) g) (ha : MO X C a oa) (hb : MO X C b ob) : ME X C o (.BinOp a op b pos) (eOp g [oa, ob]) :=
  PE.weak (pe_op ho ha.pe hb.pe) fun _ _ _ h => run_bin ha hb hg h
theorem me_cmp {op : CmpOp} (ho : OpR X (compareOp op) r) (hg : OpD C o (rB r) g) (ha : MO X C a oa) (hb : MO X C b ob) (hm : behindInMarks op b = false) : ME X C o (.Compare a [op] [b] pos) (eOp g [oa, ob]) :=
  PE.weak (pe_cmpR ho ha.pe hb.pe hm) fun _ _ _ h => run_bin ha hb hg h
end
/-- a truth value as a test -/
def eT (m : MS → Res D) : MS → Res Bool := fun st => (m st).bind fun d st' => match d with
  | .bl b => .ok b st'
  | _ => .stuck
theorem run_test {C : Ctx} {o : Bool} {m : MS → Res D} {σ : SS} {H : Hp} {Q : Bool → Hp → Prop} (h : tT C (eT m) σ H Q) : tV C o m σ H fun x H' => ∃ k, x = .bl k ∧ Q k H' := by
  obtain ⟨st, φ, R, q⟩ := h
  refine ⟨st, φ, R, Post.mono (Post.bind q) fun d st' φ' H' R' S' p v hv => ?_⟩
  cases d with
  | bl b =>
    unfold ValR at hv
    have e : (o && isOwn (.bl b)) = false := by cases o <;> rfl
    rw [e, if_neg Bool.false_ne_true] at hv
    unfold RepD at hv
    exact ⟨b, hv, p φ' H' R' .refl⟩
  | _ => exact p.elim
section
variable {X : Cx} {C : Ctx} {a b : Expr} {oa ob : Opd} {r : R2} {g : List D → Option D} {pos : Pos}
theorem mt_cmp {op : CmpOp} (ho : OpR X (compareOp op) r) (hg : OpD C false (rB r) g) (ha : MO X C a oa) (hb : MO X C b ob) (hm : behindInMarks op b = false) : MT X C (.Compare a [op] [b] pos) (eT (eOp g [oa, ob])) :=
  PT.weak (pt_cmpR ho ha.pe hb.pe hm) fun _ _ _ h => run_bin ha hb hg (run_test h)
/-- a value that is True or False as a test -/
theorem mt_val {e : Expr} {m : MS → Res D} (h : ME X C false e m) (he : ∀ whole, isTrue e X.env whole = (do let v ← whole; standAt e.pos; holding [v] (truthy v)) := by intro _; rfl) : MT X C e (eT m) :=
  PT.weak (pt_val h he) fun _ _ _ h => run_test h
end

/-! ### int operations -/
def g2I (f : Int → Int → Option D) : List D → Option D
  | [.int i, .int j] => f i j
  | _ => none
theorem opd_int {C : Ctx} {o : Bool} {r : R2} {f : Int → Int → Option D} (h : ∀ i j d Q H, f i j = some d → (∀ v, (∀ φ H, RepD C.K φ H d v) → isOwn d = false → Q v H) → r (.int i) (.int j) H Q) : OpD C o (rB r) (g2I f) := by
  intro φ st σ H R ds vs d Q hr hg q
  match ds, hr, hg with
  | [.int i, .int j], hr, hg =>
    obtain ⟨v, w, rfl, h1, h2⟩ := hr.two
    rw [h1.int, h2.int]
    refine ⟨_, _, rfl, h i j d Q H hg fun v hv hn => ?_⟩
    exact q v H (Same.refl H) (.of_rep (by rw [hn, Bool.and_false]) (hv φ H))
def gSub : List D → Option D := g2I fun i j => some (.int (i - j))
theorem opd_sub {C : Ctx} {o : Bool} : OpD C o (rB (rI0 fun i j => .int (i - j))) gSub := opd_int fun i j d Q H e q => by
  cases e
  exact ⟨i, j, rfl, rfl, q _ (fun φ H => by unfold RepD; rfl) rfl⟩
/-- // by a positive divisor -/
def gDiv : List D → Option D := g2I fun i j => if 0 < j ∧ j.natAbs.log2 < 9000 then some (.int (i / j)) else none
theorem opd_div {C : Ctx} {o : Bool} : OpD C o (rB (rI CDivW fun i j => .int (i / j))) gDiv := opd_int fun i j d Q H e q => by
  split at e
  · rename_i hc
    cases e
    exact ⟨i, j, rfl, rfl, hc, q _ (fun φ H => by unfold RepD; rfl) rfl⟩
  · cases e
def gMod : List D → Option D := g2I fun i j => if 0 < j then some (.int (i % j)) else none
theorem opd_mod {C : Ctx} {o : Bool} : OpD C o (rB (rI (fun _ j => 0 < j) fun i j => .int (i % j))) gMod := opd_int fun i j d Q H e q => by
  split at e
  · rename_i hc
    cases e
    exact ⟨i, j, rfl, rfl, hc, q _ (fun φ H => by unfold RepD; rfl) rfl⟩
  · cases e
def gPow : List D → Option D := g2I fun i j => if 0 ≤ j ∧ j ≤ 1000000 ∧ i.natAbs < 2 ^ 64 then some (.int (i ^ j.toNat)) else none
theorem opd_pow {C : Ctx} {o : Bool} : OpD C o (rB (rI CPow fun i j => .int (i ^ j.toNat))) gPow := opd_int fun i j d Q H e q => by
  split at e
  · rename_i hc
    cases e
    exact ⟨i, j, rfl, rfl, hc, q _ (fun φ H => by unfold RepD; rfl) rfl⟩
  · cases e
def gLt : List D → Option D := g2I fun i j => some (.bl (decide (i < j)))
def gLe : List D → Option D := g2I fun i j => some (.bl (decide (i ≤ j)))
def gGt : List D → Option D := g2I fun i j => some (.bl (decide (j < i)))
def gGe : List D → Option D := g2I fun i j => some (.bl (decide (j ≤ i)))
theorem opd_lt {C : Ctx} {o : Bool} : OpD C o (rB (rI0 fun i j => .bl (decide (i < j)))) gLt := opd_int fun i j d Q H e q => by
  cases e
  exact ⟨i, j, rfl, rfl, q _ (fun φ H => by unfold RepD; rfl) rfl⟩
theorem opd_le {C : Ctx} {o : Bool} : OpD C o (rB (rI0 fun i j => .bl (decide (i ≤ j)))) gLe := opd_int fun i j d Q H e q => by
  cases e
  exact ⟨i, j, rfl, rfl, q _ (fun φ H => by unfold RepD; rfl) rfl⟩
theorem opd_gt {C : Ctx} {o : Bool} : OpD C o (rB (rI0 fun i j => .bl (decide (j < i)))) gGt := opd_int fun i j d Q H e q => by
  cases e
  exact ⟨i, j, rfl, rfl, q _ (fun φ H => by unfold RepD; rfl) rfl⟩
theorem opd_ge {C : Ctx} {o : Bool} : OpD C o (rB (rI0 fun i j => .bl (decide (j ≤ i)))) gGe := opd_int fun i j d Q H e q => by
  cases e
  exact ⟨i, j, rfl, rfl, q _ (fun φ H => by unfold RepD; rfl) rfl⟩

/-! ### + -/
/-- list + list, frozen or not -/
theorem inv_rdL {X : Cx} {pins : List (Addr × Obj)} {σ : SS} {H : Hp} {s : Shared} {l : Addr} {xs : List V} (I : Inv X pins σ H s) (h : Rd H l (.lst xs)) : xs.length ≤ sizeLine ∧ ∃ (its : List Value) (n : Nat), Vals xs its ∧ xs.length = its.length ∧ s.heap.get? l = some { cls := .type "list", data := .seq its.toArray n } := by
  obtain ⟨z, its, n, r, e⟩ := h.ok I.hok
  exact ⟨z, its, n, r, r.length, e⟩
def rCatR : R2 := fun x y H Q => ∃ l b xs zs, x = .ref l ∧ y = .ref b ∧ Rd H l (.lst xs) ∧ Rd H b (.lst zs) ∧ xs.length + zs.length ≤ sizeLine ∧ ∀ p, H p = none → Q (.ref p) (upd H p (.lst (xs ++ zs)))
theorem op_catR {X : Cx} : OpR X (binaryOp .Add) rCatR := by
  intro pins s σ H x y v u Q I rx ry h
  obtain ⟨l, b, xs, zs, rfl, rfl, hH, hB, hz, q⟩ := h
  cases rx
  cases ry
  obtain ⟨z, its, n, r, hl, e⟩ := inv_rdL I hH
  obtain ⟨z2, its2, n2, r2, hl2, e2⟩ := inv_rdL I hB
  refine PySem.P.add_list e e2 ?_ (by rw [List.size_toArray, List.size_toArray]; omega)
  have ea : its.toArray ++ its2.toArray = (its ++ its2).toArray := by simp
  rw [ea]
  exact ⟨.ref _, _, I.lnew (t' := s.toks) (r.append r2) (by rw [List.length_append]; omega), rfl, q _ I.fresh⟩
def rAdd (K : PySem.W.Frag) : R2 := fun x y H Q => (rI0 (fun i j => .int (i + j)) x y H Q) ∨ ((∃ i j, x = .str i ∧ y = .str j ∧ i.length + j.length ≤ sizeLine ∧ Q (.str (i ++ j)) H) ∨ (rCatR x y H Q ∨ rCatA K x y H Q))
theorem op_addAll {X : Cx} : OpR X (binaryOp .Add) (rAdd X.K) := op_add.or (op_add_str.or (op_catR.or op_catA))
def gAdd : List D → Option D
  | [.int i, .int j] => some (.int (i + j))
  | [.str x, .str y] => if x.length + y.length ≤ sizeLine then some (.str (x ++ y)) else none
  | [.lst xs, .lst ys] => if xs.length + ys.length ≤ sizeLine then some (.lst (xs ++ ys)) else none
  | [.tup xs, .tup ys] => if xs.length + ys.length ≤ sizeLine then some (.tup (xs ++ ys)) else none
  | _ => none
theorem same_new {H : Hp} {p : Addr} {o : HO} (h : H p = none) : Same H (upd H p o) := fun b x e => by
  rw [upd_ne (ne_of_none e h)]
  exact e
theorem RepAll.same {K : KK} {φ : List Addr} {H H' : Hp} {ds : List D} {vs : List V} (s : Same H H') (h : RepAll K φ H ds vs) : RepAll K φ H' ds vs := h.mono (.of_same s) (.refl φ)
theorem opd_add {C : Ctx} {o : Bool} (ho : o = true) : OpD C o (rB (rAdd C.K)) gAdd := by
  intro φ st σ H R ds vs d Q hr hg q
  match ds, hr, hg with
  | [.int i, .int j], hr, hg =>
    obtain ⟨v, w, rfl, h1, h2⟩ := hr.two
    rw [h1.int, h2.int]
    cases hg
    exact ⟨_, _, rfl, .inl ⟨i, j, rfl, rfl, q _ H (Same.refl H) (.of_rep (by cases o <;> rfl) (by unfold RepD; rfl))⟩⟩
  | [.str x, .str y], hr, hg =>
    obtain ⟨v, w, rfl, h1, h2⟩ := hr.two
    rw [h1.str, h2.str]
    have hg : (if x.length + y.length ≤ sizeLine then some (D.str (x ++ y)) else none) = some d := hg
    split at hg
    · rename_i hc
      cases hg
      exact ⟨_, _, rfl, .inr (.inl ⟨x, y, rfl, rfl, hc, q _ H (Same.refl H) (.of_rep (by cases o <;> rfl) (by unfold RepD; rfl))⟩)⟩
    · cases hg
  | [.lst xs, .lst ys], hr, hg =>
    obtain ⟨v, w, rfl, h1, h2⟩ := hr.two
    obtain ⟨a, vs, rfl, ra, sa⟩ := h1.lst
    obtain ⟨b, ws, rfl, rb, sb⟩ := h2.lst
    have hg : (if xs.length + ys.length ≤ sizeLine then some (D.lst (xs ++ ys)) else none) = some d := hg
    split at hg
    · rename_i hc
      cases hg
      refine ⟨_, _, rfl, .inr (.inr (.inl ⟨a, b, vs, ws, rfl, rfl, ra, rb, by rw [← sa.length, ← sb.length]; exact hc, fun p hp => ?_⟩))⟩
      refine q _ _ (same_new hp) ?_
      subst ho
      unfold ValN ValR
      rw [if_pos (show (true && isOwn (.lst (xs ++ ys))) = true from rfl)]
      exact ⟨p, rfl, ⟨vs ++ ws, upd_same, RepAll.same (same_new hp) (sa.append sb)⟩, hp⟩
    · cases hg
  | [.tup xs, .tup ys], hr, hg =>
    obtain ⟨v, w, rfl, h1, h2⟩ := hr.two
    obtain ⟨a, vs, rfl, ra, sa⟩ := h1.tup
    obtain ⟨b, ws, rfl, rb, sb⟩ := h2.tup
    have hg : (if xs.length + ys.length ≤ sizeLine then some (D.tup (xs ++ ys)) else none) = some d := hg
    split at hg
    · rename_i hc
      cases hg
      refine ⟨_, _, rfl, .inr (.inr (.inr ⟨a, b, vs, ws, rfl, rfl, ra, rb, by rw [← sa.length, ← sb.length]; exact hc, fun e => ?_, fun _ e => ?_, fun _ _ p hp => ?_⟩))⟩
      · refine q _ _ (Same.refl H) (.of_rep (by cases o <;> rfl) ?_)
        unfold RepD
        exact ⟨b, vs ++ ws, rfl, by rw [e]; exact rb, sa.append sb⟩
      · refine q _ _ (Same.refl H) (.of_rep (by cases o <;> rfl) ?_)
        unfold RepD
        exact ⟨a, vs ++ ws, rfl, by rw [e, List.append_nil]; exact ra, sa.append sb⟩
      · refine q _ _ (same_new hp) (.of_rep (by cases o <;> rfl) ?_)
        unfold RepD
        exact ⟨p, vs ++ ws, rfl, .inl (.inl upd_same), RepAll.same (same_new hp) (sa.append sb)⟩
    · cases hg
section
variable {X : Cx} {C : Ctx} {o : Bool} {a b : Expr} {oa ob : Opd} {pos : Pos}
theorem me_addO (hk : X.K = C.K) (ha : MO X C a oa) (hb : MO X C b ob) : ME X C true (.BinOp a .Add b pos) (eOp gAdd [oa, ob]) := me_bin op_addAll (by rw [hk]; exact opd_add rfl) ha hb
theorem me_add (hk : X.K = C.K) (ha : MO X C a oa) (hb : MO X C b ob) : ME X C false (.BinOp a .Add b pos) (eOp gAdd [oa, ob]) := (me_addO hk ha hb).fz
theorem me_sub (ha : MO X C a oa) (hb : MO X C b ob) : ME X C o (.BinOp a .Sub b pos) (eOp gSub [oa, ob]) := me_bin op_sub opd_sub ha hb
theorem me_div (ha : MO X C a oa) (hb : MO X C b ob) : ME X C o (.BinOp a .FloorDiv b pos) (eOp gDiv [oa, ob]) := me_bin op_fdivW opd_div ha hb
theorem me_mod (ha : MO X C a oa) (hb : MO X C b ob) : ME X C o (.BinOp a .Mod b pos) (eOp gMod [oa, ob]) := me_bin op_mod opd_mod ha hb
theorem me_pow (ha : MO X C a oa) (hb : MO X C b ob) : ME X C o (.BinOp a .Pow b pos) (eOp gPow [oa, ob]) := me_bin op_pow opd_pow ha hb
theorem me_lt (ha : MO X C a oa) (hb : MO X C b ob) : ME X C o (.Compare a [.Lt] [b] pos) (eOp gLt [oa, ob]) := me_cmp op_lt opd_lt ha hb (nomark b)
theorem me_le (ha : MO X C a oa) (hb : MO X C b ob) : ME X C o (.Compare a [.LtE] [b] pos) (eOp gLe [oa, ob]) := me_cmp op_le opd_le ha hb (nomark b)
theorem me_gt (ha : MO X C a oa) (hb : MO X C b ob) : ME X C o (.Compare a [.Gt] [b] pos) (eOp gGt [oa, ob]) := me_cmp op_gt opd_gt ha hb (nomark b)
theorem me_ge (ha : MO X C a oa) (hb : MO X C b ob) : ME X C o (.Compare a [.GtE] [b] pos) (eOp gGe [oa, ob]) := me_cmp op_ge opd_ge ha hb (nomark b)
theorem mt_lt (ha : MO X C a oa) (hb : MO X C b ob) : MT X C (.Compare a [.Lt] [b] pos) (eT (eOp gLt [oa, ob])) := mt_cmp op_lt opd_lt ha hb (nomark b)
theorem mt_le (ha : MO X C a oa) (hb : MO X C b ob) : MT X C (.Compare a [.LtE] [b] pos) (eT (eOp gLe [oa, ob])) := mt_cmp op_le opd_le ha hb (nomark b)
theorem mt_gt (ha : MO X C a oa) (hb : MO X C b ob) : MT X C (.Compare a [.Gt] [b] pos) (eT (eOp gGt [oa, ob])) := mt_cmp op_gt opd_gt ha hb (nomark b)
theorem mt_ge (ha : MO X C a oa) (hb : MO X C b ob) : MT X C (.Compare a [.GtE] [b] pos) (eT (eOp gGe [oa, ob])) := mt_cmp op_ge opd_ge ha hb (nomark b)
end
end Q
set_option Elab.async false
set_option linter.all false
set_option maxRecDepth 100000
set_option autoImplicit false
/-! QE: ==, in, *, places, slices, len, displays, tests -/
namespace Q
open PySem PySem.Spec PyProof.Rows L2 PySem.SeqAt

theorem rep_bl {C : Ctx} {φ : List Addr} {o : Bool} {H H' : Hp} {b : Bool} : ValN C φ o H H' (.bl b) (.bl b) := .of_rep (by cases o <;> rfl) (by unfold RepD; rfl)
theorem rep_int {C : Ctx} {φ : List Addr} {o : Bool} {H H' : Hp} {b : Int} : ValN C φ o H H' (.int b) (.int b) := .of_rep (by cases o <;> rfl) (by unfold RepD; rfl)
theorem rep_str {C : Ctx} {φ : List Addr} {o : Bool} {H H' : Hp} {b : Str} : ValN C φ o H H' (.str b) (.str b) := .of_rep (by cases o <;> rfl) (by unfold RepD; rfl)
theorem rep_non {C : Ctx} {φ : List Addr} {o : Bool} {H H' : Hp} : ValN C φ o H H' .non .non := .of_rep (by cases o <;> rfl) (by unfold RepD; rfl)

/-! ### == and != -/
def rEqQ (K : KK) (neg : Bool) : R2 := fun x y H Q => ∃ φ d e, RepR K φ H d x ∧ RepR K φ H e y ∧ d.pl = true ∧ e.pl = true ∧ shallow d e = true ∧ Q (.bl (neg != D.eqv d e)) H
theorem op_eqQ {X : Cx} {k : KK} (hk : X.K = k.f) (hu : X.A.units + 64 < cLine) : OpR X (compareOp .Eq) (rEqQ k false) := by
  intro pins s σ H x y v u Q I rx ry h
  obtain ⟨φ, d, e, hd, he, pd, pe, sh, q⟩ := h
  obtain ⟨as, r1⟩ := hd.reads hk I pd rx
  obtain ⟨bs, r2⟩ := he.reads hk I pe ry
  have hm := shallow_le pd pe sh
  refine eq_plain r1 r2 (D.pl_plain d pd) (D.pl_plain e pe) (by omega) (fin_bl I q ?_)
  rw [D.eqv_py d e pd pe]
  cases PyData.eqv d.py e.py <;> rfl
theorem op_neQ {X : Cx} {k : KK} (hk : X.K = k.f) (hu : X.A.units + 64 < cLine) : OpR X (compareOp .NotEq) (rEqQ k true) := by
  intro pins s σ H x y v u Q I rx ry h
  obtain ⟨φ, d, e, hd, he, pd, pe, sh, q⟩ := h
  obtain ⟨as, r1⟩ := hd.reads hk I pd rx
  obtain ⟨bs, r2⟩ := he.reads hk I pe ry
  have hm := shallow_le pd pe sh
  refine ne_plain r1 r2 (D.pl_plain d pd) (D.pl_plain e pe) (by omega) (fin_bl I q ?_)
  rw [D.eqv_py d e pd pe]
  cases PyData.eqv d.py e.py <;> rfl
def gEqN (neg : Bool) : List D → Option D
  | [a, b] => if (a.pl && b.pl && shallow a b) = true then some (.bl (neg != D.eqv a b)) else none
  | _ => none
def gEq : List D → Option D := gEqN false
def gNe : List D → Option D := gEqN true
theorem opd_eq {C : Ctx} {o neg : Bool} : OpD C o (rB (rEqQ C.K neg)) (gEqN neg) := by
  intro φ st σ H R ds vs d Q hr hg q
  match ds, hr, hg with
  | [a, b], hr, hg =>
    obtain ⟨v, w, rfl, h1, h2⟩ := hr.two
    have hg : (if (a.pl && b.pl && shallow a b) = true then some (D.bl (neg != D.eqv a b)) else none) = some d := hg
    split at hg
    · rename_i hc
      rw [Bool.and_eq_true, Bool.and_eq_true] at hc
      cases hg
      exact ⟨_, _, rfl, φ, a, b, h1, h2, hc.1.1, hc.1.2, hc.2, q _ H (Same.refl H) rep_bl⟩
    · cases hg

/-! ### in, not in -/
def rInQ (K : KK) (neg : Bool) : R2 := fun x y H Q => ∃ φ d e ds, RepR K φ H d x ∧ RepR K φ H e y ∧ (e = .lst ds ∨ e = .tup ds) ∧ d.pl = true ∧ e.pl = true ∧ D.sh 8 d = true ∧ Q (.bl (neg != ds.any fun z => D.eqv z d)) H
theorem any_py {d : D} (pd : d.pl = true) : ∀ {ds : List D}, D.plAll ds = true → (ds.any fun z => D.eqv z d) = (D.pyAll ds).any fun z => PyData.eqv z d.py
  | [], _ => by unfold D.pyAll; rfl
  | x :: xs, h => by
    unfold D.plAll at h
    rw [Bool.and_eq_true] at h
    unfold D.pyAll
    rw [List.any_cons, List.any_cons, any_py pd h.2, D.eqv_py x d h.1 pd]
theorem op_inQ {X : Cx} {k : KK} (hk : X.K = k.f) (hu : X.A.units + 64 < cLine) : OpR X (compareOp .In) (rInQ k false) := by
  intro pins s σ H x y v u Q I rx ry h
  obtain ⟨φ, d, e, ds, hd, he, hs, pd, pe, sh, q⟩ := h
  obtain ⟨as, r1⟩ := hd.reads hk I pd rx
  obtain ⟨bs, r2⟩ := he.reads hk I pe ry
  have hm := D.sh_depth 8 d pd sh
  have hm2 : ∀ n, min n d.py.depth ≤ 8 := fun n => Nat.le_trans (Nat.min_le_right _ _) hm
  have hm3 := hm2 (PyData.depthAll (D.pyAll ds))
  rcases hs with rfl | rfl
  · unfold D.pl at pe
    unfold D.py at r2
    refine in_list_data r2 r1 (D.plAll_plain ds pe) (D.pl_plain d pd) (by omega) (fin_bl I q ?_)
    rw [any_py pd pe]
    cases (D.pyAll ds).any fun z => PyData.eqv z d.py <;> rfl
  · unfold D.pl at pe
    unfold D.py at r2
    refine in_tuple_data r2 r1 (D.plAll_plain ds pe) (D.pl_plain d pd) (by omega) (fin_bl I q ?_)
    rw [any_py pd pe]
    cases (D.pyAll ds).any fun z => PyData.eqv z d.py <;> rfl
theorem op_notInQ {X : Cx} {k : KK} (hk : X.K = k.f) (hu : X.A.units + 64 < cLine) : OpR X (compareOp .NotIn) (rInQ k true) := by
  intro pins s σ H x y v u Q I rx ry h
  obtain ⟨φ, d, e, ds, hd, he, hs, pd, pe, sh, q⟩ := h
  obtain ⟨as, r1⟩ := hd.reads hk I pd rx
  obtain ⟨bs, r2⟩ := he.reads hk I pe ry
  have hm := D.sh_depth 8 d pd sh
  have hm2 : ∀ n, min n d.py.depth ≤ 8 := fun n => Nat.le_trans (Nat.min_le_right _ _) hm
  have hm3 := hm2 (PyData.depthAll (D.pyAll ds))
  rcases hs with rfl | rfl
  · unfold D.pl at pe
    unfold D.py at r2
    refine notIn_list_data r2 r1 (D.plAll_plain ds pe) (D.pl_plain d pd) (by omega) (fin_bl I q ?_)
    rw [any_py pd pe]
    cases (D.pyAll ds).any fun z => PyData.eqv z d.py <;> rfl
  · unfold D.pl at pe
    unfold D.py at r2
    refine notIn_tuple_data r2 r1 (D.plAll_plain ds pe) (D.pl_plain d pd) (by omega) (fin_bl I q ?_)
    rw [any_py pd pe]
    cases (D.pyAll ds).any fun z => PyData.eqv z d.py <;> rfl
def gInN (neg : Bool) : List D → Option D
  | [d, .lst ds] => if (d.pl && D.plAll ds && D.sh 8 d) = true then some (.bl (neg != ds.any fun z => D.eqv z d)) else none
  | [d, .tup ds] => if (d.pl && D.plAll ds && D.sh 8 d) = true then some (.bl (neg != ds.any fun z => D.eqv z d)) else none
  | _ => none
def gIn : List D → Option D := gInN false
def gNotIn : List D → Option D := gInN true
theorem opd_in {C : Ctx} {o neg : Bool} : OpD C o (rB (rInQ C.K neg)) (gInN neg) := by
  intro φ st σ H R ds vs d Q hr hg q
  match ds, hr, hg with
  | [a, .lst xs], hr, hg =>
    obtain ⟨v, w, rfl, h1, h2⟩ := hr.two
    have hg : (if (a.pl && D.plAll xs && D.sh 8 a) = true then some (D.bl (neg != xs.any fun z => D.eqv z a)) else none) = some d := hg
    split at hg
    · rename_i hc
      rw [Bool.and_eq_true, Bool.and_eq_true] at hc
      cases hg
      exact ⟨_, _, rfl, φ, a, .lst xs, xs, h1, h2, .inl rfl, hc.1.1, by unfold D.pl; exact hc.1.2, hc.2, q _ H (Same.refl H) rep_bl⟩
    · cases hg
  | [a, .tup xs], hr, hg =>
    obtain ⟨v, w, rfl, h1, h2⟩ := hr.two
    have hg : (if (a.pl && D.plAll xs && D.sh 8 a) = true then some (D.bl (neg != xs.any fun z => D.eqv z a)) else none) = some d := hg
    split at hg
    · rename_i hc
      rw [Bool.and_eq_true, Bool.and_eq_true] at hc
      cases hg
      exact ⟨_, _, rfl, φ, a, .tup xs, xs, h1, h2, .inr rfl, hc.1.1, by unfold D.pl; exact hc.1.2, hc.2, q _ H (Same.refl H) rep_bl⟩
    · cases hg

/-! ### * -/
def rRepR : R2 := fun x y H Q => ∃ l k xs, x = .ref l ∧ y = .int k ∧ Rd H l (.lst xs) ∧ -(2 ^ 63) ≤ k ∧ k < 2 ^ 63 ∧ xs.length * k.toNat ≤ sizeLine ∧
  ∀ p, H p = none → Q (.ref p) (upd H p (.lst (List.replicate k.toNat xs).flatten))
theorem op_repR {X : Cx} : OpR X (binaryOp .Mult) rRepR := by
  intro pins s σ H x y v u Q I rx ry h
  obtain ⟨l, k, xs, rfl, rfl, hH, h1, h2, hz, q⟩ := h
  cases rx
  obtain ⟨t, rfl⟩ := ry
  obtain ⟨z, its, n, r, hl, e⟩ := inv_rdL I hH
  have hlen : its.toArray.size * k.toNat ≤ sizeLine := by rw [List.size_toArray, ← hl]; exact hz
  have hcap : ¬ its.toArray.size * k.toNat > (2 ^ 63 - 1) / 8 := by
    have : (sizeLine : Nat) ≤ (2 ^ 63 - 1) / 8 := by decide
    omega
  have hfit : ¬ (!Builtin.List.listFitsIndex k) = true := by
    rw [fitsIndex_both h1 h2]
    exact Bool.false_ne_true
  have hlong : ¬ Builtin.List.listTooLong (its.toArray.size * k.toNat) = true := by
    rw [notLongL hlen]
    exact Bool.false_ne_true
  have hnew : List.foldl (fun x1 x2 => x1 ++ x2) #[] (List.replicate (if its.toArray.isEmpty = true then 0 else k.toNat) its.toArray) = (List.replicate k.toNat its).flatten.toArray := by
    have f0 : ∀ m : Nat, List.foldl (fun x1 x2 => x1 ++ x2) #[] (List.replicate m its.toArray) = (List.replicate m its).flatten.toArray := fun m => by
      have := foldl_rep its m []
      rw [List.nil_append] at this
      exact this
    rw [f0]
    cases its with
    | nil => simp
    | cons a r' => rw [if_neg (by simp)]
  refine wpAny_binaryOp_repeat_ref (T := "list") (U := "int") (by decide) ⟨_, e, rfl⟩ (fun s' => typeIs_int s' k t) noFill_list_mul F.fills_int_mul F.slot_int_rmul repeat_list F.slot_int_index.lookup
    (call_meets F.slot_int_rmul (typeIs_int s k t) F.entry_int_rmul (F.args_int_rmul_2 _ _) (int___rmul___int_list k t l its.toArray n)
      ⟨e, rfl, ⟨_, e, rfl⟩, call_meets F.slot_list_mul ⟨_, e, rfl⟩ F.entry_list_mul (F.args_list_mul_2 _ _) (AutoListH.list___mul___list_int_3 l its.toArray n k t hfit hcap hlong) ⟨e, ?_⟩⟩)
  rw [hnew]
  exact ⟨.ref _, _, I.lnew (t' := s.toks) (r.rep k.toNat) (by rw [PyProof.Rows.lm_len_rep_flat, Nat.mul_comm]; exact hz), rfl, q _ I.fresh⟩
theorem RepAll.rep {K : KK} {φ : List Addr} {H : Hp} {ds : List D} {vs : List V} (h : RepAll K φ H ds vs) : ∀ n, RepAll K φ H (List.replicate n ds).flatten (List.replicate n vs).flatten
  | 0 => .nil
  | n + 1 => by
    rw [List.replicate_succ, List.replicate_succ, List.flatten_cons, List.flatten_cons]
    exact h.append (RepAll.rep h n)
def gMul : List D → Option D
  | [.int i, .int j] => if i.natAbs.log2 + j.natAbs.log2 < 1000000 then some (.int (i * j)) else none
  | [.lst xs, .int k] => if -(2 ^ 63) ≤ k ∧ k < 2 ^ 63 ∧ xs.length * k.toNat ≤ sizeLine then some (.lst (List.replicate k.toNat xs).flatten) else none
  | _ => none
theorem opd_mul {C : Ctx} {o : Bool} (ho : o = true) : OpD C o (rB fun x y H Q => rI CMulW (fun i j => .int (i * j)) x y H Q ∨ rRepR x y H Q) gMul := by
  intro φ st σ H R ds vs d Q hr hg q
  match ds, hr, hg with
  | [.int i, .int j], hr, hg =>
    obtain ⟨v, w, rfl, h1, h2⟩ := hr.two
    rw [h1.int, h2.int]
    have hg : (if i.natAbs.log2 + j.natAbs.log2 < 1000000 then some (D.int (i * j)) else none) = some d := hg
    split at hg
    · rename_i hc
      cases hg
      exact ⟨_, _, rfl, .inl ⟨i, j, rfl, rfl, hc, q _ H (Same.refl H) rep_int⟩⟩
    · cases hg
  | [.lst xs, .int k], hr, hg =>
    obtain ⟨v, w, rfl, h1, h2⟩ := hr.two
    rw [h2.int]
    obtain ⟨a, vs, rfl, ra, sa⟩ := h1.lst
    have hg : (if -(2 ^ 63) ≤ k ∧ k < 2 ^ 63 ∧ xs.length * k.toNat ≤ sizeLine then some (D.lst (List.replicate k.toNat xs).flatten) else none) = some d := hg
    split at hg
    · rename_i hc
      cases hg
      refine ⟨_, _, rfl, .inr ⟨a, k, vs, rfl, rfl, ra, hc.1, hc.2.1, by rw [← sa.length]; exact hc.2.2, fun p hp => ?_⟩⟩
      refine q _ _ (same_new hp) ?_
      subst ho
      unfold ValN ValR
      rw [if_pos (show (true && isOwn (.lst _)) = true from rfl)]
      exact ⟨p, rfl, ⟨_, upd_same, RepAll.same (same_new hp) (sa.rep _)⟩, hp⟩
    · cases hg

/-! ### places -/
def gIdx : List D → Option D
  | [.lst xs, .int i] => atI xs i
  | [.tup xs, .int i] => atI xs i
  | [.raw xs, .int i] => atI xs i
  | [.str z, .int i] => if z.length ≤ sizeLine then (atI z.cps.toList i).map fun c => .str ⟨#[c]⟩ else none
  | _ => none
theorem RepAll.atI {K : KK} {φ : List Addr} {H : Hp} {ds : List D} {vs : List V} {i : Int} {d : D} (h : RepAll K φ H ds vs) (e : atI ds i = some d) : ∃ v, atI vs i = some v ∧ RepD K φ H d v := by
  unfold L2.atI at e ⊢
  rw [← h.length]
  cases q : ixN ds.length i with
  | none => rw [q] at e; cases e
  | some j =>
    rw [q] at e
    exact h.get (i := j) e
theorem SqL.ofRd {K : PySem.W.Frag} {H : Hp} {a : Addr} {xs : List V} (h : Rd H a (.lst xs)) : SqL K H a xs := .inl h
theorem opd_idx {C : Ctx} : OpD C false (rB (rIx C.K)) gIdx := by
  intro φ st σ H R ds vs d Q hr hg q
  have fin : ∀ {v : V}, RepD C.K φ H d v → Q v H := fun {v} h => q v H (Same.refl H) (.of_rep rfl h)
  match ds, hr, hg with
  | [.lst xs, .int i], hr, hg =>
    obtain ⟨v, w, rfl, h1, h2⟩ := hr.two
    rw [h2.int]
    obtain ⟨a, vs, rfl, ra, sa⟩ := h1.lst
    obtain ⟨z, hz, rz⟩ := sa.atI hg
    exact ⟨_, _, rfl, .inl ⟨a, vs, i, z, rfl, rfl, .inl ra, hz, fin rz⟩⟩
  | [.raw xs, .int i], hr, hg =>
    obtain ⟨v, w, rfl, h1, h2⟩ := hr.two
    rw [h2.int]
    obtain ⟨a, vs, rfl, ra, sa⟩ := h1.raw
    obtain ⟨z, hz, rz⟩ := sa.atI hg
    exact ⟨_, _, rfl, .inl ⟨a, vs, i, z, rfl, rfl, ra, hz, fin rz⟩⟩
  | [.tup xs, .int i], hr, hg =>
    obtain ⟨v, w, rfl, h1, h2⟩ := hr.two
    rw [h2.int]
    obtain ⟨a, vs, rfl, ra, sa⟩ := h1.tup
    obtain ⟨z, hz, rz⟩ := sa.atI hg
    exact ⟨_, _, rfl, .inr (.inl ⟨a, vs, i, z, rfl, rfl, ra, hz, fin rz⟩)⟩
  | [.str z, .int i], hr, hg =>
    obtain ⟨v, w, rfl, h1, h2⟩ := hr.two
    rw [h1.str, h2.int]
    have hg : (if z.length ≤ sizeLine then (atI z.cps.toList i).map (fun c => D.str ⟨#[c]⟩) else none) = some d := hg
    split at hg
    · rename_i hc
      cases e : atI z.cps.toList i with
      | none => rw [e] at hg; cases hg
      | some c =>
        rw [e] at hg
        cases hg
        exact ⟨_, _, rfl, .inr (.inr ⟨z, i, c, rfl, rfl, hc, e, fin (by unfold RepD; rfl)⟩)⟩
    · cases hg

/-! ### builtins -/
section
variable {X : Cx} {C : Ctx} {o : Bool} {e : Expr} {es : List Expr} {os : List Opd} {x : Str} {p pos : Pos} {id T : String} {r : List V → Hp → VK → Prop} {g : List D → Option D}
theorem me_callB (hc : CallR X (.builtin id) r) (hgD : OpD C o r g) (hg : Gl X x) (hm : X.mg x = none) (hv : bootBuiltins x = some (.builtin id)) (ha : MA X C (e :: es) os) (hn : x ≠ "__name__" := by decide) (hdb : (x == ("__debug__" : Str)) = false := by decide)
    (he : starEach (e :: es) X.env = (false, eval e X.env) :: starEach es X.env := by rfl) (hpl : (backTo pos (starEach es X.env)).any (·.1) = false := by rfl) : ME X C o (.Call (.Name x p) (e :: es) [] pos) (eOp g os) :=
  PE.weak (pe_callB hc hg hm hv ha.pa hn hdb he hpl) fun _ _ _ h => run_op ha.all hgD h
theorem me_callTy (hc : CallR X (.type T) r) (hgD : OpD C o r g) (hg : Gl X x) (hm : X.mg x = none) (hv : bootBuiltins x = some (.type T)) (ha : MA X C (e :: es) os) (hn : x ≠ "__name__" := by decide) (hdb : (x == ("__debug__" : Str)) = false := by decide)
    (he : starEach (e :: es) X.env = (false, eval e X.env) :: starEach es X.env := by rfl) (hpl : (backTo pos (starEach es X.env)).any (·.1) = false := by rfl) : ME X C o (.Call (.Name x p) (e :: es) [] pos) (eOp g os) :=
  PE.weak (pe_callTy hc hg hm hv ha.pa hn hdb he hpl) fun _ _ _ h => run_op ha.all hgD h
end
def gLen : List D → Option D
  | [.lst xs] => some (.int xs.length)
  | [.tup xs] => some (.int xs.length)
  | [.raw xs] => some (.int xs.length)
  | [.str z] => if z.length ≤ sizeLine then some (.int z.length) else none
  | _ => none
def rLen (K : PySem.W.Frag) : List V → Hp → VK → Prop := fun xs H Q => ∃ x n, xs = [x] ∧ LenV K x H n ∧ Q (.int n) H
theorem opd_len {C : Ctx} {o : Bool} : OpD C o (rLen C.K) gLen := by
  intro φ st σ H R ds vs d Q hr hg q
  match ds, hr, hg with
  | [.lst xs], hr, hg =>
    obtain ⟨v, rfl, h1⟩ := hr.one
    obtain ⟨a, vs, rfl, ra, sa⟩ := h1.lst
    cases hg
    exact ⟨_, xs.length, rfl, .inl ⟨vs, .inl ra, sa.length⟩, q _ H (Same.refl H) rep_int⟩
  | [.raw xs], hr, hg =>
    obtain ⟨v, rfl, h1⟩ := hr.one
    obtain ⟨a, vs, rfl, ra, sa⟩ := h1.raw
    cases hg
    exact ⟨_, xs.length, rfl, .inl ⟨vs, ra, sa.length⟩, q _ H (Same.refl H) rep_int⟩
  | [.tup xs], hr, hg =>
    obtain ⟨v, rfl, h1⟩ := hr.one
    obtain ⟨a, vs, rfl, ra, sa⟩ := h1.tup
    cases hg
    exact ⟨_, xs.length, rfl, .inr ⟨vs, ra, sa.length⟩, q _ H (Same.refl H) rep_int⟩
  | [.str z], hr, hg =>
    obtain ⟨v, rfl, h1⟩ := hr.one
    rw [h1.str]
    have hg : (if z.length ≤ sizeLine then some (D.int z.length) else none) = some d := hg
    split at hg
    · rename_i hc
      cases hg
      exact ⟨_, z.length, rfl, ⟨hc, rfl⟩, q _ H (Same.refl H) rep_int⟩
    · cases hg
/-- the truth values of a list -/
def blsOf : List D → Option (List Bool)
  | [] => some []
  | .bl b :: r => (blsOf r).map (b :: ·)
  | _ => none
theorem RepAll.bls {K : KK} {φ : List Addr} {H : Hp} : ∀ {ds : List D} {vs : List V} {bs : List Bool}, RepAll K φ H ds vs → blsOf ds = some bs → vs = bs.map V.bl
  | [], _, _, h, e => by cases e; rw [h.of_nil]; rfl
  | .bl b :: r, _, _, h, e => by
    obtain ⟨v, vr, rfl, h1, h2⟩ := h.of_cons
    unfold blsOf at e
    cases q : blsOf r with
    | none => rw [q] at e; cases e
    | some bs =>
      rw [q] at e
      cases e
      unfold RepD at h1
      rw [h1, RepAll.bls h2 q]
      rfl
  | .non :: _, _, _, _, e => by cases e
  | .int _ :: _, _, _, _, e => by cases e
  | .str _ :: _, _, _, _, e => by cases e
  | .lst _ :: _, _, _, _, e => by cases e
  | .tup _ :: _, _, _, _, e => by cases e
  | .dic _ :: _, _, _, _, e => by cases e
  | .set _ :: _, _, _, _, e => by cases e
  | .ref _ :: _, _, _, _, e => by cases e
  | .fn _ _ :: _, _, _, _, e => by cases e
  | .raw _ :: _, _, _, _, e => by cases e
def intsOf : List D → Option (List Int)
  | [] => some []
  | .int b :: r => (intsOf r).map (b :: ·)
  | _ => none
theorem RepAll.intsOf {K : KK} {φ : List Addr} {H : Hp} : ∀ {ds : List D} {vs : List V} {bs : List Int}, RepAll K φ H ds vs → intsOf ds = some bs → vs = bs.map V.int
  | [], _, _, h, e => by cases e; rw [h.of_nil]; rfl
  | .int b :: r, _, _, h, e => by
    obtain ⟨v, vr, rfl, h1, h2⟩ := h.of_cons
    unfold Q.intsOf at e
    cases q : Q.intsOf r with
    | none => rw [q] at e; cases e
    | some bs =>
      rw [q] at e
      cases e
      unfold RepD at h1
      rw [h1, RepAll.intsOf h2 q]
      rfl
  | .non :: _, _, _, _, e => by cases e
  | .bl _ :: _, _, _, _, e => by cases e
  | .str _ :: _, _, _, _, e => by cases e
  | .lst _ :: _, _, _, _, e => by cases e
  | .tup _ :: _, _, _, _, e => by cases e
  | .dic _ :: _, _, _, _, e => by cases e
  | .set _ :: _, _, _, _, e => by cases e
  | .ref _ :: _, _, _, _, e => by cases e
  | .fn _ _ :: _, _, _, _, e => by cases e
  | .raw _ :: _, _, _, _, e => by cases e
def gAll : List D → Option D
  | [.lst xs] => (blsOf xs).map fun bs => .bl (bs.all id)
  | _ => none
def gAny : List D → Option D
  | [.lst xs] => (blsOf xs).map fun bs => .bl (bs.any id)
  | _ => none
def gSum : List D → Option D
  | [.lst xs] => (intsOf xs).map fun ns => .int ns.sum
  | _ => none
theorem opd_all {C : Ctx} {o : Bool} : OpD C o (rAll C.K) gAll := by
  intro φ st σ H R ds vs d Q hr hg q
  match ds, hr, hg with
  | [.lst xs], hr, hg =>
    obtain ⟨v, rfl, h1⟩ := hr.one
    obtain ⟨a, vs, rfl, ra, sa⟩ := h1.lst
    have hg : (blsOf xs).map (fun bs => D.bl (bs.all id)) = some d := hg
    cases e : blsOf xs with
    | none => rw [e] at hg; cases hg
    | some bs =>
      rw [e] at hg
      cases hg
      exact ⟨a, bs, rfl, by rw [← sa.bls e]; exact .inl ra, q _ H (Same.refl H) rep_bl⟩
theorem opd_any {C : Ctx} {o : Bool} : OpD C o (rAny C.K) gAny := by
  intro φ st σ H R ds vs d Q hr hg q
  match ds, hr, hg with
  | [.lst xs], hr, hg =>
    obtain ⟨v, rfl, h1⟩ := hr.one
    obtain ⟨a, vs, rfl, ra, sa⟩ := h1.lst
    have hg : (blsOf xs).map (fun bs => D.bl (bs.any id)) = some d := hg
    cases e : blsOf xs with
    | none => rw [e] at hg; cases hg
    | some bs =>
      rw [e] at hg
      cases hg
      exact ⟨a, bs, rfl, by rw [← sa.bls e]; exact .inl ra, q _ H (Same.refl H) rep_bl⟩
theorem opd_sum {C : Ctx} {o : Bool} : OpD C o (rSum C.K) gSum := by
  intro φ st σ H R ds vs d Q hr hg q
  match ds, hr, hg with
  | [.lst xs], hr, hg =>
    obtain ⟨v, rfl, h1⟩ := hr.one
    obtain ⟨a, vs, rfl, ra, sa⟩ := h1.lst
    have hg : (intsOf xs).map (fun bs => D.int bs.sum) = some d := hg
    cases e : intsOf xs with
    | none => rw [e] at hg; cases hg
    | some bs =>
      rw [e] at hg
      cases hg
      exact ⟨a, bs, rfl, by rw [← sa.intsOf e]; exact .inl ra, q _ H (Same.refl H) rep_int⟩
def gMin2 : List D → Option D := g2I fun i j => some (.int (if j < i then j else i))
def gMax2 : List D → Option D := g2I fun i j => some (.int (if j > i then j else i))
theorem opd_min2 {C : Ctx} {o : Bool} : OpD C o (fun xs H Q => ∃ i j, xs = [V.int i, .int j] ∧ Q (.int (if j < i then j else i)) H) gMin2 := by
  intro φ st σ H R ds vs d Q hr hg q
  match ds, hr, hg with
  | [.int i, .int j], hr, hg =>
    obtain ⟨v, w, rfl, h1, h2⟩ := hr.two
    rw [h1.int, h2.int]
    cases hg
    exact ⟨i, j, rfl, q _ H (Same.refl H) rep_int⟩
theorem opd_max2 {C : Ctx} {o : Bool} : OpD C o (fun xs H Q => ∃ i j, xs = [V.int i, .int j] ∧ Q (.int (if j > i then j else i)) H) gMax2 := by
  intro φ st σ H R ds vs d Q hr hg q
  match ds, hr, hg with
  | [.int i, .int j], hr, hg =>
    obtain ⟨v, w, rfl, h1, h2⟩ := hr.two
    rw [h1.int, h2.int]
    cases hg
    exact ⟨i, j, rfl, q _ H (Same.refl H) rep_int⟩
def gAbs : List D → Option D
  | [.int i] => some (.int (if i < 0 then -i else i))
  | _ => none
theorem opd_abs {C : Ctx} {o : Bool} : OpD C o (fun xs H Q => ∃ i, xs = [V.int i] ∧ Q (.int (if i < 0 then -i else i)) H) gAbs := by
  intro φ st σ H R ds vs d Q hr hg q
  match ds, hr, hg with
  | [.int i], hr, hg =>
    obtain ⟨v, rfl, h1⟩ := hr.one
    rw [h1.int]
    cases hg
    exact ⟨i, rfl, q _ H (Same.refl H) rep_int⟩
def gInt : List D → Option D
  | [.int i] => some (.int i)
  | [.bl k] => some (.int (if k then 1 else 0))
  | _ => none
theorem opd_int1 {C : Ctx} {o : Bool} : OpD C o (fun xs H Q => (∃ i, xs = [V.int i] ∧ Q (.int i) H) ∨ ∃ k, xs = [V.bl k] ∧ Q (.int (if k then 1 else 0)) H) gInt := by
  intro φ st σ H R ds vs d Q hr hg q
  match ds, hr, hg with
  | [.int i], hr, hg =>
    obtain ⟨v, rfl, h1⟩ := hr.one
    rw [h1.int]
    cases hg
    exact .inl ⟨i, rfl, q _ H (Same.refl H) rep_int⟩
  | [.bl k], hr, hg =>
    obtain ⟨v, rfl, h1⟩ := hr.one
    rw [h1.bl]
    cases hg
    exact .inr ⟨k, rfl, q _ H (Same.refl H) rep_int⟩
/-- list(x), tuple(x) -/
def gList : List D → Option D
  | [.lst xs] => some (.lst xs)
  | [.tup xs] => some (.lst xs)
  | [.raw xs] => some (.lst xs)
  | _ => none
def gTuple : List D → Option D
  | [.lst xs] => some (.tup xs)
  | [.tup xs] => some (.tup xs)
  | [.raw xs] => some (.tup xs)
  | _ => none
def rListOf (K : PySem.W.Frag) : List V → Hp → VK → Prop := fun xs H Q => ∃ p ys, xs = [V.ref p] ∧ (SqL K H p ys ∨ SqT K H p ys) ∧ ∀ l, H l = none → Q (.ref l) (upd H l (.lst ys))
def rTupleOf (K : PySem.W.Frag) : List V → Hp → VK → Prop := fun xs H Q => ∃ p ys, xs = [V.ref p] ∧ ((SqL K H p ys ∧ ∀ l, H l = none → Q (.ref l) (upd H l (.tup ys))) ∨ (SqT K H p ys ∧ Q (.ref p) H))
theorem newL {C : Ctx} {φ : List Addr} {H : Hp} {xs : List D} {vs : List V} {p : Addr} (hp : H p = none) (h : RepAll C.K φ H xs vs) : ValN C φ true H (upd H p (.lst vs)) (.lst xs) (.ref p) := by
  unfold ValN ValR
  rw [if_pos (show (true && isOwn (.lst _)) = true from rfl)]
  exact ⟨p, rfl, ⟨_, upd_same, RepAll.same (same_new hp) h⟩, hp⟩
theorem newT {C : Ctx} {φ : List Addr} {o : Bool} {H : Hp} {xs : List D} {vs : List V} {p : Addr} (hp : H p = none) (h : RepAll C.K φ H xs vs) : ValN C φ o H (upd H p (.tup vs)) (.tup xs) (.ref p) := by
  refine .of_rep (by cases o <;> rfl) ?_
  unfold RepD
  exact ⟨p, vs, rfl, .inl (.inl upd_same), RepAll.same (same_new hp) h⟩
theorem opd_list {C : Ctx} : OpD C true (rListOf C.K) gList := by
  intro φ st σ H R ds vs d Q hr hg q
  match ds, hr, hg with
  | [.lst xs], hr, hg =>
    obtain ⟨v, rfl, h1⟩ := hr.one
    obtain ⟨a, vs, rfl, ra, sa⟩ := h1.lst
    cases hg
    exact ⟨a, vs, rfl, .inl (.inl ra), fun p hp => q _ _ (same_new hp) (newL hp sa)⟩
  | [.raw xs], hr, hg =>
    obtain ⟨v, rfl, h1⟩ := hr.one
    obtain ⟨a, vs, rfl, ra, sa⟩ := h1.raw
    cases hg
    exact ⟨a, vs, rfl, .inl ra, fun p hp => q _ _ (same_new hp) (newL hp sa)⟩
  | [.tup xs], hr, hg =>
    obtain ⟨v, rfl, h1⟩ := hr.one
    obtain ⟨a, vs, rfl, ra, sa⟩ := h1.tup
    cases hg
    exact ⟨a, vs, rfl, .inr ra, fun p hp => q _ _ (same_new hp) (newL hp sa)⟩
theorem opd_tuple {C : Ctx} {o : Bool} : OpD C o (rTupleOf C.K) gTuple := by
  intro φ st σ H R ds vs d Q hr hg q
  match ds, hr, hg with
  | [.lst xs], hr, hg =>
    obtain ⟨v, rfl, h1⟩ := hr.one
    obtain ⟨a, vs, rfl, ra, sa⟩ := h1.lst
    cases hg
    exact ⟨a, vs, rfl, .inl ⟨.inl ra, fun p hp => q _ _ (same_new hp) (newT hp sa)⟩⟩
  | [.raw xs], hr, hg =>
    obtain ⟨v, rfl, h1⟩ := hr.one
    obtain ⟨a, vs, rfl, ra, sa⟩ := h1.raw
    cases hg
    exact ⟨a, vs, rfl, .inl ⟨ra, fun p hp => q _ _ (same_new hp) (newT hp sa)⟩⟩
  | [.tup xs], hr, hg =>
    obtain ⟨v, rfl, h1⟩ := hr.one
    obtain ⟨a, vs, rfl, ra, sa⟩ := h1.tup
    cases hg
    refine ⟨a, vs, rfl, .inr ⟨ra, q _ _ (Same.refl H) (.of_rep (by cases o <;> rfl) ?_)⟩⟩
    unfold RepD
    exact ⟨a, vs, rfl, ra, sa⟩
/-- divmod by a positive divisor below 2 ^ 30 -/
def gDivmod : List D → Option D := g2I fun i j => if 0 < j ∧ j < 1073741824 then some (.tup [.int (i / j), .int (i % j)]) else none
theorem opd_divmod {C : Ctx} {o : Bool} : OpD C o (fun xs H Q => ∃ i j, xs = [V.int i, .int j] ∧ CDiv i j ∧ ∀ p, H p = none → Q (.ref p) (upd H p (.tup [.int (i / j), .int (i % j)]))) gDivmod := by
  intro φ st σ H R ds vs d Q hr hg q
  match ds, hr, hg with
  | [.int i, .int j], hr, hg =>
    obtain ⟨v, w, rfl, h1, h2⟩ := hr.two
    rw [h1.int, h2.int]
    have hg : (if 0 < j ∧ j < 1073741824 then some (D.tup [.int (i / j), .int (i % j)]) else none) = some d := hg
    split at hg
    · rename_i hc
      cases hg
      exact ⟨i, j, rfl, hc, fun p hp => q _ _ (same_new hp) (newT hp (RepAll.ints [i / j, i % j]))⟩
    · cases hg
end Q
set_option Elab.async false
set_option linter.all false
set_option maxRecDepth 100000
set_option autoImplicit false
/-! QF: displays, tests, and / or / not, slices, chains, isinstance, names of the module -/
namespace Q
open PySem PySem.Spec PyProof.Rows L2 PySem.SeqAt

/-! ### operands that are expressions alone -/
def opV : List (MS → Res D) → MS → Res (List D)
  | [], st => .ok [] st
  | m :: r, st => (m st).bind fun x st1 => (opV r st1).bind fun xs st2 => .ok (x :: xs) st2
structure MV (X : Cx) (C : Ctx) (es : List Expr) (ms : List (MS → Res D)) : Prop where
  pa : PA X es (tOpN C (ms.map .val))
theorem mv_nil {X : Cx} {C : Ctx} : MV X C [] [] := ⟨pa_nil⟩
theorem mv_cons {X : Cx} {C : Ctx} {e : Expr} {es : List Expr} {m : MS → Res D} {ms : List (MS → Res D)} (h : ME X C false e m) (t : MV X C es ms) (hs : starEach (e :: es) X.env = (false, eval e X.env) :: starEach es X.env := by rfl) : MV X C (e :: es) (m :: ms) :=
  ⟨pa_cons h t.pa hs⟩
theorem runV {C : Ctx} : ∀ {ms : List (MS → Res D)} {σ : SS} {H : Hp} {φ : List Addr} {st : MS} {R : List V → Hp → Prop}, Rel C φ st σ H →
    Post C σ φ H (opV ms st) (fun ds st' φ' H' => ∀ vs, RepAll C.K φ' H' ds vs → R vs H') → tOpN C (ms.map .val) σ H R
  | [], σ, H, φ, st, R, rel, h => h φ H rel .refl [] .nil
  | m :: ms, σ, H, φ, st, R, rel, h => by
    refine ⟨st, φ, rel, Post.mono (Post.bind h) fun x st1 φ1 H1 R1 S1 h1 v hv => ?_⟩
    refine runV R1 (Post.mono (Post.bind h1) fun xs st2 φ2 H2 R2 S2 h2 vs hvs => ?_)
    exact h2 φ2 H2 R2 .refl (v :: vs) (.cons (hv.rep.mono S2.fz S2.pre) hvs)
/-- a result made of the operands' data -/
def eVal (g : List D → Option D) (ms : List (MS → Res D)) : MS → Res D := fun st => (opV ms st).bind fun ds st' => match g ds with
  | some d => .ok d st'
  | none => .stuck
def ValD (C : Ctx) (o : Bool) (r : List V → Hp → VK → Prop) (g : List D → Option D) : Prop :=
  ∀ φ H, ∀ ds vs d Q, RepAll C.K φ H ds vs → g ds = some d → (∀ v H', Same H H' → ValN C φ o H H' d v → Q v H') → r vs H Q
theorem run_val {C : Ctx} {o : Bool} {ms : List (MS → Res D)} {r : List V → Hp → VK → Prop} {g : List D → Option D} (hg : ValD C o r g) {σ : SS} {H : Hp} {Q : VK} (h : tV C o (eVal g ms) σ H Q) : tOpN C (ms.map .val) σ H fun vs H1 => r vs H1 Q := by
  obtain ⟨st, φ, R, q⟩ := h
  unfold eVal at q
  have b := Post.bind q
  have b' : Post C σ φ H (opV ms st) fun ds st' φ' H' => Step C σ φ H φ' H' ∧ Rel C φ' st' σ H' ∧ Post C σ φ' H' (match g ds with | some d => .ok d st' | none => .stuck) fun d _ φ'' H'' => ∀ v, ValR C o φ'' H H'' d v → Q v H'' :=
    Post.mono b fun ds st' φ' H' R' S' p => ⟨S', R', p⟩
  refine runV R (Post.mono b' fun ds st' φ' H' R' S' p vs hvs => ?_)
  obtain ⟨_, _, p⟩ := p
  cases e : g ds with
  | none => rw [e] at p; exact p.elim
  | some d =>
    rw [e] at p
    refine hg φ' H' ds vs d Q hvs e fun v H'' s hv => ?_
    exact p φ' H'' (R'.same s) (.same s) v (ValR.shift S' hv)
def gTup : List D → Option D := fun ds => if ds.length ≤ sizeLine then some (.tup ds) else none
def gLst : List D → Option D := fun ds => if ds.length ≤ sizeLine then some (.lst ds) else none
section
variable {X : Cx} {C : Ctx} {o : Bool} {es : List Expr} {ms : List (MS → Res D)} {k : Nat} {pos : Pos}
theorem me_tup (h : MV X C es ms) : ME X C o (.Tuple es k pos) (eVal gTup ms) := PE.weak (pe_tup h.pa) fun σ H Q q => by
  refine run_val (o := o) (r := fun xs H1 Q => xs.length ≤ sizeLine ∧ ∀ p, H1 p = none → Q (.ref p) (upd H1 p (.tup xs))) (fun φ H ds vs d Q hr hg q => ?_) q
  unfold gTup at hg
  split at hg
  · rename_i hc
    cases hg
    exact ⟨by rw [← hr.length]; exact hc, fun p hp => q _ _ (same_new hp) (newT hp hr)⟩
  · cases hg
theorem me_lstO (h : MV X C es ms) : ME X C true (.List es pos) (eVal gLst ms) := PE.weak (pe_lst h.pa) fun σ H Q q => by
  refine run_val (o := true) (r := fun xs H1 Q => xs.length ≤ sizeLine ∧ ∀ p, H1 p = none → Q (.ref p) (upd H1 p (.lst xs))) (fun φ H ds vs d Q hr hg q => ?_) q
  unfold gLst at hg
  split at hg
  · rename_i hc
    cases hg
    exact ⟨by rw [← hr.length]; exact hc, fun p hp => q _ _ (same_new hp) (newL hp hr)⟩
  · cases hg
theorem me_lst (h : MV X C es ms) : ME X C false (.List es pos) (eVal gLst ms) := (me_lstO h).fz
end

/-! ### operations by name -/
section
variable {X : Cx} {C : Ctx} {o : Bool} {a b : Expr} {oa ob : Opd} {pos : Pos}
theorem me_eq (hk : X.K = C.K) (hu : X.A.units + 64 < cLine) (ha : MO X C a oa) (hb : MO X C b ob) : ME X C o (.Compare a [.Eq] [b] pos) (eOp gEq [oa, ob]) := me_cmp (op_eqQ hk hu) opd_eq ha hb (nomark b)
theorem me_ne (hk : X.K = C.K) (hu : X.A.units + 64 < cLine) (ha : MO X C a oa) (hb : MO X C b ob) : ME X C o (.Compare a [.NotEq] [b] pos) (eOp gNe [oa, ob]) := me_cmp (op_neQ hk hu) opd_eq ha hb (nomark b)
theorem mt_eq (hk : X.K = C.K) (hu : X.A.units + 64 < cLine) (ha : MO X C a oa) (hb : MO X C b ob) : MT X C (.Compare a [.Eq] [b] pos) (eT (eOp gEq [oa, ob])) := mt_cmp (op_eqQ hk hu) opd_eq ha hb (nomark b)
theorem mt_ne (hk : X.K = C.K) (hu : X.A.units + 64 < cLine) (ha : MO X C a oa) (hb : MO X C b ob) : MT X C (.Compare a [.NotEq] [b] pos) (eT (eOp gNe [oa, ob])) := mt_cmp (op_neQ hk hu) opd_eq ha hb (nomark b)
theorem me_in (hk : X.K = C.K) (hu : X.A.units + 64 < cLine) (ha : MO X C a oa) (hb : MO X C b ob) (hm : behindInMarks .In b = false := by rfl) : ME X C o (.Compare a [.In] [b] pos) (eOp gIn [oa, ob]) := me_cmp (op_inQ hk hu) opd_in ha hb hm
theorem me_notIn (hk : X.K = C.K) (hu : X.A.units + 64 < cLine) (ha : MO X C a oa) (hb : MO X C b ob) (hm : behindInMarks .NotIn b = false := by rfl) : ME X C o (.Compare a [.NotIn] [b] pos) (eOp gNotIn [oa, ob]) := me_cmp (op_notInQ hk hu) opd_in ha hb hm
theorem mt_in (hk : X.K = C.K) (hu : X.A.units + 64 < cLine) (ha : MO X C a oa) (hb : MO X C b ob) (hm : behindInMarks .In b = false := by rfl) : MT X C (.Compare a [.In] [b] pos) (eT (eOp gIn [oa, ob])) := mt_cmp (op_inQ hk hu) opd_in ha hb hm
theorem mt_notIn (hk : X.K = C.K) (hu : X.A.units + 64 < cLine) (ha : MO X C a oa) (hb : MO X C b ob) (hm : behindInMarks .NotIn b = false := by rfl) : MT X C (.Compare a [.NotIn] [b] pos) (eT (eOp gNotIn [oa, ob])) := mt_cmp (op_notInQ hk hu) opd_in ha hb hm
theorem me_mulO (ha : MO X C a oa) (hb : MO X C b ob) : ME X C true (.BinOp a .Mult b pos) (eOp gMul [oa, ob]) := me_bin (op_mulW.or op_repR) (opd_mul rfl) ha hb
theorem me_mul (ha : MO X C a oa) (hb : MO X C b ob) : ME X C false (.BinOp a .Mult b pos) (eOp gMul [oa, ob]) := (me_mulO ha hb).fz
theorem me_idx (hk : X.K = C.K) (ha : MO X C a oa) (hb : MO X C b ob) (hs : PlainIx b := by exact fun _ _ => rfl) : ME X C false (.Subscript a b pos) (eOp gIdx [oa, ob]) :=
  PE.weak (pe_ix ix_seq ha.pe hb.pe hs) fun _ _ _ h => run_bin ha hb (by rw [hk]; exact opd_idx) h
def gNeg : List D → Option D
  | [.int i] => some (.int (-i))
  | _ => none
theorem me_neg (ha : MO X C a oa) : ME X C o (.UnaryOp .USub a pos) (eOp gNeg [oa]) := PE.weak (pe_un un_neg ha.pe) fun σ H Q h => by
  have t := run_op (o := o) (r := fun vs H Q => ∃ x, vs = [x] ∧ rU (fun i => .int (-i)) x H Q) (.cons ha .nil) (fun φ st σ H R ds vs d Q hr hg q => by
    match ds, hr, hg with
    | [.int i], hr, hg =>
      obtain ⟨v, rfl, h1⟩ := hr.one
      rw [h1.int]
      cases hg
      exact ⟨_, rfl, i, rfl, q _ H (Same.refl H) rep_int⟩) h
  have t' : opT C oa σ H fun x H1 => ∃ y, [x] = [y] ∧ rU (fun i => .int (-i)) y H1 Q := t
  have m1 : (fun x H1 => ∃ y, [x] = [y] ∧ rU (fun i => .int (-i)) y H1 Q) = fun x H1 => rU (fun i => .int (-i)) x H1 Q := by
    funext x H1
    refine propext ⟨fun ⟨y, e, q⟩ => ?_, fun q => ⟨x, rfl, q⟩⟩
    cases e
    exact q
  rw [m1] at t'
  exact t'
/-- is None, is not None -/
def isNon : D → Bool
  | .non => true
  | _ => false
def gIsN (neg : Bool) : List D → Option D
  | [d] => some (.bl (neg != isNon d))
  | _ => none
theorem opd_isN {neg : Bool} : OpD C o (fun vs H Q => ∃ x, vs = [x] ∧ Q (.bl (neg != decide (x = .non))) H) (gIsN neg) := by
  intro φ st σ H R ds vs d Q hr hg q
  match ds, hr, hg with
  | [a], hr, hg =>
    obtain ⟨v, rfl, h1⟩ := hr.one
    cases hg
    refine ⟨v, rfl, ?_⟩
    have e : decide (v = V.non) = isNon a := by
      clear q hg hr
      cases a with
      | non => rw [h1.non]; rfl
      | bl b => rw [h1.bl]; rfl
      | int b => rw [h1.int]; rfl
      | str b => rw [h1.str]; rfl
      | lst xs => obtain ⟨a, vs, rfl, _⟩ := h1.lst; rfl
      | raw xs => obtain ⟨a, vs, rfl, _⟩ := h1.raw; rfl
      | tup xs => obtain ⟨a, vs, rfl, _⟩ := h1.tup; rfl
      | dic kvs =>
        rcases h1 with h1 | ⟨b, rfl, _⟩
        · unfold RepD at h1; obtain ⟨b, _, _, rfl, _⟩ := h1; rfl
        · rfl
      | set xs =>
        rcases h1 with h1 | ⟨b, rfl, _⟩
        · unfold RepD at h1; obtain ⟨b, _, rfl, _⟩ := h1; rfl
        · rfl
      | ref n =>
        rcases h1 with h1 | ⟨b, rfl, _⟩
        · unfold RepD at h1; obtain ⟨b, rfl, _⟩ := h1; rfl
        · rfl
      | fn n cs =>
        rcases h1 with h1 | ⟨b, rfl, _⟩
        · unfold RepD at h1; exact h1.elim
        · rfl
    rw [e]
    exact q _ H (Same.refl H) rep_bl
theorem run_un {r : V → Hp → VK → Prop} {g : List D → Option D} (ha : MO X C a oa) (hg : OpD C o (fun vs H Q => ∃ x, vs = [x] ∧ r x H Q) g) {σ : SS} {H : Hp} {Q : VK} (h : tV C o (eOp g [oa]) σ H Q) : opT C oa σ H fun x H1 => r x H1 Q := by
  have t : opT C oa σ H fun x H1 => ∃ y, [x] = [y] ∧ r y H1 Q := run_op (.cons ha .nil) hg h
  have m1 : (fun x H1 => ∃ y, [x] = [y] ∧ r y H1 Q) = fun x H1 => r x H1 Q := by
    funext x H1
    refine propext ⟨fun ⟨y, e, q⟩ => ?_, fun q => ⟨x, rfl, q⟩⟩
    cases e
    exact q
  rw [m1] at t
  exact t
variable {j : Nat} {pos' : Pos}
theorem me_isN (ha : MO X C a oa) : ME X C o (.Compare a [.Is] [.Constant .none j pos'] pos) (eOp (gIsN false) [oa]) := PE.weak (pe_cmp (pc_isN ha.pe) rfl) fun σ H Q h => by
  have t := run_un (r := fun x H Q => Q (.bl (false != decide (x = .non))) H) ha opd_isN h
  have e : ∀ b : Bool, (false != b) = b := by decide
  simp only [e] at t
  exact t
theorem me_notN (ha : MO X C a oa) : ME X C o (.Compare a [.IsNot] [.Constant .none j pos'] pos) (eOp (gIsN true) [oa]) := PE.weak (pe_cmp (pc_notN ha.pe) rfl) fun σ H Q h => by
  have t := run_un (r := fun x H Q => Q (.bl (true != decide (x = .non))) H) ha opd_isN h
  have e : ∀ b : Bool, (true != b) = !b := by decide
  simp only [e] at t
  exact t
theorem mt_isN (ha : MO X C a oa) : MT X C (.Compare a [.Is] [.Constant .none j pos'] pos) (eT (eOp (gIsN false) [oa])) := PT.weak (pt_cmp (pc_isN ha.pe) rfl) fun σ H Q h => by
  have t := run_un (o := false) (r := fun x H Q => Q (.bl (false != decide (x = .non))) H) ha opd_isN (run_test h)
  have e : ∀ b : Bool, (false != b) = b := by decide
  simp only [e] at t
  exact t
theorem mt_notN (ha : MO X C a oa) : MT X C (.Compare a [.IsNot] [.Constant .none j pos'] pos) (eT (eOp (gIsN true) [oa])) := PT.weak (pt_cmp (pc_notN ha.pe) rfl) fun σ H Q h => by
  have t := run_un (o := false) (r := fun x H Q => Q (.bl (true != decide (x = .non))) H) ha opd_isN (run_test h)
  have e : ∀ b : Bool, (true != b) = !b := by decide
  simp only [e] at t
  exact t
end

/-! ### and, or, not, a if t else b -/
def MW (X : Cx) (C : Ctx) (e : Expr) (m : MS → Res Bool) : Prop := PW X e (tT C m)
def tAnd2 (m1 m2 : MS → Res Bool) : MS → Res Bool := fun st => (m1 st).bind fun b st1 => if b = true then m2 st1 else .ok false st1
def tOr2 (m1 m2 : MS → Res Bool) : MS → Res Bool := fun st => (m1 st).bind fun b st1 => if b = true then .ok true st1 else m2 st1
def tNot1 (m : MS → Res Bool) : MS → Res Bool := fun st => (m st).bind fun b st1 => .ok (!b) st1
def eAnd (m1 m2 : MS → Res D) : MS → Res D := fun st => (m1 st).bind fun d st1 => match d with
  | .bl true => m2 st1
  | .bl false => .ok (.bl false) st1
  | _ => .stuck
def eOr (m1 m2 : MS → Res D) : MS → Res D := fun st => (m1 st).bind fun d st1 => match d with
  | .bl true => .ok (.bl true) st1
  | .bl false => m2 st1
  | _ => .stuck
def eNot (m : MS → Res D) : MS → Res D := fun st => (m st).bind fun d st1 => match d with
  | .bl b => .ok (.bl (!b)) st1
  | _ => .stuck
def eIf (t : MS → Res Bool) (m1 m2 : MS → Res D) : MS → Res D := fun st => (t st).bind fun b st1 => if b = true then m1 st1 else m2 st1
section
variable {X : Cx} {C : Ctx} {o : Bool} {a b c : Expr} {rest : List Expr} {pos : Pos} {m1 m2 : MS → Res Bool} {n1 n2 : MS → Res D}
theorem MW.mt {e : Expr} (h : MW X C e m1) : MT X C e m1 := PW.pt h
theorem tT_bind {m : MS → Res Bool} {f : Bool → MS → Res Bool} {σ : SS} {H : Hp} {Q : Bool → Hp → Prop} (h : tT C (fun st => (m st).bind f) σ H Q) : tT C m σ H fun b H1 => ∃ st1 φ1, Rel C φ1 st1 σ H1 ∧ Post C σ φ1 H1 (f b st1) fun b st' φ' H' => Q b H' := by
  obtain ⟨st, φ, R, q⟩ := h
  exact ⟨st, φ, R, Post.mono (Post.bind q) fun b st1 φ1 H1 R1 S1 p => ⟨st1, φ1, R1, p⟩⟩
theorem mw_and1 (ha : MT X C a m1) : MW X C (.BoolOp .And [a] pos) m1 := pw_and1 ha
theorem mw_or1 (ha : MT X C a m1) : MW X C (.BoolOp .Or [a] pos) m1 := pw_or1 ha
theorem mw_and (ha : MT X C a m1) (hb : MW X C (.BoolOp .And (b :: rest) pos) m2) : MW X C (.BoolOp .And (a :: b :: rest) pos) (tAnd2 m1 m2) := PW.weak (pw_and ha hb) fun σ H Q h => by
  obtain ⟨st, φ, R, q⟩ := h
  refine ⟨st, φ, R, Post.mono (Post.bind q) fun b st1 φ1 H1 R1 S1 p => ?_⟩
  cases b with
  | true => exact ⟨st1, φ1, R1, p⟩
  | false => exact p φ1 H1 R1 .refl
theorem mw_or (ha : MT X C a m1) (hb : MW X C (.BoolOp .Or (b :: rest) pos) m2) : MW X C (.BoolOp .Or (a :: b :: rest) pos) (tOr2 m1 m2) := PW.weak (pw_or ha hb) fun σ H Q h => by
  obtain ⟨st, φ, R, q⟩ := h
  refine ⟨st, φ, R, Post.mono (Post.bind q) fun b st1 φ1 H1 R1 S1 p => ?_⟩
  cases b with
  | false => exact ⟨st1, φ1, R1, p⟩
  | true => exact p φ1 H1 R1 .refl
theorem mt_not (ha : MT X C a m1) : MT X C (.UnaryOp .Not a pos) (tNot1 m1) := PT.weak (pt_not ha) fun σ H Q h => by
  obtain ⟨st, φ, R, q⟩ := h
  exact ⟨st, φ, R, Post.mono (Post.bind q) fun b st1 φ1 H1 R1 S1 p => p φ1 H1 R1 .refl⟩
theorem ValR.bl {φ : List Addr} {H H' : Hp} {k : Bool} {v : V} (h : ValR C o φ H H' (.bl k) v) : v = .bl k := by
  unfold ValR at h
  rw [show (o && isOwn (.bl k)) = false by cases o <;> rfl, if_neg Bool.false_ne_true] at h
  unfold RepD at h
  exact h
theorem me_one {op : BoolOp} (h : ME X C o a n1) : ME X C o (.BoolOp op [a] pos) n1 := pe_one h
theorem me_and (ha : ME X C false a n1) (hb : ME X C o (.BoolOp .And (b :: rest) pos) n2) : ME X C o (.BoolOp .And (a :: b :: rest) pos) (eAnd n1 n2) := PE.weak (pe_and ha hb) fun σ H Q h => by
  obtain ⟨st, φ, R, q⟩ := h
  refine ⟨st, φ, R, Post.mono (Post.bind q) fun d st1 φ1 H1 R1 S1 p v hv => ?_⟩
  cases d with
  | bl k =>
    refine ⟨k, hv.bl, ?_⟩
    cases k with
    | true => exact ⟨st1, φ1, R1, Post.mono p fun d st' φ' H' R' S' p' v hv => p' v (hv.shift S1)⟩
    | false => exact p φ1 H1 R1 .refl _ (.of_rep (by cases o <;> rfl) (by unfold RepD; rfl))
  | _ => exact p.elim
theorem me_or (ha : ME X C false a n1) (hb : ME X C o (.BoolOp .Or (b :: rest) pos) n2) : ME X C o (.BoolOp .Or (a :: b :: rest) pos) (eOr n1 n2) := PE.weak (pe_or ha hb) fun σ H Q h => by
  obtain ⟨st, φ, R, q⟩ := h
  refine ⟨st, φ, R, Post.mono (Post.bind q) fun d st1 φ1 H1 R1 S1 p v hv => ?_⟩
  cases d with
  | bl k =>
    refine ⟨k, hv.bl, ?_⟩
    cases k with
    | false => exact ⟨st1, φ1, R1, Post.mono p fun d st' φ' H' R' S' p' v hv => p' v (hv.shift S1)⟩
    | true => exact p φ1 H1 R1 .refl _ (.of_rep (by cases o <;> rfl) (by unfold RepD; rfl))
  | _ => exact p.elim
theorem me_not (ha : ME X C false a n1) : ME X C o (.UnaryOp .Not a pos) (eNot n1) := PE.weak (pe_not ha) fun σ H Q h => by
  obtain ⟨st, φ, R, q⟩ := h
  refine ⟨st, φ, R, Post.mono (Post.bind q) fun d st1 φ1 H1 R1 S1 p v hv => ?_⟩
  cases d with
  | bl k => exact ⟨k, hv.bl, p φ1 H1 R1 .refl _ (.of_rep (by cases o <;> rfl) (by unfold RepD; rfl))⟩
  | _ => exact p.elim
theorem me_ifExp (hc : MT X C c m1) (ha : ME X C o a n1) (hb : ME X C o b n2) : ME X C o (.IfExp c a b pos) (eIf m1 n1 n2) := PE.weak (pe_ifExp hc ha hb) fun σ H Q h => by
  obtain ⟨st, φ, R, q⟩ := h
  refine ⟨st, φ, R, Post.mono (Post.bind q) fun k st1 φ1 H1 R1 S1 p => ?_⟩
  cases k with
  | true => exact ⟨st1, φ1, R1, Post.mono p fun d st' φ' H' R' S' p' v hv => p' v (hv.shift S1)⟩
  | false => exact ⟨st1, φ1, R1, Post.mono p fun d st' φ' H' R' S' p' v hv => p' v (hv.shift S1)⟩
end

/-! ### a < b < c -/
def eCh (g g' : List D → Option D) (na nb nc : MS → Res D) : MS → Res D := fun st => (na st).bind fun x st1 => (nb st1).bind fun y st2 => match g [x, y] with
  | some (.bl true) => (nc st2).bind fun z st3 => match g' [y, z] with
    | some d => .ok d st3
    | none => .stuck
  | some (.bl false) => .ok (.bl false) st2
  | _ => .stuck
section
variable {X : Cx} {C : Ctx} {a b c : Expr} {pos : Pos} {na nb nc : MS → Res D} {r r' : R2} {g g' : List D → Option D}
theorem run_chain (hg : OpD C false (rB r) g) (hg' : OpD C false (rB r') g') {σ : SS} {H : Hp} {Q : VK} (h : tV C false (eCh g g' na nb nc) σ H Q) : tChain r r' (tV C false na) (tV C false nb) (tV C false nc) σ H Q := by
  obtain ⟨st, φ, R, q⟩ := h
  refine ⟨st, φ, R, Post.mono (Post.bind q) fun x st1 φ1 H1 R1 S1 p1 vx hx => ?_⟩
  refine ⟨st1, φ1, R1, Post.mono (Post.bind p1) fun y st2 φ2 H2 R2 S2 p2 vy hy => ?_⟩
  have ry := hy.rep
  have rx := hx.rep.mono S2.fz S2.pre
  cases e : g [x, y] with
  | none => rw [e] at p2; exact p2.elim
  | some d =>
    rw [e] at p2
    obtain ⟨_, _, eq, go⟩ := hg φ2 st2 σ H2 R2 [x, y] [vx, vy] d (fun z H3 => ∃ k, z = .bl k ∧ (if k = true then tV C false nc σ H3 fun w' H4 => r' vy w' H4 Q else Q (.bl false) H3)) (.cons (.inl rx) (.cons (.inl ry) .nil)) e fun v H3 s hv => by
      cases d with
      | bl k =>
        refine ⟨k, hv.bl, ?_⟩
        cases k with
        | false => exact p2 φ2 H3 (R2.same s) (.same s) _ (.of_rep rfl (by unfold RepD; rfl))
        | true =>
          rw [if_pos rfl]
          refine ⟨st2, φ2, R2.same s, Post.mono (Post.bind (Post.step p2 (.same s))) fun z st3 φ3 H4 R3 S3 p3 vz hz => ?_⟩
          cases e' : g' [y, z] with
          | none => rw [e'] at p3; exact p3.elim
          | some d' =>
            rw [e'] at p3
            obtain ⟨_, _, eq', go'⟩ := hg' φ3 st3 σ H4 R3 [y, z] [vy, vz] d' Q (.cons (.inl ((ry.mono (.of_same s) (.refl _)).mono S3.fz S3.pre)) (.cons (.inl hz.rep) .nil)) e' fun v H5 s5 hv => p3 φ3 H5 (R3.same s5) (.same s5) v (.of_rep rfl hv.rep)
            cases eq'
            exact go'
      | _ => exact p2.elim
    cases eq
    exact go
theorem me_chain {op op' : CmpOp} (ho : OpR X (compareOp op) r) (ho' : OpR X (compareOp op') r') (hg : OpD C false (rB r) g) (hg' : OpD C false (rB r') g') (ha : ME X C false a na) (hb : ME X C false b nb) (hc : ME X C false c nc)
    (hm : lastMarks [op, op'] [b, c] = false := by with_unfolding_all rfl) : ME X C false (.Compare a [op, op'] [b, c] pos) (eCh g g' na nb nc) := PE.weak (pe_chain ho ho' ha hb hc hm) fun _ _ _ h => run_chain hg hg' h
theorem mt_chain {op op' : CmpOp} (ho : OpR X (compareOp op) r) (ho' : OpR X (compareOp op') r') (hg : OpD C false (rB r) g) (hg' : OpD C false (rB r') g') (ha : ME X C false a na) (hb : ME X C false b nb) (hc : ME X C false c nc)
    (hm : lastMarks [op, op'] [b, c] = false := by with_unfolding_all rfl) : MT X C (.Compare a [op, op'] [b, c] pos) (eT (eCh g g' na nb nc)) := PT.weak (pt_chain ho ho' ha hb hc hm) fun _ _ _ h => run_chain hg hg' (run_test h)
theorem me_leLe (ha : ME X C false a na) (hb : ME X C false b nb) (hc : ME X C false c nc) (hm : lastMarks [.LtE, .LtE] [b, c] = false := by with_unfolding_all rfl) : ME X C false (.Compare a [.LtE, .LtE] [b, c] pos) (eCh gLe gLe na nb nc) := me_chain op_le op_le opd_le opd_le ha hb hc hm
theorem mt_leLe (ha : ME X C false a na) (hb : ME X C false b nb) (hc : ME X C false c nc) (hm : lastMarks [.LtE, .LtE] [b, c] = false := by with_unfolding_all rfl) : MT X C (.Compare a [.LtE, .LtE] [b, c] pos) (eT (eCh gLe gLe na nb nc)) := mt_chain op_le op_le opd_le opd_le ha hb hc hm
end
end Q
set_option Elab.async false
set_option linter.all false
set_option maxRecDepth 100000
set_option autoImplicit false
/-! QG: statements, loops, comprehensions -/
namespace Q
open PySem PySem.Spec PyProof.Rows L2 PySem.SeqAt

inductive SR where
  | nx (st : MS) | rt (d : D) (st : MS) | bk (st : MS) | ct (st : MS) | err (x : Exn) (st : MS) | stuck

structure SStep (φ : List Addr) (H : Hp) (φ' : List Addr) (H' : Hp) : Prop where
  pre : Pre φ φ'
  new : ∀ a ∈ φ', a ∈ φ ∨ H a = none
  fz : Fz H H'
  dom : ∀ a, H a ≠ none → H' a ≠ none
theorem SStep.refl {φ : List Addr} {H : Hp} : SStep φ H φ H := ⟨.refl φ, fun _ h => .inl h, .refl H, fun _ h => h⟩
theorem SStep.trans {φ φ1 φ2 : List Addr} {H H1 H2 : Hp} (a : SStep φ H φ1 H1) (b : SStep φ1 H1 φ2 H2) : SStep φ H φ2 H2 := by
  refine ⟨a.pre.trans b.pre, fun p hp => ?_, a.fz.trans b.fz, fun p h => b.dom p (a.dom p h)⟩
  rcases b.new p hp with z | z
  · exact a.new p z
  · refine .inr ?_
    cases q : H p with
    | none => rfl
    | some x => exact absurd z (a.dom p (by rw [q]; exact fun z => by cases z))
theorem Step.s {C : Ctx} {σ : SS} {φ φ' : List Addr} {H H' : Hp} (a : Step C σ φ H φ' H') : SStep φ H φ' H' := ⟨a.pre, a.new, a.fz, a.dom⟩
theorem SStep.same {φ : List Addr} {H H' : Hp} (s : Same H H') : SStep φ H φ H' := ⟨.refl φ, fun _ h => .inl h, .of_same s, fun a h => by
  cases q : H a with
  | none => exact absurd q h
  | some u => rw [s a u q]; exact fun z => by cases z⟩

/-- what a def hands back -/
def RetV (C : Ctx) (φ : List Addr) (H' : Hp) (d : D) (v : V) : Prop :=
  if (C.ret && isOwn d) = true then ∃ a, v = .ref a ∧ OwnD C.K φ H' a d ∧ C.H0 a = none else RepD C.K φ H' d v

def SPost (C : Ctx) (φ : List Addr) (H : Hp) (r : SR) (D : Ends) : Prop := match r with
  | .nx st' => ∀ φ' σ' H', Rel C φ' st' σ' H' → SStep φ H φ' H' → D.nx σ' H'
  | .rt d st' => ∀ φ' σ' H' v, Rel C φ' st' σ' H' → SStep φ H φ' H' → RetV C φ' H' d v → D.rt v H'
  | .bk st' => ∀ φ' σ' H', Rel C φ' st' σ' H' → SStep φ H φ' H' → D.bk σ' H'
  | .ct st' => ∀ φ' σ' H', Rel C φ' st' σ' H' → SStep φ H φ' H' → D.ct σ' H'
  | .err x st' => ∀ φ' σ' H' cls d, Rel C φ' st' σ' H' → SStep φ H φ' H' → XRep C φ' H' x cls d → C.E cls d H'
  | .stuck => False
theorem SPost.step {C : Ctx} {φ φ1 : List Addr} {H H1 : Hp} {r : SR} {D : Ends} (h : SPost C φ H r D) (S : SStep φ H φ1 H1) : SPost C φ1 H1 r D := by
  cases r with
  | nx st => exact fun φ' σ' H' R S' => h φ' σ' H' R (S.trans S')
  | rt d st => exact fun φ' σ' H' v R S' => h φ' σ' H' v R (S.trans S')
  | bk st => exact fun φ' σ' H' R S' => h φ' σ' H' R (S.trans S')
  | ct st => exact fun φ' σ' H' R S' => h φ' σ' H' R (S.trans S')
  | err x st => exact fun φ' σ' H' cls d R S' => h φ' σ' H' cls d R (S.trans S')
  | stuck => exact h
/-- an expression's result used by a statement -/
def Res.stm {α : Type} (r : Res α) (f : α → MS → SR) : SR := match r with
  | .ok a st => f a st
  | .err x st => .err x st
  | .stuck => .stuck
theorem SPost.bind {α : Type} {C : Ctx} {σ : SS} {φ : List Addr} {H : Hp} {r : Res α} {f : α → MS → SR} {D : Ends} (h : SPost C φ H (r.stm f) D) : Post C σ φ H r fun a st' φ' H' => SPost C φ' H' (f a st') D := by
  cases r with
  | ok a st' => exact fun φ' H' R S => h.step S.s
  | err x st' => exact fun φ' H' cls d R S => h φ' σ H' cls d R S.s
  | stuck => exact h

def tS (C : Ctx) (m : MS → SR) : TS := fun D σ H => ∃ st φ, Rel C φ st σ H ∧ SPost C φ H (m st) D
def MS1 (X : Cx) (C : Ctx) (s : Stmt) (m : MS → SR) : Prop := PS X s (tS C m)
def MSs (X : Cx) (C : Ctx) (ss : List Stmt) (m : MS → SR) : Prop := PSs X ss (tS C m)
theorem PS.weak {X : Cx} {e : Stmt} {t t' : TS} (h : PS X e t) (w : ∀ D σ H, t' D σ H → t D σ H) : PS X e t' := ⟨fun pins s σ H D I q => h.run pins s σ H D I (w D σ H q)⟩
theorem PSs.weak {X : Cx} {e : List Stmt} {t t' : TS} (h : PSs X e t) (w : ∀ D σ H, t' D σ H → t D σ H) : PSs X e t' := ⟨fun pins s σ H D I q => h.run pins s σ H D I (w D σ H q)⟩

def sNil : MS → SR := .nx
def sSeq (m1 m2 : MS → SR) : MS → SR := fun st => match m1 st with
  | .nx st' => m2 st'
  | r => r
def sExpr (m : MS → Res D) : MS → SR := fun st => (m st).stm fun _ st' => .nx st'
def sRet (m : MS → Res D) : MS → SR := fun st => (m st).stm fun d st' => .rt d st'
def sRetN : MS → SR := fun st => .rt .non st
def sIf (t : MS → Res Bool) (m1 m2 : MS → SR) : MS → SR := fun st => (t st).stm fun b st' => if b = true then m1 st' else m2 st'
def sBrk : MS → SR := .bk
def sCont : MS → SR := .ct
def sNever : MS → SR := fun _ => .stuck
def MS.set (st : MS) (i : Nat) (d : D) : MS := { st with env := st.env.set i (some d) }
def MS.del (st : MS) (i : Nat) : MS := { st with env := st.env.set i none }
def sSet (i : Nat) (m : MS → Res D) : MS → SR := fun st => (m st).stm fun d st' => .nx (st'.set i d)
/-- a slot of the def's own gets a new thing -/
def sSetO (i : Nat) (m : MS → Res D) : MS → SR := fun st => (m st).stm fun d st' => if isOwn d = true then .nx (st'.set i d) else .stuck
section
variable {X : Cx} {C : Ctx} {pos : Pos}
theorem ms_nil : MSs X C [] sNil := PSs.weak pss_nil fun D σ H ⟨st, φ, R, q⟩ => q φ σ H R .refl
theorem ms_cons {s : Stmt} {ss : List Stmt} {m1 m2 : MS → SR} (h1 : MS1 X C s m1) (h2 : MSs X C ss m2) : MSs X C (s :: ss) (sSeq m1 m2) := PSs.weak (pss_cons h1 h2) fun D σ H ⟨st, φ, R, q⟩ => by
  refine ⟨st, φ, R, ?_⟩
  unfold sSeq at q
  cases e : m1 st with
  | nx st' =>
    rw [e] at q
    exact fun φ' σ' H' R' S => ⟨st', φ', R', q.step S⟩
  | rt d st' => rw [e] at q; exact q
  | bk st' => rw [e] at q; exact q
  | ct st' => rw [e] at q; exact q
  | err x st' => rw [e] at q; exact q
  | stuck => rw [e] at q; exact q
theorem ms_one {s : Stmt} {m : MS → SR} (h : MS1 X C s m) : MSs X C [s] m := pss_one h
theorem ms_pass : MS1 X C (.Pass pos) sNil := PS.weak ps_pass fun D σ H ⟨st, φ, R, q⟩ => q φ σ H R .refl
theorem ms_break : MS1 X C (.Break pos) sBrk := PS.weak ps_break fun D σ H ⟨st, φ, R, q⟩ => q φ σ H R .refl
theorem ms_continue : MS1 X C (.Continue pos) sCont := PS.weak ps_continue fun D σ H ⟨st, φ, R, q⟩ => q φ σ H R .refl
theorem ms_never {s : Stmt} : MS1 X C s sNever := PS.weak ps_never fun D σ H ⟨st, φ, R, q⟩ => q
theorem ms_expr {e : Expr} {o : Bool} {m : MS → Res D} (h : ME X C o e m) (hs : swapsWith e none pos.line X.env = pure false := by rfl) : MS1 X C (.Expr e pos) (sExpr m) := PS.weak (ps_expr h hs) fun D σ H ⟨st, φ, R, q⟩ =>
  ⟨st, φ, R, Post.mono (SPost.bind q) fun d st' φ' H' R' S p v hv => p φ' σ H' R' .refl⟩
theorem ms_retN : MS1 X C (.Return none pos) sRetN := PS.weak ps_retN fun D σ H ⟨st, φ, R, q⟩ => q φ σ H .non R .refl (by
  unfold RetV
  rw [show (C.ret && isOwn .non) = false by cases C.ret <;> rfl, if_neg Bool.false_ne_true]
  unfold RepD
  rfl)
theorem ms_ret {e : Expr} {m : MS → Res D} (h : ME X C C.ret e m) : MS1 X C (.Return (some e) pos) (sRet m) := PS.weak (ps_ret h) fun D σ H ⟨st, φ, R, q⟩ =>
  ⟨st, φ, R, Post.mono (SPost.bind q) fun d st' φ' H' R' S p v hv => p φ' σ H' v R' .refl (by
    unfold ValR at hv
    unfold RetV
    split
    · rename_i hc
      rw [if_pos hc] at hv
      obtain ⟨a, e, ow, w⟩ := hv
      exact ⟨a, e, ow, R.none0 w⟩
    · rename_i hc
      rw [if_neg hc] at hv
      exact hv)⟩
theorem ms_if {c : Expr} {a b : List Stmt} {t : MS → Res Bool} {m1 m2 : MS → SR} (hc : MT X C c t) (ha : MSs X C a m1) (hb : MSs X C b m2) : MS1 X C (.If c a b pos) (sIf t m1 m2) := PS.weak (ps_if hc ha hb) fun D σ H ⟨st, φ, R, q⟩ => by
  refine ⟨st, φ, R, Post.mono (SPost.bind q) fun k st' φ' H' R' S p => ?_⟩
  cases k with
  | true => exact ⟨st', φ', R', p⟩
  | false => exact ⟨st', φ', R', p⟩
end

/-! ### slots -/
section
variable {C : Ctx} {φ : List Addr} {st : MS} {σ : SS} {H : Hp} {i : Nat} {d : D} {v : V}
theorem Rel.set (R : Rel C φ st σ H) (ho : C.own i = false) (hv : RepD C.K φ H d v) : Rel C φ (st.set i d) (σ.set i (some v)) H := by
  have hio : ∀ p ∈ C.io, p.1 ≠ i := fun p hp e => by
    have := (R.ios p hp).1
    rw [e, ho] at this; cases this
  refine ⟨?_, fun j d' oj e => ?_, fun j d' oj e => ?_, fun j k d1 d2 a hne oj ok e1 e2 e3 => ?_, fun a h => ?_, R.keep, R.frz, fun p hp => ?_, R.sto⟩
  · show (st.env.set i (some d)).length = _
    rw [List.length_set, List.length_set]; exact R.len
  · have e' : (st.env.set i (some d))[j]? = some (some d') := e
    by_cases hj : i = j
    · subst hj
      have hl : i < st.env.length := by
        rcases Nat.lt_or_ge i st.env.length with z | z
        · exact z
        · rw [List.getElem?_eq_none (by simpa using z)] at e'; cases e'
      rw [List.getElem?_set_self hl] at e'
      cases e'
      refine ⟨v, ?_, hv⟩
      rw [List.getElem?_set_self (by rw [← R.len]; exact hl)]
    · rw [List.getElem?_set_ne hj] at e' ⊢
      exact R.val j d' oj e'
  · have hj : i ≠ j := fun z => by rw [← z, ho] at oj; cases oj
    have e' : (st.env.set i (some d))[j]? = some (some d') := e
    rw [List.getElem?_set_ne hj] at e' ⊢
    exact R.own j d' oj e'
  · have hj : i ≠ j := fun z => by rw [← z, ho] at oj; cases oj
    have hk : i ≠ k := fun z => by rw [← z, ho] at ok; cases ok
    have e1' : (st.env.set i (some d))[j]? = some (some d1) := e1
    have e2' : (st.env.set i (some d))[k]? = some (some d2) := e2
    rw [List.getElem?_set_ne hj] at e1' e3
    rw [List.getElem?_set_ne hk] at e2' ⊢
    exact R.dist j k d1 d2 a hne oj ok e1' e2' e3
  · obtain ⟨j, oj, e⟩ := h
    have hj : i ≠ j := fun z => by rw [← z, ho] at oj; cases oj
    rw [List.getElem?_set_ne hj] at e
    exact R.alive a ⟨j, oj, e⟩
  · refine ⟨(R.ios p hp).1, ?_⟩
    rw [List.getElem?_set_ne (Ne.symm (hio p hp))]
    exact (R.ios p hp).2
/-- an own slot takes a new thing -/
theorem Rel.setO {a : Addr} {H1 : Hp} {σ1 : SS} (R : Rel C φ st σ H) (ho : C.own i = true) (hio : ∀ p ∈ C.io, p.1 ≠ i) (ow : OwnD C.K φ H a d) (h0 : C.H0 a = none) (nw : ¬ Ow C σ a) : Rel C φ (st.set i d) (σ.set i (some (.ref a))) H := by
  have hO : ∀ b, Ow C (σ.set i (some (.ref a))) b → b = a ∨ Ow C σ b := fun b ⟨j, oj, e⟩ => by
    by_cases hj : i = j
    · subst hj
      by_cases hl : i < σ.length
      · rw [List.getElem?_set_self hl] at e
        cases e
        exact .inl rfl
      · rw [List.getElem?_eq_none (by simpa using hl)] at e; cases e
    · rw [List.getElem?_set_ne hj] at e
      exact .inr ⟨j, oj, e⟩
  refine ⟨?_, fun j d' oj e => ?_, fun j d' oj e => ?_, fun j k d1 d2 b hne oj ok e1 e2 e3 => ?_, fun b h => ?_, R.keep, R.frz, fun p hp => ?_, R.sto⟩
  · show (st.env.set i (some d)).length = _
    rw [List.length_set, List.length_set]; exact R.len
  · have hj : i ≠ j := fun z => by rw [← z, ho] at oj; cases oj
    have e' : (st.env.set i (some d))[j]? = some (some d') := e
    rw [List.getElem?_set_ne hj] at e' ⊢
    exact R.val j d' oj e'
  · have e' : (st.env.set i (some d))[j]? = some (some d') := e
    by_cases hj : i = j
    · subst hj
      have hl : i < st.env.length := by
        rcases Nat.lt_or_ge i st.env.length with z | z
        · exact z
        · rw [List.getElem?_eq_none (by simpa using z)] at e'; cases e'
      rw [List.getElem?_set_self hl] at e'
      cases e'
      refine ⟨a, ?_, ow, .inl h0⟩
      rw [List.getElem?_set_self (by rw [← R.len]; exact hl)]
    · rw [List.getElem?_set_ne hj] at e' ⊢
      exact R.own j d' oj e'
  · have e1' : (st.env.set i (some d))[j]? = some (some d1) := e1
    have e2' : (st.env.set i (some d))[k]? = some (some d2) := e2
    by_cases hj : i = j
    · subst hj
      have hk : i ≠ k := hne
      rw [List.getElem?_set_ne hk] at e2' ⊢
      by_cases hl : i < σ.length
      · rw [List.getElem?_set_self hl] at e3
        cases e3
        exact fun z => nw ⟨k, ok, z⟩
      · rw [List.getElem?_eq_none (by simpa using hl)] at e3; cases e3
    · rw [List.getElem?_set_ne hj] at e1' e3
      by_cases hk : i = k
      · subst hk
        by_cases hl : i < σ.length
        · rw [List.getElem?_set_self hl]
          intro z
          cases z
          exact nw ⟨j, oj, e3⟩
        · rw [List.getElem?_eq_none (by simpa using hl)]
          exact fun z => by cases z
      · rw [List.getElem?_set_ne hk] at e2' ⊢
        exact R.dist j k d1 d2 b hne oj ok e1' e2' e3
  · rcases hO b h with rfl | h
    · exact ow.some
    · exact R.alive b h
  · refine ⟨(R.ios p hp).1, ?_⟩
    rw [List.getElem?_set_ne (Ne.symm (hio p hp))]
    exact (R.ios p hp).2
/-- an own thing changes -/
theorem Rel.change {a : Addr} {d' : D} {o : HO} (R : Rel C φ st σ H) (ho : C.own i = true) (hs : st.env[i]? = some (some d)) (ha : σ[i]? = some (some (.ref a))) (hst : still o = false) (hins : ∀ A dx fs, o ≠ .ins A dx fs) (ow : OwnD C.K φ (upd H a o) a d') : Rel C φ (st.set i d') σ (upd H a o) := by
  obtain ⟨a', ea, owa, h0⟩ := R.own i d ho hs
  rw [ha] at ea
  cases ea
  obtain ⟨u, hu, mu, nst⟩ := owa.mut
  have f : Fz H (upd H a o) := fun b x q s => by
    have nb : b ≠ a := fun z => by rw [z, hu] at q; cases q; rw [nst] at s; cases s
    rw [upd_ne nb]; exact q
  have hl : i < st.env.length := by
    rcases Nat.lt_or_ge i st.env.length with z | z
    · exact z
    · rw [List.getElem?_eq_none z] at hs; cases hs
  refine ⟨?_, fun j d1 oj e => ?_, fun j d1 oj e => ?_, fun j k d1 d2 b hne oj ok e1 e2 e3 => ?_, fun b h => ?_, fun b x q n m => ?_, R.frz.trans f, R.ios, R.sto.mono f fun b hb => ?_⟩
  · show (st.env.set i (some d')).length = _
    rw [List.length_set]; exact R.len
  · have hj : i ≠ j := fun z => by rw [← z, ho] at oj; cases oj
    have e' : (st.env.set i (some d'))[j]? = some (some d1) := e
    rw [List.getElem?_set_ne hj] at e'
    obtain ⟨v, q, r⟩ := R.val j d1 oj e'
    exact ⟨v, q, r.mono f (.refl φ)⟩
  · have e' : (st.env.set i (some d'))[j]? = some (some d1) := e
    by_cases hj : i = j
    · subst hj
      rw [List.getElem?_set_self hl] at e'
      cases e'
      exact ⟨a, ha, ow, h0⟩
    · rw [List.getElem?_set_ne hj] at e'
      obtain ⟨b, q, r, z⟩ := R.own j d1 oj e'
      have nb : b ≠ a := fun z => by
        rw [z] at q
        exact R.dist j i d1 d a (Ne.symm hj) oj ho e' hs q ha
      exact ⟨b, q, r.mono f (.refl φ) (upd_ne nb), z⟩
  · have live : ∀ (j : Nat) d1, (st.set i d').env[j]? = some (some d1) → ∃ d2, st.env[j]? = some (some d2) := fun j d1 e => by
      have e' : (st.env.set i (some d'))[j]? = some (some d1) := e
      by_cases hj : i = j
      · subst hj; exact ⟨d, hs⟩
      · rw [List.getElem?_set_ne hj] at e'; exact ⟨d1, e'⟩
    obtain ⟨x1, q1⟩ := live j d1 e1
    obtain ⟨x2, q2⟩ := live k d2 e2
    exact R.dist j k x1 x2 b hne oj ok q1 q2 e3
  · by_cases hb : b = a
    · subst hb; rw [upd_same]; exact fun z => by cases z
    · rw [upd_ne hb]; exact R.alive b h
  · have nb : b ≠ a := fun z => by
      rcases h0 with h0 | h0
      · rw [z, h0] at q; cases q
      · exact n ⟨_, h0, z.symm⟩
    rw [upd_ne nb]; exact R.keep b x q n m
  · have nb : b ≠ a := fun z => by
      obtain ⟨A, dx, fs, e⟩ := R.sto.some hb
      rw [z, hu] at e
      cases e
      cases d with
      | lst xs => obtain ⟨vs, e, _⟩ := owa; rw [hu] at e; cases e
      | dic kvs => obtain ⟨kv, e, _⟩ := owa; rw [hu] at e; cases e
      | _ => exact owa
    exact upd_ne nb
/-- an own slot is given up: what stood there may be frozen -/
theorem Rel.del (R : Rel C φ st σ H) (ho : C.own i = true) : Rel C φ (st.del i) σ H := by
  have live : ∀ (j : Nat) d1, (st.del i).env[j]? = some (some d1) → st.env[j]? = some (some d1) := fun j d1 e => by
    have e' : (st.env.set i none)[j]? = some (some d1) := e
    by_cases hj : i = j
    · subst hj
      by_cases hl : i < st.env.length
      · rw [List.getElem?_set_self hl] at e'; cases e'
      · rw [List.getElem?_eq_none (by simpa using hl)] at e'; cases e'
    · rw [List.getElem?_set_ne hj] at e'; exact e'
  refine ⟨?_, fun j d1 oj e => R.val j d1 oj (live j d1 e), fun j d1 oj e => R.own j d1 oj (live j d1 e), fun j k d1 d2 b hne oj ok e1 e2 e3 => R.dist j k d1 d2 b hne oj ok (live j d1 e1) (live k d2 e2) e3, R.alive, R.keep, R.frz, R.ios, R.sto⟩
  show (st.env.set i none).length = _
  rw [List.length_set]; exact R.len
/-- .. frozen where it lies -/
theorem Rel.delFz {a : Addr} {u : HO} (o : Obj) (R : Rel C φ st σ H) (ho : C.own i = true) (hs : st.env[i]? = some (some d)) (ha : σ[i]? = some (some (.ref a))) (hu : H a = some u) (h0 : C.H0 a = none) : Rel C φ (st.del i) σ (upd H a (.frz o u)) ∧ RepD C.K φ (upd H a (.frz o u)) d (.ref a) ∧ SStep φ H φ (upd H a (.frz o u)) := by
  obtain ⟨a', ea, ow, _⟩ := R.own i d ho hs
  rw [ha] at ea
  cases ea
  have f : Fz H (upd H a (.frz o u)) := fun b x q s => by
    obtain ⟨u', e, _, n⟩ := ow.mut
    have nb : b ≠ a := fun z => by rw [z, e] at q; cases q; rw [n] at s; cases s
    rw [upd_ne nb]; exact q
  have R' := R.del (i := i) ho
  refine ⟨⟨R'.len, fun j d1 oj e => ?_, fun j d1 oj e => ?_, R'.dist, fun b h => ?_, fun b x q n m => ?_, R.frz.trans f, R.ios, R.sto.mono f fun b hb => ?_⟩, frz_of_own o hu ow, ⟨.refl φ, fun _ h => .inl h, f, fun b h => ?_⟩⟩
  · obtain ⟨v, q, r⟩ := R'.val j d1 oj e
    exact ⟨v, q, r.mono f (.refl φ)⟩
  · obtain ⟨b, q, r, z⟩ := R'.own j d1 oj e
    have hj : i ≠ j := fun hj => by
      subst hj
      have e' : (st.env.set i none)[i]? = some (some d1) := e
      by_cases hl : i < st.env.length
      · rw [List.getElem?_set_self hl] at e'; cases e'
      · rw [List.getElem?_eq_none (by simpa using hl)] at e'; cases e'
    have e' : st.env[j]? = some (some d1) := by
      have e' : (st.env.set i none)[j]? = some (some d1) := e
      rw [List.getElem?_set_ne hj] at e'; exact e'
    have nb : b ≠ a := fun z => by
      rw [z] at q
      exact R.dist j i d1 d a (Ne.symm hj) oj ho e' hs q ha
    exact ⟨b, q, r.mono f (.refl φ) (upd_ne nb), z⟩
  · by_cases hb : b = a
    · subst hb; rw [upd_same]; exact fun z => by cases z
    · rw [upd_ne hb]; exact R.alive b h
  · have nb : b ≠ a := fun z => by rw [z, h0] at q; cases q
    rw [upd_ne nb]; exact R.keep b x q n m
  · have nb : b ≠ a := fun z => by
      obtain ⟨A, dx, fs, e⟩ := R.sto.some hb
      rw [z, hu] at e
      cases e
      cases d with
      | lst xs => obtain ⟨vs, e, _⟩ := ow; rw [hu] at e; cases e
      | dic kvs => obtain ⟨kv, e, _⟩ := ow; rw [hu] at e; cases e
      | _ => exact ow
    exact upd_ne nb
  · by_cases hb : b = a
    · subst hb; rw [upd_same]; exact fun z => by cases z
    · rw [upd_ne hb]; exact h
end
section
variable {X : Cx} {C : Ctx} {pos pos' : Pos} {i : Nat} {x : Str} {e : Expr} {m : MS → Res D}
theorem ms_set (hN : X.N.Nodup) (ho : C.own i = false) (hi : X.N[i]? = some x) (hx : Loc X.env.scope x) (he : ME X C false e m) (hs : swapsWith e (some (.Name x pos')) pos.line X.env = pure false := by rfl) (hf : X.fn x = true ∨ X.env.scope.names.lookup x = some .local := by first | exact .inl rfl | exact .inr rfl) :
    MS1 X C (.Assign [.Name x pos'] e pos) (sSet i m) := PS.weak (ps_set hN hi hx he hs hf) fun D σ H ⟨st, φ, R, q⟩ =>
  ⟨st, φ, R, Post.mono (SPost.bind q) fun d st' φ' H' R' S p v hv => p φ' _ H' (R'.set ho hv.rep) .refl⟩
theorem ms_setO (hN : X.N.Nodup) (ho : C.own i = true) (hio : ∀ p ∈ C.io, p.1 ≠ i) (hi : X.N[i]? = some x) (hx : Loc X.env.scope x) (he : ME X C true e m) (hs : swapsWith e (some (.Name x pos')) pos.line X.env = pure false := by rfl) (hf : X.fn x = true ∨ X.env.scope.names.lookup x = some .local := by first | exact .inl rfl | exact .inr rfl) :
    MS1 X C (.Assign [.Name x pos'] e pos) (sSetO i m) := PS.weak (ps_set hN hi hx he hs hf) fun D σ H ⟨st, φ, R, q⟩ =>
  ⟨st, φ, R, Post.mono (SPost.bind q) fun d st' φ' H' R' S p v hv => by
    split at p
    · rename_i hd
      obtain ⟨a, rfl, ow, w⟩ := hv.free hd
      exact p φ' _ H' (R'.setO (H1 := H') (σ1 := σ) ho hio ow (R.none0 w) fun z => R.alive a z w) .refl
    · exact p.elim⟩
/-- return of a slot of the def's own -/
def sRetMv (i : Nat) : MS → SR := fun st => match st.get i with
  | some d => .rt d (st.del i)
  | none => .stuck
/-- name = a slot of the def's own, which is given up -/
def sMv (j i : Nat) : MS → SR := fun st => match st.get i with
  | some d => .nx ((st.del i).set j d)
  | none => .stuck
theorem Rel.own0 {φ : List Addr} {st : MS} {σ : SS} {H : Hp} {d : D} (R : Rel C φ st σ H) (ho : C.own i = true) (hio : ∀ p ∈ C.io, p.1 ≠ i) (h : st.get i = some d) : ∃ a u, σ[i]? = some (some (.ref a)) ∧ OwnD C.K φ H a d ∧ C.H0 a = none ∧ H a = some u ∧ Mut (some u) := by
  obtain ⟨a, ea, ow, h0⟩ := R.own i d ho (MS.get_some h)
  obtain ⟨u, hu, mu, _⟩ := ow.mut
  refine ⟨a, u, ea, ow, ?_, hu, mu⟩
  rcases h0 with h0 | h0
  · exact h0
  · exact absurd rfl (hio _ h0)
theorem ms_retMv {e : Expr} (h : PE X e (tVar i)) (ho : C.own i = true) (hio : ∀ p ∈ C.io, p.1 ≠ i) (hret : C.ret = false) : MS1 X C (.Return (some e) pos) (sRetMv i) := PS.weak (ps_ret (pe_fz h)) fun D σ H ⟨st, φ, R, q⟩ => by
  unfold sRetMv at q
  cases e : st.get i with
  | none => rw [e] at q; exact q.elim
  | some d =>
    rw [e] at q
    obtain ⟨a, u, ea, ow, h0, hu, mu⟩ := R.own0 ho hio e
    refine ⟨.ref a, ea, .inr ⟨a, u, rfl, hu, mu, fun o => ?_⟩⟩
    obtain ⟨R', r, S⟩ := R.delFz o ho (MS.get_some e) ea hu h0
    refine q φ σ _ (.ref a) R' S ?_
    unfold RetV
    rw [hret, Bool.false_and, if_neg Bool.false_ne_true]
    exact r
theorem isOwn_of {K : KK} {φ : List Addr} {H : Hp} {a : Addr} {d : D} (h : OwnD K φ H a d) : isOwn d = true := by
  cases d with
  | lst _ => rfl
  | dic _ => rfl
  | _ => exact h.elim
theorem ms_retMvO {e : Expr} (h : PE X e (tVar i)) (ho : C.own i = true) (hio : ∀ p ∈ C.io, p.1 ≠ i) (hret : C.ret = true) : MS1 X C (.Return (some e) pos) (sRetMv i) := PS.weak (ps_ret h) fun D σ H ⟨st, φ, R, q⟩ => by
  unfold sRetMv at q
  cases e : st.get i with
  | none => rw [e] at q; exact q.elim
  | some d =>
    rw [e] at q
    obtain ⟨a, u, ea, ow, h0, hu, mu⟩ := R.own0 ho hio e
    refine ⟨.ref a, ea, q φ σ _ (.ref a) (R.del ho) .refl ?_⟩
    unfold RetV
    rw [hret, isOwn_of ow, if_pos (show (true && true) = true from rfl)]
    exact ⟨a, rfl, ow, h0⟩
theorem ms_mv {j : Nat} {e : Expr} (h : PE X e (tVar i)) (hN : X.N.Nodup) (ho : C.own i = true) (hio : ∀ p ∈ C.io, p.1 ≠ i) (hoj : C.own j = false) (hi : X.N[j]? = some x) (hx : Loc X.env.scope x) (hs : swapsWith e (some (.Name x pos')) pos.line X.env = pure false := by rfl) (hf : X.fn x = true ∨ X.env.scope.names.lookup x = some .local := by first | exact .inl rfl | exact .inr rfl) :
    MS1 X C (.Assign [.Name x pos'] e pos) (sMv j i) := PS.weak (ps_set hN hi hx (pe_fz h) hs hf) fun D σ H ⟨st, φ, R, q⟩ => by
  unfold sMv at q
  cases e : st.get i with
  | none => rw [e] at q; exact q.elim
  | some d =>
    rw [e] at q
    obtain ⟨a, u, ea, ow, h0, hu, mu⟩ := R.own0 ho hio e
    refine ⟨.ref a, ea, .inr ⟨a, u, rfl, hu, mu, fun o => ?_⟩⟩
    obtain ⟨R', r, S⟩ := R.delFz o ho (MS.get_some e) ea hu h0
    exact q φ _ _ (R'.set hoj r) S
end
end Q
set_option Elab.async false
set_option linter.all false
set_option maxRecDepth 100000
set_option autoImplicit false
/-! QH: targets, dicts, loops, comprehensions -/
namespace Q
open PySem PySem.Spec PyProof.Rows L2 PySem.SeqAt

/-! ### targets -/
def GPost (C : Ctx) (φ : List Addr) (H : Hp) (r : Res Unit) (Q : SS → Hp → Prop) : Prop := match r with
  | .ok _ st' => ∀ φ' σ' H', Rel C φ' st' σ' H' → SStep φ H φ' H' → Q σ' H'
  | .err x st' => ∀ φ' σ' H' cls d, Rel C φ' st' σ' H' → SStep φ H φ' H' → XRep C φ' H' x cls d → C.E cls d H'
  | .stuck => False
theorem GPost.step {C : Ctx} {φ φ1 : List Addr} {H H1 : Hp} {r : Res Unit} {Q : SS → Hp → Prop} (h : GPost C φ H r Q) (S : SStep φ H φ1 H1) : GPost C φ1 H1 r Q := by
  cases r with
  | ok a st => exact fun φ' σ' H' R S' => h φ' σ' H' R (S.trans S')
  | err x st => exact fun φ' σ' H' cls d R S' => h φ' σ' H' cls d R (S.trans S')
  | stuck => exact h
theorem GPost.mono {C : Ctx} {φ : List Addr} {H : Hp} {r : Res Unit} {Q Q' : SS → Hp → Prop} (h : GPost C φ H r Q) (f : ∀ st' φ' σ' H', r = .ok () st' → Rel C φ' st' σ' H' → SStep φ H φ' H' → Q σ' H' → Q' σ' H') : GPost C φ H r Q' := by
  cases r with
  | ok a st => exact fun φ' σ' H' R S' => f st φ' σ' H' rfl R S' (h φ' σ' H' R S')
  | err x st => exact h
  | stuck => exact h
theorem GPost.bindE {α : Type} {C : Ctx} {σ : SS} {φ : List Addr} {H : Hp} {r : Res α} {f : α → MS → Res Unit} {Q : SS → Hp → Prop} (h : GPost C φ H (r.bind f) Q) : Post C σ φ H r fun a st' φ' H' => GPost C φ' H' (f a st') Q := by
  cases r with
  | ok a st' => exact fun φ' H' R S => h.step S.s
  | err x st' => exact fun φ' H' cls d R S => h φ' σ H' cls d R S.s
  | stuck => exact h
def tG (C : Ctx) (g : D → MS → Res Unit) : TG := fun v σ H Q => ∃ st φ d, Rel C φ st σ H ∧ RepD C.K φ H d v ∧ GPost C φ H (g d st) Q
def tGs (C : Ctx) (gs : List D → MS → Res Unit) : TGs := fun vs σ H Q => ∃ st φ ds, Rel C φ st σ H ∧ RepAll C.K φ H ds vs ∧ GPost C φ H (gs ds st) Q
def MG (X : Cx) (C : Ctx) (tg : Expr) (g : D → MS → Res Unit) : Prop := PG X tg (tG C g)
def MGs (X : Cx) (C : Ctx) (tgs : List Expr) (gs : List D → MS → Res Unit) : Prop := PGs X tgs (tGs C gs)
theorem PG.weak {X : Cx} {tg : Expr} {t t' : TG} (h : PG X tg t) (w : ∀ v σ H Q, t' v σ H Q → t v σ H Q) : PG X tg t' := ⟨fun pins s σ H v u Q I r q => h.run pins s σ H v u Q I r (w v σ H Q q)⟩
theorem PGs.weak {X : Cx} {tg : List Expr} {t t' : TGs} (h : PGs X tg t) (w : ∀ v σ H Q, t' v σ H Q → t v σ H Q) : PGs X tg t' := ⟨fun pins s σ H v u Q I r q => h.run pins s σ H v u Q I r (w v σ H Q q)⟩

def gNm (i : Nat) : D → MS → Res Unit := fun d st => .ok () (st.set i d)
def gsNil : List D → MS → Res Unit := fun ds st => match ds with
  | [] => .ok () st
  | _ => .stuck
def gsCons (g : D → MS → Res Unit) (gs : List D → MS → Res Unit) : List D → MS → Res Unit := fun ds st => match ds with
  | d :: r => (g d st).bind fun _ st' => gs r st'
  | [] => .stuck
def gTp (n : Nat) (gs : List D → MS → Res Unit) : D → MS → Res Unit := fun d st => match d with
  | .tup ds => if ds.length = n then gs ds st else .stuck
  | _ => .stuck
section
variable {X : Cx} {C : Ctx} {pos : Pos} {i : Nat} {x : Str}
theorem mg_name (hN : X.N.Nodup) (ho : C.own i = false) (hi : X.N[i]? = some x) (hx : Loc X.env.scope x) (hf : X.fn x = true ∨ X.env.scope.names.lookup x = some .local := by first | exact .inl rfl | exact .inr rfl | assumption) : MG X C (.Name x pos) (gNm i) :=
  PG.weak (pg_name hN hi hx hf) fun v σ H Q ⟨st, φ, d, R, r, q⟩ => q φ _ H (R.set ho r) .refl
theorem mgs_nil : MGs X C [] gsNil := PGs.weak pgs_nil fun vs σ H Q ⟨st, φ, ds, R, r, q⟩ => by
  cases ds with
  | nil => exact ⟨r.of_nil, q φ σ H R .refl⟩
  | cons d ds => exact q.elim
theorem mgs_cons {e : Expr} {es : List Expr} {g : D → MS → Res Unit} {gs : List D → MS → Res Unit} (h1 : MG X C e g) (h2 : MGs X C es gs) (hs : (assignEach (e :: es) X.env).map (·.2) = assign e X.env :: (assignEach es X.env).map (·.2) := by rfl) : MGs X C (e :: es) (gsCons g gs) :=
  PGs.weak (pgs_cons h1 h2 hs) fun vs σ H Q ⟨st, φ, ds, R, r, q⟩ => by
    cases ds with
    | nil => exact q.elim
    | cons d ds =>
      obtain ⟨v, vr, rfl, r1, r2⟩ := r.of_cons
      refine ⟨v, vr, rfl, st, φ, d, R, r1, ?_⟩
      have q : GPost C φ H ((g d st).bind fun _ st' => gs ds st') Q := q
      cases e : g d st with
      | ok u st1 =>
        rw [e] at q
        exact fun φ' σ' H' R' S => ⟨st1, φ', ds, R', r2.mono S.fz S.pre, q.step S⟩
      | err x st1 => rw [e] at q; exact q
      | stuck => rw [e] at q; exact q
theorem mg_tup {es : List Expr} {k n : Nat} {gs : List D → MS → Res Unit} (hk : X.K = C.K) (hc : X.calm = true) (h : MGs X C es gs) (hn : (assignEach es X.env).length = n := by rfl) (hst : (assignEach es X.env).findIdx? (·.1) = none := by rfl) : MG X C (.Tuple es k pos) (gTp n gs) :=
  PG.weak (pg_tup hc h hn hst) fun v σ H Q ⟨st, φ, d, R, r, q⟩ => by
    cases d with
    | tup ds =>
      unfold RepD at r
      obtain ⟨a, vs, rfl, hq, ra⟩ := r
      have q : GPost C φ H (if ds.length = n then gs ds st else .stuck) Q := q
      split at q
      · rename_i hl
        exact ⟨a, vs, rfl, by rw [hk]; exact hq, by rw [← ra.length]; exact hl, st, φ, ds, R, ra, q⟩
      · exact q.elim
    | _ => exact q.elim
end

/-! ### dicts with int and text keys -/
def dkey : D → Option Key
  | .int i => some (.inl i)
  | .str s => some (.inr s)
  | _ => none
def keyEq : D → D → Bool
  | .int i, .int j => i == j
  | .str x, .str y => x == y
  | _, _ => false
def dicGet (kvs : List (D × D)) (k : D) : Option D := (kvs.find? fun kv => keyEq kv.1 k).map (·.2)
def dicPut (kvs : List (D × D)) (k v : D) : List (D × D) := if (kvs.any fun kv => keyEq kv.1 k) = true then kvs.map (fun kv => if keyEq kv.1 k = true then (kv.1, v) else kv) else kvs ++ [(k, v)]
theorem keyEq_kD (a b : Key) : keyEq (kD a) (kD b) = decide (a = b) := by
  cases a with
  | inl i => cases b with
    | inl j => show (i == j) = _; rw [key_ll]
    | inr y => show false = _; rw [key_lr]
  | inr x => cases b with
    | inl j => show false = _; rw [key_rl]
    | inr y => show (x == y) = _; rw [key_rr]; by_cases h : x = y <;> simp [h]
theorem dkey_some {k : D} {key : Key} (h : dkey k = some key) : k = kD key := by
  cases k with
  | int i => cases h; rfl
  | str s => cases h; rfl
  | _ => cases h
section
variable {K : KK} {φ : List Addr} {H : Hp}
theorem RepKv.of_cons {k d : D} {ds : List (D × D)} {vs : List (Key × V)} (h : RepKv K φ H ((k, d) :: ds) vs) : ∃ key v r, vs = (key, v) :: r ∧ k = kD key ∧ RepD K φ H d v ∧ RepKv K φ H ds r := by
  unfold RepKv at h; exact h
theorem RepKv.of_nil {vs : List (Key × V)} (h : RepKv K φ H [] vs) : vs = [] := by unfold RepKv at h; exact h
theorem RepKv.nil : RepKv K φ H [] [] := by unfold RepKv; rfl
theorem RepKv.cons {key : Key} {d : D} {v : V} {ds : List (D × D)} {vs : List (Key × V)} (h : RepD K φ H d v) (t : RepKv K φ H ds vs) : RepKv K φ H ((kD key, d) :: ds) ((key, v) :: vs) := by
  unfold RepKv; exact ⟨key, v, vs, rfl, rfl, h, t⟩
theorem RepKv.length : ∀ {ds : List (D × D)} {vs : List (Key × V)}, RepKv K φ H ds vs → ds.length = vs.length
  | [], _, h => by rw [h.of_nil]; rfl
  | (k, d) :: ds, vs, h => by
    obtain ⟨key, v, r, rfl, _, _, t⟩ := h.of_cons
    rw [List.length_cons, List.length_cons, RepKv.length t]
theorem RepKv.append : ∀ {ds es : List (D × D)} {vs ws : List (Key × V)}, RepKv K φ H ds vs → RepKv K φ H es ws → RepKv K φ H (ds ++ es) (vs ++ ws)
  | [], _, _, _, h, t => by rw [h.of_nil]; exact t
  | (k, d) :: ds, es, vs, ws, h, t => by
    obtain ⟨key, v, r, rfl, rfl, q, u⟩ := h.of_cons
    exact RepKv.cons q (RepKv.append u t)
theorem RepKv.get : ∀ {ds : List (D × D)} {vs : List (Key × V)} (key : Key), RepKv K φ H ds vs → match dicGet ds (kD key) with
    | some d => ∃ v, valV vs key = some v ∧ RepD K φ H d v
    | none => valV vs key = none
  | [], _, key, h => by rw [h.of_nil]; exact rfl
  | (k, d) :: ds, vs, key, h => by
    obtain ⟨key', v, r, rfl, rfl, q, u⟩ := h.of_cons
    have ih := RepKv.get key u
    unfold dicGet at ih ⊢
    rw [List.find?_cons, show keyEq (kD key', d).1 (kD key) = decide (key' = key) from keyEq_kD key' key]
    by_cases e : key' = key
    · rw [decide_eq_true e]
      exact ⟨v, valV_pos e, q⟩
    · rw [decide_eq_false e, valV_neg e]
      exact ih
theorem RepKv.any : ∀ {ds : List (D × D)} {vs : List (Key × V)} (key : Key), RepKv K φ H ds vs → (ds.any fun kv => keyEq kv.1 (kD key)) = vs.any fun kv => decide (kv.1 = key)
  | [], _, key, h => by rw [h.of_nil]; rfl
  | (k, d) :: ds, vs, key, h => by
    obtain ⟨key', v, r, rfl, rfl, q, u⟩ := h.of_cons
    rw [List.any_cons, List.any_cons, RepKv.any key u, show keyEq (kD key', d).1 (kD key) = decide (key' = key) from keyEq_kD key' key]
theorem RepKv.mapPut {d' : D} {v' : V} (hq : RepD K φ H d' v') : ∀ {ds : List (D × D)} {vs : List (Key × V)} (key : Key), RepKv K φ H ds vs → RepKv K φ H (ds.map fun kv => if keyEq kv.1 (kD key) = true then (kv.1, d') else kv) (vs.map fun kv => if kv.1 = key then (kv.1, v') else kv)
  | [], _, key, h => by rw [h.of_nil]; exact .nil
  | (k, d) :: ds, vs, key, h => by
    obtain ⟨key', v, r, rfl, rfl, q, u⟩ := h.of_cons
    rw [List.map_cons, List.map_cons]
    have ih := RepKv.mapPut hq key u
    have e1 : keyEq (kD key', d).1 (kD key) = decide (key' = key) := keyEq_kD key' key
    by_cases e : key' = key
    · rw [e1, decide_eq_true e, if_pos rfl, if_pos (show (key', v).1 = key from e)]
      exact RepKv.cons hq ih
    · rw [e1, decide_eq_false e, if_neg Bool.false_ne_true, if_neg (show ¬ (key', v).1 = key from e)]
      exact RepKv.cons q ih
theorem RepKv.put {ds : List (D × D)} {vs : List (Key × V)} {key : Key} {d : D} {v : V} (h : RepKv K φ H ds vs) (hq : RepD K φ H d v) : RepKv K φ H (dicPut ds (kD key) d) (putK vs key v) := by
  unfold dicPut putK
  rw [h.any key]
  split
  · exact h.mapPut hq key
  · exact h.append (.cons hq .nil)
end

/-! ### xs[i] = .., d[k] = .. of a slot of the def's own -/
def rSetQ : V → V → V → Hp → (Hp → Prop) → Prop := fun o i v H Q => rSetL o i v H Q ∨ ∃ a H', o = .ref a ∧ DPut H a i v H' ∧ Q H'
theorem set_q {X : Cx} (hu : X.A.units + 64 < cLine) : PSet X rSetQ := by
  intro pins s σ H o i v ov iv u Q I ro ri rv h
  rcases h with h | ⟨a, H', rfl, g, q⟩
  · exact set_list pins s σ H o i v ov iv u Q I ro ri rv h
  · obtain rfl : ov = Value.ref a := ro
    exact d_setItem (by omega) I g ri rv fun s' I' => ⟨H', I', q⟩
/-- what comes of d[k] = v, l[i] = v -/
def stored (c k d : D) : Option D := match c, k with
  | .lst xs, .int n => (ixN xs.length n).map fun j => .lst (xs.set j d)
  | .dic kvs, k => if (dkey k).isSome = true ∧ kvs.length < sizeLine then some (.dic (dicPut kvs k d)) else none
  | _, _ => none
def gSb (i : Nat) (m : MS → Res D) : D → MS → Res Unit := fun d st => match st.get i with
  | none => .stuck
  | some _ => (m st).bind fun k st1 => match st1.get i with
    | none => .stuck
    | some c => match stored c k d with
      | some c' => .ok () (st1.set i c')
      | none => .stuck
theorem stored_ok {C : Ctx} {φ : List Addr} {st : MS} {σ : SS} {H : Hp} {i : Nat} {c k d c' : D} {vk v : V} {a : Addr} {Q : Hp → Prop} (R : Rel C φ st σ H) (ho : C.own i = true) (hc : st.get i = some c) (ha : σ[i]? = some (some (.ref a))) (hk : RepD C.K φ H k vk) (hd : RepD C.K φ H d v) (hs : stored c k d = some c') (q : ∀ H', Rel C φ (st.set i c') σ H' → SStep φ H φ H' → (∀ b, b ≠ a → H' b = H b) → Q H') : rSetQ (.ref a) vk v H Q := by
  obtain ⟨a', ea, ow, _⟩ := R.own i c ho (MS.get_some hc)
  rw [ha] at ea
  cases ea
  have nst := ow.mut
  obtain ⟨u, hu, _, nst⟩ := nst
  have fz : ∀ o, Fz H (upd H a o) := fun o b x q s => by
    have nb : b ≠ a := fun z => by rw [z, hu] at q; cases q; rw [nst] at s; cases s
    rw [upd_ne nb]; exact q
  have ss : ∀ o, SStep φ H φ (upd H a o) := fun o => ⟨.refl φ, fun _ h => .inl h, fz o, fun b h => by
    by_cases hb : b = a
    · subst hb; rw [upd_same]; exact fun z => by cases z
    · rw [upd_ne hb]; exact h⟩
  cases c with
  | lst xs =>
    obtain ⟨vs, e, r⟩ := ow
    cases k with
    | int n =>
      unfold RepD at hk
      subst hk
      have hs : (ixN xs.length n).map (fun j => D.lst (xs.set j d)) = some c' := hs
      cases ej : ixN xs.length n with
      | none => rw [ej] at hs; cases hs
      | some j =>
        rw [ej] at hs
        cases hs
        refine .inl ⟨a, vs, n, j, rfl, rfl, e, by rw [← r.length]; exact ej, q _ (R.change (o := .lst (vs.set j v)) ho (MS.get_some hc) ha rfl (fun _ _ _ z => by cases z) ?_) (ss _) fun b hb => upd_ne hb⟩
        exact ⟨_, upd_same, (r.set j hd).mono (fz _) (.refl φ)⟩
    | _ => cases hs
  | dic kvs =>
    obtain ⟨kv, e, r⟩ := ow
    have hs : (if (dkey k).isSome = true ∧ kvs.length < sizeLine then some (D.dic (dicPut kvs k d)) else none) = some c' := hs
    split at hs
    · rename_i hc'
      cases hs
      obtain ⟨h1, h2⟩ := hc'
      cases ek : dkey k with
      | none => rw [ek] at h1; cases h1
      | some key =>
        have ekd := dkey_some ek
        subst ekd
        have ev : vk = kV key := by
          cases key with
          | inl n => have hk' : RepD C.K φ H (.int n) vk := hk; unfold RepD at hk'; exact hk'
          | inr n => have hk' : RepD C.K φ H (.str n) vk := hk; unfold RepD at hk'; exact hk'
        subst ev
        refine .inr ⟨a, _, rfl, DPut.k e (by rw [← r.length]; exact h2), q _ (R.change (o := .dK (putK kv key v)) ho (MS.get_some hc) ha rfl (fun _ _ _ z => by cases z) ?_) (ss _) fun b hb => upd_ne hb⟩
        exact ⟨_, upd_same, (r.put hd).mono (fz _) (.refl φ)⟩
    · cases hs
  | _ => exact ow.elim
section
variable {X : Cx} {C : Ctx} {pos : Pos} {i : Nat}
theorem mg_sub {o k : Expr} {m : MS → Res D} (hu : X.A.units + 64 < cLine) (h : PE X o (tVar i)) (ho : C.own i = true) (hm : ME X C false k m) (ha : ∀ v, assign (.Subscript o k pos) X.env v = (do
      let ov ← holding [v] (eval o X.env)
      let iv ← holding [v, ov] (eval k X.env)
      standAt pos
      holding [v, ov, iv] (setItem ov iv v)
      release [v, ov, iv] []) := by intro _; rfl) : MG X C (.Subscript o k pos) (gSb i m) :=
  PG.weak (pg_sub h hm (set_q hu) ha) fun v σ H Q ⟨st, φ, d, R, r, q⟩ => by
    unfold gSb at q
    cases e0 : st.get i with
    | none => rw [e0] at q; exact q.elim
    | some c0 =>
      rw [e0] at q
      obtain ⟨a, ea, _⟩ := R.own i c0 ho (MS.get_some e0)
      refine ⟨.ref a, ea, st, φ, R, Post.mono (GPost.bindE q) fun kd st1 φ1 H1 R1 S1 p vk hk => ?_⟩
      cases e1 : st1.get i with
      | none => rw [e1] at p; exact p.elim
      | some c =>
        rw [e1] at p
        cases e2 : stored c kd d with
        | none => simp only [e2] at p; exact p.elim
        | some c' =>
          simp only [e2] at p
          exact stored_ok R1 ho e1 ea hk.rep (r.mono S1.fz S1.pre) e2 fun H' R' S' _ => p φ1 σ H' R' S'
end

/-! ### target = value -/
def sAsg (m : MS → Res D) (g : D → MS → Res Unit) : MS → SR := fun st => (m st).stm fun d st' => (g d st').stm fun _ st'' => .nx st''
theorem GPost.of_s {C : Ctx} {φ : List Addr} {H : Hp} {r : Res Unit} {D : Ends} (h : SPost C φ H (r.stm fun _ st'' => .nx st'') D) : GPost C φ H r D.nx := by
  cases r with
  | ok a st => exact h
  | err x st => exact h
  | stuck => exact h
section
variable {X : Cx} {C : Ctx} {pos : Pos}
theorem ms_asg {tg e : Expr} {m : MS → Res D} {g : D → MS → Res Unit} (he : ME X C false e m) (hg : MG X C tg g) (hs : swapsWithSole [tg] e pos.line X.env = pure false := by rfl) (hw : swappedStores [tg] e X.env = pure none := by rfl)
    (h1 : (assignEach [tg] X.env).map (·.2) = [assign tg X.env] := by rfl) : MS1 X C (.Assign [tg] e pos) (sAsg m g) := PS.weak (ps_asg he hg hs hw h1) fun D σ H ⟨st, φ, R, q⟩ =>
  ⟨st, φ, R, Post.mono (SPost.bind q) fun d st' φ' H' R' S p v hv => ⟨st', φ', d, R', hv.rep, GPost.of_s p⟩⟩
end

/-! ### what is walked -/
structure LIt (C : Ctx) (J : It) (φ : List Addr) (H : Hp) (ds : List D) : Prop where
  go : ∀ (i : Nat) d φ' H', ds[i]? = some d → SStep φ H φ' H' → J.go i H' ∧ ∀ x H'', J.yld i H' x H'' → Same H' H'' ∧ RepD C.K φ' H'' d x
  stop : ∀ φ' H', SStep φ H φ' H' → J.stop ds.length H'
def tI (C : Ctx) (mi : MS → Res (List D)) : TI := fun σ H R => ∃ st φ, Rel C φ st σ H ∧ Post C σ φ H (mi st) fun ds st' φ' H' => ∀ J, LIt C J φ' H' ds → R J H'
def MI (X : Cx) (C : Ctx) (tg iter : Expr) (mi : MS → Res (List D)) : Prop := PI X tg iter (tI C mi)
theorem PI.weak {X : Cx} {tg e : Expr} {t t' : TI} (h : PI X tg e t) (w : ∀ σ H R, t' σ H R → t σ H R) : PI X tg e t' := ⟨fun pins s σ H R I q => h.run pins s σ H R I (w σ H R q)⟩
theorem PI.or {X : Cx} {tg e : Expr} {t t' : TI} (h : PI X tg e t) (h' : PI X tg e t') : PI X tg e fun σ H R => t σ H R ∨ t' σ H R := ⟨fun pins s σ H R I q => q.elim (h.run pins s σ H R I) (h'.run pins s σ H R I)⟩
/-- a list or a tuple -/
def iSeq (m : MS → Res D) : MS → Res (List D) := fun st => (m st).bind fun d st' => match d with
  | .lst xs => .ok xs st'
  | .raw xs => .ok xs st'
  | .tup xs => .ok xs st'
  | _ => .stuck
theorem lit_list {C : Ctx} {φ : List Addr} {H : Hp} {a : Addr} {xs : List D} {vs : List V} (h : FrzL C.K H a vs) (r : RepAll C.K φ H xs vs) : LIt C (Itl C.K a) φ H xs := by
  refine ⟨fun i d φ' H' e S => ?_, fun φ' H' S => ⟨vs, (h.mono S.fz).sql, by rw [r.length]; exact Nat.le_refl _⟩⟩
  obtain ⟨v, hv, rv⟩ := r.get e
  have sq := (h.mono S.fz).sql
  refine ⟨⟨vs, v, sq, hv⟩, fun x H'' ⟨eH, hx⟩ => ?_⟩
  subst eH
  have := hx vs sq
  rw [hv] at this
  cases this
  exact ⟨Same.refl _, rv.mono S.fz S.pre⟩
theorem lit_tup {C : Ctx} {φ : List Addr} {H : Hp} {a : Addr} {xs : List D} {vs : List V} (h : SqT C.K H a vs) (r : RepAll C.K φ H xs vs) : LIt C (Itt C.K a) φ H xs := by
  refine ⟨fun i d φ' H' e S => ?_, fun φ' H' S => ⟨vs, SqT.mono S.fz h, by rw [r.length]; exact Nat.le_refl _⟩⟩
  obtain ⟨v, hv, rv⟩ := r.get e
  have sq := SqT.mono S.fz h
  refine ⟨⟨vs, v, sq, hv⟩, fun x H'' ⟨eH, hx⟩ => ?_⟩
  subst eH
  have := hx vs sq
  rw [hv] at this
  cases this
  exact ⟨Same.refl _, rv.mono S.fz S.pre⟩
section
variable {X : Cx} {C : Ctx} {tg e : Expr} {m : MS → Res D}
theorem mi_seq (hk : X.K = C.K) (h : ME X C false e m) : MI X C tg e (iSeq m) := PI.weak (PI.or (pi_list h) (pi_tup h)) fun σ H R ⟨st, φ, rel, q⟩ => by
  unfold iSeq at q
  have split : ∀ {r : Res D}, Post C σ φ H (r.bind fun d st' => match d with | .lst xs => .ok xs st' | .raw xs => .ok xs st' | .tup xs => .ok xs st' | _ => .stuck) (fun ds st' φ' H' => ∀ J, LIt C J φ' H' ds → R J H') →
      Post C σ φ H r (fun d _ φ' H' => ∀ v, ValR C false φ' H H' d v → ∃ a, v = .ref a ∧ (∃ xs, SqL X.K H' a xs) ∧ R (Itl X.K a) H') ∨ Post C σ φ H r (fun d _ φ' H' => ∀ v, ValR C false φ' H H' d v → ∃ a, v = .ref a ∧ (∃ xs, SqT X.K H' a xs) ∧ R (Itt X.K a) H') := by
    intro r q
    cases r with
    | err x st' => exact .inl q
    | stuck => exact q.elim
    | ok d st' =>
      cases d with
      | lst xs =>
        refine .inl fun φ' H' R' S v hv => ?_
        have hv := hv.rep
        unfold RepD at hv
        obtain ⟨a, o, vs, rfl, hq, ra⟩ := hv
        rw [hk]
        exact ⟨a, rfl, ⟨vs, .inl (.inr ⟨o, hq⟩)⟩, q φ' H' R' S _ (lit_list (.inl ⟨o, hq⟩) ra)⟩
      | raw xs =>
        refine .inl fun φ' H' R' S v hv => ?_
        have hv := hv.rep
        unfold RepD at hv
        obtain ⟨a, vs, rfl, hq, ra⟩ := hv
        rw [hk]
        exact ⟨a, rfl, ⟨vs, hq.sql⟩, q φ' H' R' S _ (lit_list hq ra)⟩
      | tup xs =>
        refine .inr fun φ' H' R' S v hv => ?_
        have hv := hv.rep
        unfold RepD at hv
        obtain ⟨a, vs, rfl, hq, ra⟩ := hv
        rw [hk]
        exact ⟨a, rfl, ⟨vs, hq⟩, q φ' H' R' S _ (lit_tup hq ra)⟩
      | _ => exact q.elim
  rcases split q with h1 | h1
  · exact .inl ⟨st, φ, rel, h1⟩
  · exact .inr ⟨st, φ, rel, h1⟩
end
/-- lo, lo + 1, .. (n of them) -/
def upTo (lo : Int) : Nat → List D
  | 0 => []
  | n + 1 => .int lo :: upTo (lo + 1) n
theorem upTo_length : ∀ (n : Nat) (lo : Int), (upTo lo n).length = n
  | 0, _ => rfl
  | n + 1, lo => by show (upTo (lo + 1) n).length + 1 = n + 1; rw [upTo_length n (lo + 1)]
theorem upTo_get : ∀ (n : Nat) (lo : Int) (i : Nat) (d : D), (upTo lo n)[i]? = some d → i < n ∧ d = .int (lo + i)
  | 0, _, _, _, h => by simp [upTo] at h
  | n + 1, lo, 0, d, h => by
    simp [upTo] at h
    exact ⟨Nat.succ_pos n, by rw [← h]; simp⟩
  | n + 1, lo, i + 1, d, h => by
    have h' : (upTo (lo + 1) n)[i]? = some d := by simpa [upTo] using h
    obtain ⟨h1, h2⟩ := upTo_get n (lo + 1) i d h'
    refine ⟨Nat.succ_lt_succ h1, ?_⟩
    rw [h2, Int.add_assoc, Int.add_comm 1]
    rfl
theorem lit_range {C : Ctx} {φ : List Addr} {H : Hp} {lo : Int} {n : Nat} : LIt C (Itr lo n) φ H (upTo lo n) := by
  refine ⟨fun i d φ' H' e S => ?_, fun φ' H' S => ?_⟩
  · obtain ⟨h1, h2⟩ := upTo_get n lo i d e
    refine ⟨h1, fun x H'' ⟨eH, hx⟩ => ?_⟩
    subst eH hx h2
    exact ⟨Same.refl _, by unfold RepD; rfl⟩
  · show n ≤ (upTo lo n).length
    rw [upTo_length]
    exact Nat.le_refl n
def iRange1 (o : Opd) : MS → Res (List D) := fun st => (opN [o] st).bind fun ds st' => match ds with
  | [.int j] => if -(2 ^ 62) ≤ j ∧ j < 2 ^ 62 then .ok (upTo 0 j.toNat) st' else .stuck
  | _ => .stuck
def iRange2 (a b : Opd) : MS → Res (List D) := fun st => (opN [a, b] st).bind fun ds st' => match ds with
  | [.int i, .int j] => if -(2 ^ 62) ≤ i ∧ i < 2 ^ 62 ∧ -(2 ^ 62) ≤ j ∧ j < 2 ^ 62 then .ok (upTo i (j - i).toNat) st' else .stuck
  | _ => .stuck
/-- from an argument list to what is walked -/
theorem run_args {X : Cx} {C : Ctx} {es : List Expr} {os : List Opd} (hm : Paired (MO X C) es os) {f : List D → MS → Res (List D)} {σ : SS} {H : Hp} {R : It → Hp → Prop} {r : List V → Hp → Prop}
    (h : tI C (fun st => (opN os st).bind f) σ H R) (g : ∀ ds st' φ' H' vs, Rel C φ' st' σ H' → RepRs C.K φ' H' ds vs → Post C σ φ' H' (f ds st') (fun ds st' φ' H' => ∀ J, LIt C J φ' H' ds → R J H') → r vs H') : tOpN C os σ H r := by
  obtain ⟨st, φ, rel, q⟩ := h
  have b := Post.bind q
  refine runN hm rel (Post.mono (P := fun ds st' φ' H' => Rel C φ' st' σ H' ∧ Post C σ φ' H' (f ds st') (fun ds st' φ' H' => ∀ J, LIt C J φ' H' ds → R J H')) (Post.mono b fun ds st' φ' H' R' S p => ⟨R', p⟩) fun ds st' φ' H' R' S p vs hvs => g ds st' φ' H' vs R' hvs p.2)
section
variable {X : Cx} {C : Ctx} {tg a b c : Expr} {oa ob oc : Opd} {p pos : Pos}
theorem mi_range1 (hg : Gl X "range") (hm : X.mg "range" = none) (ha : MA X C [a] [oa]) (hs : starEach [a] X.env = [(false, eval a X.env)] := by rfl) : MI X C tg (.Call (.Name "range" p) [a] [] pos) (iRange1 oa) :=
  PI.weak (pi_range1 hg hm ha.pa hs) fun σ H R h => run_args ha.all h fun ds st' φ' H' vs R' hr q => by
    match ds, hr, q with
    | [.int j], hr, q =>
      obtain ⟨v, rfl, h1⟩ := hr.one
      rw [h1.int]
      have q : Post C σ φ' H' (if -(2 ^ 62) ≤ j ∧ j < 2 ^ 62 then Res.ok (upTo 0 j.toNat) st' else Res.stuck) (fun ds st' φ' H' => ∀ J, LIt C J φ' H' ds → R J H') := q
      split at q
      · rename_i hc
        exact ⟨j, rfl, hc.1, hc.2, q φ' H' R' .refl _ lit_range⟩
      · exact q.elim
theorem mi_range2 (hg : Gl X "range") (hm : X.mg "range" = none) (ha : MA X C [a, b] [oa, ob]) (hs : starEach [a, b] X.env = [(false, eval a X.env), (false, eval b X.env)] := by rfl) (hs2 : starEach [b] X.env = [(false, eval b X.env)] := by rfl) : MI X C tg (.Call (.Name "range" p) [a, b] [] pos) (iRange2 oa ob) :=
  PI.weak (pi_range2 hg hm ha.pa hs hs2) fun σ H R h => run_args ha.all h fun ds st' φ' H' vs R' hr q => by
    match ds, hr, q with
    | [.int i, .int j], hr, q =>
      obtain ⟨v, w, rfl, h1, h2⟩ := hr.two
      rw [h1.int, h2.int]
      have q : Post C σ φ' H' (if -(2 ^ 62) ≤ i ∧ i < 2 ^ 62 ∧ -(2 ^ 62) ≤ j ∧ j < 2 ^ 62 then Res.ok (upTo i (j - i).toNat) st' else Res.stuck) (fun ds st' φ' H' => ∀ J, LIt C J φ' H' ds → R J H') := q
      split at q
      · rename_i hc
        exact ⟨i, j, rfl, hc, q φ' H' R' .refl _ lit_range⟩
      · exact q.elim
end

/-! ### for, while -/
def forL (g : D → MS → Res Unit) (body : MS → SR) : List D → MS → SR
  | [], st => .nx st
  | d :: ds, st => (g d st).stm fun _ st1 => match body st1 with
    | .nx st2 => forL g body ds st2
    | .ct st2 => forL g body ds st2
    | .bk st2 => .nx st2
    | r => r
def sFor (mi : MS → Res (List D)) (g : D → MS → Res Unit) (body : MS → SR) : MS → SR := fun st => (mi st).stm fun ds st1 => forL g body ds st1
def whileF (t : MS → Res Bool) (body : MS → SR) : Nat → MS → SR
  | 0, _ => .stuck
  | n + 1, st => (t st).stm fun b st1 => if b = true then (match body st1 with
    | .nx st2 => whileF t body n st2
    | .ct st2 => whileF t body n st2
    | .bk st2 => .nx st2
    | r => r) else .nx st1
section
variable {X : Cx} {C : Ctx} {pos : Pos}
theorem ms_for {tg iter : Expr} {body : List Stmt} {mi : MS → Res (List D)} {g : D → MS → Res Unit} {m : MS → SR} (hp : PassesOwn (model X.prog X.w) X.A X.env X.xe) (hc : X.calm = true) (hi : MI X C tg iter mi) (hg : MG X C tg g) (hb : MSs X C body m)
    (hs : ∀ x, foldedSetIterable iter X.env x = pure x := by intro _; rfl) : MS1 X C (.For tg iter body [] pos) (sFor mi g m) := PS.weak (ps_for hp hc hi hg hb hs) fun D σ H ⟨st, φ, R, q⟩ => by
  refine ⟨st, φ, R, Post.mono (SPost.bind q) fun ds st1 φ1 H1 R1 S1 p J L => ?_⟩
  refine ⟨fun i n σ H => i + n = ds.length ∧ ∃ st φ', Rel C φ' st σ H ∧ SStep φ1 H1 φ' H ∧ SPost C φ' H (forL g m (ds.drop i) st) D, ⟨ds.length, by omega, st1, φ1, R1, .refl, p⟩, fun i n σ2 H2 w => ?_⟩
  obtain ⟨en, st2, φ2, R2, S2, p2⟩ := w
  by_cases hi : i < ds.length
  · have e : ds[i]? = some ds[i] := List.getElem?_eq_getElem hi
    obtain ⟨go, yl⟩ := L.go i _ φ2 H2 e S2
    rw [List.drop_eq_getElem_cons hi] at p2
    refine .inr ⟨go, fun σ' H' => ∃ st φ', Rel C φ' st σ' H' ∧ SStep φ1 H1 φ' H' ∧ SPost C φ' H' (forL g m (ds.drop (i + 1)) st) D, fun σ' H' ⟨st', φ', a, b, c⟩ => ⟨n - 1, by omega, by omega, st', φ', a, b, c⟩, fun x H3 hy => ?_⟩
    obtain ⟨sm, rx⟩ := yl x H3 hy
    have R3 := R2.same sm
    have S3 : SStep φ2 H2 φ2 H3 := .same sm
    refine ⟨st2, φ2, _, R3, rx, ?_⟩
    have p3 : SPost C φ2 H3 ((g ds[i] st2).stm fun _ st1 => match m st1 with
      | .nx st2 => forL g m (ds.drop (i + 1)) st2
      | .ct st2 => forL g m (ds.drop (i + 1)) st2
      | .bk st2 => .nx st2
      | r => r) D := p2.step S3
    cases eg : g ds[i] st2 with
    | stuck => rw [eg] at p3; exact p3.elim
    | err x st' => rw [eg] at p3; exact p3
    | ok u st4 =>
      rw [eg] at p3
      intro φ4 σ4 H4 R4 S4
      refine ⟨st4, φ4, R4, ?_⟩
      have p4 := p3.step S4
      have p4 : SPost C φ4 H4 (match m st4 with
        | .nx st2 => forL g m (ds.drop (i + 1)) st2
        | .ct st2 => forL g m (ds.drop (i + 1)) st2
        | .bk st2 => .nx st2
        | r => r) D := p4
      have S14 : SStep φ1 H1 φ4 H4 := (S2.trans S3).trans S4
      cases em : m st4 with
      | nx st5 => rw [em] at p4; exact fun φ5 σ5 H5 R5 S5 => ⟨st5, φ5, R5, S14.trans S5, p4.step S5⟩
      | ct st5 => rw [em] at p4; exact fun φ5 σ5 H5 R5 S5 => ⟨st5, φ5, R5, S14.trans S5, p4.step S5⟩
      | bk st5 => rw [em] at p4; exact fun φ5 σ5 H5 R5 S5 => p4 φ5 σ5 H5 R5 S5
      | rt d st5 => rw [em] at p4; exact p4
      | err x st5 => rw [em] at p4; exact p4
      | stuck => rw [em] at p4; exact p4
  · have e : i = ds.length := by omega
    rw [List.drop_of_length_le (by omega)] at p2
    refine .inl ⟨by rw [e]; exact L.stop φ2 H2 S2, p2 φ2 σ2 H2 R2 .refl⟩
theorem ms_while {c : Expr} {body : List Stmt} {t : MS → Res Bool} {m : MS → SR} (n : Nat) (hp : PassesOwn (model X.prog X.w) X.A X.env X.xe) (hc : MT X C c t) (hb : MSs X C body m) : MS1 X C (.While c body [] pos) (whileF t m n) := PS.weak (ps_while hp hc hb) fun D σ H ⟨st, φ, R, q⟩ => by
  refine ⟨fun k σ H => ∃ st φ, Rel C φ st σ H ∧ SPost C φ H (whileF t m k st) D, ⟨n, st, φ, R, q⟩, fun k σ1 H1 w => ?_⟩
  obtain ⟨st1, φ1, R1, q1⟩ := w
  cases k with
  | zero => exact q1.elim
  | succ k =>
    unfold whileF at q1
    refine ⟨st1, φ1, R1, Post.mono (SPost.bind q1) fun b st2 φ2 H2 R2 S2 p2 => ?_⟩
    cases b with
    | false => exact p2 φ2 σ1 H2 R2 .refl
    | true =>
      rw [if_pos rfl]
      have p2 : SPost C φ2 H2 (match m st2 with
        | .nx st2 => whileF t m k st2
        | .ct st2 => whileF t m k st2
        | .bk st2 => .nx st2
        | r => r) D := p2
      refine ⟨fun σ' H' => ∃ st φ, Rel C φ st σ' H' ∧ SPost C φ H' (whileF t m k st) D, fun σ' H' h => ⟨k, Nat.lt_succ_self k, h⟩, st2, φ2, R2, ?_⟩
      cases em : m st2 with
      | nx st5 => rw [em] at p2; exact fun φ5 σ5 H5 R5 S5 => ⟨st5, φ5, R5, p2.step S5⟩
      | ct st5 => rw [em] at p2; exact fun φ5 σ5 H5 R5 S5 => ⟨st5, φ5, R5, p2.step S5⟩
      | bk st5 => rw [em] at p2; exact fun φ5 σ5 H5 R5 S5 => p2 φ5 σ5 H5 R5 S5
      | rt d st5 => rw [em] at p2; exact p2
      | err x st5 => rw [em] at p2; exact p2
      | stuck => rw [em] at p2; exact p2
end
end Q
set_option Elab.async false
set_option linter.all false
set_option maxRecDepth 100000
set_option autoImplicit false
/-! QI: list comprehensions -/
namespace Q
open PySem PySem.Spec PyProof.Rows L2 PySem.SeqAt

def wipeE (e : List (Option D)) : List Nat → List (Option D)
  | [] => e
  | v :: vs => (wipeE e vs).set v none
def backE (e e1 : List (Option D)) : List Nat → List (Option D)
  | [] => e
  | v :: vs => (backE e e1 vs).set v ((e1[v]?).getD none)
def MS.wipe (st : MS) (vs : List Nat) : MS := { st with env := wipeE st.env vs }
def MS.back (st st1 : MS) (vs : List Nat) : MS := { st with env := backE st.env st1.env vs }
theorem wipeE_length (e : List (Option D)) : ∀ vs, (wipeE e vs).length = e.length
  | [] => rfl
  | v :: vs => by unfold wipeE; rw [List.length_set, wipeE_length e vs]
theorem backE_length (e e1 : List (Option D)) : ∀ vs, (backE e e1 vs).length = e.length
  | [] => rfl
  | v :: vs => by unfold backE; rw [List.length_set, backE_length e e1 vs]
theorem wipeE_some {e : List (Option D)} {i : Nat} {d : D} : ∀ {vs : List Nat}, (wipeE e vs)[i]? = some (some d) → e[i]? = some (some d) ∧ i ∉ vs
  | [], h => ⟨h, by simp⟩
  | v :: vs, h => by
    unfold wipeE at h
    by_cases hi : v = i
    · subst hi
      by_cases hv : v < (wipeE e vs).length
      · rw [List.getElem?_set_self hv] at h; cases h
      · rw [List.getElem?_eq_none (by simpa using hv)] at h; cases h
    · rw [List.getElem?_set_ne hi] at h
      obtain ⟨h1, h2⟩ := wipeE_some h
      exact ⟨h1, fun hm => (List.mem_cons.mp hm).elim (fun z => hi z.symm) h2⟩
theorem wipeE_out {e : List (Option D)} {i : Nat} : ∀ {vs : List Nat}, i ∉ vs → (wipeE e vs)[i]? = e[i]?
  | [], _ => rfl
  | v :: vs, h => by
    have h1 : v ≠ i := fun z => h (by simp [z])
    unfold wipeE
    rw [List.getElem?_set_ne h1]
    exact wipeE_out fun z => h (List.mem_cons_of_mem _ z)
theorem backE_out {e e1 : List (Option D)} {i : Nat} : ∀ {vs : List Nat}, i ∉ vs → (backE e e1 vs)[i]? = e[i]?
  | [], _ => rfl
  | v :: vs, h => by
    have h1 : v ≠ i := fun z => h (by simp [z])
    unfold backE
    rw [List.getElem?_set_ne h1]
    exact backE_out fun z => h (List.mem_cons_of_mem _ z)
theorem backE_in {e e1 : List (Option D)} {i : Nat} {d : D} : ∀ {vs : List Nat}, i ∈ vs → (backE e e1 vs)[i]? = some (some d) → e1[i]? = some (some d)
  | [], h, _ => by simp at h
  | v :: vs, h, q => by
    unfold backE at q
    by_cases hi : v = i
    · subst hi
      by_cases hv : v < (backE e e1 vs).length
      · rw [List.getElem?_set_self hv] at q
        have q := Option.some.inj q
        cases z : e1[v]? with
        | none => rw [z] at q; cases q
        | some o => rw [z] at q; exact congrArg some q
      · rw [List.getElem?_eq_none (by simpa using hv)] at q; cases q
    · rw [List.getElem?_set_ne hi] at q
      exact backE_in ((List.mem_cons.mp h).elim (fun z => absurd z.symm hi) id) q

section
variable {C : Ctx} {φ φ1 φ2 : List Addr} {st st1 st2 : MS} {σ : SS} {H H1 H2 : Hp} {vs : List Nat}
theorem ow_wipe {a : Addr} (hv : ∀ v ∈ vs, C.own v = false) : Ow C (wipe σ vs) a ↔ Ow C σ a := by
  constructor
  · rintro ⟨i, o, e⟩
    exact ⟨i, o, (wipe_some e).1⟩
  · rintro ⟨i, o, e⟩
    refine ⟨i, o, ?_⟩
    rw [wipe_out fun z => by rw [hv i z] at o; cases o]
    exact e
theorem Rel.wiped (R : Rel C φ st σ H) (hv : ∀ v ∈ vs, C.own v = false) : Rel C φ (st.wipe vs) (wipe σ vs) H := by
  have no : ∀ {i : Nat}, C.own i = true → i ∉ vs := fun o z => by rw [hv _ z] at o; cases o
  refine ⟨?_, fun i d o e => ?_, fun i d o e => ?_, fun i j d d' a hne oi oj e1 e2 e3 => ?_, fun a h => R.alive a ((ow_wipe hv).mp h), R.keep, R.frz, fun p hp => ?_, R.sto⟩
  · show (wipeE st.env vs).length = _
    rw [wipeE_length, wipe_length]; exact R.len
  · obtain ⟨e', ni⟩ := wipeE_some (show (wipeE st.env vs)[i]? = _ from e)
    rw [wipe_out ni]
    exact R.val i d o e'
  · obtain ⟨e', ni⟩ := wipeE_some (show (wipeE st.env vs)[i]? = _ from e)
    rw [wipe_out ni]
    exact R.own i d o e'
  · obtain ⟨e1', n1⟩ := wipeE_some (show (wipeE st.env vs)[i]? = _ from e1)
    obtain ⟨e2', n2⟩ := wipeE_some (show (wipeE st.env vs)[j]? = _ from e2)
    rw [wipe_out n1] at e3
    rw [wipe_out n2]
    exact R.dist i j d d' a hne oi oj e1' e2' e3
  · refine ⟨(R.ios p hp).1, ?_⟩
    rw [wipe_out (no (R.ios p hp).1)]
    exact (R.ios p hp).2
theorem Rel.back (R1 : Rel C φ1 st1 σ H1) (R2 : Rel C φ2 (st2.wipe vs) (wipe σ vs) H2) (hv : ∀ v ∈ vs, C.own v = false) (f : Fz H1 H2) (p : Pre φ1 φ2) : Rel C φ2 (st2.back st1 vs) σ H2 := by
  have no : ∀ {i : Nat}, C.own i = true → i ∉ vs := fun o z => by rw [hv _ z] at o; cases o
  have out : ∀ {i : Nat} {d : D}, i ∉ vs → (st2.back st1 vs).env[i]? = some (some d) → (st2.wipe vs).env[i]? = some (some d) := fun {i d} ni e => by
    have e' : (backE st2.env st1.env vs)[i]? = some (some d) := e
    rw [backE_out ni] at e'
    show (wipeE st2.env vs)[i]? = _
    rw [wipeE_out ni]
    exact e'
  refine ⟨?_, fun i d o e => ?_, fun i d o e => ?_, fun i j d d' a hne oi oj e1 e2 e3 => ?_, fun a h => R2.alive a ((ow_wipe hv).mpr h), R2.keep, R2.frz, R1.ios, R2.sto⟩
  · show (backE st2.env st1.env vs).length = _
    rw [backE_length]
    have h := R2.len
    rw [wipe_length, show (st2.wipe vs).env.length = st2.env.length from wipeE_length _ _] at h
    exact h
  · by_cases hi : i ∈ vs
    · obtain ⟨v, q, r⟩ := R1.val i d o (backE_in hi e)
      exact ⟨v, q, r.mono f p⟩
    · obtain ⟨v, q, r⟩ := R2.val i d o (out hi e)
      rw [wipe_out hi] at q
      exact ⟨v, q, r⟩
  · obtain ⟨a, q, r⟩ := R2.own i d o (out (no o) e)
    rw [wipe_out (no o)] at q
    exact ⟨a, q, r⟩
  · have := R2.dist i j d d' a hne oi oj (out (no oi) e1) (out (no oj) e2) (by rw [wipe_out (no oi)]; exact e3)
    rw [wipe_out (no oj)] at this
    exact this
end

/-! ### targets of a comprehension: its own names alone -/
def tGc (C : Ctx) (vs : List Nat) (g : D → MS → Res Unit) : TG := fun v σ H Q => ∃ st φ d, Rel C φ st σ H ∧ RepD C.K φ H d v ∧ match g d st with
  | .ok _ st' => ∀ σ', Rel C φ st' σ' H → wipe σ' vs = wipe σ vs → Q σ' H
  | _ => False
def tGcs (C : Ctx) (vs : List Nat) (gs : List D → MS → Res Unit) : TGs := fun us σ H Q => ∃ st φ ds, Rel C φ st σ H ∧ RepAll C.K φ H ds us ∧ match gs ds st with
  | .ok _ st' => ∀ σ', Rel C φ st' σ' H → wipe σ' vs = wipe σ vs → Q σ' H
  | _ => False
def MGc (X : Cx) (C : Ctx) (vs : List Nat) (tg : Expr) (g : D → MS → Res Unit) : Prop := PG X tg (tGc C vs g)
def MGcs (X : Cx) (C : Ctx) (vs : List Nat) (tgs : List Expr) (gs : List D → MS → Res Unit) : Prop := PGs X tgs (tGcs C vs gs)
theorem wipe_comm (σ : SS) (i : Nat) (o : Option V) : ∀ vs : List Nat, i ∉ vs → wipe (σ.set i o) vs = (wipe σ vs).set i o
  | [], _ => rfl
  | v :: vs, h => by
    have h1 : v ≠ i := fun z => h (by simp [z])
    unfold wipe
    rw [wipe_comm σ i o vs fun z => h (List.mem_cons_of_mem _ z), List.set_comm _ _ (Ne.symm h1)]
theorem wipe_set (σ : SS) (i : Nat) (o : Option V) : ∀ vs : List Nat, i ∈ vs → wipe (σ.set i o) vs = wipe σ vs
  | [], h => by simp at h
  | v :: vs, h => by
    unfold wipe
    by_cases hm : i ∈ vs
    · rw [wipe_set σ i o vs hm]
    · have hv : v = i := ((List.mem_cons.mp h).elim (fun z => z.symm) fun z => absurd z hm)
      rw [wipe_comm σ i o vs hm, hv, List.set_set]
theorem wipe_at (σ : SS) (i : Nat) : ∀ vs : List Nat, i ∈ vs → (wipe σ vs).set i none = wipe σ vs
  | [], h => by simp at h
  | v :: vs, h => by
    unfold wipe
    by_cases hv : v = i
    · rw [hv, List.set_set]
    · have hm : i ∈ vs := (List.mem_cons.mp h).elim (fun z => absurd z.symm hv) id
      rw [List.set_comm _ _ hv, wipe_at σ i vs hm]
theorem wipe_sub (σ : SS) (vs : List Nat) : ∀ us : List Nat, (∀ v ∈ us, v ∈ vs) → wipe (wipe σ vs) us = wipe σ vs
  | [], _ => rfl
  | v :: us, h => by
    rw [show wipe (wipe σ vs) (v :: us) = (wipe (wipe σ vs) us).set v none from rfl, wipe_sub σ vs us fun u hu => h u (List.mem_cons_of_mem _ hu)]
    exact wipe_at σ v vs (h v List.mem_cons_self)
theorem wipe_idem (σ : SS) (vs : List Nat) : wipe (wipe σ vs) vs = wipe σ vs := wipe_sub σ vs vs fun _ h => h
section
variable {X : Cx} {C : Ctx} {vs : List Nat} {pos : Pos} {i : Nat} {x : Str}
theorem mgc_name (hN : X.N.Nodup) (ho : C.own i = false) (hv : i ∈ vs) (hi : X.N[i]? = some x) (hx : Loc X.env.scope x) (hf : X.fn x = true ∨ X.env.scope.names.lookup x = some .local := by first | exact .inl rfl | exact .inr rfl | assumption) : MGc X C vs (.Name x pos) (gNm i) :=
  PG.weak (pg_name hN hi hx hf) fun v σ H Q ⟨st, φ, d, R, r, q⟩ => q _ (R.set ho r) (wipe_set σ i _ vs hv)
theorem mgcs_nil : MGcs X C vs [] gsNil := PGs.weak pgs_nil fun us σ H Q ⟨st, φ, ds, R, r, q⟩ => by
  cases ds with
  | nil => exact ⟨r.of_nil, q σ R rfl⟩
  | cons d ds => exact q.elim
theorem mgcs_cons {e : Expr} {es : List Expr} {g : D → MS → Res Unit} {gs : List D → MS → Res Unit} (h1 : MGc X C vs e g) (h2 : MGcs X C vs es gs) (hs : (assignEach (e :: es) X.env).map (·.2) = assign e X.env :: (assignEach es X.env).map (·.2) := by rfl) : MGcs X C vs (e :: es) (gsCons g gs) :=
  PGs.weak (pgs_cons h1 h2 hs) fun us σ H Q ⟨st, φ, ds, R, r, q⟩ => by
    cases ds with
    | nil => exact q.elim
    | cons d ds =>
      obtain ⟨v, vr, rfl, r1, r2⟩ := r.of_cons
      refine ⟨v, vr, rfl, st, φ, d, R, r1, ?_⟩
      have q : match ((g d st).bind fun _ st' => gs ds st') with | .ok _ st' => ∀ σ', Rel C φ st' σ' H → wipe σ' vs = wipe σ vs → Q σ' H | _ => False := q
      cases e : g d st with
      | ok u st1 =>
        rw [e] at q
        intro σ' R' w
        refine ⟨st1, φ, ds, R', r2, ?_⟩
        have q : match gs ds st1 with | .ok _ st' => ∀ σ', Rel C φ st' σ' H → wipe σ' vs = wipe σ vs → Q σ' H | _ => False := q
        cases e2 : gs ds st1 with
        | ok u2 st2 => rw [e2] at q; exact fun σ2 R2 w2 => q σ2 R2 (w2.trans w)
        | err x st2 => rw [e2] at q; exact q.elim
        | stuck => rw [e2] at q; exact q.elim
      | err x st1 => rw [e] at q; exact q.elim
      | stuck => rw [e] at q; exact q.elim
theorem mgc_tup {es : List Expr} {k n : Nat} {gs : List D → MS → Res Unit} (hk : X.K = C.K) (hc : X.calm = true) (h : MGcs X C vs es gs) (hn : (assignEach es X.env).length = n := by rfl) (hst : (assignEach es X.env).findIdx? (·.1) = none := by rfl) : MGc X C vs (.Tuple es k pos) (gTp n gs) :=
  PG.weak (pg_tup hc h hn hst) fun v σ H Q ⟨st, φ, d, R, r, q⟩ => by
    cases d with
    | tup ds =>
      unfold RepD at r
      obtain ⟨a, us, rfl, hq, ra⟩ := r
      have q : match (if ds.length = n then gs ds st else Res.stuck) with | .ok _ st' => ∀ σ', Rel C φ st' σ' H → wipe σ' vs = wipe σ vs → Q σ' H | _ => False := q
      by_cases hl : ds.length = n
      · rw [if_pos hl] at q
        exact ⟨a, us, rfl, by rw [hk]; exact hq, by rw [← ra.length]; exact hl, st, φ, ds, R, ra, q⟩
      · rw [if_neg hl] at q
        exact q.elim
    | _ => exact q.elim
end

/-! ### the loop -/
/-- no error leaves a comprehension here -/
def Ctx.ne (C : Ctx) : Ctx := { C with E := E0 }
theorem Rel.ne {C : Ctx} {φ : List Addr} {st : MS} {σ : SS} {H : Hp} (R : Rel C φ st σ H) : Rel C.ne φ st σ H := ⟨R.len, R.val, R.own, R.dist, R.alive, R.keep, R.frz, R.ios, ⟨R.sto.len, R.sto.at_, R.sto.nd⟩⟩
theorem Rel.of_ne {C : Ctx} {φ : List Addr} {st : MS} {σ : SS} {H : Hp} (R : Rel C.ne φ st σ H) : Rel C φ st σ H := ⟨R.len, R.val, R.own, R.dist, R.alive, R.keep, R.frz, R.ios, ⟨R.sto.len, R.sto.at_, R.sto.nd⟩⟩
theorem Step.of_ne {C : Ctx} {σ : SS} {φ φ' : List Addr} {H H' : Hp} (S : Step C.ne σ φ H φ' H') : Step C σ φ H φ' H' := ⟨S.pre, S.new, S.fz, S.keep, S.dom⟩
def Res.safe {α : Type} (r : Res α) : Res α := match r with
  | .err _ _ => .stuck
  | r => r
/-- behind a safe piece nothing is raised -/
theorem Post.ne {α : Type} {C : Ctx} {σ : SS} {φ : List Addr} {H : Hp} {r : Res α} {P : α → MS → List Addr → Hp → Prop} (h : Post C σ φ H r.safe P) : Post C.ne σ φ H r P := by
  cases r with
  | ok a st => exact fun φ' H' R S => h φ' H' R.of_ne S.of_ne
  | err x st => exact h.elim
  | stuck => exact h
def lcL (vs : List Nat) (g : D → MS → Res Unit) (tt : MS → Res Bool) (te : MS → Res D) : List D → MS → Res (List D)
  | [], st => .ok [] st
  | d :: ds, st => (g d (st.wipe vs)).safe.bind fun _ st1 => (tt st1).safe.bind fun b st2 =>
    if b = true then (te st2).safe.bind fun y st3 => (lcL vs g tt te ds st3).bind fun ys st4 => .ok (y :: ys) st4
    else lcL vs g tt te ds st2
def eLc (vs : List Nat) (mi : MS → Res (List D)) (g : D → MS → Res Unit) (tt : MS → Res Bool) (te : MS → Res D) : MS → Res D := fun st => (mi st).bind fun ds st1 =>
  if ds.length ≤ sizeLine then (lcL vs g tt te ds st1).bind fun ys st2 => Res.ok (D.lst ys) (st2.back st1 vs) else .stuck
def MTs (X : Cx) (C : Ctx) (ifs : List Expr) (m : MS → Res Bool) : Prop := PTs X ifs (tT C m)
theorem PTs.weak {X : Cx} {ifs : List Expr} {t t' : TT} (h : PTs X ifs t) (w : ∀ σ H Q, t' σ H Q → t σ H Q) : PTs X ifs t' := ⟨fun pins s σ H Q I q => h.run pins s σ H Q I (w σ H Q q)⟩
def tYesM : MS → Res Bool := fun st => .ok true st
theorem mts_nil {X : Cx} {C : Ctx} : MTs X C [] tYesM := PTs.weak pts_nil fun σ H Q ⟨st, φ, R, q⟩ => q φ H R .refl
theorem mts_one {X : Cx} {C : Ctx} {c : Expr} {m : MS → Res Bool} (h : MT X C c m) : MTs X C [c] m := pts_one h

/-- what stands between two turns -/
structure LcW (C : Ctx) (vs : List Nat) (σ : SS) (φ1 : List Addr) (H1 : Hp) (L : Addr) (st : MS) (φ : List Addr) (H : Hp) (acc : List D) (av : List V) : Prop where
  rel : Rel C φ (st.wipe vs) (wipe σ vs) H
  step : SStep φ1 H1 φ H
  keep : ∀ a x, H1 a = some x → ¬ Ow C σ a → a ∉ φ1 → H a = some x
  lst : H L = some (.lst av)
  rep : RepAll C.K φ H acc av
theorem same_upd_lst {H : Hp} {L : Addr} {av : List V} {vs : List V} (h : H L = some (.lst av)) : Fz H (upd H L (.lst vs)) := fun b x q s => by
  have nb : b ≠ L := fun z => by rw [z, h] at q; cases q; cases s
  rw [upd_ne nb]; exact q
/-- the heap changes at a list that no slot has -/
theorem Rel.aside {C : Ctx} {φ : List Addr} {st : MS} {σ : SS} {H : Hp} {L : Addr} {av vs : List V} (R : Rel C φ st σ H) (h : H L = some (.lst av)) (h0 : C.H0 L = none) (nw : ¬ Ow C σ L) : Rel C φ st σ (upd H L (.lst vs)) := by
  have f : Fz H (upd H L (.lst vs)) := same_upd_lst h
  refine ⟨R.len, fun i d o e => ?_, fun i d o e => ?_, R.dist, fun a ho => ?_, fun a x q n m => ?_, R.frz.trans f, R.ios, R.sto.mono f fun a ha => ?_⟩
  · obtain ⟨v, q, r⟩ := R.val i d o e
    exact ⟨v, q, r.mono f (.refl φ)⟩
  · obtain ⟨a, q, r, z⟩ := R.own i d o e
    have na : a ≠ L := fun z => nw ⟨i, o, by rw [q, z]⟩
    exact ⟨a, q, r.mono f (.refl φ) (upd_ne na), z⟩
  · by_cases hb : a = L
    · subst hb; rw [upd_same]; exact fun z => by cases z
    · rw [upd_ne hb]; exact R.alive a ho
  · have na : a ≠ L := fun z => by rw [z, h0] at q; cases q
    rw [upd_ne na]; exact R.keep a x q n m
  · have na : a ≠ L := fun z => by
      obtain ⟨A, dx, fs, e⟩ := R.sto.some ha
      rw [z, h] at e; cases e
    exact upd_ne na
theorem run_lc {C : Ctx} {vs : List Nat} {mi : MS → Res (List D)} {g : D → MS → Res Unit} {tt : MS → Res Bool} {te : MS → Res D} (hv : ∀ v ∈ vs, C.own v = false) {σ : SS} {H : Hp} {Q : VK} (h : tV C true (eLc vs mi g tt te) σ H Q) : tLc (tI C mi) (tGc C.ne vs g) (tT C.ne tt) (tV C.ne false te) vs σ H Q := by
  obtain ⟨st, φ, R, q⟩ := h
  refine ⟨st, φ, R, Post.mono (Post.bind (r := mi st) (f := fun (ds : List D) (st1 : MS) => if ds.length ≤ sizeLine then (lcL vs g tt te ds st1).bind fun ys st2 => Res.ok (D.lst ys) (st2.back st1 vs) else Res.stuck) q) fun ds st1 φ1 H1 R1 S1 p J LI L hL => ?_⟩
  by_cases hlen : ds.length ≤ sizeLine
  · rw [if_pos hlen] at p
    have hL0 : C.H0 L = none := R1.none0 hL
    have nwL : ¬ Ow C σ L := fun z => R1.alive L z hL
    have nwL' : ¬ Ow C (wipe σ vs) L := fun z => nwL ((ow_wipe hv).mp z)
    have fin : ∀ {acc : List D} {av : List V} {st2 : MS} {φ2 : List Addr} {H2 : Hp}, LcW C vs σ φ1 H1 L st2 φ2 H2 acc av → (∀ φ' H' v, Rel C φ' (st2.back st1 vs) σ H' → Step C σ φ1 H1 φ' H' → ValR C true φ' H H' (.lst acc) v → Q v H') → Q (.ref L) H2 := fun {acc av st2 φ2 H2} w p => by
      have S2 : Step C σ φ1 H1 φ2 H2 := ⟨w.step.pre, w.step.new, w.step.fz, w.keep, w.step.dom⟩
      refine p φ2 H2 _ (R1.back w.rel hv w.step.fz w.step.pre) S2 ?_
      unfold ValR
      rw [if_pos (show (true && isOwn (.lst _)) = true from rfl)]
      refine ⟨L, rfl, ⟨av, w.lst, w.rep⟩, ?_⟩
      cases z : H L with
      | none => rfl
      | some x => exact absurd hL (S1.dom L (by rw [z]; exact fun z => by cases z))
    refine ⟨fun i n H' => i + n = ds.length ∧ ∃ st2 φ2 acc av, LcW C vs σ φ1 H1 L st2 φ2 H' acc av ∧ acc.length ≤ i ∧ ((lcL vs g tt te (ds.drop i) st2).bind fun ys st' => Res.ok (acc ++ ys) st') = lcL vs g tt te ds st1, ⟨ds.length, by omega, st1, φ1, [], [], ⟨(R1.same (same_new hL)).wiped hv, .same (same_new hL), fun a x e _ _ => same_new hL a x e, upd_same, .nil⟩, Nat.le_refl 0, ?_⟩, fun i n H2 w => ?_⟩
    · show (lcL vs g tt te ds st1).bind _ = _
      cases lcL vs g tt te ds st1 <;> rfl
    · obtain ⟨en, st2, φ2, acc, av, w, hacc, eq⟩ := w
      by_cases hi : i < ds.length
      · have e : ds[i]? = some ds[i] := List.getElem?_eq_getElem hi
        obtain ⟨go, yl⟩ := LI.go i _ φ2 H2 e w.step
        rw [List.drop_eq_getElem_cons hi] at eq
        refine .inr ⟨go, fun H' => ∃ st2 φ2 acc av, LcW C vs σ φ1 H1 L st2 φ2 H' acc av ∧ acc.length ≤ i + 1 ∧ ((lcL vs g tt te (ds.drop (i + 1)) st2).bind fun ys st' => Res.ok (acc ++ ys) st') = lcL vs g tt te ds st1, fun H' ⟨a, b, c, d, e, f, g⟩ => ⟨n - 1, by omega, by omega, a, b, c, d, e, f, g⟩, fun x H3 hy => ?_⟩
        obtain ⟨sm, rx⟩ := yl x H3 hy
        have R3 : Rel C φ2 (st2.wipe vs) (wipe σ vs) H3 := w.rel.same sm
        -- the loop's result, one turn opened
        rw [← eq] at p
        have p : Post C σ φ1 H1 ((((g ds[i] (st2.wipe vs)).safe.bind fun _ st1 => (tt st1).safe.bind fun b st2 => if b = true then (te st2).safe.bind fun y st3 => (lcL vs g tt te (ds.drop (i + 1)) st3).bind fun ys st4 => .ok (y :: ys) st4 else lcL vs g tt te (ds.drop (i + 1)) st2).bind fun ys st' => Res.ok (acc ++ ys) st').bind fun ys st2 => Res.ok (D.lst ys) (st2.back st1 vs)) _ := p
        have eq : (((g ds[i] (st2.wipe vs)).safe.bind fun _ st1 => (tt st1).safe.bind fun b st2 => if b = true then (te st2).safe.bind fun y st3 => (lcL vs g tt te (ds.drop (i + 1)) st3).bind fun ys st4 => .ok (y :: ys) st4 else lcL vs g tt te (ds.drop (i + 1)) st2).bind fun ys st' => Res.ok (acc ++ ys) st') = lcL vs g tt te ds st1 := eq
        refine ⟨st2.wipe vs, φ2, ds[i], R3.ne, rx, ?_⟩
        cases eg : g ds[i] (st2.wipe vs) with
        | stuck => rw [eg] at p; exact p.elim
        | err x st' => rw [eg] at p; exact p.elim
        | ok u st4 =>
          rw [eg] at p eq
          intro σ4 R4 w4
          have w4' : wipe σ4 vs = wipe σ vs := w4.trans (wipe_idem σ vs)
          refine ⟨w4', ?_⟩
          have nw4 : ¬ Ow C σ4 L := fun z => nwL ((ow_wipe hv).mp (by rw [← w4']; exact (ow_wipe hv).mpr z))
          have ow4 : ∀ {a}, ¬ Ow C σ a → ¬ Ow C σ4 a := fun {a} n z => n ((ow_wipe hv).mp (by rw [← w4']; exact (ow_wipe hv).mpr z))
          -- the test
          cases et : tt st4 with
          | stuck => simp only [Res.safe, Res.bind, et] at p; exact p.elim
          | err x st' => simp only [Res.safe, Res.bind, et] at p; exact p.elim
          | ok b st5 =>
            refine ⟨st4, φ2, R4, ?_⟩
            rw [et]
            intro φ5 H5 R5 S5
            have S5 := S5.of_ne
            have R5 := R5.of_ne
            have lt2 : SStep φ1 H1 φ2 H3 := w.step.trans (.same sm)
            have nLφ : L ∉ φ2 := fun z => by
              obtain ⟨A, dx, fs, q⟩ := w.rel.sto.some z
              rw [w.lst] at q; cases q
            have l5 : H5 L = some (.lst av) := S5.keep L _ (sm L _ w.lst) nw4 nLφ
            have k5 : ∀ a x, H1 a = some x → ¬ Ow C σ a → a ∉ φ1 → H5 a = some x := fun a x q n m => by
              refine S5.keep a x (sm a x (w.keep a x q n m)) (ow4 n) fun z => ?_
              rcases w.step.new a z with z | z
              · exact m z
              · rw [q] at z; cases z
            have r5 : RepAll C.K φ5 H5 acc av := (w.rep.mono (.of_same sm) (.refl _)).mono S5.fz S5.pre
            have t5 : SStep φ1 H1 φ5 H5 := lt2.trans S5.s
            cases b with
            | false =>
              refine ⟨st5, φ5, acc, av, ⟨by rw [← w4']; exact R5.wiped hv, t5, k5, l5, r5⟩, by omega, ?_⟩
              simp only [Res.safe, Res.bind, et, Bool.false_eq_true, if_false] at eq
              exact eq
            | true =>
              cases ee : te st5 with
              | stuck => simp only [Res.safe, Res.bind, et, ee, if_true] at p; exact p.elim
              | err x st' => simp only [Res.safe, Res.bind, et, ee, if_true] at p; exact p.elim
              | ok y st6 =>
                refine ⟨st5, φ5, R5.ne, ?_⟩
                rw [ee]
                intro φ6 H6 R6 S6 v6 hv6
                have S6 := S6.of_ne
                have R6 := R6.of_ne
                have nLφ5 : L ∉ φ5 := fun z => by
                  obtain ⟨A, dx, fs, q⟩ := R5.sto.some z
                  rw [l5] at q; cases q
                have l6 : H6 L = some (.lst av) := S6.keep L _ l5 nw4 nLφ5
                have f6 : Fz H6 (upd H6 L (.lst (av ++ [v6]))) := same_upd_lst l6
                have ra := (r5.mono S6.fz S6.pre).append (.cons hv6.rep .nil)
                refine ⟨av, l6, by rw [← r5.length]; omega, st6, φ6, acc ++ [y], av ++ [v6], ⟨?_, ?_, fun a x q n m => ?_, upd_same, ra.mono f6 (.refl _)⟩, by rw [List.length_append]; simp; omega, ?_⟩
                · rw [← w4']
                  exact (R6.aside l6 hL0 nw4).wiped hv
                · refine (t5.trans S6.s).trans ⟨.refl _, fun _ h => .inl h, f6, fun a h => ?_⟩
                  by_cases ha : a = L
                  · subst ha; rw [upd_same]; exact fun z => by cases z
                  · rw [upd_ne ha]; exact h
                · have na : a ≠ L := fun z => by rw [z, hL] at q; cases q
                  rw [upd_ne na]
                  refine S6.keep a x (k5 a x q n m) (ow4 n) fun z => ?_
                  rcases t5.new a z with z | z
                  · exact m z
                  · rw [q] at z; cases z
                · simp only [Res.safe, Res.bind, et, ee, if_true] at eq
                  rw [← eq]
                  cases lcL vs g tt te (ds.drop (i + 1)) st6 with
                  | ok ys st7 => simp only [Res.bind, List.append_assoc, List.singleton_append]
                  | err x st7 => rfl
                  | stuck => rfl
      · rw [List.drop_of_length_le (by omega)] at eq
        have eq : Res.ok (acc ++ []) st2 = lcL vs g tt te ds st1 := eq
        rw [← eq, List.append_nil] at p
        refine .inl ⟨by rw [show i = ds.length by omega]; exact LI.stop φ2 H2 w.step, fin w fun φ' H' v R' S' hv' => p φ' H' R' S' v hv'⟩
  · rw [if_neg hlen] at p
    exact p.elim
section
variable {X : Cx} {C : Ctx} {elt tg iter : Expr} {ifs : List Expr} {scope : Scope} {own : List (Str × Nat)} {pos : Pos} {mi : MS → Res (List D)} {g : D → MS → Res Unit} {tt : MS → Res Bool} {te : MS → Res D}
theorem me_lcO (hc : X.calm = true) (hN : X.N.Nodup) (hv : ∀ v ∈ own.map (·.2), C.own v = false) (hi : MI X C tg iter mi) (ok : BlkOk X.N X.env.scope scope own)
    (hg : ∀ (s : Shared) (H : Hp) (A : Addr) (cl : List (Str × Addr)) (fp : List Addr), MGc (X.blk s H scope (compEnvC scope cl A X.env) fp) C.ne (own.map (·.2)) tg g) (ht : ∀ (s : Shared) (H : Hp) (A : Addr) (cl : List (Str × Addr)) (fp : List Addr), MTs (X.blk s H scope (compEnvC scope cl A X.env) fp) C.ne ifs tt)
    (he : ∀ (s : Shared) (H : Hp) (A : Addr) (cl : List (Str × Addr)) (fp : List Addr), ME (X.blk s H scope (compEnvC scope cl A X.env) fp) C.ne false elt te) (hs : ∀ x, foldedSetIterable iter X.env x = pure x := by intro _; rfl) :
    ME X C true (.ListComp elt [⟨tg, iter, ifs, 0⟩] scope pos) (eLc (own.map (·.2)) mi g tt te) := PE.weak (pe_lc hc hN hi ok hg ht he hs) fun σ H Q h => run_lc hv h
end
end Q
set_option Elab.async false
set_option linter.all false
set_option maxRecDepth 100000
set_option autoImplicit false
/-! QJ: defs and their calls -/
namespace Q
open PySem PySem.Spec PyProof.Rows L2 PySem.SeqAt

inductive FR where
  | ok (d : D) (ios : List D) (sto : List SO) | err (x : Exn) (ios : List D) (sto : List SO) | stuck
/-- a def as a function of its arguments' data (those that it may change hand back what they hold) -/
abbrev FM := List D → List SO → FR

def iosOf : List Bool → List (Option D) → Option (List D)
  | [], _ => some []
  | true :: ow, some d :: env => (iosOf ow env).map (d :: ·)
  | false :: ow, _ :: env => iosOf ow env
  | _, _ => none
def runF (n : Nat) (ow : List Bool) (body : MS → SR) : FM := fun ds sto => if ds.length = ow.length then match body ⟨ds.map some ++ List.replicate (n - ds.length) none, sto⟩ with
    | .rt d st => match iosOf ow st.env with
      | some ios => .ok d ios st.sto
      | none => .stuck
    | .nx st => match iosOf ow st.env with
      | some ios => .ok .non ios st.sto
      | none => .stuck
    | .err x st => match iosOf ow st.env with
      | some ios => .err x ios st.sto
      | none => .stuck
    | _ => .stuck
  else .stuck

/-- a def that lets no error out -/
def FM.safe (fm : FM) : FM := fun ds sto => match fm ds sto with
  | .err _ _ _ => .stuck
  | r => r

def ArgsR (K : KK) (φ : List Addr) (H : Hp) : List Bool → List D → List V → Prop
  | [], ds, vs => ds = [] ∧ vs = []
  | b :: ow, ds, vs => ∃ d dr v vr, ds = d :: dr ∧ vs = v :: vr ∧ (if b = true then ∃ a, v = .ref a ∧ OwnD K φ H a d else RepD K φ H d v) ∧ ArgsR K φ H ow dr vr
/-- the addresses of the arguments that may change -/
def ioAs : List Bool → List V → List Addr
  | true :: ow, .ref a :: vs => a :: ioAs ow vs
  | _ :: ow, _ :: vs => ioAs ow vs
  | _, _ => []
/-- .. with their slots -/
def ioL : Nat → List Bool → List V → List (Nat × Addr)
  | i, true :: ow, .ref a :: vs => (i, a) :: ioL (i + 1) ow vs
  | i, _ :: ow, _ :: vs => ioL (i + 1) ow vs
  | _, _, _ => []
structure FStep (A : List Addr) (φ : List Addr) (H : Hp) (φ' : List Addr) (H' : Hp) : Prop where
  s : SStep φ H φ' H'
  keep : ∀ a x, H a = some x → a ∉ A → a ∉ φ → H' a = some x
abbrev C0 (K : KK) (cls : Nat → Option Addr) : Ctx := { K := K, own := fun _ => false, H0 := fun _ => none, io := [], cls := cls, E := E0, ret := false }
theorem StoOk.to {C C' : Ctx} {φ : List Addr} {sto : List SO} {H : Hp} (h : StoOk C φ sto H) (k : C.K = C'.K) (c : C.cls = C'.cls) : StoOk C' φ sto H := by
  refine ⟨h.len, fun i so a e1 e2 => ?_, h.nd⟩
  obtain ⟨A, dx, fvs, q1, q2, q3⟩ := h.at_ i so a e1 e2
  exact ⟨A, dx, fvs, by rw [← c]; exact q1, q2, by rw [← k]; exact q3⟩
def IosR (K : KK) (φ : List Addr) (H : Hp) : List Addr → List D → Prop := Paired (OwnD K φ H)
def FRet (K : KK) (φ : List Addr) (H H' : Hp) (ret : Bool) (d : D) (v : V) : Prop :=
  if (ret && isOwn d) = true then ∃ a, v = .ref a ∧ OwnD K φ H' a d ∧ H a = none else RepD K φ H' d v
/-- a def's promise, by its function -/
def spF (K : KK) (cls : Nat → Option Addr) (ow : List Bool) (ret : Bool) (fm : FM) : Sp := fun vs H Q E => vs.length = ow.length ∧ ∃ φ ds sto, ArgsR K φ H ow ds vs ∧ (ioAs ow vs).Nodup ∧ StoOk (C0 K cls) φ sto H ∧
  match fm ds sto with
  | .ok d ios sto' => ∀ φ' H' v, FStep (ioAs ow vs) φ H φ' H' → StoOk (C0 K cls) φ' sto' H' → IosR K φ' H' (ioAs ow vs) ios → FRet K φ' H H' ret d v → Q v H'
  | .err x ios sto' => ∀ φ' H' c d, FStep (ioAs ow vs) φ H φ' H' → StoOk (C0 K cls) φ' sto' H' → IosR K φ' H' (ioAs ow vs) ios → XRep (C0 K cls) φ' H' x c d → E c d H'
  | .stuck => False

/-! ### a def's body -/
def ownF (ow : List Bool) (lo : List Nat) (i : Nat) : Bool := (ow[i]?).getD false || lo.contains i
abbrev mkC (K : KK) (cls : Nat → Option Addr) (ow : List Bool) (lo : List Nat) (ret : Bool) (H : Hp) (vs : List V) (E : XK) : Ctx :=
  { K := K, own := ownF ow lo, H0 := H, io := ioL 0 ow vs, cls := cls, E := E, ret := ret }
section
variable {K : KK} {cls : Nat → Option Addr} {φ φ' : List Addr} {H H' : Hp} {ow : List Bool} {lo : List Nat} {ret : Bool} {ds : List D} {vs : List V} {E : XK}
theorem ArgsR.len : ∀ {ow : List Bool} {ds : List D} {vs : List V}, ArgsR K φ H ow ds vs → ds.length = ow.length ∧ vs.length = ow.length
  | [], _, _, h => by obtain ⟨rfl, rfl⟩ := h; exact ⟨rfl, rfl⟩
  | b :: ow, _, _, h => by
    obtain ⟨d, dr, v, vr, rfl, rfl, _, t⟩ := h
    obtain ⟨h1, h2⟩ := ArgsR.len t
    exact ⟨by rw [List.length_cons, List.length_cons, h1], by rw [List.length_cons, List.length_cons, h2]⟩
theorem ArgsR.get : ∀ {ow : List Bool} {ds : List D} {vs : List V} {i : Nat} {d : D}, ArgsR K φ H ow ds vs → ds[i]? = some d → ∃ v, vs[i]? = some v ∧ (ow[i]? = some false → RepD K φ H d v) ∧ (ow[i]? = some true → ∃ a, v = .ref a ∧ OwnD K φ H a d)
  | [], _, _, _, _, h, e => by obtain ⟨rfl, rfl⟩ := h; simp at e
  | b :: ow, _, _, 0, _, h, e => by
    obtain ⟨d, dr, v, vr, rfl, rfl, q, t⟩ := h
    simp at e
    subst e
    refine ⟨v, rfl, fun hb => ?_, fun hb => ?_⟩
    · simp at hb; rw [hb, if_neg Bool.false_ne_true] at q; exact q
    · simp at hb; rw [hb, if_pos rfl] at q; exact q
  | b :: ow, _, _, i + 1, d', h, e => by
    obtain ⟨d, dr, v, vr, rfl, rfl, q, t⟩ := h
    obtain ⟨w, h1, h2, h3⟩ := ArgsR.get (i := i) (d := d') t (by simpa using e)
    exact ⟨w, by simpa using h1, fun hb => h2 (by simpa using hb), fun hb => h3 (by simpa using hb)⟩
theorem mem_ioL : ∀ {ow : List Bool} {vs : List V} {n : Nat} {p : Nat × Addr}, p ∈ ioL n ow vs → n ≤ p.1 ∧ ow[p.1 - n]? = some true ∧ vs[p.1 - n]? = some (.ref p.2)
  | [], vs, n, p, h => by unfold ioL at h; cases h
  | _ :: _, [], n, p, h => by simp [ioL] at h
  | b :: ow, v :: vs, n, p, h => by
    have tail : p ∈ ioL (n + 1) ow vs → n ≤ p.1 ∧ (b :: ow)[p.1 - n]? = some true ∧ (v :: vs)[p.1 - n]? = some (.ref p.2) := fun h => by
      obtain ⟨h1, h2, h3⟩ := mem_ioL h
      have e : p.1 - n = (p.1 - (n + 1)) + 1 := by omega
      rw [e]
      exact ⟨by omega, by simpa using h2, by simpa using h3⟩
    cases b with
    | false => exact tail (by unfold ioL at h; exact h)
    | true =>
      cases v with
      | ref a =>
        unfold ioL at h
        rcases List.mem_cons.mp h with rfl | h
        · simp
        · exact tail h
      | _ => exact tail (by unfold ioL at h; exact h)
theorem ioL_mem : ∀ {ow : List Bool} {vs : List V} {n i : Nat} {a : Addr}, ow[i]? = some true → vs[i]? = some (.ref a) → (n + i, a) ∈ ioL n ow vs
  | [], _, _, _, _, h, _ => by simp at h
  | _ :: _, [], _, _, _, _, h => by simp at h
  | b :: ow, v :: vs, n, 0, a, h1, h2 => by
    simp at h1 h2
    subst h1 h2
    unfold ioL
    exact List.mem_cons_self
  | b :: ow, v :: vs, n, i + 1, a, h1, h2 => by
    have ih := ioL_mem (n := n + 1) (i := i) (a := a) (by simpa using h1) (by simpa using h2)
    have e : n + 1 + i = n + (i + 1) := by omega
    rw [e] at ih
    unfold ioL
    cases b with
    | false => exact ih
    | true =>
      cases v with
      | ref b => exact List.mem_cons_of_mem _ ih
      | _ => exact ih
theorem ioL_as : ∀ {ow : List Bool} {vs : List V} {n : Nat}, (ioL n ow vs).map (·.2) = ioAs ow vs
  | [], _, _ => by unfold ioL ioAs; rfl
  | _ :: _, [], _ => by simp [ioL, ioAs]
  | b :: ow, v :: vs, n => by
    have ih := ioL_as (ow := ow) (vs := vs) (n := n + 1)
    cases b with
    | false => unfold ioL ioAs; exact ih
    | true =>
      cases v with
      | ref a => unfold ioL ioAs; rw [List.map_cons, ih]
      | _ => unfold ioL ioAs; exact ih
theorem ioA_iff {a : Addr} : ioA (mkC K cls ow lo ret H vs E) a ↔ a ∈ ioAs ow vs := by
  rw [← ioL_as (n := 0)]
  constructor
  · rintro ⟨p, hp, rfl⟩
    exact List.mem_map.mpr ⟨p, hp, rfl⟩
  · intro h
    obtain ⟨p, hp, rfl⟩ := List.mem_map.mp h
    exact ⟨p, hp, rfl⟩
/-- two places of the arguments that may change hold unlike things -/
theorem ioAs_inj : ∀ {ow : List Bool} {vs : List V} {i j : Nat} {a : Addr}, (ioAs ow vs).Nodup → ow[i]? = some true → ow[j]? = some true → vs[i]? = some (.ref a) → vs[j]? = some (.ref a) → i = j
  | [], _, _, _, _, _, h, _, _, _ => by simp at h
  | _ :: _, [], _, _, _, _, _, _, h, _ => by simp at h
  | b :: ow, v :: vs, i, j, a, nd, h1, h2, h3, h4 => by
    have hm : ∀ {k : Nat}, ow[k]? = some true → vs[k]? = some (.ref a) → a ∈ ioAs ow vs := fun {k} q1 q2 => by
      rw [← ioL_as (n := 0)]
      exact List.mem_map.mpr ⟨_, ioL_mem q1 q2, rfl⟩
    have ndt : (ioAs ow vs).Nodup := by
      cases b with
      | false => unfold ioAs at nd; exact nd
      | true =>
        cases v with
        | ref c => unfold ioAs at nd; exact (List.nodup_cons.mp nd).2
        | _ => unfold ioAs at nd; exact nd
    have hd : b = true → v = .ref a → a ∉ ioAs ow vs := fun e1 e2 => by
      subst e1 e2
      unfold ioAs at nd
      exact (List.nodup_cons.mp nd).1
    cases i with
    | zero =>
      cases j with
      | zero => rfl
      | succ j =>
        simp at h1 h2 h3 h4
        exact absurd (hm h2 h4) (hd h1 h3)
    | succ i =>
      cases j with
      | zero =>
        simp at h1 h2 h3 h4
        exact absurd (hm h1 h3) (hd h2 h4)
      | succ j =>
        simp at h1 h2 h3 h4
        rw [ioAs_inj ndt h1 h2 h3 h4]
theorem rel_start {n : Nat} {sto : List SO} (ha : ArgsR K φ H ow ds vs) (hn : (ioAs ow vs).Nodup) (hlo : ∀ i ∈ lo, ow.length ≤ i) (hs : StoOk (C0 K cls) φ sto H) : Rel (mkC K cls ow lo ret H vs E) φ ⟨ds.map some ++ List.replicate (n - ds.length) none, sto⟩ (vs.map some ++ List.replicate (n - vs.length) none) H := by
  obtain ⟨l1, l2⟩ := ha.len
  have envAt : ∀ {i : Nat} {d : D}, (ds.map some ++ List.replicate (n - ds.length) none)[i]? = some (some d) → ds[i]? = some d := fun {i d} e => by
    rcases Nat.lt_or_ge i ds.length with hi | hi
    · rw [List.getElem?_append_left (by simpa using hi), List.getElem?_map] at e
      cases q : ds[i]? with
      | none => rw [q] at e; cases e
      | some d' => rw [q] at e; cases e; rfl
    · rw [List.getElem?_append_right (by simpa using hi), List.getElem?_replicate] at e
      split at e <;> cases e
  have sigAt : ∀ {i : Nat} {v : V}, vs[i]? = some v → (vs.map some ++ List.replicate (n - vs.length) none)[i]? = some (some v) := fun {i v} e => by
    have hi : i < vs.length := (List.getElem?_eq_some_iff.mp e).1
    rw [List.getElem?_append_left (by simpa using hi), List.getElem?_map, e]
    rfl
  have sigOf : ∀ {i : Nat} {v : V}, (vs.map some ++ List.replicate (n - vs.length) none)[i]? = some (some v) → vs[i]? = some v := fun {i d} e => by
    rcases Nat.lt_or_ge i vs.length with hi | hi
    · rw [List.getElem?_append_left (by simpa using hi), List.getElem?_map] at e
      cases q : vs[i]? with
      | none => rw [q] at e; cases e
      | some d' => rw [q] at e; cases e; rfl
    · rw [List.getElem?_append_right (by simpa using hi), List.getElem?_replicate] at e
      split at e <;> cases e
  have owAt : ∀ {i : Nat}, i < ow.length → ownF ow lo i = true → ow[i]? = some true := fun {i} hi h => by
    unfold ownF at h
    rw [Bool.or_eq_true] at h
    rcases h with h | h
    · rw [List.getElem?_eq_getElem hi] at h ⊢
      exact congrArg some h
    · exact absurd (hlo i (by simpa using h)) (by omega)
  refine ⟨by simp [l1, l2], fun i d o e => ?_, fun i d o e => ?_, fun i j d d' a hne oi oj e1 e2 e3 e4 => ?_, fun a h => ?_, fun a x h _ _ => h, .refl H, fun p hp => ?_, hs.to rfl rfl⟩
  · have e' := envAt e
    have hi : i < ow.length := by rw [← l1]; exact (List.getElem?_eq_some_iff.mp e').1
    obtain ⟨v, q, r, _⟩ := ha.get e'
    refine ⟨v, sigAt q, r ?_⟩
    have o' : ownF ow lo i = false := o
    unfold ownF at o'
    rw [Bool.or_eq_false_iff] at o'
    rw [List.getElem?_eq_getElem hi] at o' ⊢
    exact congrArg some o'.1
  · have e' := envAt e
    have hi : i < ow.length := by rw [← l1]; exact (List.getElem?_eq_some_iff.mp e').1
    obtain ⟨v, q, _, r0⟩ := ha.get e'
    obtain ⟨a, rfl, r1⟩ := r0 (owAt hi o)
    refine ⟨a, sigAt q, r1, .inr ?_⟩
    have := ioL_mem (n := 0) (owAt hi o) q
    rw [Nat.zero_add] at this
    exact this
  · have e1' := envAt e1
    have e2' := envAt e2
    have hi : i < ow.length := by rw [← l1]; exact (List.getElem?_eq_some_iff.mp e1').1
    have hj : j < ow.length := by rw [← l1]; exact (List.getElem?_eq_some_iff.mp e2').1
    exact hne (ioAs_inj hn (owAt hi oi) (owAt hj oj) (sigOf e3) (sigOf e4))
  · obtain ⟨i, o, e⟩ := h
    have e' := sigOf e
    have hi : i < ow.length := by rw [← l2]; exact (List.getElem?_eq_some_iff.mp e').1
    obtain ⟨v, q, _, r⟩ := ha.get (i := i) (d := ds[i]) (List.getElem?_eq_getElem (by rw [l1]; exact hi))
    rw [e'] at q
    cases q
    obtain ⟨b, eb, r⟩ := r (owAt hi o)
    cases eb
    exact r.some
  · obtain ⟨_, h2, h3⟩ := mem_ioL hp
    rw [Nat.sub_zero] at h2 h3
    refine ⟨?_, sigAt h3⟩
    show ownF ow lo p.1 = true
    unfold ownF
    rw [h2]
    rfl
/-- what the in-out parameters hold at the end -/
theorem ios_end {st : MS} {σ : SS} {H1 : Hp} (R : Rel (mkC K cls ow lo ret H vs E) φ' st σ H1) : ∀ {n : Nat} {ow' : List Bool} {vs' : List V} {env : List (Option D)} {ios : List D}, (∀ p ∈ ioL n ow' vs', p ∈ ioL 0 ow vs) → vs'.length = ow'.length → (∀ (i : Nat), ow'[i]? = some true → ∃ a, vs'[i]? = some (.ref a)) → (∀ (i : Nat) (d : D), env[i]? = some (some d) → st.env[n + i]? = some (some d)) → iosOf ow' env = some ios → IosR K φ' H1 (ioAs ow' vs') ios
  | n, [], vs', env, ios, _, hl, _, _, e => by
    unfold iosOf at e
    cases e
    cases vs' with
    | nil => unfold ioAs; exact .nil
    | cons _ _ => simp at hl
  | n, b :: ow', [], env, ios, _, hl, _, _, _ => by simp at hl
  | n, false :: ow', v :: vs', env, ios, hp, hl, hr, he, e => by
    cases env with
    | nil => unfold iosOf at e; cases e
    | cons o env =>
      unfold iosOf at e
      unfold ioAs
      exact ios_end R (n := n + 1) (fun p h => hp p (by unfold ioL; exact h)) (by simpa using hl) (fun i h => by simpa using hr (i + 1) (by simpa using h)) (fun i d h => by
        have := he (i + 1) d (by simpa using h)
        rw [show n + 1 + i = n + (i + 1) by omega]
        exact this) e
  | n, true :: ow', v :: vs', env, ios, hp, hl, hr, he, e => by
    obtain ⟨a, ea⟩ := hr 0 rfl
    simp at ea
    subst ea
    cases env with
    | nil => unfold iosOf at e; cases e
    | cons o env =>
      cases o with
      | none => unfold iosOf at e; cases e
      | some d =>
        unfold iosOf at e
        cases q : iosOf ow' env with
        | none => rw [q] at e; cases e
        | some ios' =>
          rw [q] at e
          cases e
          unfold ioAs
          have hm : (n, a) ∈ ioL 0 ow vs := hp (n, a) (by unfold ioL; exact List.mem_cons_self)
          obtain ⟨ho, hs⟩ := R.ios (n, a) hm
          have hd : st.env[n]? = some (some d) := he 0 d rfl
          obtain ⟨a', ea', ow1, _⟩ := R.own n d ho hd
          have hs' : σ[n]? = some (some (.ref a)) := hs
          rw [hs'] at ea'
          cases ea'
          refine .cons ow1 (ios_end R (n := n + 1) (fun p h => hp p (by unfold ioL; exact List.mem_cons_of_mem _ h)) (by simpa using hl) (fun i h => by simpa using hr (i + 1) (by simpa using h)) (fun i d h => ?_) q)
          have := he (i + 1) d (by simpa using h)
          rw [show n + 1 + i = n + (i + 1) by omega]
          exact this
end
theorem fn_ok {P : Program} {w : World} {K : KK} {mg : Str → Option Value} {base : Heap} {x qual : Str} {st : Stmt} {f : Addr} {fd : FuncData} {N ps : List Str} {k : Nat} {cls : Nat → Option Addr} (ow : List Bool) (lo : List Nat) (ret : Bool) {m : MS → SR}
    (F : Fun K x qual st f fd) (S : FnScope N ps (defScope st)) (hl : ow.length = ps.length) (hlo : ∀ i ∈ lo, ow.length ≤ i)
    (hb : ∀ (cdv : Value) (A : Around) (outer : List Env) (s : Shared) (H : Hp) (vs : List V) (E : XK), Room k (A.deeper (envOfC qual (defScope st) s.heap.objs.size f cdv)) → (∀ i, ownF ow lo i = true → (ow[i]?).getD false = false → ∀ p ∈ ioL 0 ow vs, p.1 ≠ i) →
      MSs (cxOf CX0 P w K mg base N qual (defScope st) f cdv A outer s H E).nox (mkC K cls ow lo ret H vs E0) (defBody st) m) :
    FnOk P w K mg base CX0 (k + 1) f fd ps (spF K cls ow ret (runF N.length ow m).safe) := by
  refine F.ok S (fun vs H Q E h => h.1.trans hl) fun cdv A outer s H vs Q E hr h => ?_
  obtain ⟨hlen, φ, ds, sto, ha, hn, hs, h⟩ := h
  obtain ⟨l1, l2⟩ := ha.len
  have hio : ∀ i, ownF ow lo i = true → (ow[i]?).getD false = false → ∀ p ∈ ioL 0 ow vs, p.1 ≠ i := fun i _ h2 p hp e => by
    obtain ⟨_, h3, _⟩ := mem_ioL hp
    rw [Nat.sub_zero, e] at h3
    rw [h3] at h2
    cases h2
  refine ⟨_, hb cdv A outer s H vs E hr hio, ?_⟩
  have R0 : Rel (mkC K cls ow lo ret H vs E0) φ ⟨ds.map some ++ List.replicate (N.length - ds.length) none, sto⟩ (start N vs) H := rel_start ha hn hlo hs
  refine ⟨_, φ, R0, ?_⟩
  unfold FM.safe runF at h
  rw [if_pos l1] at h
  have ios : ∀ {st' : MS} {φ' : List Addr} {σ' : SS} {H' : Hp} {ios : List D}, Rel (mkC K cls ow lo ret H vs E0) φ' st' σ' H' → iosOf ow st'.env = some ios → IosR K φ' H' (ioAs ow vs) ios := fun {st' φ' σ' H' ios} R e => ios_end R (n := 0) (fun p h => h) l2 (fun i hi => by
    have hil : i < ow.length := (List.getElem?_eq_some_iff.mp hi).1
    obtain ⟨v, q, _, r⟩ := ha.get (i := i) (d := ds[i]'(by rw [l1]; exact hil)) (List.getElem?_eq_getElem (by rw [l1]; exact hil))
    obtain ⟨a, rfl, _⟩ := r hi
    exact ⟨a, q⟩) (fun i d h => by rw [Nat.zero_add]; exact h) e
  have fs : ∀ {st' : MS} {φ' : List Addr} {σ' : SS} {H' : Hp}, Rel (mkC K cls ow lo ret H vs E0) φ' st' σ' H' → SStep φ H φ' H' → FStep (ioAs ow vs) φ H φ' H' := fun {st' φ' σ' H'} R S => ⟨S, fun a x q n1 n2 => R.keep a x q (fun z => n1 (ioA_iff.mp z)) fun z => by
    rcases S.new a z with z | z
    · exact n2 z
    · rw [q] at z; cases z⟩
  have rt : ∀ {st' : MS} {φ' : List Addr} {H' : Hp} {d : D} {v : V}, RetV (mkC K cls ow lo ret H vs E0) φ' H' d v → FRet K φ' H H' ret d v := fun {st' φ' H' d v} h => h
  cases e : m ⟨ds.map some ++ List.replicate (N.length - ds.length) none, sto⟩ with
  | rt d st' =>
    rw [e] at h
    intro φ' σ' H' v R S hv
    cases q : iosOf ow st'.env with
    | none => simp only [q] at h
    | some io =>
      simp only [q] at h
      exact h φ' H' v (fs R S) (R.sto.to rfl rfl) (ios R q) hv
  | nx st' =>
    rw [e] at h
    intro φ' σ' H' R S
    cases q : iosOf ow st'.env with
    | none => simp only [q] at h
    | some io =>
      simp only [q] at h
      refine h φ' H' .non (fs R S) (R.sto.to rfl rfl) (ios R q) ?_
      unfold FRet
      rw [show (ret && isOwn .non) = false by cases ret <;> rfl, if_neg Bool.false_ne_true]
      unfold RepD
      rfl
  | err x st' =>
    rw [e] at h
    cases q : iosOf ow st'.env with
    | none => simp only [q] at h
    | some io => simp only [q] at h
  | bk st' => rw [e] at h; exact h.elim
  | ct st' => rw [e] at h; exact h.elim
  | stuck => rw [e] at h; exact h.elim
end Q
set_option Elab.async false
set_option linter.all false
set_option maxRecDepth 100000
set_option autoImplicit false
/-! QK: calls of defs -/
namespace Q
open PySem PySem.Spec PyProof.Rows L2 PySem.SeqAt

/-- an argument: a value; a slot of the def's own that the callee may change; a new thing that it may change -/
inductive CArg where
  | val (m : MS → Res D)
  | own (i : Nat)
  | tmp (m : MS → Res D)
def tC1 (C : Ctx) : CArg → TE
  | .val m => tV C false m
  | .own i => tVar i
  | .tmp m => tV C true m
def tCs (C : Ctx) : List CArg → TA
  | [] => tNil
  | a :: r => tCons (tC1 C a) (tCs C r)
def modes : List CArg → List Bool
  | [] => []
  | .val _ :: r => false :: modes r
  | .own _ :: r => true :: modes r
  | .tmp _ :: r => true :: modes r
def ownIx : List CArg → List Nat
  | [] => []
  | .own i :: r => i :: ownIx r
  | .val _ :: r => ownIx r
  | .tmp _ :: r => ownIx r
structure MC (X : Cx) (C : Ctx) (es : List Expr) (as : List CArg) : Prop where
  pa : PA X es (tCs C as)
  own : ∀ i ∈ ownIx as, C.own i = true
theorem mc_nil {X : Cx} {C : Ctx} : MC X C [] [] := ⟨pa_nil, fun _ h => by cases h⟩
section
variable {X : Cx} {C : Ctx} {e : Expr} {es : List Expr} {as : List CArg} {m : MS → Res D}
theorem mc_val (h : ME X C false e m) (t : MC X C es as) (hs : starEach (e :: es) X.env = (false, eval e X.env) :: starEach es X.env := by rfl) : MC X C (e :: es) (.val m :: as) := ⟨pa_cons h t.pa hs, t.own⟩
theorem mc_tmp (h : ME X C true e m) (t : MC X C es as) (hs : starEach (e :: es) X.env = (false, eval e X.env) :: starEach es X.env := by rfl) : MC X C (e :: es) (.tmp m :: as) := ⟨pa_cons h t.pa hs, t.own⟩
theorem mc_own (i : Nat) (h : PE X e (tVar i)) (ho : C.own i = true) (t : MC X C es as) (hs : starEach (e :: es) X.env = (false, eval e X.env) :: starEach es X.env := by rfl) : MC X C (e :: es) (.own i :: as) :=
  ⟨pa_cons h t.pa hs, fun j hj => (List.mem_cons.mp hj).elim (fun z => z ▸ ho) (t.own j)⟩
end
def opC : List CArg → MS → Res (List D)
  | [], st => .ok [] st
  | .val m :: r, st => (m st).bind fun x st1 => (opC r st1).bind fun xs st2 => .ok (x :: xs) st2
  | .tmp m :: r, st => (m st).bind fun x st1 => if isOwn x = true then (opC r st1).bind fun xs st2 => .ok (x :: xs) st2 else .stuck
  | .own i :: r, st => match st.get i with
    | none => .stuck
    | some _ => (opC r st).bind fun xs st1 => match st1.get i with
      | some x => .ok (x :: xs) st1
      | none => .stuck
/-- what the callee hands back is put into the slots -/
def setOuts : List CArg → List D → MS → MS
  | .own i :: r, d :: ios, st => setOuts r ios (st.set i d)
  | .tmp _ :: r, _ :: ios, st => setOuts r ios st
  | .val _ :: r, ios, st => setOuts r ios st
  | _, _, st => st
/-- the slots of the arguments hold what is told -/
def OutsOf (σ : SS) : List CArg → List V → Prop
  | [], _ => True
  | .own i :: r, v :: vs => σ[i]? = some (some v) ∧ OutsOf σ r vs
  | .val _ :: r, _ :: vs => OutsOf σ r vs
  | .tmp _ :: r, _ :: vs => OutsOf σ r vs
  | _ :: _, [] => False
/-- where the callee may change something -/
structure IoOk (C : Ctx) (σ : SS) (H : Hp) (st' : MS) (as : List CArg) (vs : List V) : Prop where
  nd : (ioAs (modes as) vs).Nodup
  fr : ∀ a ∈ ioAs (modes as) vs, H a = none ∨ ∃ i ∈ ownIx as, σ[i]? = some (some (.ref a))
  live : ∀ i ∈ ownIx as, ∃ d, st'.get i = some d
theorem runC {C : Ctx} : ∀ {as : List CArg} (hown : ∀ i ∈ ownIx as, C.own i = true) (hnd : (ownIx as).Nodup) {σ : SS} {H : Hp} {φ : List Addr} {st : MS} {R : List V → Hp → Prop}, Rel C φ st σ H →
    Post C σ φ H (opC as st) (fun ds st' φ' H' => ∀ vs, ArgsR C.K φ' H' (modes as) ds vs → IoOk C σ H st' as vs → OutsOf σ as vs → R vs H') → tCs C as σ H R
  | [], _, _, σ, H, φ, st, R, rel, h => h φ H rel .refl [] ⟨rfl, rfl⟩ ⟨(by unfold modes ioAs; exact List.nodup_nil), (fun a h => by simp [modes, ioAs] at h), (fun i h => by simp [ownIx] at h)⟩ trivial
  | .val m :: as, hown, hnd, σ, H, φ, st, R, rel, h => by
    refine ⟨st, φ, rel, Post.mono (Post.bind h) fun x st1 φ1 H1 R1 S1 h1 v hv => ?_⟩
    refine runC (as := as) hown hnd R1 (Post.mono (Post.bind h1) fun xs st2 φ2 H2 R2 S2 h2 vs ha io ou => ?_)
    refine h2 φ2 H2 R2 .refl (v :: vs) ⟨x, xs, v, vs, rfl, rfl, by rw [if_neg Bool.false_ne_true]; exact hv.rep.mono S2.fz S2.pre, ha⟩ ⟨by unfold modes ioAs; exact io.nd, fun a hm => ?_, io.live⟩ ou
    unfold modes ioAs at hm
    rcases io.fr a hm with z | z
    · refine .inl ?_
      cases q : H a with
      | none => rfl
      | some y => exact absurd z (S1.dom a (by rw [q]; exact fun z => by cases z))
    · exact .inr z
  | .tmp m :: as, hown, hnd, σ, H, φ, st, R, rel, h => by
    refine ⟨st, φ, rel, Post.mono (Post.bind h) fun x st1 φ1 H1 R1 S1 h1 v hv => ?_⟩
    by_cases hx : isOwn x = true
    · rw [if_pos hx] at h1
      obtain ⟨a, rfl, ow, hn⟩ := hv.free hx
      have nw : ¬ Ow C σ a := fun z => rel.alive a z hn
      have nφ : a ∉ φ1 := fun z => by
        obtain ⟨A, dx, fs, q⟩ := R1.sto.some z
        cases x with
        | lst xs => obtain ⟨vs, e, _⟩ := ow; rw [q] at e; cases e
        | dic kvs => obtain ⟨vs, e, _⟩ := ow; rw [q] at e; cases e
        | _ => exact ow
      obtain ⟨u, hu, _⟩ := ow.mut
      refine runC (as := as) hown hnd R1 (Post.mono (Post.bind h1) fun xs st2 φ2 H2 R2 S2 h2 vs ha io ou => ?_)
      have ka : H2 a = H1 a := by rw [hu]; exact S2.keep a u hu nw nφ
      refine h2 φ2 H2 R2 .refl (.ref a :: vs) ⟨x, xs, .ref a, vs, rfl, rfl, by rw [if_pos rfl]; exact ⟨a, rfl, ow.mono S2.fz S2.pre ka⟩, ha⟩ ⟨?_, fun b hm => ?_, io.live⟩ ou
      · unfold modes ioAs
        refine List.nodup_cons.mpr ⟨fun hm => ?_, io.nd⟩
        rcases io.fr a hm with z | ⟨i, hi, z⟩
        · rw [hu] at z; cases z
        · exact nw ⟨i, hown i hi, z⟩
      · unfold modes ioAs at hm
        rcases List.mem_cons.mp hm with rfl | hm
        · exact .inl hn
        · rcases io.fr b hm with z | z
          · refine .inl ?_
            cases q : H b with
            | none => rfl
            | some y => exact absurd z (S1.dom b (by rw [q]; exact fun z => by cases z))
          · exact .inr z
    · rw [if_neg hx] at h1
      exact h1.elim
  | .own i :: as, hown, hnd, σ, H, φ, st, R, rel, h => by
    have ho := hown i List.mem_cons_self
    have hnd' := List.nodup_cons.mp hnd
    unfold opC at h
    cases e0 : st.get i with
    | none => rw [e0] at h; exact h.elim
    | some x0 =>
      rw [e0] at h
      obtain ⟨a, ea, ow0, _⟩ := rel.own i x0 ho (MS.get_some e0)
      refine ⟨.ref a, ea, ?_⟩
      refine runC (as := as) (fun j hj => hown j (List.mem_cons_of_mem _ hj)) hnd'.2 rel (Post.mono (Post.bind h) fun xs st2 φ2 H2 R2 S2 h2 vs ha io ou => ?_)
      cases e : st2.get i with
      | none => rw [e] at h2; exact h2.elim
      | some x =>
        rw [e] at h2
        obtain ⟨a', ea', ow, _⟩ := R2.own i x ho (MS.get_some e)
        rw [ea] at ea'
        cases ea'
        refine h2 φ2 H2 R2 .refl (.ref a :: vs) ⟨x, xs, .ref a, vs, rfl, rfl, by rw [if_pos rfl]; exact ⟨a, rfl, ow⟩, ha⟩ ⟨?_, fun b hm => ?_, fun j hj => ?_⟩ ⟨ea, ou⟩
        · unfold modes ioAs
          refine List.nodup_cons.mpr ⟨fun hm => ?_, io.nd⟩
          rcases io.fr a hm with z | ⟨j, hj, z⟩
          · exact ow0.some z
          · obtain ⟨d', ed⟩ := io.live j hj
            exact R2.dist i j x d' a (fun z => hnd'.1 (z ▸ hj)) ho (hown j (List.mem_cons_of_mem _ hj)) (MS.get_some e) (MS.get_some ed) ea z
        · unfold modes ioAs at hm
          rcases List.mem_cons.mp hm with rfl | hm
          · exact .inr ⟨i, List.mem_cons_self, ea⟩
          · rcases io.fr b hm with z | ⟨j, hj, z⟩
            · exact .inl z
            · exact .inr ⟨j, List.mem_cons_of_mem _ hj, z⟩
        · rcases List.mem_cons.mp hj with rfl | hj
          · exact ⟨x, e⟩
          · exact io.live j hj

/-! ### behind the call -/
theorem setOuts_sto : ∀ (as : List CArg) (ios : List D) (st : MS), (setOuts as ios st).sto = st.sto
  | [], _, _ => by unfold setOuts; rfl
  | .own i :: r, d :: ios, st => by unfold setOuts; rw [setOuts_sto r ios]; rfl
  | .own i :: r, [], st => by unfold setOuts; rfl
  | .tmp _ :: r, d :: ios, st => by unfold setOuts; exact setOuts_sto r ios st
  | .tmp _ :: r, [], st => by unfold setOuts; rfl
  | .val _ :: r, ios, st => by unfold setOuts; exact setOuts_sto r ios st
theorem setOuts_len : ∀ (as : List CArg) (ios : List D) (st : MS), (setOuts as ios st).env.length = st.env.length
  | [], _, _ => by unfold setOuts; rfl
  | .own i :: r, d :: ios, st => by unfold setOuts; rw [setOuts_len r ios]; show (st.env.set i (some d)).length = _; rw [List.length_set]
  | .own i :: r, [], st => by unfold setOuts; rfl
  | .tmp _ :: r, d :: ios, st => by unfold setOuts; exact setOuts_len r ios st
  | .tmp _ :: r, [], st => by unfold setOuts; rfl
  | .val _ :: r, ios, st => by unfold setOuts; exact setOuts_len r ios st
theorem set_env (st : MS) (i : Nat) (d : D) : (st.set i d).env = st.env.set i (some d) := rfl
/-- slots that are no argument stay -/
theorem setOuts_out : ∀ (as : List CArg) (ios : List D) (st : MS) (j : Nat), j ∉ ownIx as → (setOuts as ios st).env[j]? = st.env[j]?
  | [], _, _, _, _ => by unfold setOuts; rfl
  | .own i :: r, d :: ios, st, j, h => by
    have hij : i ≠ j := fun z => h (by unfold ownIx; rw [z]; exact List.mem_cons_self)
    unfold setOuts
    rw [setOuts_out r ios _ j fun z => h (by unfold ownIx; exact List.mem_cons_of_mem _ z), set_env, List.getElem?_set_ne hij]
  | .own i :: r, [], st, j, _ => by unfold setOuts; rfl
  | .tmp _ :: r, d :: ios, st, j, h => by unfold setOuts; exact setOuts_out r ios st j h
  | .tmp _ :: r, [], st, j, _ => by unfold setOuts; rfl
  | .val _ :: r, ios, st, j, h => by unfold setOuts; exact setOuts_out r ios st j h
/-- the arguments' slots hold what the callee handed back -/
theorem setOuts_in {K : KK} {φ : List Addr} {H : Hp} {σ : SS} : ∀ (as : List CArg) (ios : List D) (vs : List V) (st : MS) (j : Nat), (ownIx as).Nodup → j ∈ ownIx as → (∀ i ∈ ownIx as, i < st.env.length) → OutsOf σ as vs → (∀ i ∈ ownIx as, ∃ a, σ[i]? = some (some (.ref a))) → IosR K φ H (ioAs (modes as) vs) ios → vs.length = as.length → (∀ (i : Nat), (modes as)[i]? = some true → ∃ a, vs[i]? = some (.ref a)) →
    ∃ d a, (setOuts as ios st).env[j]? = some (some d) ∧ σ[j]? = some (some (.ref a)) ∧ OwnD K φ H a d
  | [], _, _, _, _, _, h, _, _, _, _, _, _ => by cases h
  | .val _ :: r, ios, v :: vs, st, j, nd, h, hl, ou, hr, io, hv, hm => by
    unfold setOuts
    exact setOuts_in r ios vs st j nd h hl ou hr (by unfold modes ioAs at io; exact io) (by simpa using hv) fun i hi => by simpa using hm (i + 1) (by unfold modes; simpa using hi)
  | .tmp _ :: r, ios, v :: vs, st, j, nd, h, hl, ou, hr, io, hv, hm => by
    obtain ⟨a, ea⟩ := hm 0 rfl
    simp at ea
    subst ea
    unfold modes ioAs at io
    cases io with
    | cons q io =>
      unfold setOuts
      exact setOuts_in r _ vs st j nd h hl ou hr io (by simpa using hv) fun i hi => by simpa using hm (i + 1) (by unfold modes; simpa using hi)
  | .own i :: r, ios, v :: vs, st, j, nd, h, hl, ou, hr, io, hv, hm => by
    obtain ⟨a, ea⟩ := hm 0 rfl
    simp at ea
    subst ea
    unfold modes ioAs at io
    have nd' := List.nodup_cons.mp nd
    cases io with
    | cons q io =>
      unfold setOuts
      by_cases hj : i = j
      · subst hj
        rename_i d dr
        refine ⟨d, a, ?_, ou.1, q⟩
        rw [setOuts_out r _ _ i nd'.1, set_env, List.getElem?_set_self (hl i List.mem_cons_self)]
      · refine setOuts_in r _ vs _ j nd'.2 ((List.mem_cons.mp h).elim (fun z => absurd z.symm hj) id) (fun k hk => ?_) ou.2 (fun k hk => hr k (List.mem_cons_of_mem _ hk)) io (by simpa using hv) fun k hk => by simpa using hm (k + 1) (by unfold modes; simpa using hk)
        rw [set_env, List.length_set]
        exact hl k (List.mem_cons_of_mem _ hk)
  | .val _ :: _, _, [], _, _, _, _, _, _, _, _, hv, _ => by simp at hv
  | .tmp _ :: _, _, [], _, _, _, _, _, _, _, _, hv, _ => by simp at hv
  | .own _ :: _, _, [], _, _, _, _, _, _, _, _, hv, _ => by simp at hv
theorem modes_length : ∀ as : List CArg, (modes as).length = as.length
  | [] => rfl
  | .val _ :: r => by unfold modes; rw [List.length_cons, List.length_cons, modes_length r]
  | .own _ :: r => by unfold modes; rw [List.length_cons, List.length_cons, modes_length r]
  | .tmp _ :: r => by unfold modes; rw [List.length_cons, List.length_cons, modes_length r]
/-- the state behind a call -/
theorem rel_call {C : Ctx} {σ : SS} {φs φ φ' : List Addr} {Hs H H' : Hp} {st : MS} {as : List CArg} {ds ios : List D} {vs : List V} {sto' : List SO} (R : Rel C φ st σ H) (S : Step C σ φs Hs φ H) (Rs : ∀ a, Hs a = none → C.H0 a = none ∧ ¬ Ow C σ a) (hown : ∀ i ∈ ownIx as, C.own i = true) (hnd : (ownIx as).Nodup) (ha : ArgsR C.K φ H (modes as) ds vs) (io : IoOk C σ Hs st as vs) (ou : OutsOf σ as vs)
    (F : FStep (ioAs (modes as) vs) φ H φ' H') (hsto : StoOk C φ' sto' H') (hios : IosR C.K φ' H' (ioAs (modes as) vs) ios) : Rel C φ' (setOuts as ios { st with sto := sto' }) σ H' ∧ Step C σ φs Hs φ' H' := by
  have nio : ∀ a, ¬ Ow C σ a → Hs a ≠ none → a ∉ ioAs (modes as) vs := fun a n1 n2 hm => by
    rcases io.fr a hm with z | ⟨i, hi, z⟩
    · exact n2 z
    · exact n1 ⟨i, hown i hi, z⟩
  have ownAt : ∀ {j : Nat} {d : D}, C.own j = true → (setOuts as ios { st with sto := sto' }).env[j]? = some (some d) → ∃ a d0, st.env[j]? = some (some d0) ∧ σ[j]? = some (some (.ref a)) ∧ OwnD C.K φ' H' a d ∧ (C.H0 a = none ∨ (j, a) ∈ C.io) := fun {j d} oj e => by
    by_cases hj : j ∈ ownIx as
    · obtain ⟨d0, e0⟩ := io.live j hj
      obtain ⟨a, ea, _, h0⟩ := R.own j d0 oj (MS.get_some e0)
      obtain ⟨d', a', e', ea', ow⟩ := setOuts_in (K := C.K) (φ := φ') (H := H') as ios vs { st with sto := sto' } j hnd hj (fun i hi => by
        obtain ⟨d1, e1⟩ := io.live i hi
        exact (List.getElem?_eq_some_iff.mp (MS.get_some e1)).1) ou (fun i hi => by
        obtain ⟨d1, e1⟩ := io.live i hi
        obtain ⟨b, eb, _⟩ := R.own i d1 (hown i hi) (MS.get_some e1)
        exact ⟨b, eb⟩) hios (by rw [ha.len.2, modes_length]) (fun i hi => by
        have hil : i < (modes as).length := (List.getElem?_eq_some_iff.mp hi).1
        obtain ⟨v, q, _, r⟩ := ha.get (i := i) (d := ds[i]'(by rw [ha.len.1]; exact hil)) (List.getElem?_eq_getElem (by rw [ha.len.1]; exact hil))
        obtain ⟨b, rfl, _⟩ := r hi
        exact ⟨b, q⟩)
      rw [e] at e'
      cases e'
      rw [ea] at ea'
      cases ea'
      exact ⟨a, d0, MS.get_some e0, ea, ow, h0⟩
    · rw [setOuts_out as ios _ j hj] at e
      obtain ⟨a, ea, ow, h0⟩ := R.own j d oj e
      refine ⟨a, d, e, ea, ow.mono F.s.fz F.s.pre ?_, h0⟩
      obtain ⟨u, hu, _⟩ := ow.mut
      rw [hu]
      refine F.keep a u hu (fun hm => ?_) fun z => ?_
      · rcases io.fr a hm with z | ⟨i, hi, z⟩
        · exact (Rs a z).2 ⟨j, oj, ea⟩
        · obtain ⟨d1, e1⟩ := io.live i hi
          exact R.dist j i d d1 a (fun z => hj (z ▸ hi)) oj (hown i hi) e (MS.get_some e1) ea z
      · obtain ⟨A, dx, fs, q⟩ := R.sto.some z
        rw [hu] at q
        cases q
        cases d with
        | lst xs => obtain ⟨vs, e, _⟩ := ow; rw [hu] at e; cases e
        | dic kvs => obtain ⟨vs, e, _⟩ := ow; rw [hu] at e; cases e
        | _ => exact ow
  refine ⟨⟨?_, fun j d oj e => ?_, fun j d oj e => ?_, fun i j d d' a hne oi oj e1 e2 e3 => ?_, fun a h => F.s.dom a (R.alive a h), fun a x q n m => ?_, R.frz.trans F.s.fz, R.ios, by rw [setOuts_sto]; exact hsto⟩, ⟨S.pre.trans F.s.pre, fun a hm => ?_, S.fz.trans F.s.fz, fun a x q n m => ?_, fun a h => F.s.dom a (S.dom a h)⟩⟩
  · rw [setOuts_len]; exact R.len
  · have hj : j ∉ ownIx as := fun z => by rw [hown j z] at oj; cases oj
    rw [setOuts_out as ios _ j hj] at e
    obtain ⟨v, q, r⟩ := R.val j d oj e
    exact ⟨v, q, r.mono F.s.fz F.s.pre⟩
  · obtain ⟨a, d0, _, ea, ow, h0⟩ := ownAt oj e
    exact ⟨a, ea, ow, h0⟩
  · obtain ⟨_, d1, q1, _⟩ := ownAt oi e1
    obtain ⟨_, d2, q2, _⟩ := ownAt oj e2
    exact R.dist i j d1 d2 a hne oi oj q1 q2 e3
  · have mφ : a ∉ φ := fun z => m (by
      obtain ⟨i, hi, e⟩ := List.getElem_of_mem z
      exact List.mem_of_getElem? (F.s.pre i a (by rw [List.getElem?_eq_getElem hi, e])))
    refine F.keep a x (R.keep a x q n mφ) (fun hm => ?_) mφ
    rcases io.fr a hm with z | ⟨i, hi, z⟩
    · rw [(Rs a z).1] at q; cases q
    · obtain ⟨d1, e1⟩ := io.live i hi
      obtain ⟨b, eb, _, h0⟩ := R.own i d1 (hown i hi) (MS.get_some e1)
      rw [z] at eb
      cases eb
      rcases h0 with h0 | h0
      · rw [h0] at q; cases q
      · exact n ⟨_, h0, rfl⟩
  · rcases F.s.new a hm with z | z
    · exact S.new a z
    · refine .inr ?_
      cases q : Hs a with
      | none => rfl
      | some y => exact absurd z (S.dom a (by rw [q]; exact fun z => by cases z))
  · have hs : Hs a ≠ none := by rw [q]; exact fun z => by cases z
    refine F.keep a x (S.keep a x q n m) (nio a n hs) fun z => ?_
    rcases S.new a z with z | z
    · exact m z
    · exact hs z

/-- a call's arguments in the parameters' order -/
def eCall (fm : FM) (as : List CArg) : MS → Res D := fun st => (opC as st).bind fun ds st1 => match fm ds st1.sto with
  | .ok d ios sto' => .ok d (setOuts as ios { st1 with sto := sto' })
  | .err x ios sto' => .err x (setOuts as ios { st1 with sto := sto' })
  | .stuck => .stuck
theorem XRep.to {C C' : Ctx} {φ : List Addr} {H : Hp} {x : Exn} {c : Value} {d : Option Addr} (h : XRep C φ H x c d) (k : C.K = C'.K) (e : C.cls = C'.cls) : XRep C' φ H x c d := by
  obtain ⟨A, h1, h2, h3⟩ := h
  refine ⟨A, by rw [← e]; exact h1, h2, ?_⟩
  rw [← k]
  exact h3
theorem run_call {C : Ctx} {as : List CArg} {fm : FM} {ret : Bool} {σ : SS} {H : Hp} {Q : VK} (hown : ∀ i ∈ ownIx as, C.own i = true) (hnd : (ownIx as).Nodup) (h : tV C ret (eCall fm as) σ H Q) : tCs C as σ H fun vs H1 => spF C.K C.cls (modes as) ret fm vs H1 Q C.E := by
  obtain ⟨st, φ, R, q⟩ := h
  have Rs : ∀ a, H a = none → C.H0 a = none ∧ ¬ Ow C σ a := fun a z => ⟨R.none0 z, fun w => R.alive a w z⟩
  unfold eCall at q
  refine runC hown hnd R ?_
  cases e0 : opC as st with
  | stuck => rw [e0] at q; exact q
  | err x st1 => rw [e0] at q; exact q
  | ok ds st1 =>
    rw [e0] at q
    have q : Post C σ φ H (match fm ds st1.sto with
      | .ok d ios sto' => .ok d (setOuts as ios { st1 with sto := sto' })
      | .err x ios sto' => .err x (setOuts as ios { st1 with sto := sto' })
      | .stuck => .stuck) fun d _ φ'' H'' => ∀ v, ValR C ret φ'' H H'' d v → Q v H'' := q
    intro φ1 H1 R1 S1 vs ha io ou
    refine ⟨ha.len.2, φ1, ds, st1.sto, ha, io.nd, R1.sto.to rfl rfl, ?_⟩
    cases e : fm ds st1.sto with
    | stuck => rw [e] at q; exact q.elim
    | ok d ios sto' =>
      rw [e] at q
      intro φ' H' v F hsto hios hv
      obtain ⟨R', S'⟩ := rel_call R1 S1 Rs hown hnd ha io ou F (hsto.to rfl rfl) hios
      refine q φ' H' R' S' v ?_
      unfold FRet at hv
      unfold ValR
      split
      · rename_i hc
        rw [if_pos hc] at hv
        obtain ⟨a, e, ow, hn⟩ := hv
        refine ⟨a, e, ow, ?_⟩
        cases q : H a with
        | none => rfl
        | some y => exact absurd hn (S1.dom a (by rw [q]; exact fun z => by cases z))
      · rename_i hc
        rw [if_neg hc] at hv
        exact hv
    | err x ios sto' =>
      rw [e] at q
      intro φ' H' c d F hsto hios hx
      obtain ⟨R', S'⟩ := rel_call R1 S1 Rs hown hnd ha io ou F (hsto.to rfl rfl) hios
      exact q φ' H' c d R' S' (hx.to rfl rfl)
section
variable {X : Cx} {C : Ctx} {CX : CXT} {k : Nat} {f : Addr} {fd : FuncData} {ps : List Str} {x : Str} {p pos : Pos} {e : Expr} {es : List Expr} {as : List CArg} {fm : FM} {ow : List Bool} {ret : Bool}
theorem me_call (hk : X.K = C.K) (F : FnOk X.prog X.w X.K X.mg X.base CX k f fd ps (spF C.K C.cls ow ret fm)) (hr : Room k X.A) (hg : Gl X x) (hm : X.mg x = some (.ref f)) (hkp : PySem.W.keepIn X.K (.ref f) = true) (hb : Binds X.K fd ps []) (hx : Passes CX X C.E)
    (ha : MC X C (e :: es) as) (how : modes as = ow) (hnd : (ownIx as).Nodup) (hdb : (x == ("__debug__" : Str)) = false := by decide) (he : starEach (e :: es) X.env = (false, eval e X.env) :: starEach es X.env := by rfl) (hpl : (backTo pos (starEach es X.env)).any (·.1) = false := by rfl) :
    ME X C ret (.Call (.Name x p) (e :: es) [] pos) (eCall fm as) := PE.weak (pe_call F hr hg hm hkp hb .nil hx ha.pa hdb he hpl) fun σ H Q h => by
  subst how
  have t := run_call ha.own hnd h
  have e1 : (fun vs H1 => spF C.K C.cls (modes as) ret fm vs H1 Q C.E) = fun vs H1 => spF C.K C.cls (modes as) ret fm (vs ++ []) H1 Q C.E := by
    funext vs H1
    rw [List.append_nil]
  rw [e1] at t
  exact t
end
end Q
set_option Elab.async false
set_option linter.all false
set_option maxRecDepth 100000
set_option autoImplicit false
/-! QL: several names at once, a comprehension given to a name, methods of lists -/
namespace Q
open PySem PySem.Spec PyProof.Rows L2 PySem.SeqAt

/-! ### a, b = x, y -/
def setAll : List Nat → List D → MS → MS
  | i :: is, d :: ds, st => setAll is ds (st.set i d)
  | _, _, st => st
def setAllS : List Nat → List V → SS → SS
  | i :: is, v :: vs, σ => setAllS is vs (σ.set i (some v))
  | _, _, σ => σ
/-- the slots take such arguments -/
def SlotsOk (C : Ctx) : List Nat → List Bool → Prop := Paired fun i b => C.own i = b ∧ ∀ p ∈ C.io, p.1 ≠ i
theorem par_rel {C : Ctx} {φ : List Addr} {H : Hp} {is : List Nat} {bs : List Bool} (hs : SlotsOk C is bs) : ∀ {ds : List D} {vs : List V} {st : MS} {σ : SS}, Rel C φ st σ H → ArgsR C.K φ H bs ds vs → (ioAs bs vs).Nodup → (∀ a ∈ ioAs bs vs, ¬ Ow C σ a ∧ C.H0 a = none) → Rel C φ (setAll is ds st) (setAllS is vs σ) H := by
  unfold SlotsOk at hs
  induction hs with
  | nil =>
    intro ds vs st σ R ha _ _
    obtain ⟨rfl, rfl⟩ := ha
    exact R
  | @cons i b is bs h t ih =>
    intro ds vs st σ R ha nd hf
    obtain ⟨d, dr, v, vr, rfl, rfl, q, ha⟩ := ha
    cases b with
    | false =>
      rw [if_neg Bool.false_ne_true] at q
      unfold ioAs at nd hf
      exact ih (R.set h.1 q) ha nd fun a hm => ⟨fun ⟨j, oj, e⟩ => (hf a hm).1 ⟨j, oj, by
        have hj : i ≠ j := fun z => by rw [← z, h.1] at oj; cases oj
        rw [List.getElem?_set_ne hj] at e
        exact e⟩, (hf a hm).2⟩
    | true =>
      rw [if_pos rfl] at q
      obtain ⟨a, rfl, ow⟩ := q
      unfold ioAs at nd hf
      have nd' := List.nodup_cons.mp nd
      obtain ⟨f1, f2⟩ := hf a List.mem_cons_self
      refine ih (R.setO (H1 := H) (σ1 := σ) h.1 h.2 ow f2 f1) ha nd'.2 fun b hm => ⟨fun ⟨j, oj, e⟩ => ?_, (hf b (List.mem_cons_of_mem _ hm)).2⟩
      by_cases hj : i = j
      · subst hj
        by_cases hl : i < σ.length
        · rw [List.getElem?_set_self hl] at e
          cases e
          exact nd'.1 hm
        · rw [List.getElem?_eq_none (by simpa using hl)] at e; cases e
      · rw [List.getElem?_set_ne hj] at e
        exact (hf b (List.mem_cons_of_mem _ hm)).1 ⟨j, oj, e⟩
/-- several values at once into several slots -/
def sPar (is : List Nat) (as : List CArg) : MS → SR := fun st => (opC as st).stm fun ds st1 => .nx (setAll is ds st1)
theorem ArgsR.same {K : KK} {φ : List Addr} {H1 H2 : Hp} (sm : Same H1 H2) : ∀ {bs : List Bool} {ds : List D} {vs : List V}, ArgsR K φ H1 bs ds vs → ArgsR K φ H2 bs ds vs
  | [], _, _, h => h
  | b :: bs, _, _, ⟨d, dr, v, vr, e1, e2, q, t⟩ => by
    refine ⟨d, dr, v, vr, e1, e2, ?_, ArgsR.same sm t⟩
    cases b with
    | false => rw [if_neg Bool.false_ne_true] at q ⊢; exact q.mono (.of_same sm) (.refl _)
    | true =>
      rw [if_pos rfl] at q ⊢
      obtain ⟨a, e, ow⟩ := q
      obtain ⟨u, hu, _⟩ := ow.mut
      exact ⟨a, e, ow.mono (.of_same sm) (.refl _) (by rw [hu]; exact sm a u hu)⟩
theorem run_par {C : Ctx} {is : List Nat} {as : List CArg} {σ : SS} {H : Hp} {D : Ends} {R : List V → Hp → Prop} (hs : SlotsOk C is (modes as)) (hno : ownIx as = []) (h : tS C (sPar is as) D σ H) (hR : ∀ vs H1, vs.length = is.length → (∀ H2, Same H1 H2 → D.nx (setAllS is vs σ) H2) → R vs H1) : tCs C as σ H R := by
  obtain ⟨st, φ, rel, q⟩ := h
  refine runC (by rw [hno]; exact fun _ h => by cases h) (by rw [hno]; exact List.nodup_nil) rel (Post.mono (SPost.bind q) fun ds st1 φ1 H1 R1 S1 p vs ha io ou => hR vs H1 (by rw [ha.len.2]; exact (Paired.length hs).symm) fun H2 sm => ?_)
  refine p φ1 _ H2 (par_rel hs (R1.same sm) (ArgsR.same sm ha) io.nd fun a hm => ?_) (.same sm)
  rcases io.fr a hm with z | ⟨i, hi, _⟩
  · exact ⟨fun w => rel.alive a w z, rel.none0 z⟩
  · rw [hno] at hi; cases hi
section
variable {X : Cx} {C : Ctx} {i j l : Nat} {x y z : Str} {a b c : Expr} {as : List CArg} {px py pz pt pos : Pos} {kt k2 : Nat} {pt2 : Pos}
theorem ms_par2 (hc : X.calm = true) (hN : X.N.Nodup) (hi : X.N[i]? = some x) (hj : X.N[j]? = some y) (hij : i ≠ j) (hs : SlotsOk C [i, j] (modes as)) (hno : ownIx as = [])
    (hx : X.env.scope.names.lookup x = some .local) (hy : X.env.scope.names.lookup y = some .local) (ha : MC X C [a, b] as) (hw : swappedStores [.Tuple [.Name x px, .Name y py] kt pt] (.Tuple [a, b] k2 pt2) X.env = pure (some [x, y]))
    (hsw : swapsWithSole [.Tuple [.Name x px, .Name y py] kt pt] (.Tuple [a, b] k2 pt2) pos.line X.env = pure false := by rfl) : MS1 X C (.Assign [.Tuple [.Name x px, .Name y py] kt pt] (.Tuple [a, b] k2 pt2) pos) (sPar [i, j] as) :=
  PS.weak (ps_par hc hN hi hj hij hx hy ha.pa hw hsw) fun D σ H h => run_par hs hno h fun vs H1 e q => by
    match vs, e with
    | [v, w], _ => exact ⟨v, w, rfl, q H1 (Same.refl _)⟩
theorem ms_par3 (hc : X.calm = true) (hN : X.N.Nodup) (hi : X.N[i]? = some x) (hj : X.N[j]? = some y) (hl : X.N[l]? = some z) (hij : i ≠ j) (hil : i ≠ l) (hjl : j ≠ l) (hs : SlotsOk C [i, j, l] (modes as)) (hno : ownIx as = [])
    (hx : X.env.scope.names.lookup x = some .local) (hy : X.env.scope.names.lookup y = some .local) (hz : X.env.scope.names.lookup z = some .local) (ha : MC X C [a, b, c] as) (hw : swappedStores [.Tuple [.Name x px, .Name y py, .Name z pz] kt pt] (.Tuple [a, b, c] k2 pt2) X.env = pure (some [x, y, z]))
    (hsw : swapsWithSole [.Tuple [.Name x px, .Name y py, .Name z pz] kt pt] (.Tuple [a, b, c] k2 pt2) pos.line X.env = pure false := by rfl) : MS1 X C (.Assign [.Tuple [.Name x px, .Name y py, .Name z pz] kt pt] (.Tuple [a, b, c] k2 pt2) pos) (sPar [i, j, l] as) :=
  PS.weak (ps_par3 hc hN hi hj hl hij hil hjl hx hy hz ha.pa hw hsw) fun D σ H h => run_par hs hno h fun vs H1 e q => by
    match vs, e with
    | [u, v, w], _ => exact ⟨u, v, w, rfl, q H1 (Same.refl _)⟩
/-- the names as targets of a tuple that was made -/
structure Nms (X : Cx) (tgs : List Expr) (is : List Nat) (t : TGs) : Prop where
  pg : PGs X tgs t
  run : ∀ vs σ H Q, vs.length = is.length → Q (setAllS is vs σ) H → t vs σ H Q
theorem nms_nil : Nms X [] [] gNil := ⟨pgs_nil, fun vs σ H Q e q => by
  match vs, e with
  | [], _ => exact ⟨rfl, q⟩⟩
theorem nms_cons {p : Pos} {tgs : List Expr} {is : List Nat} {t : TGs} (hN : X.N.Nodup) (hi : X.N[i]? = some x) (hx : Loc X.env.scope x) (h : Nms X tgs is t) (hf : X.fn x = true ∨ X.env.scope.names.lookup x = some .local := by first | exact .inl rfl | exact .inr rfl | assumption)
    (hs : (assignEach (.Name x p :: tgs) X.env).map (·.2) = assign (.Name x p) X.env :: (assignEach tgs X.env).map (·.2) := by rfl) : Nms X (.Name x p :: tgs) (i :: is) (gCons (gName i) t) :=
  ⟨pgs_cons (pg_name hN hi hx hf) h.pg hs, fun vs σ H Q e q => by
    match vs, e with
    | v :: vs, e => exact ⟨v, vs, rfl, h.run vs _ H Q (by simpa using e) q⟩⟩
/-- a, b = x, y by way of a tuple (some name is captured) -/
theorem ms_parT {tgs es : List Expr} {is : List Nat} {t : TGs} {n : Nat} (hc : X.calm = true) (hn : Nms X tgs is t) (hlen : is.length = n) (hsz : n ≤ sizeLine) (hs : SlotsOk C is (modes as)) (hno : ownIx as = []) (ha : MC X C es as)
    (hn1 : (assignEach tgs X.env).length = n := by rfl) (hst : (assignEach tgs X.env).findIdx? (·.1) = none := by rfl)
    (hsw : swapsWithSole [.Tuple tgs kt pt] (.Tuple es k2 pt2) pos.line X.env = pure false := by rfl) (hw : swappedStores [.Tuple tgs kt pt] (.Tuple es k2 pt2) X.env = pure none := by rfl)
    (h1 : (assignEach [.Tuple tgs kt pt] X.env).map (·.2) = [assign (.Tuple tgs kt pt) X.env] := by rfl) : MS1 X C (.Assign [.Tuple tgs kt pt] (.Tuple es k2 pt2) pos) (sPar is as) :=
  PS.weak (ps_asg (pe_tup ha.pa) (pg_tup hc hn.pg hn1 hst) hsw hw h1) fun D σ H h => run_par hs hno h fun vs H1 e q => by
    subst hlen
    exact ⟨by rw [e]; exact hsz, fun p hp => ⟨p, vs, rfl, .inl (.inl upd_same), e, hn.run vs σ _ _ e (q _ (same_new hp))⟩⟩
end

/-! ### name = [..] -/
def tFzN (t : TS) : TS := fun D σ H => t { D with nx := fun σ' H' => D.nx σ' H' ∨ ∃ a u, H' a = some u ∧ Mut (some u) ∧ ∀ o, D.nx σ' (upd H' a (.frz o u)) } σ H
theorem ps_fzN {X : Cx} {st : Stmt} {t : TS} (h : PS X st t) : PS X st (tFzN t) := by
  refine ⟨fun pins s σ H D I hw => ?_⟩
  refine thn (h.run pins s σ H _ I hw) fun f s1 q => ?_
  cases f with
  | next =>
    obtain ⟨σ', H', I', q⟩ := q
    rcases q with q | ⟨a, u, hu, mu, q⟩
    · exact ⟨σ', H', I', q⟩
    · obtain ⟨od, I2⟩ := I'.lock hu mu
      exact ⟨σ', _, I2, q od⟩
  | brk => exact q
  | cont => exact q
  | ret v => exact q
section
variable {X : Cx} {C : Ctx} {st : Stmt} {te : TE} {i : Nat} {m : MS → Res D}
/-- from «name = expression» whose reading gives a thing of one's own: kept so, or frozen -/
theorem ms_ofO (h : PS X st (tAsg te (gName i))) (w : ∀ σ H Q, tV C true m σ H Q → te σ H Q) (ho : C.own i = true) (hio : ∀ p ∈ C.io, p.1 ≠ i) : MS1 X C st (sSetO i m) := PS.weak h fun D σ H ⟨st, φ, R, q⟩ =>
  w σ H _ ⟨st, φ, R, Post.mono (SPost.bind q) fun d st' φ' H' R' S p v hv => by
    split at p
    · rename_i hd
      obtain ⟨a, rfl, ow, w⟩ := hv.free hd
      exact p φ' _ H' (R'.setO (H1 := H') (σ1 := σ) ho hio ow (R.none0 w) fun z => R.alive a z w) .refl
    · exact p.elim⟩
theorem ms_ofF (h : PS X st (tAsg te (gName i))) (w : ∀ σ H Q, tV C true m σ H Q → te σ H Q) (ho : C.own i = false) : MS1 X C st (sSet i m) := PS.weak (ps_fzN h) fun D σ H ⟨st, φ, R, q⟩ =>
  w σ H _ ⟨st, φ, R, Post.mono (SPost.bind q) fun d st' φ' H' R' S p v hv => by
    by_cases hd : isOwn d = true
    · obtain ⟨a, rfl, ow, w⟩ := hv.free hd
      obtain ⟨u, hu, mu, _⟩ := ow.mut
      refine .inr ⟨a, u, hu, mu, fun o => ?_⟩
      have R2 := R'.freeze o hu ow (R.none0 w) fun z => R.alive a z w
      have nst := ow.mut
      obtain ⟨u', hu', _, nst⟩ := nst
      have f : Fz H' (upd H' a (.frz o u)) := fun b x q s => by
        have nb : b ≠ a := fun z => by rw [z, hu'] at q; cases q; rw [nst] at s; cases s
        rw [upd_ne nb]; exact q
      exact p φ' _ _ (R2.set ho (frz_of_own o hu ow)) ⟨.refl _, fun _ h => .inl h, f, fun b hb => by
        by_cases h : b = a
        · subst h; rw [upd_same]; exact fun z => by cases z
        · rw [upd_ne h]; exact hb⟩
    · rw [Bool.not_eq_true] at hd
      unfold ValR at hv
      rw [hd, Bool.and_false, if_neg Bool.false_ne_true] at hv
      exact .inl (p φ' _ H' (R'.set ho hv) .refl)⟩
end
section
variable {X : Cx} {C : Ctx} {i : Nat} {y : Str} {py : Pos} {elt tg iter : Expr} {ifs : List Expr} {scope : Scope} {own : List (Str × Nat)} {pos spos : Pos} {mi : MS → Res (List D)} {g : D → MS → Res Unit} {tt : MS → Res Bool} {te : MS → Res D}
theorem ps_lcA (hc : X.calm = true) (hN : X.N.Nodup) (hy : X.N[i]? = some y) (hyl : X.env.scope.names.lookup y = some .local) (hsw : swapsWith (.ListComp elt [⟨tg, iter, ifs, 0⟩] scope pos) (some (.Name y py)) spos.line X.env = pure true) (hi : MI X C tg iter mi) (ok : BlkOk X.N X.env.scope scope own)
    (hg : ∀ (s : Shared) (H : Hp) (A : Addr) (cl : List (Str × Addr)) (fp : List Addr), MGc (X.blk s H scope (compEnvC scope cl A X.env) fp) C.ne (own.map (·.2)) tg g) (ht : ∀ (s : Shared) (H : Hp) (A : Addr) (cl : List (Str × Addr)) (fp : List Addr), MTs (X.blk s H scope (compEnvC scope cl A X.env) fp) C.ne ifs tt)
    (he : ∀ (s : Shared) (H : Hp) (A : Addr) (cl : List (Str × Addr)) (fp : List Addr), ME (X.blk s H scope (compEnvC scope cl A X.env) fp) C.ne false elt te) (hs : ∀ x, foldedSetIterable iter X.env x = pure x := by intro _; rfl) :
    PS X (.Assign [.Name y py] (.ListComp elt [⟨tg, iter, ifs, 0⟩] scope pos) spos) (tAsg (tLc (tI C mi) (tGc C.ne (own.map (·.2)) g) (tT C.ne tt) (tV C.ne false te) (own.map (·.2))) (gName i)) := ps_setLc hc hN hy hyl hsw hi ok hg ht he hs
theorem ms_lcO (hv : ∀ v ∈ own.map (·.2), C.own v = false) (ho : C.own i = true) (hio : ∀ p ∈ C.io, p.1 ≠ i) (h : PS X (.Assign [.Name y py] (.ListComp elt [⟨tg, iter, ifs, 0⟩] scope pos) spos) (tAsg (tLc (tI C mi) (tGc C.ne (own.map (·.2)) g) (tT C.ne tt) (tV C.ne false te) (own.map (·.2))) (gName i))) :
    MS1 X C (.Assign [.Name y py] (.ListComp elt [⟨tg, iter, ifs, 0⟩] scope pos) spos) (sSetO i (eLc (own.map (·.2)) mi g tt te)) := ms_ofO h (fun σ H Q q => run_lc hv q) ho hio
theorem ms_lcF (hv : ∀ v ∈ own.map (·.2), C.own v = false) (ho : C.own i = false) (h : PS X (.Assign [.Name y py] (.ListComp elt [⟨tg, iter, ifs, 0⟩] scope pos) spos) (tAsg (tLc (tI C mi) (tGc C.ne (own.map (·.2)) g) (tT C.ne tt) (tV C.ne false te) (own.map (·.2))) (gName i))) :
    MS1 X C (.Assign [.Name y py] (.ListComp elt [⟨tg, iter, ifs, 0⟩] scope pos) spos) (sSet i (eLc (own.map (·.2)) mi g tt te)) := ms_ofF h (fun σ H Q q => run_lc hv q) ho
end

/-! ### methods of a list of the def's own -/
def eApp (i : Nat) (m : MS → Res D) : MS → Res D := fun st => match st.get i with
  | some (.lst _) => (m st).bind fun d st1 => match st1.get i with
    | some (.lst xs) => if xs.length < sizeLine then .ok .non (st1.set i (.lst (xs ++ [d]))) else .stuck
    | _ => .stuck
  | _ => .stuck
def ePop (i : Nat) : MS → Res D := fun st => match st.get i with
  | some (.lst xs) => match xs[xs.length - 1]? with
    | some y => .ok y (st.set i (.lst xs.dropLast))
    | none => .stuck
  | _ => .stuck
def ePopAt (i : Nat) (m : MS → Res D) : MS → Res D := fun st => match st.get i with
  | some (.lst _) => (m st).bind fun d st1 => match st1.get i, d with
    | some (.lst xs), .int n => if 0 ≤ n ∧ n < 2 ^ 63 then match xs[n.toNat]? with
      | some y => .ok y (st1.set i (.lst (xs.eraseIdx n.toNat)))
      | none => .stuck
      else .stuck
    | _, _ => .stuck
  | _ => .stuck
theorem own_change {C : Ctx} {φ : List Addr} {st : MS} {σ : SS} {H : Hp} {i : Nat} {xs ys : List D} {vs ws : List V} {a : Addr} (R : Rel C φ st σ H) (ho : C.own i = true) (hs : st.get i = some (.lst xs)) (ha : σ[i]? = some (some (.ref a))) (e : H a = some (.lst vs)) (r : RepAll C.K φ H ys ws) :
    Rel C φ (st.set i (.lst ys)) σ (upd H a (.lst ws)) ∧ Step C σ φ H φ (upd H a (.lst ws)) := by
  have f : Fz H (upd H a (.lst ws)) := same_upd_lst e
  refine ⟨R.change (o := .lst ws) ho (MS.get_some hs) ha rfl (fun _ _ _ z => by cases z) ⟨ws, upd_same, r.mono f (.refl φ)⟩, .refl φ, fun _ h => .inl h, f, fun b x q n _ => ?_, fun b h => ?_⟩
  · have nb : b ≠ a := fun z => n ⟨i, ho, by rw [z]; exact ha⟩
    rw [upd_ne nb]; exact q
  · by_cases hb : b = a
    · subst hb; rw [upd_same]; exact fun z => by cases z
    · rw [upd_ne hb]; exact h
section
variable {X : Cx} {C : Ctx} {i : Nat} {o e : Expr} {m : MS → Res D} {apos cpos : Pos}
theorem me_append (hk : X.K = C.K) (h : PE X o (tVar i)) (ho : C.own i = true) (hm : ME X C false e m) (hbase : attributeBase o "append" X.env (eval o X.env) = eval o X.env := by rfl)
    (hfew : ((backTo cpos (starEach [e] X.env)).all (fun x => !x.1) && (backToKw cpos (keywordEach [] X.env)).all (fun x => x.1.isSome)
      && decide ([e].length + ([] : List Keyword).length + (if ([] : List Keyword).isEmpty then 0 else 1) < 30)) = true := by rfl)
    (hline : (apos.endLine == cpos.line) = true := by rfl) (hs : starEach [e] X.env = (false, eval e X.env) :: starEach [] X.env := by rfl) (hplain : (backTo cpos (starEach [] X.env)).any (·.1) = false := by rfl) :
    ME X C false (.Call (.Attribute o "append" apos) [e] [] cpos) (eApp i m) :=
  PE.weak (pe_bm PySem.F.plainAttrs_list PySem.F.slot_list_append PySem.F.type_list_append mt_append h (pa_cons hm pa_nil hs) hbase hfew hline hs hplain) fun σ H Q ⟨st, φ, R, q⟩ => by
    unfold eApp at q
    cases e0 : st.get i with
    | none => rw [e0] at q; exact q.elim
    | some c =>
      cases c with
      | lst xs0 =>
        rw [e0] at q
        obtain ⟨a, ea, ⟨vs0, h0, _⟩, _⟩ := R.own i _ ho (MS.get_some e0)
        refine ⟨.ref a, ea, .inl ⟨rfl, _, .inl (.inl h0)⟩, st, φ, R, Post.mono (Post.bind q) fun d st1 φ1 H1 R1 S1 p v hv => ?_⟩
        cases e1 : st1.get i with
        | none => rw [e1] at p; exact p.elim
        | some c1 =>
          cases c1 with
          | lst xs =>
            rw [e1] at p
            have p : Post C σ φ1 H1 (if xs.length < sizeLine then Res.ok D.non (st1.set i (.lst (xs ++ [d]))) else Res.stuck) (fun d _ φ' H' => ∀ v, ValR C false φ' H H' d v → Q v H') := p
            split at p
            · rename_i hl
              obtain ⟨a', ea', ⟨vs, h1, r⟩, _⟩ := R1.own i _ ho (MS.get_some e1)
              rw [ea] at ea'
              cases ea'
              obtain ⟨R2, S2⟩ := own_change R1 ho e1 ea h1 (r.append (.cons hv.rep .nil))
              exact ⟨a, vs, v, rfl, rfl, h1, by rw [← r.length]; exact hl, p φ1 _ R2 S2 _ (.of_rep rfl (by unfold RepD; rfl))⟩
            · exact p.elim
          | _ => rw [e1] at p; exact p.elim
      | _ => rw [e0] at q; exact q.elim
theorem me_pop (h : PE X o (tVar i)) (ho : C.own i = true) (hbase : attributeBase o "pop" X.env (eval o X.env) = eval o X.env := by rfl) (hline : (apos.endLine == cpos.line) = true := by rfl) : ME X C false (.Call (.Attribute o "pop" apos) [] [] cpos) (ePop i) :=
  PE.weak (pe_bm0 PySem.F.plainAttrs_list PySem.F.slot_list_pop PySem.F.type_list_pop mt_pop h hbase hline) fun σ H Q ⟨st, φ, R, q⟩ => by
    unfold ePop at q
    cases e0 : st.get i with
    | none => rw [e0] at q; exact q.elim
    | some c =>
      cases c with
      | lst xs =>
        rw [e0] at q
        obtain ⟨a, ea, ⟨vs, h0, r⟩, _⟩ := R.own i _ ho (MS.get_some e0)
        cases ey : xs[xs.length - 1]? with
        | none => simp only [ey] at q; exact q.elim
        | some y =>
          simp only [ey] at q
          obtain ⟨v, hv, rv⟩ := r.get ey
          obtain ⟨R2, S2⟩ := own_change R ho e0 ea h0 r.dropLast
          exact ⟨.ref a, ea, .inl ⟨rfl, _, .inl (.inl h0)⟩, a, vs, v, rfl, rfl, h0, by rw [← r.length]; exact hv, q φ _ R2 S2 v (.of_rep rfl (rv.mono S2.fz (.refl _)))⟩
      | _ => rw [e0] at q; exact q.elim
theorem me_popAt (h : PE X o (tVar i)) (ho : C.own i = true) (hm : ME X C false e m) (hbase : attributeBase o "pop" X.env (eval o X.env) = eval o X.env := by rfl)
    (hfew : ((backTo cpos (starEach [e] X.env)).all (fun x => !x.1) && (backToKw cpos (keywordEach [] X.env)).all (fun x => x.1.isSome)
      && decide ([e].length + ([] : List Keyword).length + (if ([] : List Keyword).isEmpty then 0 else 1) < 30)) = true := by rfl)
    (hline : (apos.endLine == cpos.line) = true := by rfl) (hs : starEach [e] X.env = (false, eval e X.env) :: starEach [] X.env := by rfl) (hplain : (backTo cpos (starEach [] X.env)).any (·.1) = false := by rfl) :
    ME X C false (.Call (.Attribute o "pop" apos) [e] [] cpos) (ePopAt i m) :=
  PE.weak (pe_bm PySem.F.plainAttrs_list PySem.F.slot_list_pop PySem.F.type_list_pop mt_popAt h (pa_cons hm pa_nil hs) hbase hfew hline hs hplain) fun σ H Q ⟨st, φ, R, q⟩ => by
    unfold ePopAt at q
    cases e0 : st.get i with
    | none => rw [e0] at q; exact q.elim
    | some c =>
      cases c with
      | lst xs0 =>
        rw [e0] at q
        obtain ⟨a, ea, ⟨vs0, h0, _⟩, _⟩ := R.own i _ ho (MS.get_some e0)
        refine ⟨.ref a, ea, .inl ⟨rfl, _, .inl (.inl h0)⟩, st, φ, R, Post.mono (Post.bind q) fun d st1 φ1 H1 R1 S1 p v hv => ?_⟩
        cases e1 : st1.get i with
        | none => simp only [e1] at p; exact p.elim
        | some c1 =>
          cases c1 with
          | lst xs =>
            cases d with
            | int n =>
              simp only [e1] at p
              split at p
              · rename_i hn
                cases ey : xs[n.toNat]? with
                | none => simp only [ey] at p; exact p.elim
                | some y =>
                  simp only [ey] at p
                  obtain ⟨a', ea', ⟨vs, h1, r⟩, _⟩ := R1.own i _ ho (MS.get_some e1)
                  rw [ea] at ea'
                  cases ea'
                  obtain ⟨w, hw, rw'⟩ := r.get ey
                  obtain ⟨R2, S2⟩ := own_change R1 ho e1 ea h1 (r.eraseIdx n.toNat)
                  have hv' := hv.rep
                  unfold RepD at hv'
                  subst hv'
                  have hlt : n.toNat < vs.length := (List.getElem?_eq_some_iff.mp hw).1
                  have hix : seqIndex? n vs.length = some n.toNat := by
                    have e2 : ixN vs.length n = some n.toNat := by
                      unfold ixN
                      rw [if_pos hn.1, if_pos (by omega)]
                    exact (ixN_seq e2).1
                  exact ⟨a, vs, n, n.toNat, w, rfl, rfl, h1, by omega, hn.2, hix, hw, p φ1 _ R2 S2 w (.of_rep rfl (rw'.mono S2.fz (.refl _)))⟩
              · exact p.elim
            | _ => simp only [e1] at p; exact p.elim
          | _ => simp only [e1] at p; exact p.elim
      | _ => rw [e0] at q; exact q.elim
end
end Q
set_option Elab.async false
set_option linter.all false
set_option maxRecDepth 100000
set_option autoImplicit false
/-! QM: isinstance, slices, list(range), names of the module -/
namespace Q
open PySem PySem.Spec PyProof.Rows L2 PySem.SeqAt

/-! ### isinstance -/
inductive Ty where
  | non | bl | int | str | lst | tup | dic
def Ty.nm : Ty → String
  | .non => "NoneType" | .bl => "bool" | .int => "int" | .str => "str" | .lst => "list" | .tup => "tuple" | .dic => "dict"
def tyD : D → Option Ty
  | .non => some .non
  | .bl _ => some .bl
  | .int _ => some .int
  | .str _ => some .str
  | .lst _ => some .lst
  | .raw _ => some .lst
  | .tup _ => some .tup
  | .dic _ => some .dic
  | _ => none
def isT : Ty → Ty → Bool
  | .non, .non => true
  | .bl, .bl => true
  | .bl, .int => true
  | .int, .int => true
  | .str, .str => true
  | .lst, .lst => true
  | .tup, .tup => true
  | .dic, .dic => true
  | _, _ => false
theorem kit_isT (t c : Ty) : kitB t.nm c.nm = some (isT t c) := by
  cases t <;> cases c <;> decide +kernel
theorem RepR.tyx {K : KK} {φ : List Addr} {H : Hp} {d : D} {v : V} {t : Ty} (h : RepR K φ H d v) (e : tyD d = some t) : TyX K H v (.type t.nm) := by
  cases d with
  | non => cases e; rw [h.non]; exact .base .non
  | bl b => cases e; rw [h.bl]; exact .base (.bl b)
  | int b => cases e; rw [h.int]; exact .base (.int b)
  | str b => cases e; rw [h.str]; exact .base (.str b)
  | lst xs =>
    cases e
    obtain ⟨a, vs, rfl, q, _⟩ := h.lst
    rcases q with q | ⟨o, q⟩
    · exact .base (.lst q)
    · exact .base (.frz q)
  | raw xs =>
    cases e
    obtain ⟨a, vs, rfl, q, _⟩ := h.raw
    rcases q with (q | ⟨o, q⟩) | ⟨o, its, n, q, c, _⟩
    · exact .base (.lst q)
    · exact .base (.frz q)
    · exact .kList q c
  | tup xs =>
    cases e
    obtain ⟨a, vs, rfl, q, _⟩ := h.tup
    rcases q with (q | ⟨o, q⟩) | ⟨o, its, n, q, c, _⟩
    · exact .base (.tup q)
    · exact .fTuple q
    · exact .kTuple q c
  | dic kvs =>
    cases e
    rcases h with h | ⟨a, rfl, h⟩
    · unfold RepD at h
      obtain ⟨a, o, kv, rfl, q, _⟩ := h
      exact .fDict q
    · obtain ⟨kv, q, _⟩ := h
      exact .base (.dK q)
  | _ => cases e
def gIsi (cs : List Ty) : List D → Option D
  | [d] => (tyD d).map fun t => .bl (cs.any (isT t))
  | _ => none
theorem kitAny_isT {K : PySem.W.Frag} (t : Ty) : ∀ cs : List Ty, PySem.W.kitAny K (.type t.nm) (cs.map fun c => .type c.nm) = some (cs.any (isT t))
  | [] => kitAny_nil
  | c :: cs => by
    rw [List.map_cons, List.any_cons]
    refine kitAny_cons (b := isT t c) (kit_ty (kit_isT t c)) (fun h => ?_) fun h => by rw [h, Bool.true_or]
    rw [h, Bool.false_or]
    exact kitAny_isT t cs
theorem RepR.same {K : KK} {φ : List Addr} {H H' : Hp} {d : D} {v : V} (s : Same H H') (h : RepR K φ H d v) : RepR K φ H' d v := by
  rcases h with h | ⟨a, e, h⟩
  · exact .inl (h.mono (.of_same s) (.refl φ))
  · obtain ⟨u, hu, _⟩ := h.mut
    exact .inr ⟨a, e, h.mono (.of_same s) (.refl φ) (by rw [hu]; exact s a u hu)⟩
section
variable {X : Cx} {C : Ctx} {o : Bool} {a : Expr} {oa : Opd} {p p2 p3 pos tpos : Pos} {x y : Str} {kk : Nat}
theorem opd_isi {c : Ty} : OpD C o (fun vs H Q => ∃ x, vs = [x] ∧ rIsi C.K [x, .ty c.nm] H Q) (gIsi [c]) := by
  intro φ st σ H R ds vs d Q hr hg q
  match ds, hr, hg with
  | [d1], hr, hg =>
    obtain ⟨v, rfl, h1⟩ := hr.one
    have hg : (tyD d1).map (fun t => D.bl ([c].any (isT t))) = some d := hg
    cases e : tyD d1 with
    | none => rw [e] at hg; cases hg
    | some t =>
      rw [e] at hg
      cases hg
      refine ⟨v, rfl, v, .ty c.nm, _, _, isT t c, rfl, .ty _, h1.tyx e, kit_ty (kit_isT t c), ?_⟩
      have := q (.bl ([c].any (isT t))) H (Same.refl H) rep_bl
      rw [List.any_cons, List.any_nil, Bool.or_false] at this
      exact this
theorem me_isi (hk : X.K = C.K) (c : Ty) (hg : Gl X "isinstance") (hm : X.mg "isinstance" = none) (hg2 : Gl X x) (hm2 : X.mg x = none) (hv : bootBuiltins x = some (.type c.nm)) (ha : MO X C a oa) (hn : x ≠ "__name__" := by decide) (hd : (x == ("__debug__" : Str)) = false := by decide)
    (he : starEach [a, .Name x p2] X.env = (false, eval a X.env) :: starEach [.Name x p2] X.env := by rfl) (he2 : starEach [.Name x p2] X.env = (false, eval (.Name x p2) X.env) :: starEach [] X.env := by rfl) (hpl : (backTo pos (starEach [.Name x p2] X.env)).any (·.1) = false := by rfl) :
    ME X C o (.Call (.Name "isinstance" p) [a, .Name x p2] [] pos) (eOp (gIsi [c]) [oa]) :=
  PE.weak (pe_callB call_isi hg hm PyProof.Rows.boot_isinstance (pa_cons ha.pe (pa_cons (pe_bltn hg2 hm2 hv (v := .ty c.nm) rfl hn hd) pa_nil he2) he) (he := he) (hpl := hpl)) fun σ H Q h => by
    rw [hk]
    exact run_un ha opd_isi h
theorem opd_isi2 {c d : Ty} : OpD C o (fun vs H Q => ∃ x, vs = [x] ∧ ∀ T, H T = none → rIsiT C.K [x, .ref T] (upd H T (.tup [.ty c.nm, .ty d.nm])) Q) (gIsi [c, d]) := by
  intro φ st σ H R ds vs d' Q hr hg q
  match ds, hr, hg with
  | [d1], hr, hg =>
    obtain ⟨v, rfl, h1⟩ := hr.one
    have hg : (tyD d1).map (fun t => D.bl ([c, d].any (isT t))) = some d' := hg
    cases e : tyD d1 with
    | none => rw [e] at hg; cases hg
    | some t =>
      rw [e] at hg
      cases hg
      refine ⟨v, rfl, fun T hT => ⟨v, T, _, _, _, _, rfl, upd_same, .cons (.ty _) (.cons (.ty _) .nil), (h1.same (same_new hT)).tyx e, kitAny_isT t [c, d], ?_⟩⟩
      exact q _ _ (same_new hT) rep_bl
theorem me_isi2 (hk : X.K = C.K) (c d : Ty) (hg : Gl X "isinstance") (hm : X.mg "isinstance" = none) (hg2 : Gl X x) (hm2 : X.mg x = none) (hv : bootBuiltins x = some (.type c.nm)) (hg3 : Gl X y) (hm3 : X.mg y = none) (hv3 : bootBuiltins y = some (.type d.nm)) (ha : MO X C a oa)
    (hn : x ≠ "__name__" := by decide) (hd : (x == ("__debug__" : Str)) = false := by decide) (hn3 : y ≠ "__name__" := by decide) (hd3 : (y == ("__debug__" : Str)) = false := by decide)
    (he : starEach [a, .Tuple [.Name x p2, .Name y p3] kk tpos] X.env = (false, eval a X.env) :: starEach [.Tuple [.Name x p2, .Name y p3] kk tpos] X.env := by rfl) (he2 : starEach [.Tuple [.Name x p2, .Name y p3] kk tpos] X.env = (false, eval (.Tuple [.Name x p2, .Name y p3] kk tpos) X.env) :: starEach [] X.env := by rfl)
    (he3 : starEach [.Name x p2, .Name y p3] X.env = (false, eval (.Name x p2) X.env) :: starEach [.Name y p3] X.env := by rfl) (he4 : starEach [.Name y p3] X.env = (false, eval (.Name y p3) X.env) :: starEach [] X.env := by rfl)
    (hpl : (backTo pos (starEach [.Tuple [.Name x p2, .Name y p3] kk tpos] X.env)).any (·.1) = false := by rfl) :
    ME X C o (.Call (.Name "isinstance" p) [a, .Tuple [.Name x p2, .Name y p3] kk tpos] [] pos) (eOp (gIsi [c, d]) [oa]) :=
  PE.weak (pe_callB call_isiT hg hm PyProof.Rows.boot_isinstance (pa_cons ha.pe (pa_cons (pe_tup (pa_cons (pe_bltn hg2 hm2 hv (v := .ty c.nm) rfl hn hd) (pa_cons (pe_bltn hg3 hm3 hv3 (v := .ty d.nm) rfl hn3 hd3) pa_nil he4) he3)) pa_nil he2) he) (he := he) (hpl := hpl)) fun σ H Q h => by
    rw [hk]
    have t := run_un ha (opd_isi2 (c := c) (d := d)) h
    have e : (fun x H1 => ∀ T, H1 T = none → rIsiT C.K [x, .ref T] (upd H1 T (.tup [.ty c.nm, .ty d.nm])) Q) = fun x H1 => tTup (tCons (tC (V.ty c.nm)) (tCons (tC (V.ty d.nm)) tNil)) σ H1 fun y H2 => rIsiT C.K [x, y] H2 Q := by
      funext x H1
      exact propext ⟨fun z => ⟨show 2 ≤ sizeLine by decide, z⟩, fun z => z.2⟩
    rw [e] at t
    exact t
end

/-! ### names of the module -/
section
variable {X : Cx} {C : Ctx} {o : Bool} {x : Str} {i : Int} {t : Tok} {pos : Pos}
theorem me_glob (hg : Gl X x) (hm : ∃ t, X.mg x = some (.int i t)) (hd : (x == ("__debug__" : Str)) = false := by decide) : ME X C o (.Name x pos) (eK (.int i)) := by
  obtain ⟨t, hm⟩ := hm
  exact me_tC (pe_glob hg hm (show RelV (.int i) (.int i t) from ⟨t, rfl⟩) hd) (by cases o <;> rfl) fun φ H => by unfold RepD; rfl
theorem me_globS {z : Str} (hg : Gl X x) (hm : ∃ t, X.mg x = some (.str z t)) (hd : (x == ("__debug__" : Str)) = false := by decide) : ME X C o (.Name x pos) (eK (.str z)) := by
  obtain ⟨t, hm⟩ := hm
  exact me_tC (pe_glob hg hm (show RelV (.str z) (.str z t) from ⟨t, rfl⟩) hd) (by cases o <;> rfl) fun φ H => by unfold RepD; rfl
end

/-! ### slices -/
def cutD {α : Type} (xs : List α) (lo hi : Option Int) : List α := (xs.drop (HT.sIx xs.length 0 lo)).take (HT.sIx xs.length xs.length hi - HT.sIx xs.length 0 lo)
theorem RepAll.cut {K : KK} {φ : List Addr} {H : Hp} {ds : List D} {vs : List V} (h : RepAll K φ H ds vs) (lo hi : Option Int) : RepAll K φ H (cutD ds lo hi) (cutV vs lo hi) := by
  unfold cutD cutV
  rw [h.length]
  exact RepAll.take _ (RepAll.drop _ h)
def rSl (K : PySem.W.Frag) : V → Option Int → Option Int → Hp → VK → Prop := fun x lo hi H Q => rSlL K x lo hi H Q ∨ (rSlA K x lo hi H Q ∨ rSlS x lo hi H Q)
theorem sl_all {X : Cx} : SlR X (rSl X.K) := sl_list.or (sl_tupA.or sl_str)
def gSlP (lo hi : Option Int) : D → Option D
  | .lst xs => some (.lst (cutD xs lo hi))
  | .raw xs => some (.lst (cutD xs lo hi))
  | .tup xs => some (.tup (cutD xs lo hi))
  | .str z => if z.length ≤ sizeLine then some (.str (cutS z lo hi)) else none
  | _ => none
theorem opd_sl {C : Ctx} {φ : List Addr} {H : Hp} {d d' : D} {v : V} {lo hi : Option Int} {Q : VK} (h : RepR C.K φ H d v) (e : gSlP lo hi d = some d') (q : ∀ v H', Same H H' → ValR C true φ H H' d' v → Q v H') : rSl C.K v lo hi H Q := by
  cases d with
  | lst xs =>
    cases e
    obtain ⟨a, vs, rfl, ra, sa⟩ := h.lst
    exact .inl ⟨a, vs, rfl, .inl ra, fun p hp => q _ _ (same_new hp) (newL hp (sa.cut lo hi))⟩
  | raw xs =>
    cases e
    obtain ⟨a, vs, rfl, ra, sa⟩ := h.raw
    exact .inl ⟨a, vs, rfl, ra, fun p hp => q _ _ (same_new hp) (newL hp (sa.cut lo hi))⟩
  | tup xs =>
    cases e
    obtain ⟨a, vs, rfl, ra, sa⟩ := h.tup
    refine .inr (.inl ⟨a, vs, rfl, ra, fun hw => q _ H (Same.refl H) (.of_rep rfl ?_), fun _ p hp => q _ _ (same_new hp) (newT hp (sa.cut lo hi))⟩)
    unfold RepD
    refine ⟨a, vs, rfl, ra, ?_⟩
    have e : cutD xs lo hi = xs := by
      unfold cutD
      rw [← sa.length] at hw
      rw [hw.1, hw.2, List.drop_zero, Nat.sub_zero, List.take_length]
    rw [e]
    exact sa
  | str z =>
    have e : (if z.length ≤ sizeLine then some (D.str (cutS z lo hi)) else none) = some d' := e
    split at e
    · rename_i hz
      cases e
      rw [h.str]
      exact .inr (.inr ⟨z, rfl, hz, q _ H (Same.refl H) rep_str⟩)
    · cases e
  | _ => cases e
def gSl00 : List D → Option D
  | [d] => gSlP none none d
  | _ => none
def gSl10 : List D → Option D
  | [d, .int i] => gSlP (some i) none d
  | _ => none
def gSl01 : List D → Option D
  | [d, .int j] => gSlP none (some j) d
  | _ => none
def gSl11 : List D → Option D
  | [d, .int i, .int j] => gSlP (some i) (some j) d
  | _ => none
theorem RepRs.three {K : KK} {φ : List Addr} {H : Hp} {d e f : D} {vs : List V} (h : RepRs K φ H [d, e, f] vs) : ∃ v w u, vs = [v, w, u] ∧ RepR K φ H d v ∧ RepR K φ H e w ∧ RepR K φ H f u := by
  cases h with
  | cons h1 t => cases t with
    | cons h2 t => cases t with
      | cons h3 t => cases t; exact ⟨_, _, _, rfl, h1, h2, h3⟩
section
variable {X : Cx} {C : Ctx} {o : Bool} {a b c : Expr} {oa ob oc : Opd} {p2 pos : Pos}
theorem opd_sl00 : OpD C true (fun vs H Q => ∃ x, vs = [x] ∧ rSl C.K x none none H Q) gSl00 := by
  intro φ st σ H R ds vs d Q hr hg q
  match ds, hr, hg with
  | [d1], hr, hg =>
    obtain ⟨v, rfl, h1⟩ := hr.one
    exact ⟨v, rfl, opd_sl h1 hg q⟩
theorem opd_sl10 : OpD C true (fun vs H Q => ∃ x i, vs = [x, .int i] ∧ rSl C.K x (some i) none H Q) gSl10 := by
  intro φ st σ H R ds vs d Q hr hg q
  match ds, hr, hg with
  | [d1, .int i], hr, hg =>
    obtain ⟨v, w, rfl, h1, h2⟩ := hr.two
    rw [h2.int]
    exact ⟨v, i, rfl, opd_sl h1 hg q⟩
theorem opd_sl01 : OpD C true (fun vs H Q => ∃ x i, vs = [x, .int i] ∧ rSl C.K x none (some i) H Q) gSl01 := by
  intro φ st σ H R ds vs d Q hr hg q
  match ds, hr, hg with
  | [d1, .int i], hr, hg =>
    obtain ⟨v, w, rfl, h1, h2⟩ := hr.two
    rw [h2.int]
    exact ⟨v, i, rfl, opd_sl h1 hg q⟩
theorem opd_sl11 : OpD C true (fun vs H Q => ∃ x i j, vs = [x, .int i, .int j] ∧ rSl C.K x (some i) (some j) H Q) gSl11 := by
  intro φ st σ H R ds vs d Q hr hg q
  match ds, hr, hg with
  | [d1, .int i, .int j], hr, hg =>
    obtain ⟨v, w, u, rfl, h1, h2, h3⟩ := hr.three
    rw [h2.int, h3.int]
    exact ⟨v, i, j, rfl, opd_sl h1 hg q⟩
theorem tOpN2 {σ : SS} {H : Hp} {R : V → V → Hp → Prop} {S : List V → Hp → Prop} (e : ∀ x y H, S [x, y] H = R x y H) (h : tOpN C [oa, ob] σ H S) : opT C oa σ H fun x H1 => opT C ob σ H1 fun y H2 => R x y H2 := by
  have t : opT C oa σ H fun x H1 => opT C ob σ H1 fun y H2 => S [x, y] H2 := h
  have m1 : (fun x H1 => opT C ob σ H1 fun y H2 => S [x, y] H2) = fun x H1 => opT C ob σ H1 fun y H2 => R x y H2 := by
    funext x H1
    congr 1
    funext y H2
    exact e x y H2
  rw [m1] at t
  exact t
theorem tOpN3 {σ : SS} {H : Hp} {R : V → V → V → Hp → Prop} {S : List V → Hp → Prop} (e : ∀ x y z H, S [x, y, z] H = R x y z H) (h : tOpN C [oa, ob, oc] σ H S) : opT C oa σ H fun x H1 => opT C ob σ H1 fun y H2 => opT C oc σ H2 fun z H3 => R x y z H3 := by
  have t : opT C oa σ H fun x H1 => opT C ob σ H1 fun y H2 => opT C oc σ H2 fun z H3 => S [x, y, z] H3 := h
  have m1 : (fun x H1 => opT C ob σ H1 fun y H2 => opT C oc σ H2 fun z H3 => S [x, y, z] H3) = fun x H1 => opT C ob σ H1 fun y H2 => opT C oc σ H2 fun z H3 => R x y z H3 := by
    funext x H1
    congr 1
    funext y H2
    congr 1
    funext z H3
    exact e x y z H3
  rw [m1] at t
  exact t
theorem me_sl00O (hk : X.K = C.K) (ha : MO X C a oa) : ME X C true (.Subscript a (.Slice none none none p2) pos) (eOp gSl00 [oa]) :=
  PE.weak (pe_slice sl_all ha.pe po_none po_none) fun σ H Q h => by
    rw [hk]
    exact run_un ha opd_sl00 h
theorem me_sl10O (hk : X.K = C.K) (ha : MO X C a oa) (hb : MO X C b ob) : ME X C true (.Subscript a (.Slice (some b) none none p2) pos) (eOp gSl10 [oa, ob]) :=
  PE.weak (pe_slice sl_all ha.pe (po_some hb.pe) po_none) fun σ H Q h => by
    rw [hk]
    refine tOpN2 (fun x y H => ?_) (run_op (.cons ha (.cons hb .nil)) opd_sl10 h)
    refine propext ⟨fun ⟨x', i, e, q⟩ => ?_, fun ⟨i, e, q⟩ => ⟨x, i, by rw [e], q⟩⟩
    cases e
    exact ⟨i, rfl, q⟩
theorem me_sl01O (hk : X.K = C.K) (ha : MO X C a oa) (hb : MO X C b ob) : ME X C true (.Subscript a (.Slice none (some b) none p2) pos) (eOp gSl01 [oa, ob]) :=
  PE.weak (pe_slice sl_all ha.pe po_none (po_some hb.pe)) fun σ H Q h => by
    rw [hk]
    refine tOpN2 (fun x y H => ?_) (run_op (.cons ha (.cons hb .nil)) opd_sl01 h)
    refine propext ⟨fun ⟨x', i, e, q⟩ => ?_, fun ⟨i, e, q⟩ => ⟨x, i, by rw [e], q⟩⟩
    cases e
    exact ⟨i, rfl, q⟩
/-- a part of a slice: it is an int -/
def chkI (m : MS → Res D) : MS → Res D := fun st => (m st).bind fun d st1 => match d with
  | .int i => .ok (.int i) st1
  | _ => .stuck
theorem tV_chkI {m : MS → Res D} {σ : SS} {H : Hp} {R : V → Hp → Prop} (h : tV C false (chkI m) σ H R) : tV C false m σ H fun y H1 => ∃ i, y = .int i ∧ R (.int i) H1 := by
  obtain ⟨st, φ, rel, q⟩ := h
  unfold chkI at q
  refine ⟨st, φ, rel, Post.mono (Post.bind q) fun d st1 φ1 H1 R1 S1 q1 v hv => ?_⟩
  cases d with
  | int i =>
    have e : v = .int i := by
      have := hv.rep
      unfold RepD at this
      exact this
    exact ⟨i, e, q1 φ1 H1 R1 .refl (.int i) rep_int⟩
  | _ => exact q1.elim
theorem tV_mono {o : Bool} {m : MS → Res D} {σ : SS} {H : Hp} {R R' : V → Hp → Prop} (f : ∀ v H, R v H → R' v H) (h : tV C o m σ H R) : tV C o m σ H R' := by
  obtain ⟨st, φ, rel, q⟩ := h
  exact ⟨st, φ, rel, Post.mono q fun d st1 φ1 H1 R1 S1 q1 v hv => f v H1 (q1 v hv)⟩
theorem opT_mono {σ : SS} {H : Hp} {R R' : V → Hp → Prop} (f : ∀ v H, R v H → R' v H) (h : opT C oa σ H R) : opT C oa σ H R' := by
  cases oa with
  | val m => exact tV_mono (o := false) f h
  | own i => exact match h with | ⟨v, e, q⟩ => ⟨v, e, f v H q⟩
theorem me_sl11O {mb : MS → Res D} (hk : X.K = C.K) (ha : MO X C a oa) (hb : ME X C false b mb) (hc : MO X C c oc) : ME X C true (.Subscript a (.Slice (some b) (some c) none p2) pos) (eOp gSl11 [oa, .val (chkI mb), oc]) :=
  PE.weak (pe_slice sl_all ha.pe (po_some hb) (po_some hc.pe)) fun σ H Q h => by
    rw [hk]
    have hb' : MO X C b (.val (chkI mb)) := mo_val (PE.weak hb fun σ H Q z => tV_mono (fun v H q => by obtain ⟨i, rfl, q⟩ := q; exact q) (tV_chkI z))
    have t := tOpN3 (R := fun x y z H => ∃ x' i j, [x, y, z] = [x', .int i, .int j] ∧ rSl C.K x' (some i) (some j) H Q) (fun x y z H => rfl) (run_op (.cons ha (.cons hb' (.cons hc .nil))) opd_sl11 h)
    refine opT_mono (fun x H1 t1 => ?_) t
    refine tV_mono (fun y H2 t2 => ?_) (tV_chkI t1)
    obtain ⟨i, e, t2⟩ := t2
    refine ⟨i, e, opT_mono (fun z H3 t3 => ?_) t2⟩
    obtain ⟨x', i', j, e, q⟩ := t3
    cases e
    exact ⟨j, rfl, q⟩
theorem me_sl00 (hk : X.K = C.K) (ha : MO X C a oa) : ME X C false (.Subscript a (.Slice none none none p2) pos) (eOp gSl00 [oa]) := (me_sl00O hk ha).fz
theorem me_sl10 (hk : X.K = C.K) (ha : MO X C a oa) (hb : MO X C b ob) : ME X C false (.Subscript a (.Slice (some b) none none p2) pos) (eOp gSl10 [oa, ob]) := (me_sl10O hk ha hb).fz
theorem me_sl01 (hk : X.K = C.K) (ha : MO X C a oa) (hb : MO X C b ob) : ME X C false (.Subscript a (.Slice none (some b) none p2) pos) (eOp gSl01 [oa, ob]) := (me_sl01O hk ha hb).fz
theorem me_sl11 {mb : MS → Res D} (hk : X.K = C.K) (ha : MO X C a oa) (hb : ME X C false b mb) (hc : MO X C c oc) : ME X C false (.Subscript a (.Slice (some b) (some c) none p2) pos) (eOp gSl11 [oa, .val (chkI mb), oc]) := (me_sl11O hk ha hb hc).fz
end
end Q
set_option Elab.async false
set_option linter.all false
set_option maxRecDepth 100000
set_option autoImplicit false
/-! QN: list(range), tuple(range); zip, enumerate, range with a step -/
namespace Q
open PySem PySem.Spec PyProof.Rows L2 PySem.SeqAt

theorem rep_upTo {K : KK} {φ : List Addr} {H : Hp} : ∀ (n : Nat) (lo : Int), RepAll K φ H (upTo lo n) ((List.range n).map fun i => V.int (lo + (i : Nat)))
  | 0, _ => .nil
  | n + 1, lo => by
    rw [List.range_succ_eq_map, List.map_cons, List.map_map]
    show RepAll K φ H (.int lo :: upTo (lo + 1) n) _
    refine RepAll.cons (by unfold RepD; simp) ?_
    have ih := rep_upTo (K := K) (φ := φ) (H := H) n (lo + 1)
    have e : ((fun i : Nat => V.int (lo + (i : Nat))) ∘ Nat.succ) = fun i : Nat => V.int (lo + 1 + (i : Nat)) := by
      funext i
      show V.int (lo + ((i + 1 : Nat) : Int)) = V.int (lo + 1 + (i : Nat))
      congr 1
      omega
    rw [e]
    exact ih
def gRg1 (f : List D → D) : List D → Option D
  | [.int n] => if -(2 ^ 62) ≤ n ∧ n ≤ 16777216 then some (f (upTo 0 n.toNat)) else none
  | _ => none
def gRg2 (f : List D → D) : List D → Option D
  | [.int i, .int j] => if -(2 ^ 62) ≤ i ∧ i < 2 ^ 62 ∧ -(2 ^ 62) ≤ j ∧ j < 2 ^ 62 ∧ (j - i).toNat ≤ 2 ^ 24 then some (f (upTo i (j - i).toNat)) else none
  | _ => none
section
variable {X : Cx} {C : Ctx} {o : Bool} {a b : Expr} {oa ob : Opd} {p p2 p3 pos : Pos}
theorem run_rg1 {f : List D → D} {Q : VK} {k : List V → HO} (hf : ∀ (φ : List Addr) H vs ds q, H q = none → RepAll C.K φ H ds vs → ValR C o φ H (upd H q (k vs)) (f ds) (.ref q)) : OpD C o (fun vs H Q => ∃ x, vs = [x] ∧ ∃ n, x = .int n ∧ (RgOk 0 n ∧ ∀ q, H q = none → Q (.ref q) (upd H q (k (rgV 0 n))))) (gRg1 f) := by
  intro φ st σ H R ds vs d Q hr hg q
  match ds, hr, hg with
  | [.int n], hr, hg =>
    obtain ⟨v, rfl, h1⟩ := hr.one
    have hg : (if -(2 ^ 62) ≤ n ∧ n ≤ 16777216 then some (f (upTo 0 n.toNat)) else none) = some d := hg
    split at hg
    · rename_i hc
      cases hg
      refine ⟨v, rfl, n, h1.int, ⟨by decide, by decide, hc.1, by omega, by omega⟩, fun p hp => q _ _ (same_new hp) (hf φ H _ _ p hp ?_)⟩
      unfold rgV
      have := rep_upTo (K := C.K) (φ := φ) (H := H) n.toNat 0
      rw [Int.sub_zero]
      exact this
    · cases hg
theorem run_rg2 {f : List D → D} {k : List V → HO} (hf : ∀ (φ : List Addr) H vs ds q, H q = none → RepAll C.K φ H ds vs → ValR C o φ H (upd H q (k vs)) (f ds) (.ref q)) : OpD C o (fun vs H Q => ∃ x y, vs = [x, y] ∧ ∃ i j, x = .int i ∧ y = .int j ∧ (RgOk i j ∧ ∀ q, H q = none → Q (.ref q) (upd H q (k (rgV i j))))) (gRg2 f) := by
  intro φ st σ H R ds vs d Q hr hg q
  match ds, hr, hg with
  | [.int i, .int j], hr, hg =>
    obtain ⟨v, w, rfl, h1, h2⟩ := hr.two
    have hg : (if -(2 ^ 62) ≤ i ∧ i < 2 ^ 62 ∧ -(2 ^ 62) ≤ j ∧ j < 2 ^ 62 ∧ (j - i).toNat ≤ 2 ^ 24 then some (f (upTo i (j - i).toNat)) else none) = some d := hg
    split at hg
    · rename_i hc
      cases hg
      refine ⟨v, w, rfl, i, j, h1.int, h2.int, ⟨hc.1, hc.2.1, hc.2.2.1, hc.2.2.2.1, hc.2.2.2.2⟩, fun p hp => q _ _ (same_new hp) (hf φ H _ _ p hp ?_)⟩
      exact rep_upTo (K := C.K) (φ := φ) (H := H) (j - i).toNat i
    · cases hg
theorem tOp2 {σ : SS} {H : Hp} {R : V → V → Hp → Prop} {S : List V → Hp → Prop} (e : ∀ x y H, S [x, y] H = R x y H) (h : tOpN C [oa, ob] σ H S) : opT C oa σ H fun x H1 => opT C ob σ H1 fun y H2 => R x y H2 := tOpN2 e h
theorem me_lstRg1O (hc : X.calm = true) (hg : Gl X "list") (hm : X.mg "list" = none) (hg2 : Gl X "range") (hm2 : X.mg "range" = none) (ha : MO X C a oa) (na : starEach [a] X.env = (false, eval a X.env) :: starEach [] X.env := by rfl) (nb : starEach [.Call (.Name "range" p2) [a] [] p3] X.env = (false, eval (.Call (.Name "range" p2) [a] [] p3) X.env) :: starEach [] X.env := by rfl) :
    ME X C true (.Call (.Name "list" p) [.Call (.Name "range" p2) [a] [] p3] [] pos) (eOp (gRg1 .lst) [oa]) :=
  PE.weak (pe_listRg hc hg hm (prg_1 hg2 hm2 ha.pe na) nb) fun σ H Q h => run_un (r := fun x H Q => ∃ n, x = .int n ∧ (RgOk 0 n ∧ ∀ q, H q = none → Q (.ref q) (upd H q (.lst (rgV 0 n))))) ha (run_rg1 (Q := Q) (k := .lst) fun φ H vs ds q hq r => newL hq r) h
theorem me_lstRg1 (hc : X.calm = true) (hg : Gl X "list") (hm : X.mg "list" = none) (hg2 : Gl X "range") (hm2 : X.mg "range" = none) (ha : MO X C a oa) (na : starEach [a] X.env = (false, eval a X.env) :: starEach [] X.env := by rfl) (nb : starEach [.Call (.Name "range" p2) [a] [] p3] X.env = (false, eval (.Call (.Name "range" p2) [a] [] p3) X.env) :: starEach [] X.env := by rfl) :
    ME X C false (.Call (.Name "list" p) [.Call (.Name "range" p2) [a] [] p3] [] pos) (eOp (gRg1 .lst) [oa]) := (me_lstRg1O hc hg hm hg2 hm2 ha na nb).fz
theorem me_tupRg1 (hc : X.calm = true) (hg : Gl X "tuple") (hm : X.mg "tuple" = none) (hg2 : Gl X "range") (hm2 : X.mg "range" = none) (ha : MO X C a oa) (na : starEach [a] X.env = (false, eval a X.env) :: starEach [] X.env := by rfl) (nb : starEach [.Call (.Name "range" p2) [a] [] p3] X.env = (false, eval (.Call (.Name "range" p2) [a] [] p3) X.env) :: starEach [] X.env := by rfl) :
    ME X C o (.Call (.Name "tuple" p) [.Call (.Name "range" p2) [a] [] p3] [] pos) (eOp (gRg1 .tup) [oa]) :=
  PE.weak (pe_tupRg hc hg hm (prg_1 hg2 hm2 ha.pe na) nb) fun σ H Q h => run_un (r := fun x H Q => ∃ n, x = .int n ∧ (RgOk 0 n ∧ ∀ q, H q = none → Q (.ref q) (upd H q (.tup (rgV 0 n))))) ha (run_rg1 (Q := Q) (k := .tup) fun φ H vs ds q hq r => newT hq r) h
theorem me_lstRg2O (hc : X.calm = true) (hg : Gl X "list") (hm : X.mg "list" = none) (hg2 : Gl X "range") (hm2 : X.mg "range" = none) (ha : MO X C a oa) (hb : MO X C b ob) (na : starEach [a, b] X.env = (false, eval a X.env) :: starEach [b] X.env := by rfl) (na2 : starEach [b] X.env = (false, eval b X.env) :: starEach [] X.env := by rfl) (hp : (backTo p3 (starEach [b] X.env)).any (·.1) = false := by rfl) (nb : starEach [.Call (.Name "range" p2) [a, b] [] p3] X.env = (false, eval (.Call (.Name "range" p2) [a, b] [] p3) X.env) :: starEach [] X.env := by rfl) :
    ME X C true (.Call (.Name "list" p) [.Call (.Name "range" p2) [a, b] [] p3] [] pos) (eOp (gRg2 .lst) [oa, ob]) :=
  PE.weak (pe_listRg hc hg hm (prg_2 hg2 hm2 ha.pe hb.pe na na2 hp) nb) fun σ H Q h => tOp2 (fun x y H => propext ⟨fun ⟨x', y', e, q⟩ => by cases e; exact q, fun q => ⟨x, y, rfl, q⟩⟩) (run_op (.cons ha (.cons hb .nil)) (run_rg2 (k := .lst) fun φ H vs ds q hq r => newL hq r) h)
theorem me_lstRg2 (hc : X.calm = true) (hg : Gl X "list") (hm : X.mg "list" = none) (hg2 : Gl X "range") (hm2 : X.mg "range" = none) (ha : MO X C a oa) (hb : MO X C b ob) (na : starEach [a, b] X.env = (false, eval a X.env) :: starEach [b] X.env := by rfl) (na2 : starEach [b] X.env = (false, eval b X.env) :: starEach [] X.env := by rfl) (hp : (backTo p3 (starEach [b] X.env)).any (·.1) = false := by rfl) (nb : starEach [.Call (.Name "range" p2) [a, b] [] p3] X.env = (false, eval (.Call (.Name "range" p2) [a, b] [] p3) X.env) :: starEach [] X.env := by rfl) :
    ME X C false (.Call (.Name "list" p) [.Call (.Name "range" p2) [a, b] [] p3] [] pos) (eOp (gRg2 .lst) [oa, ob]) := (me_lstRg2O hc hg hm hg2 hm2 ha hb na na2 hp nb).fz
theorem me_tupRg2 (hc : X.calm = true) (hg : Gl X "tuple") (hm : X.mg "tuple" = none) (hg2 : Gl X "range") (hm2 : X.mg "range" = none) (ha : MO X C a oa) (hb : MO X C b ob) (na : starEach [a, b] X.env = (false, eval a X.env) :: starEach [b] X.env := by rfl) (na2 : starEach [b] X.env = (false, eval b X.env) :: starEach [] X.env := by rfl) (hp : (backTo p3 (starEach [b] X.env)).any (·.1) = false := by rfl) (nb : starEach [.Call (.Name "range" p2) [a, b] [] p3] X.env = (false, eval (.Call (.Name "range" p2) [a, b] [] p3) X.env) :: starEach [] X.env := by rfl) :
    ME X C o (.Call (.Name "tuple" p) [.Call (.Name "range" p2) [a, b] [] p3] [] pos) (eOp (gRg2 .tup) [oa, ob]) :=
  PE.weak (pe_tupRg hc hg hm (prg_2 hg2 hm2 ha.pe hb.pe na na2 hp) nb) fun σ H Q h => tOp2 (fun x y H => propext ⟨fun ⟨x', y', e, q⟩ => by cases e; exact q, fun q => ⟨x, y, rfl, q⟩⟩) (run_op (.cons ha (.cons hb .nil)) (run_rg2 (k := .tup) fun φ H vs ds q hq r => newT hq r) h)
end

/-! ### zip, enumerate -/
def zipD : List D → List D → List D
  | x :: xs, y :: ys => .tup [x, y] :: zipD xs ys
  | _, _ => []
theorem zipD_get : ∀ (xs ys : List D) (i : Nat) (d : D), (zipD xs ys)[i]? = some d → ∃ x y, xs[i]? = some x ∧ ys[i]? = some y ∧ d = .tup [x, y]
  | [], _, _, _, h => by simp [zipD] at h
  | _ :: _, [], _, _, h => by simp [zipD] at h
  | x :: xs, y :: ys, 0, d, h => by simp [zipD] at h; exact ⟨x, y, rfl, rfl, h.symm⟩
  | x :: xs, y :: ys, i + 1, d, h => zipD_get xs ys i d (by simpa [zipD] using h)
theorem zipD_end : ∀ (xs ys : List D), xs.length ≤ (zipD xs ys).length ∨ ys.length ≤ (zipD xs ys).length
  | [], _ => .inl (Nat.zero_le _)
  | _ :: _, [] => .inr (Nat.zero_le _)
  | x :: xs, y :: ys => by
    rcases zipD_end xs ys with h | h
    · exact .inl (Nat.succ_le_succ h)
    · exact .inr (Nat.succ_le_succ h)
def numD : Int → List D → List D
  | _, [] => []
  | n, x :: xs => .tup [.int n, x] :: numD (n + 1) xs
theorem numD_get : ∀ (xs : List D) (n : Int) (i : Nat) (d : D), (numD n xs)[i]? = some d → ∃ x, xs[i]? = some x ∧ d = .tup [.int (n + i), x]
  | [], _, _, _, h => by simp [numD] at h
  | x :: xs, n, 0, d, h => by simp [numD] at h; exact ⟨x, rfl, by rw [← h]; simp⟩
  | x :: xs, n, i + 1, d, h => by
    obtain ⟨y, h1, h2⟩ := numD_get xs (n + 1) i d (by simpa [numD] using h)
    refine ⟨y, by simpa using h1, ?_⟩
    rw [h2, Int.add_assoc, Int.add_comm 1]
    rfl
theorem numD_length : ∀ (xs : List D) (n : Int), (numD n xs).length = xs.length
  | [], _ => rfl
  | _ :: xs, n => by show (numD (n + 1) xs).length + 1 = xs.length + 1; rw [numD_length xs]
section
variable {C : Ctx} {φ : List Addr} {H : Hp} {a b : Addr} {xs ys : List D} {vs ws : List V}
theorem lit_zipL (h1 : FrzL C.K H a vs) (r1 : RepAll C.K φ H xs vs) (h2 : FrzL C.K H b ws) (r2 : RepAll C.K φ H ys ws) : LIt C (Itz C.K a b) φ H (zipD xs ys) := by
  refine ⟨fun i d φ' H' e S => ?_, fun φ' H' S => ⟨vs, ws, (h1.mono S.fz).sql, (h2.mono S.fz).sql, ?_⟩⟩
  · obtain ⟨x, y, ex, ey, rfl⟩ := zipD_get xs ys i d e
    obtain ⟨v, hv, rv⟩ := r1.get ex
    obtain ⟨w, hw, rw'⟩ := r2.get ey
    have s1 := (h1.mono S.fz).sql
    have s2 := (h2.mono S.fz).sql
    refine ⟨⟨vs, ws, v, w, s1, s2, hv, hw⟩, fun u H'' ⟨T, x', y', eu, hT, eH, f1, f2⟩ => ?_⟩
    subst eu eH
    have e1 := f1 vs s1
    have e2 := f2 ws s2
    rw [hv] at e1
    rw [hw] at e2
    cases e1
    cases e2
    refine ⟨same_new hT, ?_⟩
    unfold RepD
    refine ⟨T, [v, w], rfl, .inl (.inl upd_same), ?_⟩
    exact RepAll.same (same_new hT) (.cons (rv.mono S.fz S.pre) (.cons (rw'.mono S.fz S.pre) .nil))
  · rw [← r1.length, ← r2.length]
    exact zipD_end xs ys
theorem lit_zipT (h1 : SqT C.K H a vs) (r1 : RepAll C.K φ H xs vs) (h2 : SqT C.K H b ws) (r2 : RepAll C.K φ H ys ws) : LIt C (RZ.ItzT C.K a b) φ H (zipD xs ys) := by
  refine ⟨fun i d φ' H' e S => ?_, fun φ' H' S => ⟨vs, ws, SqT.mono S.fz h1, SqT.mono S.fz h2, ?_⟩⟩
  · obtain ⟨x, y, ex, ey, rfl⟩ := zipD_get xs ys i d e
    obtain ⟨v, hv, rv⟩ := r1.get ex
    obtain ⟨w, hw, rw'⟩ := r2.get ey
    have s1 := SqT.mono S.fz h1
    have s2 := SqT.mono S.fz h2
    refine ⟨⟨vs, ws, v, w, s1, s2, hv, hw⟩, fun u H'' ⟨T, x', y', eu, hT, eH, f1, f2⟩ => ?_⟩
    subst eu eH
    have e1 := f1 vs s1
    have e2 := f2 ws s2
    rw [hv] at e1
    rw [hw] at e2
    cases e1
    cases e2
    refine ⟨same_new hT, ?_⟩
    unfold RepD
    refine ⟨T, [v, w], rfl, .inl (.inl upd_same), ?_⟩
    exact RepAll.same (same_new hT) (.cons (rv.mono S.fz S.pre) (.cons (rw'.mono S.fz S.pre) .nil))
  · rw [← r1.length, ← r2.length]
    exact zipD_end xs ys
theorem lit_enum (h1 : FrzL C.K H a vs) (r1 : RepAll C.K φ H xs vs) : LIt C (Ite C.K a) φ H (numD 0 xs) := by
  refine ⟨fun i d φ' H' e S => ?_, fun φ' H' S => ⟨vs, (h1.mono S.fz).sql, ?_⟩⟩
  · obtain ⟨x, ex, rfl⟩ := numD_get xs 0 i d e
    obtain ⟨v, hv, rv⟩ := r1.get ex
    have s1 := (h1.mono S.fz).sql
    refine ⟨⟨vs, v, s1, hv⟩, fun u H'' ⟨T, x', eu, hT, eH, f1⟩ => ?_⟩
    subst eu eH
    have e1 := f1 vs s1
    rw [hv] at e1
    cases e1
    refine ⟨same_new hT, ?_⟩
    unfold RepD
    refine ⟨T, [.int (i : Nat), v], rfl, .inl (.inl upd_same), ?_⟩
    refine RepAll.same (same_new hT) (.cons ?_ (.cons (rv.mono S.fz S.pre) .nil))
    rw [Int.zero_add]
    unfold RepD
    rfl
  · rw [numD_length, r1.length]
    exact Nat.le_refl _
end
def zipG : List D → Option (List D)
  | [.tup xs, .tup ys] => some (zipD xs ys)
  | [.lst xs, .lst ys] => some (zipD xs ys)
  | [.raw xs, .lst ys] => some (zipD xs ys)
  | _ => none
def enumG : List D → Option (List D)
  | [.lst xs] => some (numD 0 xs)
  | [.raw xs] => some (numD 0 xs)
  | _ => none
theorem zipG_inv {ds l : List D} (h : zipG ds = some l) : (∃ xs ys, ds = [.tup xs, .tup ys] ∧ l = zipD xs ys) ∨ (∃ xs ys, ds = [.lst xs, .lst ys] ∧ l = zipD xs ys) ∨ ∃ xs ys, ds = [.raw xs, .lst ys] ∧ l = zipD xs ys := by
  unfold zipG at h
  split at h
  · cases h; exact .inl ⟨_, _, rfl, rfl⟩
  · cases h; exact .inr (.inl ⟨_, _, rfl, rfl⟩)
  · cases h; exact .inr (.inr ⟨_, _, rfl, rfl⟩)
  · cases h
theorem enumG_inv {ds l : List D} (h : enumG ds = some l) : (∃ xs, ds = [.lst xs] ∧ l = numD 0 xs) ∨ ∃ xs, ds = [.raw xs] ∧ l = numD 0 xs := by
  unfold enumG at h
  split at h
  · cases h; exact .inl ⟨_, rfl, rfl⟩
  · cases h; exact .inr ⟨_, rfl, rfl⟩
  · cases h
def okL (g : List D → Option (List D)) (ds : List D) (st : MS) : Res (List D) := match g ds with
  | some l => .ok l st
  | none => .stuck
def iZip (ma mb : MS → Res D) : MS → Res (List D) := fun st => (opV [ma, mb] st).bind (okL zipG)
def iEnum (ma : MS → Res D) : MS → Res (List D) := fun st => (opV [ma] st).bind (okL enumG)
theorem RepAll.two {K : KK} {φ : List Addr} {H : Hp} {d e : D} {vs : List V} (h : RepAll K φ H [d, e] vs) : ∃ v w, vs = [v, w] ∧ RepD K φ H d v ∧ RepD K φ H e w := by
  obtain ⟨v, vr, rfl, h1, t⟩ := h.of_cons
  obtain ⟨w, wr, rfl, h2, t⟩ := t.of_cons
  rw [t.of_nil]
  exact ⟨v, w, rfl, h1, h2⟩
theorem RepAll.one {K : KK} {φ : List Addr} {H : Hp} {d : D} {vs : List V} (h : RepAll K φ H [d] vs) : ∃ v, vs = [v] ∧ RepD K φ H d v := by
  obtain ⟨v, vr, rfl, h1, t⟩ := h.of_cons
  rw [t.of_nil]
  exact ⟨v, rfl, h1⟩
/-- from an argument list of values to what is walked -/
theorem run_argsV {C : Ctx} {ms : List (MS → Res D)} {f : List D → MS → Res (List D)} {σ : SS} {H : Hp} {R : It → Hp → Prop} {r : List V → Hp → Prop}
    (h : tI C (fun st => (opV ms st).bind f) σ H R) (g : ∀ ds st' φ' H' vs, Rel C φ' st' σ H' → RepAll C.K φ' H' ds vs → Post C σ φ' H' (f ds st') (fun ds st' φ' H' => ∀ J, LIt C J φ' H' ds → R J H') → r vs H') : tOpN C (ms.map .val) σ H r := by
  obtain ⟨st, φ, rel, q⟩ := h
  have b := Post.bind q
  refine runV rel (Post.mono (P := fun ds st' φ' H' => Rel C φ' st' σ H' ∧ Post C σ φ' H' (f ds st') (fun ds st' φ' H' => ∀ J, LIt C J φ' H' ds → R J H')) (Post.mono b fun ds st' φ' H' R' S p => ⟨R', p⟩) fun ds st' φ' H' R' S p vs hvs => g ds st' φ' H' vs R' hvs p.2)
section
variable {X : Cx} {C : Ctx} {a b c : Expr} {ma mb : MS → Res D} {oa ob oc : Opd} {p pos tpos : Pos} {elts : List Expr} {kk : Nat} {tg : Expr}
theorem okL_post {g : List D → Option (List D)} {σ : SS} {φ : List Addr} {H : Hp} {ds : List D} {st : MS} {P : List D → MS → List Addr → Hp → Prop} (R : Rel C φ st σ H) (h : Post C σ φ H (okL g ds st) P) : ∃ l, g ds = some l ∧ P l st φ H := by
  unfold okL at h
  cases e : g ds with
  | none => rw [e] at h; exact h.elim
  | some l => rw [e] at h; exact ⟨l, rfl, h φ H R .refl⟩
theorem mi_zip (hk : X.K = C.K) (hg : Gl X "zip") (hm : X.mg "zip" = none) (ha : MV X C [a, b] [ma, mb]) (hs : starEach [a, b] X.env = (false, eval a X.env) :: starEach [b] X.env := by rfl) (hpl : (backTo pos (starEach [b] X.env)).any (·.1) = false := by rfl) :
    MI X C (.Tuple elts kk tpos) (.Call (.Name "zip" p) [a, b] [] pos) (iZip ma mb) := PI.weak (RZ.pi_zipA hg hm ha.pa hs hpl) fun σ H R h => run_argsV h fun ds st' φ' H' vs R' hr q => by
    rw [hk]
    obtain ⟨l, hz, q⟩ := okL_post R' q
    rcases zipG_inv hz with ⟨xs, ys, rfl, rfl⟩ | ⟨xs, ys, rfl, rfl⟩ | ⟨xs, ys, rfl, rfl⟩
    · obtain ⟨v, w, rfl, h1, h2⟩ := hr.two
      unfold RepD at h1 h2
      obtain ⟨l1, vs1, rfl, s1, r1⟩ := h1
      obtain ⟨l2, vs2, rfl, s2, r2⟩ := h2
      exact ⟨l1, l2, vs1, vs2, rfl, .inr ⟨s1, s2, q _ (lit_zipT s1 r1 s2 r2)⟩⟩
    · obtain ⟨v, w, rfl, h1, h2⟩ := hr.two
      unfold RepD at h1 h2
      obtain ⟨l1, o1, vs1, rfl, s1, r1⟩ := h1
      obtain ⟨l2, o2, vs2, rfl, s2, r2⟩ := h2
      exact ⟨l1, l2, vs1, vs2, rfl, .inl ⟨.inl (.inr ⟨o1, s1⟩), .inl (.inr ⟨o2, s2⟩), q _ (lit_zipL (.inl ⟨o1, s1⟩) r1 (.inl ⟨o2, s2⟩) r2)⟩⟩
    · obtain ⟨v, w, rfl, h1, h2⟩ := hr.two
      unfold RepD at h1 h2
      obtain ⟨l1, vs1, rfl, s1, r1⟩ := h1
      obtain ⟨l2, o2, vs2, rfl, s2, r2⟩ := h2
      exact ⟨l1, l2, vs1, vs2, rfl, .inl ⟨s1.sql, .inl (.inr ⟨o2, s2⟩), q _ (lit_zipL s1 r1 (.inl ⟨o2, s2⟩) r2)⟩⟩
theorem mi_enum (hk : X.K = C.K) (hg : Gl X "enumerate") (hm : X.mg "enumerate" = none) (ha : MV X C [a] [ma]) (hs : starEach [a] X.env = [(false, eval a X.env)] := by rfl) :
    MI X C (.Tuple elts kk tpos) (.Call (.Name "enumerate" p) [a] [] pos) (iEnum ma) := PI.weak (pi_enum hg hm ha.pa hs) fun σ H R h => run_argsV h fun ds st' φ' H' vs R' hr q => by
    rw [hk]
    obtain ⟨l, hz, q⟩ := okL_post R' q
    rcases enumG_inv hz with ⟨xs, rfl, rfl⟩ | ⟨xs, rfl, rfl⟩
    · obtain ⟨v, rfl, h1⟩ := hr.one
      unfold RepD at h1
      obtain ⟨l1, o1, vs1, rfl, s1, r1⟩ := h1
      exact ⟨l1, vs1, rfl, .inl (.inr ⟨o1, s1⟩), q _ (lit_enum (.inl ⟨o1, s1⟩) r1)⟩
    · obtain ⟨v, rfl, h1⟩ := hr.one
      unfold RepD at h1
      obtain ⟨l1, vs1, rfl, s1, r1⟩ := h1
      exact ⟨l1, vs1, rfl, s1.sql, q _ (lit_enum s1 r1)⟩
/-! ### range with a step -/
def stepD (lo c : Int) : Nat → List D
  | 0 => []
  | n + 1 => .int lo :: stepD (lo + c) c n
theorem stepD_length (c : Int) : ∀ (n : Nat) (lo : Int), (stepD lo c n).length = n
  | 0, _ => rfl
  | n + 1, lo => by show (stepD (lo + c) c n).length + 1 = n + 1; rw [stepD_length c n (lo + c)]
theorem stepD_get (c : Int) : ∀ (n : Nat) (lo : Int) (i : Nat) (d : D), (stepD lo c n)[i]? = some d → i < n ∧ d = .int (lo + (i : Nat) * c)
  | 0, _, _, _, h => by simp [stepD] at h
  | n + 1, lo, 0, d, h => by
    simp [stepD] at h
    exact ⟨Nat.succ_pos n, by rw [← h]; simp⟩
  | n + 1, lo, i + 1, d, h => by
    obtain ⟨h1, h2⟩ := stepD_get c n (lo + c) i d (by simpa [stepD] using h)
    refine ⟨Nat.succ_lt_succ h1, ?_⟩
    rw [h2]
    congr 1
    have e : ((i + 1 : Nat) : Int) = (i : Int) + 1 := rfl
    rw [e, Int.add_mul, Int.one_mul]
    omega
def stepN (i j c : Int) : Int := if c > 0 then (if i < j then (j - i - 1) / c + 1 else 0) else (if i > j then (i - j - 1) / (-c) + 1 else 0)
def stepG : List D → Option (List D)
  | [.int i, .int j, .int k] => if k ≠ 0 ∧ k.natAbs < 1073741824 ∧ Builtin.Range.small i j k = true then some (stepD i k (stepN i j k).toNat) else none
  | _ => none
def iRange3 (a b c : Opd) : MS → Res (List D) := fun st => (opN [a, b, c] st).bind (okL stepG)
theorem lit_range3 {φ : List Addr} {H : Hp} {lo c : Int} {n : Nat} : LIt C (Itc lo c n) φ H (stepD lo c n) := by
  refine ⟨fun i d φ' H' e S => ?_, fun φ' H' S => ?_⟩
  · obtain ⟨h1, h2⟩ := stepD_get c n lo i d e
    refine ⟨h1, fun x H'' ⟨eH, hx⟩ => ?_⟩
    subst eH hx h2
    exact ⟨Same.refl _, by unfold RepD; rfl⟩
  · show n ≤ (stepD lo c n).length
    rw [stepD_length]
    exact Nat.le_refl n
theorem mi_range3 (hg : Gl X "range") (hm : X.mg "range" = none) (ha : MA X C [a, b, c] [oa, ob, oc]) (hs : starEach [a, b, c] X.env = (false, eval a X.env) :: starEach [b, c] X.env := by rfl) (hpl : (backTo pos (starEach [b, c] X.env)).any (·.1) = false := by rfl) :
    MI X C tg (.Call (.Name "range" p) [a, b, c] [] pos) (iRange3 oa ob oc) :=
  PI.weak (pi_range3 hg hm ha.pa hs hpl) fun σ H R h => run_args ha.all h fun ds st' φ' H' vs R' hr q => by
    obtain ⟨l, hz, q⟩ := okL_post R' q
    match ds, hr, hz with
    | [.int i, .int j, .int k], hr, hz =>
      obtain ⟨v, w, u, rfl, h1, h2, h3⟩ := hr.three
      rw [h1.int, h2.int, h3.int]
      have hz : (if k ≠ 0 ∧ k.natAbs < 1073741824 ∧ Builtin.Range.small i j k = true then some (stepD i k (stepN i j k).toNat) else none) = some l := hz
      split at hz
      · rename_i hc
        cases hz
        exact ⟨i, j, k, (stepN i j k).toNat, rfl, ⟨hc.1, hc.2.1, hc.2.2, rangeSize_toNat i j k⟩, q _ lit_range3⟩
      · cases hz
end
end Q
set_option Elab.async false
set_option linter.all false
set_option maxRecDepth 100000
set_option autoImplicit false
/-! QO: sorted -/
namespace Q
open PySem PySem.Spec PyProof.Rows L2 PySem.SeqAt

section
variable {α : Type}
def insB (le : α → α → Bool) (x : α) : List α → List α
  | [] => [x]
  | y :: ys => if le x y = true then x :: y :: ys else y :: insB le x ys
def isort (le : α → α → Bool) : List α → List α
  | [] => []
  | x :: xs => insB le x (isort le xs)
theorem insB_at {le : α → α → Bool} (x : α) : ∀ (l₁ l₂ : List α), (∀ b ∈ l₁, (!le x b) = true) → (∀ b ∈ l₂, le x b = true) → insB le x (l₁ ++ l₂) = l₁ ++ x :: l₂
  | [], [], _, _ => rfl
  | [], y :: ys, _, h => by
    show (if le x y = true then x :: y :: ys else y :: insB le x ys) = _
    rw [if_pos (h y List.mem_cons_self)]
    rfl
  | y :: ys, l₂, h1, h2 => by
    have h := h1 y List.mem_cons_self
    have e : le x y = false := by simpa using h
    show (if le x y = true then x :: y :: (ys ++ l₂) else y :: insB le x (ys ++ l₂)) = _
    rw [e, if_neg Bool.false_ne_true, insB_at x ys l₂ (fun b hb => h1 b (List.mem_cons_of_mem _ hb)) h2]
    rfl
theorem mergeSort_isort {le : α → α → Bool} (trans : ∀ (a b c : α), le a b → le b c → le a c) (total : ∀ (a b : α), le a b || le b a) : ∀ l : List α, l.mergeSort le = isort le l
  | [] => by simp [isort]
  | a :: l => by
    obtain ⟨l₁, l₂, e1, e2, e3⟩ := List.mergeSort_cons trans total a l
    have ih := mergeSort_isort trans total l
    show _ = insB le a (isort le l)
    rw [← ih, e2, e1]
    have s := List.pairwise_mergeSort trans total (a :: l)
    rw [e1] at s
    have s2 := (List.pairwise_append.mp s).2.1
    exact (insB_at a l₁ l₂ (fun b hb => e3 b hb) (fun b hb => (List.pairwise_cons.mp s2).1 b hb)).symm
theorem insB_perm {le : α → α → Bool} (x : α) : ∀ l : List α, (insB le x l).Perm (x :: l)
  | [] => .refl _
  | y :: ys => by
    unfold insB
    split
    · exact .refl _
    · exact ((insB_perm x ys).cons y).trans (List.Perm.swap x y ys)
theorem isort_perm {le : α → α → Bool} : ∀ l : List α, (isort le l).Perm l
  | [] => .refl _
  | x :: xs => (insB_perm x (isort le xs)).trans ((isort_perm xs).cons x)
end

def leD : D → D → Bool := PySem.W.dataLe false D.py
theorem sort_leD (l : List D) : l.mergeSort (PySem.W.dataLe false D.py) = isort leD l :=
  mergeSort_isort (fun a b c h1 h2 => (PySem.W.sortLe_total (listOrd itemOrd) false fun b => PySem.W.keyToks (D.py b)).trans a b c h1 h2) (fun a b => by
    have := (PySem.W.sortLe_total (listOrd itemOrd) false fun b => PySem.W.keyToks (D.py b)).total a b
    simpa using this) l
def tup1 : D → Bool
  | .tup (_ :: _) => true
  | _ => false
def notTN : D → Bool
  | .tup _ => false
  | .non => false
  | _ => true
def sortOk (ds : List D) : Bool := D.plAll ds && (ds.all (D.sh 8) && ((ds.all fun d => ds.all fun e => PySem.W.alike d.py e.py) && ((ds.all tup1 || ds.all notTN) && decide (ds.length ≤ sizeLine))))
theorem plAll_mem : ∀ {ds : List D}, D.plAll ds = true → ∀ d ∈ ds, d.pl = true
  | [], _, _, h => by cases h
  | x :: xs, h, d, hd => by
    unfold D.plAll at h
    rw [Bool.and_eq_true] at h
    rcases List.mem_cons.mp hd with rfl | hd
    · exact h.1
    · exact plAll_mem h.2 d hd
theorem notTN_py {d : D} (pd : d.pl = true) (h : notTN d = true) : d.py ≠ .none ∧ ∀ xs, d.py ≠ .tuple xs := by
  cases d with
  | non => cases h
  | tup xs => cases h
  | bl b => unfold D.py; refine ⟨?_, fun xs => ?_⟩ <;> (intro z; cases z)
  | int b => unfold D.py; refine ⟨?_, fun xs => ?_⟩ <;> (intro z; cases z)
  | str b => unfold D.py; refine ⟨?_, fun xs => ?_⟩ <;> (intro z; cases z)
  | lst b => unfold D.py; refine ⟨?_, fun xs => ?_⟩ <;> (intro z; cases z)
  | _ => unfold D.pl at pd; cases pd
theorem tup1_py {d : D} (h : tup1 d = true) : ∃ x r, d.py = .tuple (x :: r) := by
  cases d with
  | tup xs =>
    cases xs with
    | nil => cases h
    | cons x xs => unfold D.py D.pyAll; exact ⟨_, _, rfl⟩
  | _ => cases h
/-- sorted(xs), xs a list of data of one kind -/
def rSorted (k : KK) : List V → Hp → VK → Prop := fun vs H Q => ∃ (φ : List Addr) (ds : List D) (v : V), vs = [v] ∧ RepR k φ H (.lst ds) v ∧ sortOk ds = true ∧ ∀ (p : Addr) (ws : List V), H p = none → RepAll k φ H (isort leD ds) ws → Q (.ref p) (upd H p (.lst ws))
theorem RepAll.of_each {K : KK} {φ : List Addr} {H : Hp} : ∀ {us : List Value} {ds : List D}, PySem.W.EachIs (fun u d => ∃ v, RelV v u ∧ RepD K φ H d v) us ds → ∃ vs, Vals vs us ∧ RepAll K φ H ds vs
  | _, _, .nil => ⟨[], .nil, .nil⟩
  | _, _, .cons ⟨v, r, h⟩ t => by
    obtain ⟨vs, r2, h2⟩ := RepAll.of_each t
    exact ⟨v :: vs, .cons r r2, .cons h h2⟩
theorem RepAll.each {K : KK} {φ : List Addr} {H : Hp} : ∀ {vs : List V} {us : List Value} {ds : List D}, Vals vs us → RepAll K φ H ds vs → PySem.W.EachIs (fun u d => ∃ v, RelV v u ∧ RepD K φ H d v) us ds
  | [], _, ds, r, h => by
    cases r
    cases ds with
    | nil => exact .nil
    | cons d ds => obtain ⟨_, _, e, _⟩ := h.of_cons; cases e
  | v :: vs, _, ds, r, h => by
    cases r with
    | cons r1 r2 =>
      cases ds with
      | nil => have := h.of_nil; cases this
      | cons d ds =>
        obtain ⟨v', vr, e, h1, h2⟩ := h.of_cons
        cases e
        exact .cons ⟨v, r1, h1⟩ (RepAll.each r2 h2)
theorem eachMemR {α β : Type} {R R' : α → β → Prop} : ∀ {as : List α} {bs : List β}, PySem.W.EachIs R as bs → (∀ a b, b ∈ bs → R a b → R' a b) → PySem.W.EachIs R' as bs
  | _, _, .nil, _ => .nil
  | _, _, .cons h t, f => .cons (f _ _ List.mem_cons_self h) (eachMemR t fun a b hb => f a b (List.mem_cons_of_mem _ hb))
theorem cr_sortedQ {X : Cx} {k : KK} (hk : X.K = k.f) (hu : X.A.units + 64 < cLine) : CallR X (.builtin "sorted") (rSorted k) := by
  intro pins s σ H vs us Q I r h
  obtain ⟨φ, ds, v, rfl, hr, hok, q⟩ := h
  unfold sortOk at hok
  rw [Bool.and_eq_true, Bool.and_eq_true, Bool.and_eq_true, Bool.and_eq_true] at hok
  obtain ⟨pl, sh, al, so, sz⟩ := hok
  obtain ⟨a, vs, rfl, rd, ra⟩ := hr.lst
  obtain ⟨its, rv, hl, hz⟩ := I.list (show SqL X.K H a vs from .inl rd)
  rw [Vals.ref1 r]
  have each := RepAll.each rv ra
  have er : PySem.W.EachIs (fun u d => ∃ as, Reads s.heap u (D.py d) as) its.toArray.toList ds := by
    rw [List.toList_toArray]
    refine eachMemR each fun u d hd ⟨w, rw', hw⟩ => ?_
    exact RepD.reads hk I d w u (plAll_mem pl d hd) hw rw'
  rw [List.toList_toArray] at er
  refine PySem.W.sorted_data (R := fun u d => ∃ v, RelV v u ∧ RepD k φ H d v) (enc := D.py) (bs := ds) hl.isList each er ?_ ?_ (by simpa using sz) (fun d hd => ?_) fun out ho eo => ?_
  · intro d hd d' hd'
    obtain ⟨x, hx, rfl⟩ := List.mem_map.mp hd
    obtain ⟨y, hy, rfl⟩ := List.mem_map.mp hd'
    exact List.all_eq_true.mp (List.all_eq_true.mp al x hx) y hy
  · rw [Bool.or_eq_true] at so
    rcases so with so | so
    · refine .inl fun d hd => ?_
      obtain ⟨x, hx, rfl⟩ := List.mem_map.mp hd
      exact tup1_py (List.all_eq_true.mp so x hx)
    · refine .inr fun d hd => ?_
      obtain ⟨x, hx, rfl⟩ := List.mem_map.mp hd
      exact notTN_py (plAll_mem pl x hx) (List.all_eq_true.mp so x hx)
  · have := D.sh_depth 8 d (plAll_mem pl d hd) (List.all_eq_true.mp sh d hd)
    omega
  · rw [sort_leD] at eo
    obtain ⟨ws, rw', hw⟩ := RepAll.of_each eo
    obtain ⟨ep, he'⟩ := PyProof.Rows.sortedAll_at s.heap its out.toArray
    have hlen : ws.length ≤ sizeLine := by
      rw [← hw.length, (isort_perm ds).length_eq]
      simpa using sz
    exact ⟨.ref _, upd H (s.heap.objs.size + 1) (.lst ws), I.laid (t' := s.toks) (fun _ _ => PyProof.Rows.sortedAll_old) (Nat.le_succ _) ⟨hlen, out, ep, rw', he'⟩, rfl, q _ ws (I.hok.fresh (Nat.le_succ _)) hw⟩
def gSorted : List D → Option D
  | [.lst ds] => if sortOk ds = true then some (.lst (isort leD ds)) else none
  | _ => none
theorem opd_sorted {C : Ctx} : OpD C true (rSorted C.K) gSorted := by
  intro φ st σ H R ds vs d Q hr hg q
  match ds, hr, hg with
  | [.lst xs], hr, hg =>
    obtain ⟨v, rfl, h1⟩ := hr.one
    have hg : (if sortOk xs = true then some (D.lst (isort leD xs)) else none) = some d := hg
    split at hg
    · rename_i hc
      cases hg
      exact ⟨φ, xs, v, rfl, h1, hc, fun p ws hp hw => q _ _ (same_new hp) (newL hp hw)⟩
    · cases hg
section
variable {X : Cx} {C : Ctx} {a : Expr} {oa : Opd} {p pos : Pos}
theorem me_sortedO (hk : X.K = C.K) (hu : X.A.units + 64 < cLine) (hg : Gl X "sorted") (hm : X.mg "sorted" = none) (ha : MO X C a oa) (hs : starEach [a] X.env = (false, eval a X.env) :: starEach [] X.env := by rfl) : ME X C true (.Call (.Name "sorted" p) [a] [] pos) (eOp gSorted [oa]) :=
  me_callB (cr_sortedQ hk hu) opd_sorted hg hm PyProof.Rows.boot_sorted (ma_cons ha ma_nil hs) (he := hs)
theorem me_sorted (hk : X.K = C.K) (hu : X.A.units + 64 < cLine) (hg : Gl X "sorted") (hm : X.mg "sorted" = none) (ha : MO X C a oa) (hs : starEach [a] X.env = (false, eval a X.env) :: starEach [] X.env := by rfl) : ME X C false (.Call (.Name "sorted" p) [a] [] pos) (eOp gSorted [oa]) := (me_sortedO hk hu hg hm ha hs).fz
end
end Q
set_option Elab.async false
set_option linter.all false
set_option maxRecDepth 100000
set_option autoImplicit false
/-! QP: comprehensions with two clauses -/
namespace Q
open PySem PySem.Spec PyProof.Rows L2 PySem.SeqAt

theorem lcL_open {vs : List Nat} {g : D → MS → Res Unit} {tt : MS → Res Bool} {te : MS → Res D} {d : D} {ds : List D} {st : MS} {acc all : List D} {st9 : MS} (h : ((lcL vs g tt te (d :: ds) st).bind fun ys st' => Res.ok (acc ++ ys) st') = Res.ok all st9) :
    ∃ u st1 b st2, g d (st.wipe vs) = .ok u st1 ∧ tt st1 = .ok b st2 ∧ ((b = false ∧ ((lcL vs g tt te ds st2).bind fun ys st' => Res.ok (acc ++ ys) st') = Res.ok all st9) ∨ (b = true ∧ ∃ y st3, te st2 = .ok y st3 ∧ acc.length + 1 ≤ all.length ∧ ((lcL vs g tt te ds st3).bind fun ys st' => Res.ok ((acc ++ [y]) ++ ys) st') = Res.ok all st9)) := by
  unfold lcL at h
  cases eg : g d (st.wipe vs) with
  | stuck => rw [eg] at h; cases h
  | err x st' => rw [eg] at h; cases h
  | ok u st1 =>
    rw [eg] at h
    cases et : tt st1 with
    | stuck => simp only [Res.safe, Res.bind, et] at h; cases h
    | err x st' => simp only [Res.safe, Res.bind, et] at h; cases h
    | ok b st2 =>
      refine ⟨u, st1, b, st2, rfl, et, ?_⟩
      cases b with
      | false =>
        simp only [Res.safe, Res.bind, et, Bool.false_eq_true, if_false] at h
        exact .inl ⟨rfl, h⟩
      | true =>
        cases ee : te st2 with
        | stuck => simp only [Res.safe, Res.bind, et, ee, if_true] at h; cases h
        | err x st' => simp only [Res.safe, Res.bind, et, ee, if_true] at h; cases h
        | ok y st3 =>
          simp only [Res.safe, Res.bind, et, ee, if_true] at h
          refine .inr ⟨rfl, y, st3, rfl, ?_, ?_⟩
          · cases el : lcL vs g tt te ds st3 with
            | stuck => rw [el] at h; cases h
            | err x st' => rw [el] at h; cases h
            | ok ys st' =>
              rw [el] at h
              cases h
              rw [List.length_append, List.length_cons]
              omega
          · rw [← h]
            cases lcL vs g tt te ds st3 with
            | ok ys st7 => simp only [Res.bind, List.append_assoc, List.singleton_append]
            | err x st7 => rfl
            | stuck => rfl
section
variable {C : Ctx} {vs : List Nat} {g : D → MS → Res Unit} {tt : MS → Res Bool} {te : MS → Res D} {σ : SS} {φ1 φ3 : List Addr} {H1 H4 : Hp} {L : Addr} {st3 st9 : MS} {acc0 all ds : List D} {av0 : List V} {J : It} {Nx : Hp → Prop}
theorem inner_lc (hv : ∀ v ∈ vs, C.own v = false) (hL : H1 L = none) (hL0 : C.H0 L = none) (nwL : ¬ Ow C σ L) (w0 : LcW C vs σ φ1 H1 L st3 φ3 H4 acc0 av0) (LI : LIt C J φ3 H4 ds) (e0 : ((lcL vs g tt te ds st3).bind fun ys st' => Res.ok (acc0 ++ ys) st') = .ok all st9) (hsz : all.length ≤ sizeLine)
    (hN : ∀ φ' H' av', LcW C vs σ φ1 H1 L st9 φ' H' all av' → Nx H') :
    ∃ W1 : Nat → Nat → Hp → Prop, (∃ m, W1 0 m H4) ∧ ∀ j k H, W1 j k H → (J.stop j H ∧ Nx H) ∨ (J.go j H ∧ ∃ Nx1 : Hp → Prop, (∀ H', Nx1 H' → ∃ k', k' < k ∧ W1 (j + 1) k' H') ∧ ∀ x H', J.yld j H x H' →
      tGc C.ne vs g x (wipe σ vs) H' fun σ3 H5 => wipe σ3 vs = wipe σ vs ∧ tT C.ne tt σ3 H5 fun b H6 => if b = true then tV C.ne false te σ3 H6 fun y H7 => ∃ acc, H7 L = some (.lst acc) ∧ acc.length < sizeLine ∧ Nx1 (upd H7 L (.lst (acc ++ [y]))) else Nx1 H6) := by
  have nwL' : ¬ Ow C (wipe σ vs) L := fun z => nwL ((ow_wipe hv).mp z)
  refine ⟨fun i n H' => i + n = ds.length ∧ ∃ st2 φ2 acc av, LcW C vs σ φ1 H1 L st2 φ2 H' acc av ∧ SStep φ3 H4 φ2 H' ∧ ((lcL vs g tt te (ds.drop i) st2).bind fun ys st' => Res.ok (acc ++ ys) st') = .ok all st9, ⟨ds.length, by omega, st3, φ3, acc0, av0, w0, .refl, e0⟩, fun i n H2 w => ?_⟩
  obtain ⟨en, st2, φ2, acc, av, w, s2, eq⟩ := w
  by_cases hi : i < ds.length
  · have e : ds[i]? = some ds[i] := List.getElem?_eq_getElem hi
    obtain ⟨go, yl⟩ := LI.go i _ φ2 H2 e s2
    rw [List.drop_eq_getElem_cons hi] at eq
    refine .inr ⟨go, fun H' => ∃ st2 φ2 acc av, LcW C vs σ φ1 H1 L st2 φ2 H' acc av ∧ SStep φ3 H4 φ2 H' ∧ ((lcL vs g tt te (ds.drop (i + 1)) st2).bind fun ys st' => Res.ok (acc ++ ys) st') = .ok all st9, fun H' ⟨a, b, c, d, e, f, g⟩ => ⟨n - 1, by omega, by omega, a, b, c, d, e, f, g⟩, fun x H3 hy => ?_⟩
    obtain ⟨sm, rx⟩ := yl x H3 hy
    have R3 : Rel C φ2 (st2.wipe vs) (wipe σ vs) H3 := w.rel.same sm
    obtain ⟨u, st4, b, st5, eg, et, eq⟩ := lcL_open eq
    refine ⟨st2.wipe vs, φ2, ds[i], R3.ne, rx, ?_⟩
    rw [eg]
    intro σ4 R4 w4
    have w4' : wipe σ4 vs = wipe σ vs := w4.trans (wipe_idem σ vs)
    refine ⟨w4', ?_⟩
    have nw4 : ¬ Ow C σ4 L := fun z => nwL ((ow_wipe hv).mp (by rw [← w4']; exact (ow_wipe hv).mpr z))
    have ow4 : ∀ {a}, ¬ Ow C σ a → ¬ Ow C σ4 a := fun {a} n z => n ((ow_wipe hv).mp (by rw [← w4']; exact (ow_wipe hv).mpr z))
    refine ⟨st4, φ2, R4, ?_⟩
    rw [et]
    intro φ5 H5 R5 S5
    have S5 := S5.of_ne
    have R5 := R5.of_ne
    have lt2 : SStep φ1 H1 φ2 H3 := w.step.trans (.same sm)
    have nLφ : L ∉ φ2 := fun z => by
      obtain ⟨A, dx, fs, q⟩ := w.rel.sto.some z
      rw [w.lst] at q; cases q
    have l5 : H5 L = some (.lst av) := S5.keep L _ (sm L _ w.lst) nw4 nLφ
    have k5 : ∀ a x, H1 a = some x → ¬ Ow C σ a → a ∉ φ1 → H5 a = some x := fun a x q n m => by
      refine S5.keep a x (sm a x (w.keep a x q n m)) (ow4 n) fun z => ?_
      rcases w.step.new a z with z | z
      · exact m z
      · rw [q] at z; cases z
    have r5 : RepAll C.K φ5 H5 acc av := (w.rep.mono (.of_same sm) (.refl _)).mono S5.fz S5.pre
    have t5 : SStep φ1 H1 φ5 H5 := lt2.trans S5.s
    have u5 : SStep φ3 H4 φ5 H5 := (s2.trans (.same sm)).trans S5.s
    rcases eq with ⟨rfl, eq⟩ | ⟨rfl, y, st6, ee, hb, eq⟩
    · exact ⟨st5, φ5, acc, av, ⟨by rw [← w4']; exact R5.wiped hv, t5, k5, l5, r5⟩, u5, eq⟩
    · refine ⟨st5, φ5, R5.ne, ?_⟩
      rw [ee]
      intro φ6 H6 R6 S6 v6 hv6
      have S6 := S6.of_ne
      have R6 := R6.of_ne
      have nLφ5 : L ∉ φ5 := fun z => by
        obtain ⟨A, dx, fs, q⟩ := R5.sto.some z
        rw [l5] at q; cases q
      have l6 : H6 L = some (.lst av) := S6.keep L _ l5 nw4 nLφ5
      have f6 : Fz H6 (upd H6 L (.lst (av ++ [v6]))) := same_upd_lst l6
      have ra := (r5.mono S6.fz S6.pre).append (.cons hv6.rep .nil)
      have up6 : SStep φ6 H6 φ6 (upd H6 L (.lst (av ++ [v6]))) := ⟨.refl _, fun _ h => .inl h, f6, fun a h => by
        by_cases ha : a = L
        · subst ha; rw [upd_same]; exact fun z => by cases z
        · rw [upd_ne ha]; exact h⟩
      refine ⟨av, l6, by rw [← r5.length]; omega, st6, φ6, acc ++ [y], av ++ [v6], ⟨?_, (t5.trans S6.s).trans up6, fun a x q n m => ?_, upd_same, ra.mono f6 (.refl _)⟩, (u5.trans S6.s).trans up6, eq⟩
      · rw [← w4']
        exact (R6.aside l6 hL0 nw4).wiped hv
      · have na : a ≠ L := fun z => by rw [z, hL] at q; cases q
        rw [upd_ne na]
        refine S6.keep a x (k5 a x q n m) (ow4 n) fun z => ?_
        rcases t5.new a z with z | z
        · exact m z
        · rw [q] at z; cases z
  · rw [List.drop_of_length_le (by omega)] at eq
    have eq : Res.ok (acc ++ []) st2 = .ok all st9 := eq
    rw [List.append_nil] at eq
    cases eq
    exact .inl ⟨by rw [show i = ds.length by omega]; exact LI.stop φ2 H2 s2, hN φ2 H2 av w⟩
end
/-- [te for g in .. if tt for g1 in mi1 if tt1] -/
def lcL2 (vs : List Nat) (g : D → MS → Res Unit) (tt : MS → Res Bool) (vs1 : List Nat) (mi1 : MS → Res (List D)) (g1 : D → MS → Res Unit) (tt1 : MS → Res Bool) (te : MS → Res D) : List D → MS → Res (List D)
  | [], st => .ok [] st
  | d :: ds, st => (g d (st.wipe vs)).safe.bind fun _ st1 => (tt st1).safe.bind fun b st2 =>
    if b = true then (mi1 st2).safe.bind fun ds1 st3 => (lcL vs1 g1 tt1 te ds1 st3).safe.bind fun ys st4 => (lcL2 vs g tt vs1 mi1 g1 tt1 te ds st4).bind fun zs st5 => .ok (ys ++ zs) st5
    else lcL2 vs g tt vs1 mi1 g1 tt1 te ds st2
def eLc2 (vs : List Nat) (mi : MS → Res (List D)) (g : D → MS → Res Unit) (tt : MS → Res Bool) (vs1 : List Nat) (mi1 : MS → Res (List D)) (g1 : D → MS → Res Unit) (tt1 : MS → Res Bool) (te : MS → Res D) : MS → Res D := fun st => (mi st).bind fun ds st1 =>
  (lcL2 vs g tt vs1 mi1 g1 tt1 te ds st1).safe.bind fun ys st2 => if ys.length ≤ sizeLine then Res.ok (D.lst ys) (st2.back st1 vs) else .stuck
theorem lcL2_open {vs vs1 : List Nat} {g g1 : D → MS → Res Unit} {tt tt1 : MS → Res Bool} {mi1 : MS → Res (List D)} {te : MS → Res D} {d : D} {ds : List D} {st : MS} {acc all : List D} {st9 : MS} (h : ((lcL2 vs g tt vs1 mi1 g1 tt1 te (d :: ds) st).bind fun ys st' => Res.ok (acc ++ ys) st') = Res.ok all st9) :
    ∃ u st1 b st2, g d (st.wipe vs) = .ok u st1 ∧ tt st1 = .ok b st2 ∧ ((b = false ∧ ((lcL2 vs g tt vs1 mi1 g1 tt1 te ds st2).bind fun ys st' => Res.ok (acc ++ ys) st') = Res.ok all st9) ∨ (b = true ∧ ∃ ds1 st3 ys st4, mi1 st2 = .ok ds1 st3 ∧ lcL vs1 g1 tt1 te ds1 st3 = .ok ys st4 ∧ (acc ++ ys).length ≤ all.length ∧ ((lcL2 vs g tt vs1 mi1 g1 tt1 te ds st4).bind fun zs st' => Res.ok ((acc ++ ys) ++ zs) st') = Res.ok all st9)) := by
  unfold lcL2 at h
  cases eg : g d (st.wipe vs) with
  | stuck => rw [eg] at h; cases h
  | err x st' => rw [eg] at h; cases h
  | ok u st1 =>
    rw [eg] at h
    cases et : tt st1 with
    | stuck => simp only [Res.safe, Res.bind, et] at h; cases h
    | err x st' => simp only [Res.safe, Res.bind, et] at h; cases h
    | ok b st2 =>
      refine ⟨u, st1, b, st2, rfl, et, ?_⟩
      cases b with
      | false =>
        simp only [Res.safe, Res.bind, et, Bool.false_eq_true, if_false] at h
        exact .inl ⟨rfl, h⟩
      | true =>
        cases em : mi1 st2 with
        | stuck => simp only [Res.safe, Res.bind, et, em, if_true] at h; cases h
        | err x st' => simp only [Res.safe, Res.bind, et, em, if_true] at h; cases h
        | ok ds1 st3 =>
          cases el : lcL vs1 g1 tt1 te ds1 st3 with
          | stuck => simp only [Res.safe, Res.bind, et, em, el, if_true] at h; cases h
          | err x st' => simp only [Res.safe, Res.bind, et, em, el, if_true] at h; cases h
          | ok ys st4 =>
            simp only [Res.safe, Res.bind, et, em, el, if_true] at h
            refine .inr ⟨rfl, ds1, st3, ys, st4, rfl, el, ?_, ?_⟩
            · cases e2 : lcL2 vs g tt vs1 mi1 g1 tt1 te ds st4 with
              | stuck => rw [e2] at h; cases h
              | err x st' => rw [e2] at h; cases h
              | ok zs st' =>
                rw [e2] at h
                cases h
                rw [List.length_append, List.length_append, List.length_append]
                omega
            · rw [← h]
              cases lcL2 vs g tt vs1 mi1 g1 tt1 te ds st4 with
              | ok ys st7 => simp only [Res.bind, List.append_assoc]
              | err x st7 => rfl
              | stuck => rfl
theorem wipeE_comm (e : List (Option D)) (i : Nat) : ∀ vs : List Nat, wipeE (e.set i none) vs = (wipeE e vs).set i none
  | [] => rfl
  | v :: vs => by
    unfold wipeE
    rw [wipeE_comm e i vs]
    by_cases h : v = i
    · rw [h]
    · rw [List.set_comm _ _ (Ne.symm h)]
theorem wipeE_at (e : List (Option D)) (i : Nat) : ∀ vs : List Nat, i ∈ vs → (wipeE e vs).set i none = wipeE e vs
  | [], h => by simp at h
  | v :: vs, h => by
    unfold wipeE
    by_cases hv : v = i
    · rw [hv, List.set_set]
    · have hm : i ∈ vs := (List.mem_cons.mp h).elim (fun z => absurd z.symm hv) id
      rw [List.set_comm _ _ hv, wipeE_at e i vs hm]
theorem wipeE_sub (e : List (Option D)) (vs : List Nat) : ∀ us : List Nat, (∀ v ∈ us, v ∈ vs) → wipeE (wipeE e us) vs = wipeE e vs
  | [], _ => rfl
  | v :: us, h => by
    rw [show wipeE e (v :: us) = (wipeE e us).set v none from rfl, wipeE_comm, wipeE_sub e vs us fun u hu => h u (List.mem_cons_of_mem _ hu)]
    exact wipeE_at e v vs (h v List.mem_cons_self)
theorem wipe_commN (σ : SS) (i : Nat) : ∀ vs : List Nat, wipe (σ.set i none) vs = (wipe σ vs).set i none
  | [] => rfl
  | v :: vs => by
    unfold wipe
    rw [wipe_commN σ i vs]
    by_cases h : v = i
    · rw [h]
    · rw [List.set_comm _ _ (Ne.symm h)]
theorem wipe_sub' (σ : SS) (vs : List Nat) : ∀ us : List Nat, (∀ v ∈ us, v ∈ vs) → wipe (wipe σ us) vs = wipe σ vs
  | [], _ => rfl
  | v :: us, h => by
    rw [show wipe σ (v :: us) = (wipe σ us).set v none from rfl, wipe_commN, wipe_sub' σ vs us fun u hu => h u (List.mem_cons_of_mem _ hu)]
    exact wipe_at σ v vs (h v List.mem_cons_self)
theorem run_lc2 {C : Ctx} {vs vs1 : List Nat} {mi mi1 : MS → Res (List D)} {g g1 : D → MS → Res Unit} {tt tt1 : MS → Res Bool} {te : MS → Res D} (hv : ∀ v ∈ vs, C.own v = false) (hs : ∀ v ∈ vs1, v ∈ vs) {σ : SS} {H : Hp} {Q : VK} (h : tV C true (eLc2 vs mi g tt vs1 mi1 g1 tt1 te) σ H Q) :
    tLc2 (tI C mi) (tGc C.ne vs g) (tT C.ne tt) (tI C.ne mi1) (tGc C.ne vs1 g1) (tT C.ne tt1) (tV C.ne false te) vs vs1 σ H Q := by
  have hv1 : ∀ v ∈ vs1, C.own v = false := fun v m => hv v (hs v m)
  obtain ⟨st, φ, R, q⟩ := h
  refine ⟨st, φ, R, Post.mono (Post.bind (r := mi st) (f := fun (ds : List D) (st1 : MS) => (lcL2 vs g tt vs1 mi1 g1 tt1 te ds st1).safe.bind fun ys st2 => if ys.length ≤ sizeLine then Res.ok (D.lst ys) (st2.back st1 vs) else .stuck) q) fun ds st1 φ1 H1 R1 S1 p J LI L hL => ?_⟩
  cases ea : lcL2 vs g tt vs1 mi1 g1 tt1 te ds st1 with
  | stuck => rw [ea] at p; exact p.elim
  | err x st' => rw [ea] at p; exact p.elim
  | ok all st9 =>
    rw [ea] at p
    by_cases hlen : all.length ≤ sizeLine
    · have p : Post C σ φ1 H1 (if all.length ≤ sizeLine then Res.ok (D.lst all) (st9.back st1 vs) else .stuck) _ := p
      rw [if_pos hlen] at p
      have hL0 : C.H0 L = none := R1.none0 hL
      have nwL : ¬ Ow C σ L := fun z => R1.alive L z hL
      have fin : ∀ {av : List V} {φ2 : List Addr} {H2 : Hp}, LcW C vs σ φ1 H1 L st9 φ2 H2 all av → Q (.ref L) H2 := fun {av φ2 H2} w => by
        have S2 : Step C σ φ1 H1 φ2 H2 := ⟨w.step.pre, w.step.new, w.step.fz, w.keep, w.step.dom⟩
        refine p φ2 H2 (R1.back w.rel hv w.step.fz w.step.pre) S2 _ ?_
        unfold ValR
        rw [if_pos (show (true && isOwn (.lst _)) = true from rfl)]
        refine ⟨L, rfl, ⟨av, w.lst, w.rep⟩, ?_⟩
        cases z : H L with
        | none => rfl
        | some x => exact absurd hL (S1.dom L (by rw [z]; exact fun z => by cases z))
      refine ⟨fun i n H' => i + n = ds.length ∧ ∃ st2 φ2 acc av, LcW C vs σ φ1 H1 L st2 φ2 H' acc av ∧ ((lcL2 vs g tt vs1 mi1 g1 tt1 te (ds.drop i) st2).bind fun ys st' => Res.ok (acc ++ ys) st') = .ok all st9, ⟨ds.length, by omega, st1, φ1, [], [], ⟨(R1.same (same_new hL)).wiped hv, .same (same_new hL), fun a x e _ _ => same_new hL a x e, upd_same, .nil⟩, ?_⟩, fun i n H2 w => ?_⟩
      · show (lcL2 vs g tt vs1 mi1 g1 tt1 te ds st1).bind _ = _
        rw [ea]
        rfl
      · obtain ⟨en, st2, φ2, acc, av, w, eq⟩ := w
        by_cases hi : i < ds.length
        · have e : ds[i]? = some ds[i] := List.getElem?_eq_getElem hi
          obtain ⟨go, yl⟩ := LI.go i _ φ2 H2 e w.step
          rw [List.drop_eq_getElem_cons hi] at eq
          refine .inr ⟨go, fun H' => ∃ st2 φ2 acc av, LcW C vs σ φ1 H1 L st2 φ2 H' acc av ∧ ((lcL2 vs g tt vs1 mi1 g1 tt1 te (ds.drop (i + 1)) st2).bind fun ys st' => Res.ok (acc ++ ys) st') = .ok all st9, fun H' ⟨a, b, c, d, e, f⟩ => ⟨n - 1, by omega, by omega, a, b, c, d, e, f⟩, fun x H3 hy => ?_⟩
          obtain ⟨sm, rx⟩ := yl x H3 hy
          have R3 : Rel C φ2 (st2.wipe vs) (wipe σ vs) H3 := w.rel.same sm
          obtain ⟨u, st4, b, st5, eg, et, eq⟩ := lcL2_open eq
          refine ⟨st2.wipe vs, φ2, ds[i], R3.ne, rx, ?_⟩
          rw [eg]
          intro σ4 R4 w4
          have w4' : wipe σ4 vs = wipe σ vs := w4.trans (wipe_idem σ vs)
          refine ⟨w4', ?_⟩
          have nw4 : ¬ Ow C σ4 L := fun z => nwL ((ow_wipe hv).mp (by rw [← w4']; exact (ow_wipe hv).mpr z))
          have ow4 : ∀ {a}, ¬ Ow C σ a → ¬ Ow C σ4 a := fun {a} n z => n ((ow_wipe hv).mp (by rw [← w4']; exact (ow_wipe hv).mpr z))
          have ow4' : ∀ {a}, ¬ Ow C σ4 a → ¬ Ow C σ a := fun {a} n z => n ((ow_wipe hv).mp (by rw [w4']; exact (ow_wipe hv).mpr z))
          refine ⟨st4, φ2, R4, ?_⟩
          rw [et]
          intro φ5 H5 R5 S5
          have S5 := S5.of_ne
          have R5 := R5.of_ne
          have lt2 : SStep φ1 H1 φ2 H3 := w.step.trans (.same sm)
          have nLφ : L ∉ φ2 := fun z => by
            obtain ⟨A, dx, fs, q⟩ := w.rel.sto.some z
            rw [w.lst] at q; cases q
          have l5 : H5 L = some (.lst av) := S5.keep L _ (sm L _ w.lst) nw4 nLφ
          have k5 : ∀ a x, H1 a = some x → ¬ Ow C σ a → a ∉ φ1 → H5 a = some x := fun a x q n m => by
            refine S5.keep a x (sm a x (w.keep a x q n m)) (ow4 n) fun z => ?_
            rcases w.step.new a z with z | z
            · exact m z
            · rw [q] at z; cases z
          have r5 : RepAll C.K φ5 H5 acc av := (w.rep.mono (.of_same sm) (.refl _)).mono S5.fz S5.pre
          have t5 : SStep φ1 H1 φ5 H5 := lt2.trans S5.s
          rcases eq with ⟨rfl, eq⟩ | ⟨rfl, ds1, st6, ys, st7, em, el, hb, eq⟩
          · exact ⟨st5, φ5, acc, av, ⟨by rw [← w4']; exact R5.wiped hv, t5, k5, l5, r5⟩, eq⟩
          · refine ⟨st5, φ5, R5.ne, ?_⟩
            rw [em]
            intro φ6 H6 R6 S6 J1 LI1
            have S6 := S6.of_ne
            have R6 := R6.of_ne
            have nLφ5 : L ∉ φ5 := fun z => by
              obtain ⟨A, dx, fs, q⟩ := R5.sto.some z
              rw [l5] at q; cases q
            have l6 : H6 L = some (.lst av) := S6.keep L _ l5 nw4 nLφ5
            have k6 : ∀ a x, H1 a = some x → ¬ Ow C σ4 a → a ∉ φ1 → H6 a = some x := fun a x q n m => by
              refine S6.keep a x (k5 a x q (ow4' n) m) n fun z => ?_
              rcases t5.new a z with z | z
              · exact m z
              · rw [q] at z; cases z
            have w0 : LcW C vs1 σ4 φ1 H1 L st6 φ6 H6 acc av := ⟨R6.wiped hv1, t5.trans S6.s, k6, l6, r5.mono S6.fz S6.pre⟩
            have LI1' : LIt C J1 φ6 H6 ds1 := ⟨LI1.go, LI1.stop⟩
            refine inner_lc hv1 hL hL0 nw4 w0 LI1' (all := acc ++ ys) (st9 := st7) ?_ (by omega) fun φ' H' av' w' => ?_
            · rw [el]; rfl
            · refine ⟨st7, φ', acc ++ ys, av', ⟨?_, w'.step, fun a x q n m => w'.keep a x q (ow4 n) m, w'.lst, w'.rep⟩, eq⟩
              have R7 := w'.rel.wiped hv
              rw [wipe_sub' σ4 vs vs1 hs, w4'] at R7
              have e7 : (st7.wipe vs1).wipe vs = st7.wipe vs := by
                show MS.mk (wipeE (wipeE st7.env vs1) vs) st7.sto = MS.mk (wipeE st7.env vs) st7.sto
                rw [wipeE_sub st7.env vs vs1 hs]
              rw [e7] at R7
              exact R7
        · rw [List.drop_of_length_le (by omega)] at eq
          have eq : Res.ok (acc ++ []) st2 = .ok all st9 := eq
          rw [List.append_nil] at eq
          cases eq
          exact .inl ⟨by rw [show i = ds.length by omega]; exact LI.stop φ2 H2 w.step, fin w⟩
    · have p : Post C σ φ1 H1 (if all.length ≤ sizeLine then Res.ok (D.lst all) (st9.back st1 vs) else .stuck) _ := p
      rw [if_neg hlen] at p
      exact p.elim
section
variable {X : Cx} {C : Ctx} {i : Nat} {y : Str} {py : Pos} {elt tg iter tg1 iter1 : Expr} {ifs ifs1 : List Expr} {scope : Scope} {own : List (Str × Nat)} {vs1 : List Nat} {pos spos : Pos} {mi mi1 : MS → Res (List D)} {g g1 : D → MS → Res Unit} {tt tt1 : MS → Res Bool} {te : MS → Res D}
theorem me_lc2O (hc : X.calm = true) (hN : X.N.Nodup) (hv : ∀ v ∈ own.map (·.2), C.own v = false) (hi : MI X C tg iter mi) (ok : BlkOk X.N X.env.scope scope own) (hs1 : ∀ v ∈ vs1, v ∈ own.map (·.2))
    (hg : ∀ (s : Shared) (H : Hp) (A : Addr) (cl : List (Str × Addr)) (fp : List Addr), MGc (X.blk s H scope (compEnvC scope cl A X.env) fp) C.ne (own.map (·.2)) tg g) (ht : ∀ (s : Shared) (H : Hp) (A : Addr) (cl : List (Str × Addr)) (fp : List Addr), MTs (X.blk s H scope (compEnvC scope cl A X.env) fp) C.ne ifs tt)
    (hi1 : ∀ (s : Shared) (H : Hp) (A : Addr) (cl : List (Str × Addr)) (fp : List Addr), MI (X.blk s H scope (compEnvC scope cl A X.env) fp) C.ne tg1 iter1 mi1)
    (hg1 : ∀ (s : Shared) (H : Hp) (A : Addr) (cl : List (Str × Addr)) (fp : List Addr), MGc (X.blk s H scope (compEnvC scope cl A X.env) fp) C.ne vs1 tg1 g1) (ht1 : ∀ (s : Shared) (H : Hp) (A : Addr) (cl : List (Str × Addr)) (fp : List Addr), MTs (X.blk s H scope (compEnvC scope cl A X.env) fp) C.ne ifs1 tt1)
    (he : ∀ (s : Shared) (H : Hp) (A : Addr) (cl : List (Str × Addr)) (fp : List Addr), ME (X.blk s H scope (compEnvC scope cl A X.env) fp) C.ne false elt te) (hs : ∀ x, foldedSetIterable iter X.env x = pure x := by intro _; rfl) (hs2 : ∀ env x, foldedSetIterable iter1 env x = pure x := by intro _ _; rfl) :
    ME X C true (.ListComp elt [⟨tg, iter, ifs, 0⟩, ⟨tg1, iter1, ifs1, 0⟩] scope pos) (eLc2 (own.map (·.2)) mi g tt vs1 mi1 g1 tt1 te) := PE.weak (pe_lc2 hc hN hi ok hs1 hg ht hi1 hg1 ht1 he hs hs2) fun σ H Q q => run_lc2 hv hs1 q
theorem ps_lc2A (hc : X.calm = true) (hN : X.N.Nodup) (hy : X.N[i]? = some y) (hyl : X.env.scope.names.lookup y = some .local) (hsw : swapsWith (.ListComp elt [⟨tg, iter, ifs, 0⟩, ⟨tg1, iter1, ifs1, 0⟩] scope pos) (some (.Name y py)) spos.line X.env = pure true) (hi : MI X C tg iter mi) (ok : BlkOk X.N X.env.scope scope own) (hs1 : ∀ v ∈ vs1, v ∈ own.map (·.2))
    (hg : ∀ (s : Shared) (H : Hp) (A : Addr) (cl : List (Str × Addr)) (fp : List Addr), MGc (X.blk s H scope (compEnvC scope cl A X.env) fp) C.ne (own.map (·.2)) tg g) (ht : ∀ (s : Shared) (H : Hp) (A : Addr) (cl : List (Str × Addr)) (fp : List Addr), MTs (X.blk s H scope (compEnvC scope cl A X.env) fp) C.ne ifs tt)
    (hi1 : ∀ (s : Shared) (H : Hp) (A : Addr) (cl : List (Str × Addr)) (fp : List Addr), MI (X.blk s H scope (compEnvC scope cl A X.env) fp) C.ne tg1 iter1 mi1)
    (hg1 : ∀ (s : Shared) (H : Hp) (A : Addr) (cl : List (Str × Addr)) (fp : List Addr), MGc (X.blk s H scope (compEnvC scope cl A X.env) fp) C.ne vs1 tg1 g1) (ht1 : ∀ (s : Shared) (H : Hp) (A : Addr) (cl : List (Str × Addr)) (fp : List Addr), MTs (X.blk s H scope (compEnvC scope cl A X.env) fp) C.ne ifs1 tt1)
    (he : ∀ (s : Shared) (H : Hp) (A : Addr) (cl : List (Str × Addr)) (fp : List Addr), ME (X.blk s H scope (compEnvC scope cl A X.env) fp) C.ne false elt te) (hs : ∀ x, foldedSetIterable iter X.env x = pure x := by intro _; rfl) (hs2 : ∀ env x, foldedSetIterable iter1 env x = pure x := by intro _ _; rfl) :
    PS X (.Assign [.Name y py] (.ListComp elt [⟨tg, iter, ifs, 0⟩, ⟨tg1, iter1, ifs1, 0⟩] scope pos) spos) (tAsg (tLc2 (tI C mi) (tGc C.ne (own.map (·.2)) g) (tT C.ne tt) (tI C.ne mi1) (tGc C.ne vs1 g1) (tT C.ne tt1) (tV C.ne false te) (own.map (·.2)) vs1) (gName i)) := ps_setLc2 hc hN hy hyl hsw hi ok hs1 hg ht hi1 hg1 ht1 he hs hs2
theorem ms_lc2O (hv : ∀ v ∈ own.map (·.2), C.own v = false) (hs1 : ∀ v ∈ vs1, v ∈ own.map (·.2)) (ho : C.own i = true) (hio : ∀ p ∈ C.io, p.1 ≠ i) {st : Stmt} (h : PS X st (tAsg (tLc2 (tI C mi) (tGc C.ne (own.map (·.2)) g) (tT C.ne tt) (tI C.ne mi1) (tGc C.ne vs1 g1) (tT C.ne tt1) (tV C.ne false te) (own.map (·.2)) vs1) (gName i))) :
    MS1 X C st (sSetO i (eLc2 (own.map (·.2)) mi g tt vs1 mi1 g1 tt1 te)) := ms_ofO h (fun σ H Q q => run_lc2 hv hs1 q) ho hio
theorem ms_lc2F (hv : ∀ v ∈ own.map (·.2), C.own v = false) (hs1 : ∀ v ∈ vs1, v ∈ own.map (·.2)) (ho : C.own i = false) {st : Stmt} (h : PS X st (tAsg (tLc2 (tI C mi) (tGc C.ne (own.map (·.2)) g) (tT C.ne tt) (tI C.ne mi1) (tGc C.ne vs1 g1) (tT C.ne tt1) (tV C.ne false te) (own.map (·.2)) vs1) (gName i))) :
    MS1 X C st (sSet i (eLc2 (own.map (·.2)) mi g tt vs1 mi1 g1 tt1 te)) := ms_ofF h (fun σ H Q q => run_lc2 hv hs1 q) ho
end
end Q
set_option Elab.async false
set_option linter.all false
set_option maxRecDepth 100000
set_option autoImplicit false
/-! QR: calls with keywords, calls without arguments -/
namespace Q
open PySem PySem.Spec PyProof.Rows L2 PySem.SeqAt

def permBy {α : Type} : List Nat → List α → List α
  | [], _ => []
  | i :: is, l => match l[i]? with
    | some x => x :: permBy is l
    | none => permBy is l
theorem perm_vals {vs : List V} {us : List Value} (h : Vals vs us) : ∀ is : List Nat, Vals (permBy is vs) (permBy is us)
  | [] => .nil
  | i :: is => by
    unfold permBy
    have ih := perm_vals h is
    cases e : vs[i]? with
    | none =>
      have e2 : us[i]? = none := by
        rw [List.getElem?_eq_none_iff] at e ⊢
        rw [← h.length]; exact e
      rw [e2]
      exact ih
    | some v =>
      obtain ⟨u, e2, r⟩ := h.get e
      rw [e2]
      exact .cons r ih
theorem perm_rep {K : KK} {φ : List Addr} {H : Hp} {ds : List D} {vs : List V} (h : RepAll K φ H ds vs) : ∀ is : List Nat, RepAll K φ H (permBy is ds) (permBy is vs)
  | [] => .nil
  | i :: is => by
    unfold permBy
    have ih := perm_rep h is
    cases e : ds[i]? with
    | none =>
      have e2 : vs[i]? = none := by
        rw [List.getElem?_eq_none_iff] at e ⊢
        rw [← h.length]; exact e
      rw [e2]
      exact ih
    | some v =>
      obtain ⟨u, e2, r⟩ := h.get e
      rw [e2]
      exact .cons r ih
def gK {α : Type} (n m : Nat) (is : List Nat) (us ws : List α) : List α := if us.length = n ∧ ws.length = m then us ++ permBy is ws else []
theorem fun_kb {K : PySem.W.Frag} {x qual : Str} {st : Stmt} {f : Addr} {fd : FuncData} {ps : List Str} (F : Fun K x qual st f fd) (n : Nat) (ks : List Str) (is : List Nat) (hp : ps ≠ [])
    (h : ∀ (kV doc pm : Value) (an : Option Addr) (cdv ct : Value) (us ws : List Value), us.length = n → ws.length = ks.length → bindArgs (PySem.W.fnOf x qual (defArgs st) (defBody st) (defScope st) .none kV doc pm an cdv ct) ⟨us, ks.zip ws⟩ = pure (ps.zip (us ++ permBy is ws))) :
    KBinds K fd ps ks (gK n ks.length is) (gK n ks.length is) := by
  obtain ⟨oc, od, kV, doc, pm, an, cdv, ct, osl, rfl, lk, hcd⟩ := F.ex
  refine ⟨fun s us ws X hl => ?_, fun {vs us zs ws} r1 r2 => ?_⟩
  · unfold gK at hl ⊢
    by_cases hc : us.length = n ∧ ws.length = ks.length
    · rw [if_pos hc]
      exact .of_eq (h kV doc pm an cdv ct us ws hc.1 hc.2)
    · rw [if_neg hc] at hl
      exact absurd (List.length_eq_zero_iff.mp hl.symm) hp
  · unfold gK
    rw [r1.length, r2.length]
    split
    · exact r1.append (perm_vals r2 is)
    · exact .nil
section
variable {X : Cx} {CX : CXT} {k : Nat} {f C : Addr} {fd : FuncData} {ps ks : List Str} {sp : Sp} {E : XK} {x : Str} {p pos : Pos} {kws : List Keyword} {tk : TA} {g : List Value → List Value → List Value} {gV : List V → List V → List V}
/-- f(k = v, ..) -/
theorem pe_callK0 (F : FnOk X.prog X.w X.K X.mg X.base CX k f fd ps sp) (hr : Room k X.A) (hg : Gl X x) (hm : X.mg x = some (.ref f)) (hk : PySem.W.keepIn X.K (.ref f) = true) (hb : KBinds X.K fd ps ks g gV) (hx : Passes CX X E)
    (hkw : PK X kws tk) (hall : (backToKw pos (keywordEach kws X.env)).all (·.1.isSome) = true := by rfl) (hks : (backToKw pos (keywordEach kws X.env)).filterMap (·.1) = ks := by rfl)
    (hdb : (x == ("__debug__" : Str)) = false := by decide)
    (hpl : ((backTo pos (starEach [] X.env)).any (·.1) || (backToKw pos (keywordEach kws X.env)).any (·.1.isNone)) = false := by rfl) :
    PE X (.Call (.Name x p) [] kws pos) (tCallK sp gV E tNil tk) := by
  refine ⟨fun pins s σ H Q I h => ?_⟩
  refine wpAny_Call_Name_kw (ld_glob I hg hm ?_ hdb)
  refine PySem.W.callWith_KW0 (h₀ := X.base) I.ok.mod.kin hk hall (thn (hkw.run pos pins s σ H _ I h) fun ws s2 ⟨zs, H2, I2, rz, q2⟩ => ⟨I2.kIn, ?_⟩) hpl
  rw [hks]
  exact run_fnk F hr hb hx I2 .nil rz q2
end
structure MK (X : Cx) (C : Ctx) (kws : List Keyword) (ms : List (MS → Res D)) : Prop where
  pk : PK X kws (tOpN C (ms.map .val))
section
variable {X : Cx} {C : Ctx}
theorem mk_nil : MK X C [] [] := ⟨pk_nil⟩
theorem mk_cons {e : Expr} {kws : List Keyword} {m : MS → Res D} {ms : List (MS → Res D)} {nm : Option Str} {kpos : Pos} (h : ME X C false e m) (t : MK X C kws ms) : MK X C (⟨nm, e, kpos⟩ :: kws) (m :: ms) := ⟨pk_cons h t.pk⟩
end
def noIo (ow : List Bool) : Bool := ow.all fun b => !b
theorem ioAs_no : ∀ {ow : List Bool} {vs : List V}, noIo ow = true → ioAs ow vs = []
  | [], _, _ => by unfold ioAs; rfl
  | false :: ow, [], _ => by unfold ioAs; rfl
  | false :: ow, v :: vs, h => by
    unfold ioAs
    exact ioAs_no (by simpa [noIo] using h)
  | true :: ow, _, h => by simp [noIo] at h
theorem argsR_no {K : KK} {φ : List Addr} {H : Hp} : ∀ {ow : List Bool} {ds : List D} {vs : List V}, noIo ow = true → ds.length = ow.length → RepAll K φ H ds vs → ArgsR K φ H ow ds vs
  | [], [], _, _, _, h => ⟨rfl, h.of_nil⟩
  | [], _ :: _, _, _, e, _ => by simp at e
  | true :: ow, _, _, h, _, _ => by simp [noIo] at h
  | false :: ow, [], _, _, e, _ => by simp at e
  | false :: ow, d :: ds, _, hn, e, h => by
    obtain ⟨v, vr, rfl, h1, t⟩ := h.of_cons
    exact ⟨d, ds, v, vr, rfl, rfl, by rw [if_neg Bool.false_ne_true]; exact h1, argsR_no (by simpa [noIo] using hn) (by simpa using e) t⟩
def valsOf (ow : List Bool) : List CArg := ow.map fun _ => .val (eK .non)
theorem modes_valsOf : ∀ {ow : List Bool}, noIo ow = true → modes (valsOf ow) = ow
  | [], _ => rfl
  | true :: ow, h => by simp [noIo] at h
  | false :: ow, h => by
    show false :: modes (valsOf ow) = _
    rw [modes_valsOf (by simpa [noIo] using h)]
theorem ownIx_valsOf : ∀ {ow : List Bool}, ownIx (valsOf ow) = []
  | [] => rfl
  | b :: ow => by show ownIx (valsOf ow) = []; exact ownIx_valsOf
theorem setOuts_valsOf : ∀ {ow : List Bool} {ios : List D} {st : MS}, setOuts (valsOf ow) ios st = st
  | [], ios, st => by show setOuts [] ios st = st; unfold setOuts; rfl
  | b :: ow, ios, st => by show setOuts (.val _ :: valsOf ow) ios st = st; unfold setOuts; exact setOuts_valsOf
theorem outsOf_valsOf {σ : SS} : ∀ {ow : List Bool} {vs : List V}, vs.length = ow.length → OutsOf σ (valsOf ow) vs
  | [], _, _ => by unfold valsOf; exact trivial
  | b :: ow, [], h => by simp at h
  | b :: ow, v :: vs, h => by
    show OutsOf σ (valsOf ow) vs
    exact outsOf_valsOf (by simpa using h)
/-- the values of a call's arguments, first the positional ones, then the keywords' -/
def eCallK (fm : FM) (ms mk : List (MS → Res D)) (is : List Nat) : MS → Res D := fun st => (opV ms st).bind fun ds st1 => (opV mk st1).bind fun es st2 => match fm (ds ++ permBy is es) st2.sto with
  | .ok d _ sto' => .ok d { st2 with sto := sto' }
  | .err x _ sto' => .err x { st2 with sto := sto' }
  | .stuck => .stuck
theorem run_callV {C : Ctx} {fm : FM} {ret : Bool} {ow : List Bool} {σ : SS} {φs φ : List Addr} {Hs H : Hp} {st : MS} {ds : List D} {vs : List V} {Q : VK} (hn : noIo ow = true) (hl : ds.length = ow.length) (R : Rel C φ st σ H) (S : Step C σ φs Hs φ H) (Rs : ∀ a, Hs a = none → C.H0 a = none ∧ ¬ Ow C σ a) (hv : RepAll C.K φ H ds vs)
    (q : Post C σ φ H (match fm ds st.sto with
      | .ok d _ sto' => .ok d { st with sto := sto' }
      | .err x _ sto' => .err x { st with sto := sto' }
      | .stuck => .stuck) fun d _ φ'' H'' => ∀ v, ValR C ret φ'' Hs H'' d v → Q v H'') : spF C.K C.cls ow ret fm vs H Q C.E := by
  have ha := argsR_no hn hl hv
  have hio : ioAs ow vs = [] := ioAs_no hn
  have lv : vs.length = ow.length := by rw [← hv.length]; exact hl
  refine ⟨lv, φ, ds, st.sto, ha, by rw [hio]; exact List.nodup_nil, R.sto.to rfl rfl, ?_⟩
  have hm := modes_valsOf hn
  have io : IoOk C σ Hs st (valsOf ow) vs := ⟨(by rw [hm, hio]; exact List.nodup_nil), (fun a h => by rw [hm, hio] at h; cases h), (fun i h => by rw [ownIx_valsOf] at h; cases h)⟩
  have rc : ∀ {φ' : List Addr} {H' : Hp} {ios : List D} {sto' : List SO}, FStep (ioAs ow vs) φ H φ' H' → StoOk C φ' sto' H' → IosR C.K φ' H' (ioAs ow vs) ios → Rel C φ' { st with sto := sto' } σ H' ∧ Step C σ φs Hs φ' H' := fun {φ' H' ios sto'} F hsto hios => by
    have := rel_call (as := valsOf ow) R S Rs (fun i h => by rw [ownIx_valsOf] at h; cases h) (by rw [ownIx_valsOf]; exact List.nodup_nil) (by rw [hm]; exact ha) io (outsOf_valsOf lv) (by rw [hm]; exact F) hsto (by rw [hm]; exact hios)
    rw [setOuts_valsOf] at this
    exact this
  cases e : fm ds st.sto with
  | stuck => rw [e] at q; exact q.elim
  | ok d ios sto' =>
    rw [e] at q
    intro φ' H' v F hsto hios hv
    obtain ⟨R', S'⟩ := rc F (hsto.to rfl rfl) hios
    have S2 : Step C σ φ H φ' H' := ⟨F.s.pre, F.s.new, F.s.fz, fun a x q n m => F.keep a x q (by rw [hio]; exact fun z => by cases z) m, F.s.dom⟩
    refine q φ' H' R' S2 v ?_
    unfold FRet at hv
    unfold ValR
    split
    · rename_i hc
      rw [if_pos hc] at hv
      obtain ⟨a, e, ow, hn⟩ := hv
      refine ⟨a, e, ow, ?_⟩
      cases q : Hs a with
      | none => rfl
      | some y => exact absurd hn (S.dom a (by rw [q]; exact fun z => by cases z))
    · rename_i hc
      rw [if_neg hc] at hv
      exact hv
  | err x ios sto' =>
    rw [e] at q
    intro φ' H' c d F hsto hios hx
    obtain ⟨R', S'⟩ := rc F (hsto.to rfl rfl) hios
    have S2 : Step C σ φ H φ' H' := ⟨F.s.pre, F.s.new, F.s.fz, fun a x q n m => F.keep a x q (by rw [hio]; exact fun z => by cases z) m, F.s.dom⟩
    exact q φ' H' c d R' S2 (hx.to rfl rfl)
/-- data of another length: the callee is stuck -/
def FM.ofLen (n : Nat) (fm : FM) : Prop := ∀ ds sto, ds.length ≠ n → fm ds sto = .stuck
theorem runF_len {n : Nat} {ow : List Bool} {body : MS → SR} : (runF n ow body).ofLen ow.length := fun ds sto h => by unfold runF; rw [if_neg h]
theorem FM.ofLen.safe {n : Nat} {fm : FM} (h : fm.ofLen n) : fm.safe.ofLen n := fun ds sto hl => by unfold FM.safe; rw [h ds sto hl]
theorem run_callK {C : Ctx} {ms mk : List (MS → Res D)} {is : List Nat} {fm : FM} {ret : Bool} {ow : List Bool} {n m : Nat} {σ : SS} {H : Hp} {Q : VK} (hn : noIo ow = true) (hfl : fm.ofLen ow.length) (h1 : ms.length = n) (h2 : mk.length = m) (h : tV C ret (eCallK fm ms mk is) σ H Q) :
    tOpN C (ms.map .val) σ H fun vs H1 => tOpN C (mk.map .val) σ H1 fun zs H2 => spF C.K C.cls ow ret fm (gK n m is vs zs) H2 Q C.E := by
  obtain ⟨st, φ, R, q⟩ := h
  have Rs : ∀ a, H a = none → C.H0 a = none ∧ ¬ Ow C σ a := fun a z => ⟨R.none0 z, fun w => R.alive a w z⟩
  unfold eCallK at q
  have opl : ∀ {ms : List (MS → Res D)} {st : MS} {ds : List D} {st' : MS}, opV ms st = .ok ds st' → ds.length = ms.length := fun {ms} => by
    induction ms with
    | nil => intro st ds st' e; cases e; rfl
    | cons a ms ih =>
      intro st ds st' e
      unfold opV at e
      cases ea : a st with
      | stuck => rw [ea] at e; cases e
      | err x s => rw [ea] at e; cases e
      | ok x s =>
        rw [ea] at e
        simp only [Res.bind] at e
        cases eb : opV ms s with
        | stuck => rw [eb] at e; cases e
        | err x s => rw [eb] at e; cases e
        | ok xs s2 =>
          rw [eb] at e
          cases e
          rw [List.length_cons, List.length_cons, ih eb]
  refine runV R ?_
  cases ea : opV ms st with
  | stuck => rw [ea] at q; exact q
  | err x st1 => rw [ea] at q; exact q
  | ok ds st1 =>
    rw [ea] at q
    intro φ1 H1 R1 S1 vs hvs
    have q1 : Post C σ φ1 H1 ((opV mk st1).bind fun es st2 => match fm (ds ++ permBy is es) st2.sto with
      | .ok d _ sto' => .ok d { st2 with sto := sto' }
      | .err x _ sto' => .err x { st2 with sto := sto' }
      | .stuck => .stuck) fun d _ φ'' H'' => ∀ v, ValR C ret φ'' H H'' d v → Q v H'' := Post.step q S1
    refine runV R1 ?_
    cases eb : opV mk st1 with
    | stuck => rw [eb] at q1; exact q1
    | err x st2 => rw [eb] at q1; exact q1
    | ok es st2 =>
      rw [eb] at q1
      intro φ2 H2 R2 S2 zs hzs
      have q2 := Post.step (r := match fm (ds ++ permBy is es) st2.sto with
        | .ok d _ sto' => .ok d { st2 with sto := sto' }
        | .err x _ sto' => .err x { st2 with sto := sto' }
        | .stuck => .stuck) q1 S2
      have eg : gK n m is vs zs = vs ++ permBy is zs := by
        unfold gK
        rw [if_pos ⟨by rw [← hvs.length, opl ea, h1], by rw [← hzs.length, opl eb, h2]⟩]
      rw [eg]
      by_cases hl : (ds ++ permBy is es).length = ow.length
      · exact run_callV hn hl R2 (S1.trans S2) Rs (((hvs.mono S2.fz S2.pre)).append (perm_rep hzs is)) q2
      · rw [hfl _ _ hl] at q2
        exact q2.elim
section
variable {X : Cx} {C : Ctx} {CX : CXT} {k n : Nat} {f : Addr} {fd : FuncData} {ps ks : List Str} {x : Str} {p pos : Pos} {e : Expr} {es : List Expr} {kws : List Keyword} {ms mk : List (MS → Res D)} {is : List Nat} {fm : FM} {ow : List Bool} {ret : Bool}
theorem me_callK0 (hk : X.K = C.K) (F : FnOk X.prog X.w X.K X.mg X.base CX k f fd ps (spF C.K C.cls ow ret fm)) (hr : Room k X.A) (hg : Gl X x) (hm : X.mg x = some (.ref f)) (hkp : PySem.W.keepIn X.K (.ref f) = true) (hb : KBinds X.K fd ps ks (gK 0 ks.length is) (gK 0 ks.length is)) (hx : Passes CX X C.E)
    (hkw : MK X C kws mk) (hn : noIo ow = true) (hfl : fm.ofLen ow.length) (h2 : mk.length = ks.length) (hall : (backToKw pos (keywordEach kws X.env)).all (·.1.isSome) = true := by rfl) (hks : (backToKw pos (keywordEach kws X.env)).filterMap (·.1) = ks := by rfl)
    (hdb : (x == ("__debug__" : Str)) = false := by decide)
    (hpl : ((backTo pos (starEach [] X.env)).any (·.1) || (backToKw pos (keywordEach kws X.env)).any (·.1.isNone)) = false := by rfl) :
    ME X C ret (.Call (.Name x p) [] kws pos) (eCallK fm [] mk is) := PE.weak (pe_callK0 F hr hg hm hkp hb hx hkw.pk hall hks hdb hpl) fun σ H Q h => run_callK (n := 0) (ms := []) hn hfl rfl h2 h
theorem me_callK (hk : X.K = C.K) (F : FnOk X.prog X.w X.K X.mg X.base CX k f fd ps (spF C.K C.cls ow ret fm)) (hr : Room k X.A) (hg : Gl X x) (hm : X.mg x = some (.ref f)) (hkp : PySem.W.keepIn X.K (.ref f) = true) (hb : KBinds X.K fd ps ks (gK n ks.length is) (gK n ks.length is)) (hx : Passes CX X C.E)
    (ha : MV X C (e :: es) ms) (hkw : MK X C kws mk) (hn : noIo ow = true) (hfl : fm.ofLen ow.length) (h1 : ms.length = n) (h2 : mk.length = ks.length) (hall : (backToKw pos (keywordEach kws X.env)).all (·.1.isSome) = true := by rfl) (hks : (backToKw pos (keywordEach kws X.env)).filterMap (·.1) = ks := by rfl)
    (hdb : (x == ("__debug__" : Str)) = false := by decide) (he : starEach (e :: es) X.env = (false, eval e X.env) :: starEach es X.env := by rfl)
    (hpl : ((backTo pos (starEach (e :: es) X.env)).any (·.1) || (backToKw pos (keywordEach kws X.env)).any (·.1.isNone)) = false := by rfl) :
    ME X C ret (.Call (.Name x p) (e :: es) kws pos) (eCallK fm ms mk is) := PE.weak (pe_callK F hr hg hm hkp hb hx ha.pa hkw.pk hall hks hdb he hpl) fun σ H Q h => run_callK hn hfl h1 h2 h
end
end Q
set_option Elab.async false
set_option linter.all false
set_option maxRecDepth 100000
set_option autoImplicit false
/-! QS: defs by name -/
namespace Q
open PySem PySem.Spec PyProof.Rows L2 PySem.SeqAt

/-- what the head tells of a def without defaults -/
def DefAt (K : PySem.W.Frag) (x : Str) (st : Stmt) : Prop := ∃ fd, FunD K x x (defArgs st) (defBody st) (defScope st) [] [] (He.ga K x) fd
/-- the def x keeps the promise of its mirror -/
structure DefOk (KP : KK) (mg : Str → Option Value) (base : Heap) (cls : Nat → Option Addr) (k : Nat) (x : Str) (st : Stmt) (ps : List Str) (ow : List Bool) (ret : Bool) (fm : FM) : Prop where
  ex : ∃ f fd, mg x = some (.ref f) ∧ PySem.W.keepIn KP.f (.ref f) = true ∧ Binds KP.f fd ps [] ∧ Fun KP.f x x st f fd ∧ FnOk KP.P KP.w KP.f mg base CX0 k f fd ps (spF KP cls ow ret fm)
section
variable {KP : KK} {mg : Str → Option Value} {base : Heap} {cls : Nat → Option Addr} {k : Nat} {x : Str} {st : Stmt} {ps : List Str} {ow : List Bool} {ret : Bool} {fm : FM}
theorem defOk (hd : DefAt KP.f x st) (gl : mg x = some (.ref (He.ga KP.f x)))
    (hb : ∀ (kV doc pm : Value) (an : Option Addr) (cdv ct : Value) (us : List Value), us.length = ps.length → bindArgs (PySem.W.fnOf x x (defArgs st) (defBody st) (defScope st) .none kV doc pm an cdv ct) ⟨us, []⟩ = pure (ps.zip us))
    (h : ∀ f fd, Fun KP.f x x st f fd → FnOk KP.P KP.w KP.f mg base CX0 k f fd ps (spF KP cls ow ret fm)) : DefOk KP mg base cls k x st ps ow ret fm := by
  obtain ⟨fd, F⟩ := hd
  have F2 : Fun KP.f x x st (He.ga KP.f x) fd := He5.fun_of F
  exact ⟨_, fd, gl, F.kp, F2.binds hb, F2, h _ fd F2⟩
theorem DefOk.mono {j : Nat} (D : DefOk KP mg base cls j x st ps ow ret fm) (h : j ≤ k) : DefOk KP mg base cls k x st ps ow ret fm := by
  obtain ⟨f, fd, a, b, c, d, e⟩ := D.ex
  exact ⟨f, fd, a, b, c, d, e.mono h⟩
theorem noOf {C : Ctx} {X : Cx} (hE : C.E = E0) : Passes CX0 X C.E := by rw [hE]; exact pass0
end
section
variable {X : Cx} {C : Ctx} {j k n : Nat} {ps ks : List Str} {x : Str} {st : Stmt} {p pos : Pos} {e : Expr} {es : List Expr} {as : List CArg} {fm : FM} {ow : List Bool} {ret : Bool} {kws : List Keyword} {ms mk : List (MS → Res D)} {is : List Nat}
/-- the same world -/
structure SameW (X : Cx) (C : Ctx) : Prop where
  k : X.K = C.K.f
  p : X.prog = C.K.P
  w : X.w = C.K.w
  e : C.E = E0
theorem me_callD (W : SameW X C) (D : DefOk C.K X.mg X.base C.cls j x st ps ow ret fm) (hr : Room k X.A) (hj : j ≤ k) (hg : Gl X x)
    (ha : MC X C (e :: es) as) (how : modes as = ow) (hnd : (ownIx as).Nodup) (hdb : (x == ("__debug__" : Str)) = false := by decide) (he : starEach (e :: es) X.env = (false, eval e X.env) :: starEach es X.env := by rfl) (hpl : (backTo pos (starEach es X.env)).any (·.1) = false := by rfl) :
    ME X C ret (.Call (.Name x p) (e :: es) [] pos) (eCall fm as) := by
  obtain ⟨f, fd, hm, hkp, hb, _, F⟩ := D.ex
  refine me_call (CX := CX0) (k := j) (fd := fd) (ps := ps) W.k ?_ (hr.mono hj) hg hm ?_ ?_ (noOf W.e) ha how hnd hdb he hpl
  · rw [W.p, W.w, W.k]; exact F
  · rw [W.k]; exact hkp
  · rw [W.k]; exact hb
theorem me_callDK0 (W : SameW X C) (D : DefOk C.K X.mg X.base C.cls j x st ps ow ret fm) (hr : Room k X.A) (hj : j ≤ k) (hg : Gl X x) (hp : ps ≠ [])
    (hb : ∀ (kV doc pm : Value) (an : Option Addr) (cdv ct : Value) (us ws : List Value), us.length = 0 → ws.length = ks.length → bindArgs (PySem.W.fnOf x x (defArgs st) (defBody st) (defScope st) .none kV doc pm an cdv ct) ⟨us, ks.zip ws⟩ = pure (ps.zip (us ++ permBy is ws)))
    (hkw : MK X C kws mk) (hn : noIo ow = true) (hfl : fm.ofLen ow.length) (h2 : mk.length = ks.length) (hall : (backToKw pos (keywordEach kws X.env)).all (·.1.isSome) = true := by rfl) (hks : (backToKw pos (keywordEach kws X.env)).filterMap (·.1) = ks := by rfl)
    (hdb : (x == ("__debug__" : Str)) = false := by decide)
    (hpl : ((backTo pos (starEach [] X.env)).any (·.1) || (backToKw pos (keywordEach kws X.env)).any (·.1.isNone)) = false := by rfl) :
    ME X C ret (.Call (.Name x p) [] kws pos) (eCallK fm [] mk is) := by
  obtain ⟨f, fd, hm, hkp, _, Fn, F⟩ := D.ex
  refine me_callK0 (CX := CX0) (k := j) (fd := fd) (ps := ps) W.k ?_ (hr.mono hj) hg hm ?_ ?_ (noOf W.e) hkw hn hfl h2 hall hks hdb hpl
  · rw [W.p, W.w, W.k]; exact F
  · rw [W.k]; exact hkp
  · rw [W.k]; exact fun_kb Fn 0 ks is hp hb
theorem me_callDK (W : SameW X C) (D : DefOk C.K X.mg X.base C.cls j x st ps ow ret fm) (hr : Room k X.A) (hj : j ≤ k) (hg : Gl X x) (hp : ps ≠ [])
    (hb : ∀ (kV doc pm : Value) (an : Option Addr) (cdv ct : Value) (us ws : List Value), us.length = n → ws.length = ks.length → bindArgs (PySem.W.fnOf x x (defArgs st) (defBody st) (defScope st) .none kV doc pm an cdv ct) ⟨us, ks.zip ws⟩ = pure (ps.zip (us ++ permBy is ws)))
    (ha : MV X C (e :: es) ms) (hkw : MK X C kws mk) (hn : noIo ow = true) (hfl : fm.ofLen ow.length) (h1 : ms.length = n) (h2 : mk.length = ks.length) (hall : (backToKw pos (keywordEach kws X.env)).all (·.1.isSome) = true := by rfl) (hks : (backToKw pos (keywordEach kws X.env)).filterMap (·.1) = ks := by rfl)
    (hdb : (x == ("__debug__" : Str)) = false := by decide) (he : starEach (e :: es) X.env = (false, eval e X.env) :: starEach es X.env := by rfl)
    (hpl : ((backTo pos (starEach (e :: es) X.env)).any (·.1) || (backToKw pos (keywordEach kws X.env)).any (·.1.isNone)) = false := by rfl) :
    ME X C ret (.Call (.Name x p) (e :: es) kws pos) (eCallK fm ms mk is) := by
  obtain ⟨f, fd, hm, hkp, _, Fn, F⟩ := D.ex
  refine me_callK (CX := CX0) (k := j) (fd := fd) (ps := ps) W.k ?_ (hr.mono hj) hg hm ?_ ?_ (noOf W.e) ha hkw hn hfl h1 h2 hall hks hdb he hpl
  · rw [W.p, W.w, W.k]; exact F
  · rw [W.k]; exact hkp
  · rw [W.k]; exact fun_kb Fn n ks is hp hb
/-- nothing is promised -/
theorem mss_never {ss : List Stmt} : MSs X C ss sNever := PSs.weak (t := fun _ _ _ => False) ⟨fun pins s σ H D I h => h.elim⟩ fun D σ H ⟨st, φ, R, q⟩ => q
end
/-- the law's def: its promise from its mirror's answer -/
theorem law_sp {KP : KK} {cls : Nat → Option Addr} {fm : FM} {a : Addr} {ns : List Int} {H : Hp} (hO : Only H) (hS : SqL KP.f H a (ns.map V.int)) {sto : List SO} (h : fm [.raw (ns.map .int)] [] = .ok (.bl true) [] sto) : spF KP cls [false] false fm [.ref a] H (fun v _ => v = .bl true) fun _ _ _ => False := by
  have hf : FrzL KP H a (ns.map V.int) := by
    rcases hS with hS | hS
    · rcases hS with hS | ⟨o, hS⟩
      · rcases hO a with z | ⟨o, xs, z⟩
        · rw [z] at hS; cases hS
        · rw [z] at hS; cases hS
      · exact .inl ⟨o, hS⟩
    · exact .inr (.inr hS)
  have ra : ∀ ns : List Int, RepAll KP [] H (ns.map .int) (ns.map V.int) := fun ns => by
    induction ns with
    | nil => exact .nil
    | cons n ns ih => exact .cons (by unfold RepD; rfl) ih
  refine ⟨rfl, [], [.raw (ns.map .int)], [], ⟨_, [], .ref a, [], rfl, rfl, ?_, rfl, rfl⟩, ?_, ?_, ?_⟩
  · rw [if_neg Bool.false_ne_true]
    unfold RepD
    exact ⟨a, _, rfl, hf, ra ns⟩
  · show (ioAs [] []).Nodup
    unfold ioAs
    exact List.nodup_nil
  · exact ⟨rfl, fun i so a e => by simp at e, List.nodup_nil⟩
  · rw [h]
    intro φ' H' v F hs hi hv
    unfold FRet at hv
    rw [if_neg (by simp)] at hv
    unfold RepD at hv
    exact hv
end Q
set_option Elab.async false
set_option linter.all false
set_option maxRecDepth 100000
set_option autoImplicit false
/-! QT: what generated derivations use -/
namespace Q
open PySem PySem.Spec PyProof.Rows L2 PySem.SeqAt

theorem ioNe {K : KK} {cls : Nat → Option Addr} {ow : List Bool} {lo : List Nat} {ret : Bool} {H : Hp} {vs : List V} {E : XK} {i : Nat} (h : (ow[i]?).getD false = false) : ∀ p ∈ (mkC K cls ow lo ret H vs E).io, p.1 ≠ i := fun p hp e => by
  obtain ⟨_, h3, _⟩ := mem_ioL hp
  rw [Nat.sub_zero, e] at h3
  rw [h3] at h
  cases h
theorem ownOut {K : KK} {cls : Nat → Option Addr} {ow : List Bool} {lo : List Nat} {ret : Bool} {H : Hp} {us : List V} {E : XK} {vs : List Nat} (h : (vs.all fun v => !ownF ow lo v) = true) : ∀ v ∈ vs, (mkC K cls ow lo ret H us E).own v = false := fun v hv => by
  have := List.all_eq_true.mp h v hv
  simpa using this
theorem vsIn {us vs : List Nat} (h : (us.all fun v => decide (v ∈ vs)) = true) : ∀ v ∈ us, v ∈ vs := fun v hv => by
  have := List.all_eq_true.mp h v hv
  simpa using this
/-- a slot of the def's own is given up, its thing frozen -/
def eMv (i : Nat) : MS → Res D := fun st => match st.get i with
  | some d => .ok d (st.del i)
  | none => .stuck
section
variable {X : Cx} {C : Ctx} {o : Bool} {e : Expr} {i : Nat} {m : MS → Res D}
theorem me_mv (i : Nat) (h : PE X e (tVar i)) (ho : C.own i = true) (hio : ∀ p ∈ C.io, p.1 ≠ i) : ME X C false e (eMv i) := PE.weak (pe_fz h) fun σ H Q ⟨st, φ, R, q⟩ => by
  unfold eMv at q
  cases e0 : st.get i with
  | none => rw [e0] at q; exact q.elim
  | some d =>
    rw [e0] at q
    obtain ⟨a, u, ha, ow, h0, hu, mu⟩ := R.own0 ho hio e0
    refine ⟨.ref a, ha, .inr ⟨a, u, rfl, hu, mu, fun ob => ?_⟩⟩
    obtain ⟨R', rd, S'⟩ := R.delFz ob ho (MS.get_some e0) ha hu h0
    refine q φ _ R' ⟨S'.pre, S'.new, S'.fz, fun b x hb nb nφ => ?_, S'.dom⟩ (.ref a) (.of_rep rfl rd)
    have : b ≠ a := fun z => nb ⟨i, ho, by rw [z]; exact ha⟩
    rw [upd_ne this]
    exact hb
/-- a result that is no list and no dict -/
def eNo (m : MS → Res D) : MS → Res D := fun st => (m st).bind fun d st1 => if isOwn d = true then .stuck else .ok d st1
theorem me_no (h : ME X C false e m) : ME X C o e (eNo m) := PE.weak h fun σ H Q ⟨st, φ, R, q⟩ => ⟨st, φ, R, Post.mono (Post.bind q) fun d st1 φ1 H1 R1 S1 p v hv => by
  by_cases hd : isOwn d = true
  · rw [if_pos hd] at p; exact p.elim
  · rw [if_neg hd] at p
    refine p φ1 H1 R1 .refl v ?_
    unfold ValR
    rw [if_neg (by simp [hd])]
    exact hv.rep⟩
end
section
variable {X : Cx} {C : Ctx} {x : Str} {pos : Pos} {i : Nat} {es : List Expr} {as : List CArg}
theorem me_vs (hN : X.N[i]? = some x := by rfl) (hv : Vis X.env.scope x := by first | exact Or.inl rfl | exact Or.inr (Or.inl rfl) | exact Or.inr (Or.inr rfl)) (hd : (x == ("__debug__" : Str)) = false := by decide) (hcd : (x == ("__classdict__" : Str)) = false := by decide) (ho : C.own i = false := by rfl) :
    ME X C false (.Name x pos) (eV i) := me_var i (pv i hN hv hd hcd) ho
theorem mo_os (hN : X.N[i]? = some x := by rfl) (hv : Vis X.env.scope x := by first | exact Or.inl rfl | exact Or.inr (Or.inl rfl) | exact Or.inr (Or.inr rfl)) (hd : (x == ("__debug__" : Str)) = false := by decide) (hcd : (x == ("__classdict__" : Str)) = false := by decide) (ho : C.own i = true := by rfl) :
    MO X C (.Name x pos) (.own i) := mo_own i (pv i hN hv hd hcd) ho
theorem mc_os (t : MC X C es as) (hN : X.N[i]? = some x := by rfl) (hv : Vis X.env.scope x := by first | exact Or.inl rfl | exact Or.inr (Or.inl rfl) | exact Or.inr (Or.inr rfl)) (hd : (x == ("__debug__" : Str)) = false := by decide) (hcd : (x == ("__classdict__" : Str)) = false := by decide) (ho : C.own i = true := by rfl)
    (hs : starEach (.Name x pos :: es) X.env = (false, eval (.Name x pos) X.env) :: starEach es X.env := by rfl) : MC X C (.Name x pos :: es) (.own i :: as) := mc_own i (pv i hN hv hd hcd) ho t hs
theorem me_mvs (hio : ∀ p ∈ C.io, p.1 ≠ i) (hN : X.N[i]? = some x := by rfl) (hv : Vis X.env.scope x := by first | exact Or.inl rfl | exact Or.inr (Or.inl rfl) | exact Or.inr (Or.inr rfl)) (hd : (x == ("__debug__" : Str)) = false := by decide) (hcd : (x == ("__classdict__" : Str)) = false := by decide) (ho : C.own i = true := by rfl) :
    ME X C false (.Name x pos) (eMv i) := me_mv i (pv i hN hv hd hcd) ho hio
end
/-- the right side -/
@[reducible] def rhsOf {α : Type} {a b : α} (_ : a = b) : α := b
theorem fn_okS {P : Program} {w : World} {K : KK} {mg : Str → Option Value} {base : Heap} {x qual : Str} {st : Stmt} {f : Addr} {fd : FuncData} {N ps : List Str} {k : Nat} {cls : Nat → Option Addr} (ow : List Bool) (lo : List Nat) (ret : Bool) {m : MS → SR} {sc : Scope} {b : List Stmt} {n : Nat}
    (F : Fun K x qual st f fd) (hn : N.length = n) (hsc : defScope st = sc) (hbd : defBody st = b) (S : FnScope N ps sc) (hl : ow.length = ps.length) (hlo : ∀ i ∈ lo, ow.length ≤ i)
    (hb : ∀ (cdv : Value) (A : Around) (outer : List Env) (s : Shared) (H : Hp) (vs : List V) (E : XK), Room k (A.deeper (envOfC qual sc s.heap.objs.size f cdv)) → (∀ i, ownF ow lo i = true → (ow[i]?).getD false = false → ∀ p ∈ ioL 0 ow vs, p.1 ≠ i) →
      MSs (cxOf CX0 P w K mg base N qual sc f cdv A outer s H E).nox (mkC K cls ow lo ret H vs E0) b m) :
    FnOk P w K mg base CX0 (k + 1) f fd ps (spF K cls ow ret (runF n ow m).safe) := by
  subst hn hsc hbd
  exact fn_ok ow lo ret F S hl hlo hb
end Q
set_option Elab.async false
set_option linter.all false
set_option maxRecDepth 100000
set_option autoImplicit false
/-! QU: sets of tuples of ints: made of a list or a tuple, asked by `in` -/
namespace Q
open PySem PySem.Spec PyProof.Rows L2 PySem.SeqAt
section
variable {P : Program} {w : World} {A : Around} {E : Value → Shared → Prop} {s : Shared} {a : Addr} {L : List (Addr × List Int)} {es : Array (Int × Value)} {ep : Nat} {t : SetTable}
/-- the probe at the c-th step for the hash h -/
abbrev stepP (t : SetTable) (h : Int) (c : Nat) : SetTable.Probe := nth t.mask (runAt t.mask (SetTable.bits h % (t.mask + 1)) (SetTable.bits h)) c
theorem stepP_dummy (t : SetTable) (h : Int) (c : Nat) : (stepP t h c).dummy = none := by
  have all : ∀ (m : Nat) (q : SetTable.Probe), q.dummy = none → (nth t.mask q m).dummy = none := fun m => by
    induction m with
    | zero => exact fun q z => z
    | succ m ih =>
      intro q z
      refine ih (adv t.mask q) ?_
      unfold adv
      split <;> exact z
  exact all c _ rfl
theorem ask_from (R : SetTR P w s.heap a L es ep t) {x : Addr} {k : List Int} (hx : IsT P w s.heap k x) (hu : A.units < cLine) {N : Nat} (hNf : N < 10 * SetTable.turns t.mask)
    (hN : way t.mask (thash P w k) N ∉ t.place.toList) (hNb : ∀ c, c < N → way t.mask (thash P w k) c ∈ t.place.toList) {Q : SetFound → Shared → Prop}
    (yes : k ∈ L.map (·.2) → ∀ i, Q (.there (some i)) s) (no : k ∉ L.map (·.2) → ∀ j, Q (.free j false) s) :
    ∀ (f c : Nat) (stand : Option SetTable.Probe), stand.getD (t.probeStart (thash P w k)) = stepP t (thash P w k) c → c ≤ N → N - c < f →
      (∀ (i : Nat) p, L[i]? = some p → p.2 = k → ∃ d, c ≤ d ∧ d < N ∧ t.place.toList[i]? = some (way t.mask (thash P w k) d)) →
      wpAny (model P w) A (setSearchFrom a (.ref x) (thash P w k) false f stand) Q E s
  | 0, c, stand, _, _, hf, _ => absurd hf (Nat.not_lt_zero _)
  | f + 1, c, stand, hst, hc, hf, hre => by
    obtain ⟨ob, hob, _, hdat⟩ := R.ob
    rw [setSearchFrom_succ]
    refine wpAny_bind (wpAny_setState_of hob hdat R.fits ?_)
    dsimp only
    refine wp_if_neg R.gw ?_
    have shift : ∀ m, nth t.mask (stepP t (thash P w k) c) m = stepP t (thash P w k) (c + m) := fun m => (nth_add t.mask c _ m).symm
    have shiftJ : ∀ m, (nth t.mask (stepP t (thash P w k) c) m).j = way t.mask (thash P w k) (c + m) := fun m => congrArg SetTable.Probe.j (shift m)
    have hsum : c + (N - c) = N := by omega
    have hash_of : ∀ (i : Nat) p, L[i]? = some p → (es[i]?.map (·.1)).getD 0 = thash P w p.2 := fun i p e => by
      rw [R.entry e] <;> rfl
    have pst : t.probe (fun i => (es[i]?.map (·.1)).getD 0) (thash P w k) (stand.getD (t.probeStart (thash P w k))) = SetTable.probe.go t (fun i => (es[i]?.map (·.1)).getD 0) (thash P w k) (10 * SetTable.turns t.mask) (stepP t (thash P w k) c) := by
      rw [hst]
      rfl
    have met := go_spec t R.tab.ris R.tab.dm (fun i => (es[i]?.map (·.1)).getD 0) (thash P w k) (10 * SetTable.turns t.mask) (N - c) _ (stepP_dummy t (thash P w k) c) (by omega) (fun m hm => by rw [shiftJ]; exact hNb (c + m) (by omega)) (by rw [shiftJ, hsum]; exact hN)
    rcases met with ⟨m, i, hm, hi, _, before, hgo⟩ | ⟨before, hgo⟩
    · rw [shiftJ] at hi
      rw [pst, hgo, shiftJ, shift]
      dsimp only
      have lt_i : i < L.length := by
        have h1 : i < t.place.toList.length := (List.getElem?_eq_some_iff.mp hi).1
        have h2 := R.tab.sz
        rw [List.length_map] at h2
        rw [Array.length_toList] at h1
        omega
      obtain ⟨p, hp⟩ : ∃ p, L[i]? = some p := ⟨L[i], List.getElem?_eq_getElem lt_i⟩
      have p_in : p ∈ L := List.mem_of_getElem? hp
      have live := slot_live R.tab.ris hi
      have rest : wpAny (model P w) A (searchRest a (.ref x) (thash P w k) false f es t (way t.mask (thash P w k) (c + m)) i (stepP t (thash P w k) (c + (m + 1)))) Q E s := by
        unfold searchRest
        rw [R.entry hp]
        dsimp only
        refine wpAny_bind (wpAny_holding (wpAny_eqBool_tuple hu (R.tup p p_in) hx ?_))
        refine wpAny_bind (wpAny_setState_of hob hdat R.fits ?_)
        dsimp only
        refine wp_if_neg (by simp) ?_
        try refine wpAny_bind (wpAny_pure ?_)
        rw [sameMem]
        dsimp only
        simp only [if_true, live, R.entry hp]
        refine wpAny_bind (wpAny_isSame_ref_self (wpAny_bind (wpAny_pure ?_)))
        simp only [if_true]
        by_cases same : p.2 = k
        · refine wp_if_pos (by simp [same]) ?_
          exact wpAny_pure (yes (List.mem_map.mpr ⟨p, p_in, same⟩) i)
        · refine wp_if_neg (by simp [same]) ?_
          refine ask_from R hx hu hNf hN hNb yes no f (c + (m + 1)) _ rfl (by omega) (by omega) fun j q hq hqk => ?_
          obtain ⟨d, d1, d2, d3⟩ := hre j q hq hqk
          refine ⟨d, ?_, d2, d3⟩
          rcases Nat.lt_trichotomy d (c + m) with z | z | z
          · refine absurd ((hash_of j q hq).trans (congrArg (thash P w) hqk)) (before (d - c) j (by omega) ?_)
            rw [shiftJ, show c + (d - c) = d by omega]
            exact d3
          · rw [z] at d3
            have e := slot_live R.tab.ris d3
            rw [live] at e
            injection e with e
            rw [← e, hp] at hq
            cases hq
            exact absurd hqk same
          · omega
      by_cases hled : t.led = true
      · refine wp_if_neg (by simp [hled]) ?_
        try refine wpAny_bind (wpAny_pure ?_)
        exact rest
      · refine wp_if_pos (by simp [hled]) ?_
        refine wpAny_bind (seen_tup hx (fun y hy => ?_) ?_)
        · obtain ⟨r, hr, rfl⟩ := List.mem_map.mp hy
          have hr2 : r ∈ es.toList := by
            have : r ∈ es ∧ r.1 = thash P w k := by simpa using hr
            simpa using this.1
          rw [R.rows] at hr2
          obtain ⟨q, hq, e⟩ := List.mem_map.mp hr2
          exact ⟨q.2, q.1, by rw [← e], R.tup q hq⟩
        · refine wp_if_neg (by decide) ?_
          try refine wpAny_bind (wpAny_pure ?_)
          exact rest
    · rw [pst, hgo]
      dsimp only
      refine wpAny_pure (no (fun hm => ?_) _)
      obtain ⟨q, q1, q2⟩ := List.mem_map.mp hm
      obtain ⟨j, hj, e⟩ := List.getElem_of_mem q1
      have hq : L[j]? = some q := by rw [List.getElem?_eq_getElem hj, e]
      obtain ⟨d, d1, d2, d3⟩ := hre j q hq q2
      refine before (d - c) j (by omega) ?_ ((hash_of j q hq).trans (congrArg (thash P w) q2))
      rw [shiftJ, show c + (d - c) = d by omega]
      exact d3
theorem ask_at (R : SetTR P w s.heap a L es ep t) {x : Addr} {k : List Int} (hx : IsT P w s.heap k x) (hu : A.units < cLine) {Q : SetFound → Shared → Prop}
    (yes : k ∈ L.map (·.2) → ∀ i, Q (.there (some i)) s) (no : k ∉ L.map (·.2) → ∀ j, Q (.free j false) s) : wpAny (model P w) A (setSearch a (.ref x) (thash P w k)) Q E s := by
  have room := R.room
  obtain ⟨N, hNf, hN, hNb⟩ := R.tab.first (by rw [List.length_map]; omega) (thash P w k)
  have few : N < 100000 := by
    have : 10 * SetTable.turns t.mask ≤ 1420 := by
      unfold SetTable.turns
      rcases R.tab.mok with e | e | e <;> omega
    omega
  unfold setSearch
  refine ask_from R hx hu hNf hN hNb yes no 100000 0 none rfl (Nat.zero_le _) (by omega) fun i p hp hk => ?_
  have at_i : (L.map fun p => thash P w p.2)[i]? = some (thash P w k) := by rw [List.getElem?_map, hp, ← hk] <;> rfl
  have i_lt : i < t.place.toList.length := by
    have a1 : i < L.length := (List.getElem?_eq_some_iff.mp hp).1
    have a2 := R.tab.sz
    rw [List.length_map] at a2
    rw [Array.length_toList]
    omega
  obtain ⟨d, hd, e⟩ := R.tab.before hN at_i (List.getElem?_eq_getElem i_lt)
  exact ⟨d, Nat.zero_le _, hd, by rw [List.getElem?_eq_getElem i_lt, e]⟩
/-- asking the set for a tuple -/
theorem ask_find (R : SetTR P w s.heap a L es ep t) {x : Addr} {k : List Int} (hx : IsT P w s.heap k x) (hu : A.units < cLine) {Q : Option Nat → Shared → Prop}
    (q : ∀ r : Option Nat, r.isSome = decide (k ∈ L.map (·.2)) → Q r s) : wpAny (model P w) A (setFind a (.ref x) (thash P w k)) Q E s := by
  obtain ⟨ob, hob, _, hdat⟩ := R.ob
  show wpAny (model P w) A (setFindIn a (.ref x) (thash P w k) (99999 + 1)) Q E s
  unfold setFindIn
  refine wpAny_bind (wpAny_setState_of hob hdat R.fits ?_)
  dsimp only
  refine wp_if_neg (by simp [byScan, Value.scannable]) ?_
  try refine wpAny_bind (wpAny_pure ?_)
  refine wpAny_bind (ask_at R hx hu (fun hm i => ?_) fun hm j => ?_)
  · exact wpAny_pure (q _ (by simp [hm]))
  · exact wpAny_pure (q _ (by simp [hm]))
theorem ask_contains (R : SetTR P w s.heap a L es ep t) {x : Addr} {k : List Int} (hx : IsT P w s.heap k x) (hu : A.units + 8 < cLine) {Q : Bool → Shared → Prop}
    (q : Q (decide (k ∈ L.map (·.2))) { s with toks := s.toks + (k.length + 1) }) : wpAny (model P w) A (contains (.ref a) (.ref x)) Q E s := by
  obtain ⟨ob, hob, hex, hdat⟩ := R.ob
  have hT : s.TypeIs (.ref a) "set" := ⟨ob, hob, hex.1⟩
  unfold contains
  try with_reducible refine wpAny_holding ?_
  refine wpAny_bind (wpAny_specialOf hT F.slot_set_contains.lookup ?_)
  rw [if_neg (by rw [beq_builtin_none]; exact Bool.false_ne_true)]
  refine wpAny_bind (wpAny_callSpecialUnlessNone?_slot (name := Str.ofString "__contains__") hT F.slot_set_contains (wpAny_call_entry F.slot_set_contains hT entry_set_contains ?_ (F.args_set_contains_2 _ _)))
  unfold Builtin.«frozenset.__contains__» Builtin.Frozenset.oneOther
  simp only [List.isEmpty_nil, bind_assoc]
  unfold Builtin.Frozenset.addrOf Builtin.Frozenset.withSetAsKey setContains
  refine wpAny_bind (wpAny_pure ?_)
  try dsimp only
  refine wpAny_bind (wpAny_pure ?_)
  try dsimp only
  refine wpAny_bind (wpAny_tryCatch (wpAny_holding (wpAny_bind (wpAny_pyHash_tuple (show A.units + 1 < cLine by omega) hx ?_))))
  refine wpAny_bind (ask_find (s := { s with toks := s.toks + (k.length + 1) }) R hx (show A.units + 1 < cLine by omega) fun r hr => wpAny_pure ?_)
  show wpAny _ _ (ret (Value.bool r.isSome)) _ _ _
  rw [hr]
  exact wpAny_pure ⟨_, rfl, wpAny_truthy_bool q⟩
end
/-! ### x in s, x not in s -/
def intsD : List D → Option (List Int)
  | [] => some []
  | .int i :: r => (intsD r).map (i :: ·)
  | _ => none
theorem RepAll.intsD {K : KK} {φ : List Addr} {H : Hp} : ∀ {ds : List D} {vs : List V} {ns : List Int}, RepAll K φ H ds vs → Q.intsD ds = some ns → vs = ns.map V.int ∧ ds = ns.map D.int
  | [], _, _, h, e => by cases e; rw [h.of_nil]; exact ⟨rfl, rfl⟩
  | .int i :: r, _, ns, h, e => by
    obtain ⟨v, vr, rfl, h1, h2⟩ := h.of_cons
    unfold Q.intsD at e
    cases er : Q.intsD r with
    | none => rw [er] at e; cases e
    | some ms =>
      rw [er] at e
      cases e
      obtain ⟨h3, h4⟩ := RepAll.intsD h2 er
      unfold RepD at h1
      rw [h1, h3, h4]
      exact ⟨rfl, rfl⟩
  | .non :: _, _, _, _, e => by cases e
  | .bl _ :: _, _, _, _, e => by cases e
  | .str _ :: _, _, _, _, e => by cases e
  | .lst _ :: _, _, _, _, e => by cases e
  | .tup _ :: _, _, _, _, e => by cases e
  | .dic _ :: _, _, _, _, e => by cases e
  | .set _ :: _, _, _, _, e => by cases e
  | .ref _ :: _, _, _, _, e => by cases e
  | .fn _ _ :: _, _, _, _, e => by cases e
  | .raw _ :: _, _, _, _, e => by cases e
def tupI : D → Option (List Int)
  | .tup ds => intsD ds
  | _ => none
def inSet (xs : List D) (k : List Int) : Bool := xs.any fun d => tupI d == some k
/-- the program's own frame -/
structure Own (X : Cx) (kk : KK) : Prop where
  k : X.K = kk.f
  p : X.prog = kk.P
  w : X.w = kk.w
def rInS (k : KK) (neg : Bool) : R2 := fun x y H Q => ∃ φ ns ds xs, RepR k φ H (.tup ds) x ∧ intsD ds = some ns ∧ RepD k φ H (.set xs) y ∧ Q (.bl (neg != inSet xs ns)) H
theorem intsD_map : ∀ ns : List Int, intsD (ns.map D.int) = some ns
  | [] => rfl
  | n :: ns => by
    show (intsD (ns.map D.int)).map (n :: ·) = some (n :: ns)
    rw [intsD_map ns]
    rfl
theorem inSet_iff {k : KK} {H : Hp} {L : List (Addr × List Int)} {xs : List D} (h1 : ∀ p ∈ L, SqT k H p.1 (p.2.map V.int) ∧ D.tup (p.2.map D.int) ∈ xs) (h2 : ∀ x ∈ xs, ∃ p ∈ L, x = .tup (p.2.map D.int)) (ns : List Int) : decide (ns ∈ L.map (·.2)) = inSet xs ns := by
  unfold inSet
  by_cases hm : ns ∈ L.map (·.2)
  · rw [decide_eq_true hm]
    obtain ⟨p, hp, rfl⟩ := List.mem_map.mp hm
    refine (List.any_eq_true.mpr ⟨_, (h1 p hp).2, ?_⟩).symm
    show (intsD (p.2.map D.int) == some p.2) = true
    rw [intsD_map]
    simp
  · rw [decide_eq_false hm]
    refine (Bool.eq_false_iff.mpr fun z => ?_).symm
    obtain ⟨x, hx, e⟩ := List.any_eq_true.mp z
    obtain ⟨p, hp, rfl⟩ := h2 x hx
    have e : (intsD (p.2.map D.int) == some ns) = true := e
    rw [intsD_map] at e
    have e' : p.2 = ns := by simpa using e
    exact hm (List.mem_map.mpr ⟨p, hp, e'⟩)
theorem op_inS {X : Cx} {k : KK} (W : Own X k) (hu : X.A.units + 64 < cLine) : OpR X (compareOp .In) (rInS k false) := by
  intro pins s σ H x y v u Q I rx ry h
  obtain ⟨φ, ns, ds, xs, hx, en, hy, q⟩ := h
  obtain ⟨b, vs, rfl, sb, rb⟩ := hx.tup
  obtain ⟨e1, e2⟩ := rb.intsD en
  subst e1
  unfold RepD at hy
  obtain ⟨a, L, rfl, ha, h1, h2⟩ := hy
  cases rx
  cases ry
  rw [← W.p, ← W.w] at ha
  have R0 : SetT0 X.prog X.w s.heap a L := (I.hok a _ ha).1
  obtain ⟨es, ep, t, R⟩ := R0.full fun p hp => I.isT (by rw [W.k]; exact (h1 p hp).1)
  show wpAny _ _ (do return Value.bool (← contains (.ref a) (.ref b))) _ _ s
  refine wpAny_bind (ask_contains R (I.isT (by rw [W.k]; exact sb)) (by omega) (wpAny_pure ?_))
  rw [inSet_iff h1 h2 ns]
  have e : (false != inSet xs ns) = inSet xs ns := by cases inSet xs ns <;> rfl
  rw [e] at q
  exact ⟨.bl (inSet xs ns), H, I.kept (t' := s.toks + (ns.length + 1)) (fun b o e => e), rfl, q⟩
theorem op_notInS {X : Cx} {k : KK} (W : Own X k) (hu : X.A.units + 64 < cLine) : OpR X (compareOp .NotIn) (rInS k true) := by
  intro pins s σ H x y v u Q I rx ry h
  obtain ⟨φ, ns, ds, xs, hx, en, hy, q⟩ := h
  obtain ⟨b, vs, rfl, sb, rb⟩ := hx.tup
  obtain ⟨e1, e2⟩ := rb.intsD en
  subst e1
  unfold RepD at hy
  obtain ⟨a, L, rfl, ha, h1, h2⟩ := hy
  cases rx
  cases ry
  rw [← W.p, ← W.w] at ha
  have R0 : SetT0 X.prog X.w s.heap a L := (I.hok a _ ha).1
  obtain ⟨es, ep, t, R⟩ := R0.full fun p hp => I.isT (by rw [W.k]; exact (h1 p hp).1)
  show wpAny _ _ (do return Value.bool (!(← contains (.ref a) (.ref b)))) _ _ s
  refine wpAny_bind (ask_contains R (I.isT (by rw [W.k]; exact sb)) (by omega) (wpAny_pure ?_))
  rw [inSet_iff h1 h2 ns]
  have e : (true != inSet xs ns) = !inSet xs ns := by cases inSet xs ns <;> rfl
  rw [e] at q
  exact ⟨.bl (!inSet xs ns), H, I.kept (t' := s.toks + (ns.length + 1)) (fun b o e => e), rfl, q⟩
end Q
set_option Elab.async false
set_option linter.all false
set_option maxRecDepth 100000
set_option autoImplicit false
/-! QV: sets of tuples of ints: made of a tuple -/
namespace Q
open PySem PySem.Spec PyProof.Rows L2 PySem.SeqAt
section
variable {P : Program} {w : World} {A : Around} {E : Value → Shared → Prop} {s : Shared}
/-- the set that is new -/
abbrev newSet (w : World) : Obj := { cls := .type "set", dict := none, data := .set #[] 0 (.fresh 0 0 (!w.params.followText "set-order")) }
set_option maxHeartbeats 3200000 in
theorem set_of_tuple {u : Addr} {vs : Array Value} (ps : List (Addr × List Int)) {Q : Value → Shared → Prop} (free : A.handled = none) (isT : s.heap.IsTuple u vs) (eq : vs.toList = ps.map fun p => Value.ref p.1)
    (each : ∀ p ∈ ps, IsT P w s.heap p.2 p.1) (few : ps.length < 64) (room : A.units + 3 < cLine)
    (fin : ∀ (g : Heap) (tk : Nat) L es ep t, SetTR P w g s.heap.objs.size L es ep t → Got ps ps.length L → (∀ b o, s.heap.get? b = some o → g.get? b = some o) → Q (.ref s.heap.objs.size) { s with heap := g, toks := tk }) :
    wpAny (model P w) A (call (.type "set") [.ref u]) Q E s := by
  have size : vs.size = ps.length := by
    have := congrArg List.length eq
    rwa [Array.length_toList, List.length_map] at this
  obtain ⟨c0, c1, mro⟩ := F.called_set.mro
  have made := F.called_set.made
  have subty := F.called_set.sub
  refine wpAny_call (codeAny_of_tree ?_)
  show wpAny _ _ (callAny (.type "set") _) _ _ _
  refine wpAny_pure ⟨Code.quiet_builtin _ (by decide +kernel), codeAny_builtin F.entry_type_call ?_⟩
  rw [Around.under_plain (weight_type_call_type "set" [.ref u] []) rfl]
  have k1 := F.called_set.notType
  have k2 := F.called_set.canCreate
  have k3 := F.typeCall_set_1 (.ref u)
  repeat (any_goals (first | assumption | wp_step))
  refine codeAny_mono (code_set_led1 (.ref u) (E := E) (Q₁ := fun z s1 => z = .ref s.heap.objs.size ∧ s1 = { s with heap := s.heap.push (newSet w) }) ⟨rfl, rfl⟩) fun res s1 hres => ?_
  cases res with
  | error _ => exact hres
  | ok flow =>
    cases flow with
    | ret z =>
      obtain ⟨rfl, rfl⟩ := hres
      have atS : (s.heap.push (newSet w)).get? s.heap.objs.size = some (newSet w) := Heap.get?_push_size _ rfl
      have tyS : Shared.TypeIs { s with heap := s.heap.push (newSet w) } (.ref s.heap.objs.size) "set" := ⟨_, atS, rfl⟩
      have lk := F.called_set.init.lookup
      have bd := F.called_set.init.bind (.ref s.heap.objs.size)
      repeat (any_goals (first | assumption | wp_step))
      refine codeAny_mono (codeAny_call_builtin (R := wants (fun r s2 => r = .none ∧ ∃ g tk L es ep t, s2 = { s with heap := g, toks := tk } ∧ SetTR P w g s.heap.objs.size L es ep t ∧ Got ps ps.length L ∧ (∀ b o, s.heap.get? b = some o → g.get? b = some o)) E) F.called_set.init.plain F.entry_set_init (check_set_init_1 tyS ?_)) fun r2 s2 hr2 => ?_
      · have isT0 := isT
        obtain ⟨ob, at_u, cls_u, n_u, dat_u⟩ := isT
        obtain ⟨b1, b2, b3, b4⟩ := ob
        simp only at cls_u dat_u
        subst cls_u
        subst dat_u
        have at_u' : (s.heap.push (newSet w)).get? u = some { cls := .type "tuple", dict := b2, data := .seq vs n_u, slots := b4 } := Heap.get?_push_of_some _ at_u
        have z1 := F.sub_tuple_set
        have z2 := F.sub_tuple_frozenset
        have z3 : (Value.type "tuple" == Value.type "dict") = false := by decide
        have isT1 : (s.heap.push (newSet w)).IsTuple u vs := isT0.push _
        unfold Builtin.«set.__init__» noKeywords Builtin.Frozenset.updateFrom
        generalize hPI : pyIter = PI
        wp_walk
        subst hPI
        refine wpAny_pyIter_tuple isT1 ?_
        refine wpAny_bind (wpAny_runValue ?_)
        have u_lt : u < s.heap.objs.size := Heap.lt_size at_u
        have free3 : A.in1.in1.in1.handled = none := by simp [free]
        have u_ne : u ≠ (s.heap.push (newSet w)).objs.size := by
          rw [Heap.size_push]
          exact Nat.ne_of_lt (Nat.lt_succ_of_lt u_lt)
        have S_out : s.heap.objs.size ∉ [(s.heap.push (newSet w)).objs.size, u] := by
          rw [Heap.size_push]
          simp only [List.mem_cons, List.mem_singleton, List.not_mem_nil, or_false, not_or]
          exact ⟨Nat.ne_of_lt (Nat.lt_succ_self _), Nat.ne_of_gt u_lt⟩
        have vals : ∀ (i : Nat) (v : Value), vs[i]? = some v → ∃ p, ps[i]? = some p ∧ v = .ref p.1 := fun i v hv => by
          have h0 : vs.toList[i]? = some v := (Array.getElem?_toList ..).trans hv
          rw [eq, List.getElem?_map] at h0
          cases e0 : ps[i]? with
          | none => rw [e0] at h0; cases h0
          | some p =>
            rw [e0] at h0
            exact ⟨p, rfl, (Option.some.inj h0).symm⟩
        have nothing : ∀ b, s.heap.objs.size ≤ b → s.heap.get? b = none := fun b hb => by
          cases e0 : s.heap.get? b with
          | none => rfl
          | some o => exact absurd (Heap.lt_size e0) (Nat.not_lt.mpr hb)
        refine set_update_tups ((Walks.tuple free3 _ u u_ne vs).toS) s.heap.objs.size S_out ps size few vals s.heap each (nothing _ (Nat.le_refl _)) (fun b hb => nothing b ?new) room (vs.size - 0) 0 _ (by omega) (Nat.zero_le _)
          ⟨⟨_, Heap.get?_push_size _ rfl, rfl, rfl⟩, isT1.push _⟩ (fun b o e => Heap.get?_push_of_some _ (Heap.get?_push_of_some _ e)) ⟨[], #[], 0, _, setTR_fresh (Heap.get?_push_of_some _ atS), Got.zero ps⟩ ?last
        case new =>
          rw [List.mem_singleton.mp hb, Heap.size_push]
          exact Nat.le_succ _
        case last =>
          intro s3 L es ep t mv R3 got keeps
          obtain ⟨g3, gs3, dr3, tk3, os3⟩ := s3
          have e1 : gs3 = s.gens := mv.gens
          have e2 : dr3 = s.drawn := mv.drawn
          have e3 : os3 = s.os := mv.os
          subst e1 e2 e3
          show wpAny _ _ _ _ _ _
          refine wpAny_pure ?_
          show wpAny _ _ (ret Value.none) _ _ _
          rw [size] at got
          exact wpAny_pure ⟨rfl, g3, tk3, L, es, ep, t, rfl, R3, got, keeps⟩
      · cases r2 with
        | error _ => exact hr2
        | ok flow2 =>
          cases flow2 with
          | ret r =>
            obtain ⟨rfl, g, tk, L, es, ep, t, rfl, R3, got, keeps⟩ := hr2
            repeat (any_goals (first | assumption | wp_step))
            exact fin _ _ _ _ _ _ R3 got keeps
          | _ => exact hr2.elim
    | _ => exact hres.elim
end
section
variable {X : Cx}
/-- set(xs), xs a tuple of tuples of ints -/
def rSetTup (K : PySem.W.Frag) (P : Program) (w : World) : List V → Hp → VK → Prop := fun xs H Q => ∃ (u : Addr) (ps : List (Addr × List Int)), xs = [V.ref u] ∧ SqT K H u (ps.map fun p => V.ref p.1) ∧ (∀ p ∈ ps, SqT K H p.1 (p.2.map V.int)) ∧ ps.length < 64 ∧
  ∀ a L, H a = none → (∀ p ∈ L, p ∈ ps) → (∀ p ∈ ps, p.2 ∈ L.map (·.2)) → Q (.ref a) (upd H a (SetTO P w a L))
theorem cr_setTup (calm : X.calm = true) (hu : X.A.units + 64 < cLine) : CallR X (.type "set") (rSetTup X.K X.prog X.w) := by
  intro pins s σ H xs us Q I r h
  obtain ⟨u, ps, rfl, st, each, few, q⟩ := h
  rw [Vals.ref1 r]
  obtain ⟨its, rv, pt, hz⟩ := I.tuple st
  have new : H s.heap.objs.size = none := I.hok.fresh (Nat.le_refl _)
  obtain ⟨o, ho, hc, n, hd⟩ := pt
  refine set_of_tuple (P := X.prog) (w := X.w) ps (I.ok.hd calm) ⟨o, ho, hc, n, hd⟩ (by simpa using refs_of_vals rv) (fun p hp => I.isT (each p hp)) few (by omega) fun g tk L es ep t R got k => ?_
  refine ⟨.ref s.heap.objs.size, upd H s.heap.objs.size (SetTO X.prog X.w s.heap.objs.size L), I.laid (t' := tk) k (Nat.le_refl _) (setTO_new R.t0), rfl, q _ L new (fun p hp => ?_) fun p hp => ?_⟩
  · exact List.mem_of_mem_take (got.sub p hp)
  · exact got.all p (by rw [List.take_length]; exact hp)
end
/-- tuples of ints all -/
def tupsI : List D → Option (List (List Int))
  | [] => some []
  | d :: r => (tupI d).bind fun k => (tupsI r).map (k :: ·)
def gSetOf : List D → Option D
  | [.lst xs] => if (tupsI xs).isSome = true ∧ xs.length < 64 then some (.set xs) else none
  | [.tup xs] => if (tupsI xs).isSome = true ∧ xs.length < 64 then some (.set xs) else none
  | _ => none
theorem tupI_some {d : D} {k : List Int} (h : tupI d = some k) : ∃ ds, d = .tup ds ∧ intsD ds = some k := by
  cases d with
  | tup ds => exact ⟨ds, rfl, h⟩
  | _ => cases h
/-- the tuples with their addresses -/
theorem RepAll.tups {K : KK} {φ : List Addr} {H : Hp} : ∀ {xs : List D} {vs : List V} {ks : List (List Int)}, RepAll K φ H xs vs → tupsI xs = some ks → ∃ ps : List (Addr × List Int), vs = ps.map (fun p => V.ref p.1) ∧ ps.map (·.2) = ks ∧ xs = ks.map (fun k => D.tup (k.map D.int)) ∧ ∀ p ∈ ps, SqT K H p.1 (p.2.map V.int)
  | [], vs, ks, h, e => by
    cases e
    rw [h.of_nil]
    exact ⟨[], rfl, rfl, rfl, fun p hp => by cases hp⟩
  | d :: r, vs, ks, h, e => by
    obtain ⟨v, vr, rfl, h1, h2⟩ := h.of_cons
    unfold tupsI at e
    cases ed : tupI d with
    | none => rw [ed] at e; cases e
    | some k =>
      rw [ed] at e
      cases er : tupsI r with
      | none => rw [er] at e; cases e
      | some ks' =>
        rw [er] at e
        cases e
        obtain ⟨ps, rfl, rfl, rfl, q⟩ := RepAll.tups h2 er
        obtain ⟨ds, rfl, ei⟩ := tupI_some ed
        unfold RepD at h1
        obtain ⟨a, us, rfl, sa, ra⟩ := h1
        obtain ⟨rfl, rfl⟩ := ra.intsD ei
        refine ⟨(a, k) :: ps, rfl, rfl, rfl, fun p hp => ?_⟩
        rcases List.mem_cons.mp hp with rfl | hp
        · exact sa
        · exact q p hp
def rSetAny (k : KK) : List V → Hp → VK → Prop := fun xs H Q => rSetOfT k.f k.P k.w xs H Q ∨ rSetTup k.f k.P k.w xs H Q
theorem cr_setAny {X : Cx} {k : KK} (W : Own X k) (calm : X.calm = true) (hu : X.A.units + 64 < cLine) : CallR X (.type "set") (rSetAny k) := by
  intro pins s σ H xs us Q I r h
  rcases h with h | h
  · rw [← W.k, ← W.p, ← W.w] at h
    exact cr_setOfT calm hu pins s σ H xs us Q I r h
  · rw [← W.k, ← W.p, ← W.w] at h
    exact cr_setTup calm hu pins s σ H xs us Q I r h
theorem opd_setOf {C : Ctx} {o : Bool} : OpD C o (rSetAny C.K) gSetOf := by
  intro φ st σ H R ds vs d Q hr hg q
  have fin : ∀ {xs : List D} {ks : List (List Int)} {ps : List (Addr × List Int)}, xs = ks.map (fun k => D.tup (k.map D.int)) → ps.map (·.2) = ks → (∀ p ∈ ps, SqT C.K H p.1 (p.2.map V.int)) → d = .set xs →
      ∀ a L, H a = none → (∀ p ∈ L, p ∈ ps) → (∀ p ∈ ps, p.2 ∈ L.map (·.2)) → Q (.ref a) (upd H a (SetTO C.K.P C.K.w a L)) := by
    intro xs ks ps e1 e2 hs ed a L hn h1 h2
    subst ed
    refine q _ _ (same_new hn) (.of_rep (by cases o <;> rfl) ?_)
    unfold RepD
    refine ⟨a, L, rfl, upd_same, fun p hp => ⟨SqT.mono (.of_same (same_new hn)) (hs p (h1 p hp)), ?_⟩, fun x hx => ?_⟩
    · rw [e1, ← e2, List.map_map]
      exact List.mem_map.mpr ⟨p, h1 p hp, rfl⟩
    · rw [e1, ← e2, List.map_map] at hx
      obtain ⟨p, hp, rfl⟩ := List.mem_map.mp hx
      obtain ⟨p', hp', e⟩ := List.mem_map.mp (h2 p hp)
      refine ⟨p', hp', ?_⟩
      show D.tup (p.2.map D.int) = _
      rw [← e]
  match ds, hr, hg with
  | [.lst xs], hr, hg =>
    obtain ⟨v, rfl, h1⟩ := hr.one
    obtain ⟨a, vs, rfl, ra, sa⟩ := h1.lst
    have hg : (if (tupsI xs).isSome = true ∧ xs.length < 64 then some (D.set xs) else none) = some d := hg
    split at hg
    · rename_i hc
      cases hg
      cases et : tupsI xs with
      | none => rw [et] at hc; cases hc.1
      | some ks =>
        obtain ⟨ps, rfl, e2, e3, hs⟩ := sa.tups et
        have hl : ps.length < 64 := by
          have := sa.length
          rw [List.length_map] at this
          omega
        exact .inl ⟨a, ps, rfl, .inl ra, hs, hl, fin e3 e2 hs rfl⟩
    · cases hg
  | [.tup xs], hr, hg =>
    obtain ⟨v, rfl, h1⟩ := hr.one
    obtain ⟨a, vs, rfl, ra, sa⟩ := h1.tup
    have hg : (if (tupsI xs).isSome = true ∧ xs.length < 64 then some (D.set xs) else none) = some d := hg
    split at hg
    · rename_i hc
      cases hg
      cases et : tupsI xs with
      | none => rw [et] at hc; cases hc.1
      | some ks =>
        obtain ⟨ps, rfl, e2, e3, hs⟩ := sa.tups et
        have hl : ps.length < 64 := by
          have := sa.length
          rw [List.length_map] at this
          omega
        exact .inr ⟨a, ps, rfl, ra, hs, hl, fin e3 e2 hs rfl⟩
    · cases hg
/-! ### in, not in: lists, tuples, sets -/
def gInS (neg : Bool) : List D → Option D
  | [.tup ds, .set xs] => (intsD ds).map fun ns => .bl (neg != inSet xs ns)
  | ds => gInN neg ds
def gInA : List D → Option D := gInS false
def gNotInA : List D → Option D := gInS true
theorem opd_inA {C : Ctx} {o neg : Bool} : OpD C o (rB fun x y H Q => rInS C.K neg x y H Q ∨ rInQ C.K neg x y H Q) (gInS neg) := by
  intro φ st σ H R ds vs d Q hr hg q
  have old : gInN neg ds = some d → rB (fun x y H Q => rInS C.K neg x y H Q ∨ rInQ C.K neg x y H Q) vs H Q := fun hg => by
    obtain ⟨x, y, e, h⟩ := opd_in φ st σ H R ds vs d Q hr hg q
    exact ⟨x, y, e, .inr h⟩
  unfold gInS at hg
  split at hg
  · rename_i ds xs
    cases e : intsD ds with
    | none => rw [e] at hg; cases hg
    | some ns =>
      rw [e] at hg
      cases hg
      obtain ⟨v, w, rfl, h1, h2⟩ := hr.two
      have h2' : RepD C.K φ H (.set xs) w := by
        rcases h2 with h2 | ⟨a, _, h2⟩
        · exact h2
        · exact h2.elim
      exact ⟨_, _, rfl, .inl ⟨φ, ns, ds, xs, h1, e, h2', q _ H (Same.refl H) rep_bl⟩⟩
  · exact old hg
section
variable {X : Cx} {C : Ctx} {o : Bool} {a b : Expr} {oa ob : Opd} {p pos : Pos}
theorem me_inA (W : SameW X C) (hk : X.K = C.K) (hu : X.A.units + 64 < cLine) (ha : MO X C a oa) (hb : MO X C b ob) (hm : behindInMarks .In b = false := by rfl) : ME X C o (.Compare a [.In] [b] pos) (eOp gInA [oa, ob]) := me_cmp ((op_inS ⟨W.k, W.p, W.w⟩ hu).or (op_inQ hk hu)) opd_inA ha hb hm
theorem me_notInA (W : SameW X C) (hk : X.K = C.K) (hu : X.A.units + 64 < cLine) (ha : MO X C a oa) (hb : MO X C b ob) (hm : behindInMarks .NotIn b = false := by rfl) : ME X C o (.Compare a [.NotIn] [b] pos) (eOp gNotInA [oa, ob]) := me_cmp ((op_notInS ⟨W.k, W.p, W.w⟩ hu).or (op_notInQ hk hu)) opd_inA ha hb hm
theorem mt_inA (W : SameW X C) (hk : X.K = C.K) (hu : X.A.units + 64 < cLine) (ha : MO X C a oa) (hb : MO X C b ob) (hm : behindInMarks .In b = false := by rfl) : MT X C (.Compare a [.In] [b] pos) (eT (eOp gInA [oa, ob])) := mt_cmp ((op_inS ⟨W.k, W.p, W.w⟩ hu).or (op_inQ hk hu)) opd_inA ha hb hm
theorem mt_notInA (W : SameW X C) (hk : X.K = C.K) (hu : X.A.units + 64 < cLine) (ha : MO X C a oa) (hb : MO X C b ob) (hm : behindInMarks .NotIn b = false := by rfl) : MT X C (.Compare a [.NotIn] [b] pos) (eT (eOp gNotInA [oa, ob])) := mt_cmp ((op_notInS ⟨W.k, W.p, W.w⟩ hu).or (op_notInQ hk hu)) opd_inA ha hb hm
theorem me_setOf (W : SameW X C) (calm : X.calm = true) (hu : X.A.units + 64 < cLine) (hg : Gl X "set") (hm : X.mg "set" = none) (ha : MA X C [a] [oa]) (he : starEach [a] X.env = (false, eval a X.env) :: starEach [] X.env := by rfl) (hpl : (backTo pos (starEach [] X.env)).any (·.1) = false := by rfl) : ME X C o (.Call (.Name "set" p) [a] [] pos) (eOp gSetOf [oa]) :=
  me_callTy (cr_setAny ⟨W.k, W.p, W.w⟩ calm hu) opd_setOf hg hm (by rfl) ha (he := he) (hpl := hpl)
end
end Q
set_option Elab.async false
set_option linter.all false
set_option maxRecDepth 100000
set_option autoImplicit false
/-! QW: the order of data: <, >, <=, >=, sorted -/
namespace Q
open PySem PySem.Spec PyProof.Rows L2 PySem.SeqAt

mutual
/-- can be compared place by place -/
def D.alk : D → D → Bool
  | .non, .non => true
  | .bl _, .bl _ => true
  | .int _, .int _ => true
  | .str _, .str _ => true
  | .lst xs, .lst ys => D.alkAll xs ys
  | .tup xs, .tup ys => D.alkAll xs ys
  | _, _ => false
def D.alkAll : List D → List D → Bool
  | [], _ => true
  | _ :: _, [] => true
  | x :: xs, y :: ys => D.alk x y && D.alkAll xs ys
end
mutual
/-- x < y -/
def D.ltv : D → D → Bool
  | .bl a, .bl b => !a && b
  | .int i, .int j => decide (i < j)
  | .str x, .str y => decide (x.cps.toList < y.cps.toList)
  | .lst xs, .lst ys => D.ltvAll xs ys
  | .tup xs, .tup ys => D.ltvAll xs ys
  | _, _ => false
def D.ltvAll : List D → List D → Bool
  | [], [] => false
  | [], _ :: _ => true
  | _ :: _, [] => false
  | x :: xs, y :: ys => if D.eqv x y = true then D.ltvAll xs ys else D.ltv x y
end
mutual
theorem D.alk_py : ∀ a b : D, a.pl = true → b.pl = true → D.alk a b = PySem.W.alike a.py b.py
  | .non, b, _, hb => by cases b <;> first | (unfold D.pl at hb; cases hb; done) | (simp only [D.alk, D.py, PySem.W.alike])
  | .bl _, b, _, hb => by cases b <;> first | (unfold D.pl at hb; cases hb; done) | (simp only [D.alk, D.py, PySem.W.alike])
  | .int _, b, _, hb => by cases b <;> first | (unfold D.pl at hb; cases hb; done) | (simp only [D.alk, D.py, PySem.W.alike])
  | .str _, b, _, hb => by cases b <;> first | (unfold D.pl at hb; cases hb; done) | (simp only [D.alk, D.py, PySem.W.alike])
  | .lst xs, b, ha, hb => by
    cases b with
    | lst ys =>
      unfold D.pl at ha hb
      simp only [D.alk, D.py, PySem.W.alike]
      exact D.alkAll_py xs ys ha hb
    | _ => first | (unfold D.pl at hb; cases hb; done) | (simp only [D.alk, D.py, PySem.W.alike])
  | .tup xs, b, ha, hb => by
    cases b with
    | tup ys =>
      unfold D.pl at ha hb
      simp only [D.alk, D.py, PySem.W.alike]
      exact D.alkAll_py xs ys ha hb
    | _ => first | (unfold D.pl at hb; cases hb; done) | (simp only [D.alk, D.py, PySem.W.alike])
  | .dic _, _, h, _ => by unfold D.pl at h; cases h
  | .set _, _, h, _ => by unfold D.pl at h; cases h
  | .ref _, _, h, _ => by unfold D.pl at h; cases h
  | .fn _ _, _, h, _ => by unfold D.pl at h; cases h
  | .raw _, _, h, _ => by unfold D.pl at h; cases h
theorem D.alkAll_py : ∀ xs ys : List D, D.plAll xs = true → D.plAll ys = true → D.alkAll xs ys = PySem.W.alikeAll (D.pyAll xs) (D.pyAll ys)
  | [], _, _, _ => by simp only [D.alkAll, D.pyAll, PySem.W.alikeAll]
  | _ :: _, [], _, _ => by simp only [D.alkAll, D.pyAll, PySem.W.alikeAll]
  | x :: xs, y :: ys, ha, hb => by
    unfold D.plAll at ha hb
    rw [Bool.and_eq_true] at ha hb
    simp only [D.alkAll, D.pyAll, PySem.W.alikeAll]
    rw [D.alk_py x y ha.1 hb.1, D.alkAll_py xs ys ha.2 hb.2]
end
mutual
theorem D.ltv_py : ∀ a b : D, a.pl = true → b.pl = true → D.alk a b = true → D.ltv a b = PySem.W.dataLt a.py b.py
  | .non, b, _, hb, h => by
    cases b with
    | non => simp only [D.ltv, D.py, PySem.W.dataLt, PySem.W.keyToks]; rfl
    | _ => (first | (unfold D.alk at h; cases h; done) | (unfold D.pl at hb; cases hb; done))
  | .bl x, b, _, hb, h => by
    cases b with
    | bl y =>
      simp only [D.ltv, D.py]
      rw [PySem.W.dataLt_bool]
      cases x <;> cases y <;> rfl
    | _ => (first | (unfold D.alk at h; cases h; done) | (unfold D.pl at hb; cases hb; done))
  | .int x, b, _, hb, h => by
    cases b with
    | int y => simp only [D.ltv, D.py]; rw [PySem.W.dataLt_int]
    | _ => (first | (unfold D.alk at h; cases h; done) | (unfold D.pl at hb; cases hb; done))
  | .str x, b, _, hb, h => by
    cases b with
    | str y => simp only [D.ltv, D.py]; rw [PySem.W.dataLt_str]
    | _ => (first | (unfold D.alk at h; cases h; done) | (unfold D.pl at hb; cases hb; done))
  | .lst xs, b, ha, hb, h => by
    cases b with
    | lst ys =>
      unfold D.pl at ha hb
      unfold D.alk at h
      simp only [D.ltv, D.py]
      rw [PySem.W.dataLt_list]
      exact D.ltvAll_py xs ys ha hb h
    | _ => (first | (unfold D.alk at h; cases h; done) | (unfold D.pl at hb; cases hb; done))
  | .tup xs, b, ha, hb, h => by
    cases b with
    | tup ys =>
      unfold D.pl at ha hb
      unfold D.alk at h
      simp only [D.ltv, D.py]
      rw [PySem.W.dataLt_tuple]
      exact D.ltvAll_py xs ys ha hb h
    | _ => (first | (unfold D.alk at h; cases h; done) | (unfold D.pl at hb; cases hb; done))
  | .dic _, _, h, _, _ => by unfold D.pl at h; cases h
  | .set _, _, h, _, _ => by unfold D.pl at h; cases h
  | .ref _, _, h, _, _ => by unfold D.pl at h; cases h
  | .fn _ _, _, h, _, _ => by unfold D.pl at h; cases h
  | .raw _, _, h, _, _ => by unfold D.pl at h; cases h
theorem D.ltvAll_py : ∀ xs ys : List D, D.plAll xs = true → D.plAll ys = true → D.alkAll xs ys = true → D.ltvAll xs ys = PyProof.Rows.lexLt itemOrd (PySem.W.keyToksAll (D.pyAll xs)) (PySem.W.keyToksAll (D.pyAll ys))
  | [], [], _, _, _ => by
    simp only [D.ltvAll, D.pyAll, PySem.W.keyToksAll]
    rfl
  | [], y :: ys, _, _, _ => by
    simp only [D.ltvAll, D.pyAll, PySem.W.keyToksAll]
    rfl
  | x :: xs, [], _, _, _ => by
    simp only [D.ltvAll, D.pyAll, PySem.W.keyToksAll]
    rfl
  | x :: xs, y :: ys, ha, hb, h => by
    unfold D.plAll at ha hb
    rw [Bool.and_eq_true] at ha hb
    unfold D.alkAll at h
    rw [Bool.and_eq_true] at h
    have hx : PySem.W.alike x.py y.py = true := by rw [← D.alk_py x y ha.1 hb.1]; exact h.1
    have e := D.eqv_py x y ha.1 hb.1
    unfold D.ltvAll D.pyAll
    cases q : D.eqv x y with
    | true =>
      rw [q] at e
      rw [if_pos rfl, PySem.W.dataLt_all_yes hx e.symm]
      exact D.ltvAll_py xs ys ha.2 hb.2 h.2
    | false =>
      rw [q] at e
      rw [if_neg Bool.false_ne_true, PySem.W.dataLt_all_no hx e.symm]
      exact D.ltv_py x y ha.1 hb.1 h.1
end
/-- can be asked by < -/
def ordOk (a b : D) : Bool := a.pl && (b.pl && (D.alk a b && (!isNon a && shallow a b)))
def gOrd (f : D → D → Bool) : List D → Option D
  | [a, b] => if ordOk a b = true then some (.bl (f a b)) else none
  | _ => none
def ltF (a b : D) : Bool := D.ltv a b
def gtF (a b : D) : Bool := D.ltv b a
def leF (a b : D) : Bool := !D.ltv b a
def geF (a b : D) : Bool := !D.ltv a b
def gLtA : List D → Option D := gOrd ltF
def gGtA : List D → Option D := gOrd gtF
def gLeA : List D → Option D := gOrd leF
def gGeA : List D → Option D := gOrd geF
def rOrd (k : KK) (f : D → D → Bool) : R2 := fun x y H Q => ∃ φ d e, RepR k φ H d x ∧ RepR k φ H e y ∧ ordOk d e = true ∧ Q (.bl (f d e)) H
theorem opd_ord {C : Ctx} {o : Bool} {f : D → D → Bool} : OpD C o (rB (rOrd C.K f)) (gOrd f) := by
  intro φ st σ H R ds vs d Q hr hg q
  match ds, hr, hg with
  | [a, b], hr, hg =>
    obtain ⟨v, w, rfl, h1, h2⟩ := hr.two
    have hg : (if ordOk a b = true then some (D.bl (f a b)) else none) = some d := hg
    split at hg
    · rename_i hc
      cases hg
      exact ⟨_, _, rfl, φ, a, b, h1, h2, hc, q _ H (Same.refl H) rep_bl⟩
    · cases hg
theorem alk_symm : ∀ a b : PyData, PySem.W.alike a b = true → PySem.W.alike b a = true := by
  intro a b h
  rw [PySem.W.alike_comm]
  exact h
section
variable {X : Cx} {k : KK}
theorem ord_parts {a b : D} (h : ordOk a b = true) : a.pl = true ∧ b.pl = true ∧ PySem.W.alike a.py b.py = true ∧ a.py ≠ .none ∧ min a.py.depth b.py.depth ≤ 8 ∧ D.ltv a b = PySem.W.dataLt a.py b.py ∧ D.ltv b a = PySem.W.dataLt b.py a.py := by
  unfold ordOk at h
  rw [Bool.and_eq_true, Bool.and_eq_true, Bool.and_eq_true, Bool.and_eq_true] at h
  obtain ⟨pa, pb, al, nn, sh⟩ := h
  have al' : PySem.W.alike a.py b.py = true := by rw [← D.alk_py a b pa pb]; exact al
  have al2 : D.alk b a = true := by rw [D.alk_py b a pb pa]; exact alk_symm _ _ al'
  refine ⟨pa, pb, al', fun z => ?_, shallow_le pa pb sh, D.ltv_py a b pa pb al, D.ltv_py b a pb pa al2⟩
  cases a with
  | non => cases nn
  | dic _ => unfold D.pl at pa; cases pa
  | set _ => unfold D.pl at pa; cases pa
  | ref _ => unfold D.pl at pa; cases pa
  | fn _ _ => unfold D.pl at pa; cases pa
  | raw _ => unfold D.pl at pa; cases pa
  | _ => unfold D.py at z; cases z
theorem op_ltQ (hk : X.K = k.f) (hu : X.A.units + 64 < cLine) : OpR X (compareOp .Lt) (rOrd k ltF) := by
  intro pins s σ H x y v u Q I rx ry ⟨φ, d, e, hd, he, ok, q⟩
  obtain ⟨pa, pb, al, nn, sh, e1, e2⟩ := ord_parts ok
  obtain ⟨as, r1⟩ := hd.reads hk I pa rx
  obtain ⟨bs, r2⟩ := he.reads hk I pb ry
  exact PySem.W.lt_data r1 r2 al nn (by omega) (fin_bl I q e1)
theorem op_gtQ (hk : X.K = k.f) (hu : X.A.units + 64 < cLine) : OpR X (compareOp .Gt) (rOrd k gtF) := by
  intro pins s σ H x y v u Q I rx ry ⟨φ, d, e, hd, he, ok, q⟩
  obtain ⟨pa, pb, al, nn, sh, e1, e2⟩ := ord_parts ok
  obtain ⟨as, r1⟩ := hd.reads hk I pa rx
  obtain ⟨bs, r2⟩ := he.reads hk I pb ry
  exact PySem.W.gt_data r1 r2 al nn (by omega) (fin_bl I q e2)
theorem op_leQ (hk : X.K = k.f) (hu : X.A.units + 64 < cLine) : OpR X (compareOp .LtE) (rOrd k leF) := by
  intro pins s σ H x y v u Q I rx ry ⟨φ, d, e, hd, he, ok, q⟩
  obtain ⟨pa, pb, al, nn, sh, e1, e2⟩ := ord_parts ok
  obtain ⟨as, r1⟩ := hd.reads hk I pa rx
  obtain ⟨bs, r2⟩ := he.reads hk I pb ry
  exact PySem.W.le_data r1 r2 al nn (by omega) (fin_bl I q (congrArg not e2))
theorem op_geQ (hk : X.K = k.f) (hu : X.A.units + 64 < cLine) : OpR X (compareOp .GtE) (rOrd k geF) := by
  intro pins s σ H x y v u Q I rx ry ⟨φ, d, e, hd, he, ok, q⟩
  obtain ⟨pa, pb, al, nn, sh, e1, e2⟩ := ord_parts ok
  obtain ⟨as, r1⟩ := hd.reads hk I pa rx
  obtain ⟨bs, r2⟩ := he.reads hk I pb ry
  exact PySem.W.ge_data r1 r2 al nn (by omega) (fin_bl I q (congrArg not e1))
end
section
variable {X : Cx} {C : Ctx} {o : Bool} {a b c : Expr} {oa ob : Opd} {pos : Pos} {na nb nc : MS → Res D}
theorem me_ltA (hk : X.K = C.K.f) (hu : X.A.units + 64 < cLine) (ha : MO X C a oa) (hb : MO X C b ob) : ME X C o (.Compare a [.Lt] [b] pos) (eOp gLtA [oa, ob]) := me_cmp (op_ltQ hk hu) opd_ord ha hb (nomark b)
theorem me_leA (hk : X.K = C.K.f) (hu : X.A.units + 64 < cLine) (ha : MO X C a oa) (hb : MO X C b ob) : ME X C o (.Compare a [.LtE] [b] pos) (eOp gLeA [oa, ob]) := me_cmp (op_leQ hk hu) opd_ord ha hb (nomark b)
theorem me_gtA (hk : X.K = C.K.f) (hu : X.A.units + 64 < cLine) (ha : MO X C a oa) (hb : MO X C b ob) : ME X C o (.Compare a [.Gt] [b] pos) (eOp gGtA [oa, ob]) := me_cmp (op_gtQ hk hu) opd_ord ha hb (nomark b)
theorem me_geA (hk : X.K = C.K.f) (hu : X.A.units + 64 < cLine) (ha : MO X C a oa) (hb : MO X C b ob) : ME X C o (.Compare a [.GtE] [b] pos) (eOp gGeA [oa, ob]) := me_cmp (op_geQ hk hu) opd_ord ha hb (nomark b)
theorem mt_ltA (hk : X.K = C.K.f) (hu : X.A.units + 64 < cLine) (ha : MO X C a oa) (hb : MO X C b ob) : MT X C (.Compare a [.Lt] [b] pos) (eT (eOp gLtA [oa, ob])) := mt_cmp (op_ltQ hk hu) opd_ord ha hb (nomark b)
theorem mt_leA (hk : X.K = C.K.f) (hu : X.A.units + 64 < cLine) (ha : MO X C a oa) (hb : MO X C b ob) : MT X C (.Compare a [.LtE] [b] pos) (eT (eOp gLeA [oa, ob])) := mt_cmp (op_leQ hk hu) opd_ord ha hb (nomark b)
theorem mt_gtA (hk : X.K = C.K.f) (hu : X.A.units + 64 < cLine) (ha : MO X C a oa) (hb : MO X C b ob) : MT X C (.Compare a [.Gt] [b] pos) (eT (eOp gGtA [oa, ob])) := mt_cmp (op_gtQ hk hu) opd_ord ha hb (nomark b)
theorem mt_geA (hk : X.K = C.K.f) (hu : X.A.units + 64 < cLine) (ha : MO X C a oa) (hb : MO X C b ob) : MT X C (.Compare a [.GtE] [b] pos) (eT (eOp gGeA [oa, ob])) := mt_cmp (op_geQ hk hu) opd_ord ha hb (nomark b)
end

/-! ### sorted, by the order of data -/
def leV (a b : D) : Bool := !D.ltv b a
theorem leD_leV {a b : D} (pa : a.pl = true) (pb : b.pl = true) (al : PySem.W.alike a.py b.py = true) : leD a b = leV a b := by
  have e : leD a b = !PySem.W.dataLt b.py a.py := rfl
  rw [e]
  unfold leV
  rw [D.ltv_py b a pb pa (by rw [D.alk_py b a pb pa]; exact alk_symm _ _ al)]
theorem insB_congr {α : Type} {f g : α → α → Bool} (x : α) : ∀ l : List α, (∀ y ∈ l, f x y = g x y) → insB f x l = insB g x l
  | [], _ => rfl
  | y :: ys, h => by
    unfold insB
    rw [h y List.mem_cons_self, insB_congr x ys fun z hz => h z (List.mem_cons_of_mem _ hz)]
theorem isort_congr {α : Type} {f g : α → α → Bool} : ∀ l : List α, (∀ x ∈ l, ∀ y ∈ l, f x y = g x y) → isort f l = isort g l
  | [], _ => rfl
  | x :: xs, h => by
    unfold isort
    rw [isort_congr xs fun a ha b hb => h a (List.mem_cons_of_mem _ ha) b (List.mem_cons_of_mem _ hb)]
    exact insB_congr x _ fun y hy => h x List.mem_cons_self y (List.mem_cons_of_mem _ ((isort_perm xs).mem_iff.mp hy))
/-- one kind, so that all can be compared -/
def alkEach : List D → Bool
  | [] => true
  | x :: xs => xs.all (fun y => D.alk x y) && alkEach xs
def sortOkV (ds : List D) : Bool := D.plAll ds && (ds.all (D.sh 8) && (ds.all (fun d => D.alk d d) && (alkEach ds && ((ds.all tup1 || ds.all notTN) && decide (ds.length ≤ sizeLine)))))
theorem alkEach_all : ∀ {ds : List D}, D.plAll ds = true → (∀ d ∈ ds, D.alk d d = true) → alkEach ds = true → ∀ a ∈ ds, ∀ b ∈ ds, PySem.W.alike a.py b.py = true
  | [], _, _, _, a, ha => by cases ha
  | x :: xs, pl, sl, h, a, ha => by
    intro b hb
    unfold alkEach at h
    rw [Bool.and_eq_true] at h
    have px : x.pl = true := plAll_mem pl x List.mem_cons_self
    have pxs : D.plAll xs = true := by unfold D.plAll at pl; rw [Bool.and_eq_true] at pl; exact pl.2
    have hx : ∀ y ∈ xs, PySem.W.alike x.py y.py = true := fun y hy => by
      rw [← D.alk_py x y px (plAll_mem pxs y hy)]
      exact List.all_eq_true.mp h.1 y hy
    rcases List.mem_cons.mp ha with ea | ha'
    · rcases List.mem_cons.mp hb with eb | hb'
      · rw [ea, eb, ← D.alk_py _ _ px px]; exact sl _ List.mem_cons_self
      · rw [ea]; exact hx b hb'
    · rcases List.mem_cons.mp hb with eb | hb'
      · rw [eb]; exact alk_symm _ _ (hx a ha')
      · exact alkEach_all pxs (fun d hd => sl d (List.mem_cons_of_mem _ hd)) h.2 a ha' b hb'
theorem sortOkV_ok {ds : List D} (h : sortOkV ds = true) : sortOk ds = true ∧ isort leD ds = isort leV ds := by
  unfold sortOkV at h
  rw [Bool.and_eq_true, Bool.and_eq_true, Bool.and_eq_true, Bool.and_eq_true, Bool.and_eq_true] at h
  obtain ⟨pl, sh, sl, al, so, sz⟩ := h
  have each := alkEach_all pl (List.all_eq_true.mp sl) al
  refine ⟨?_, isort_congr ds fun a ha b hb => leD_leV (plAll_mem pl a ha) (plAll_mem pl b hb) (each a ha b hb)⟩
  unfold sortOk
  rw [Bool.and_eq_true, Bool.and_eq_true, Bool.and_eq_true, Bool.and_eq_true]
  exact ⟨pl, sh, List.all_eq_true.mpr fun a ha => List.all_eq_true.mpr fun b hb => each a ha b hb, so, sz⟩
def gSortL : List D → Option D := fun ds => match ds with
  | [.lst xs] => if sortOkV xs = true then some (.lst (isort leV xs)) else none
  | _ => none
theorem opd_sortL {C : Ctx} : OpD C true (rSorted C.K) gSortL := by
  intro φ st σ H R ds vs d Q hr hg q
  match ds, hr, hg with
  | [.lst xs], hr, hg =>
    have hg : (if sortOkV xs = true then some (D.lst (isort leV xs)) else none) = some d := hg
    split at hg
    · rename_i hc
      obtain ⟨h1, h2⟩ := sortOkV_ok hc
      rw [← h2] at hg
      refine opd_sorted φ st σ H R [.lst xs] vs d Q hr ?_ q
      show (if sortOk xs = true then some (D.lst (isort leD xs)) else none) = some d
      rw [if_pos h1]
      exact hg
    · cases hg
section
variable {X : Cx} {C : Ctx} {a : Expr} {oa : Opd} {p pos : Pos}
theorem me_sortLO (hk : X.K = C.K) (hu : X.A.units + 64 < cLine) (hg : Gl X "sorted") (hm : X.mg "sorted" = none) (ha : MO X C a oa) (hs : starEach [a] X.env = (false, eval a X.env) :: starEach [] X.env := by rfl) : ME X C true (.Call (.Name "sorted" p) [a] [] pos) (eOp gSortL [oa]) :=
  me_callB (cr_sortedQ hk hu) opd_sortL hg hm PyProof.Rows.boot_sorted (ma_cons ha ma_nil hs) (he := hs)
theorem me_sortL (hk : X.K = C.K) (hu : X.A.units + 64 < cLine) (hg : Gl X "sorted") (hm : X.mg "sorted" = none) (ha : MO X C a oa) (hs : starEach [a] X.env = (false, eval a X.env) :: starEach [] X.env := by rfl) : ME X C false (.Call (.Name "sorted" p) [a] [] pos) (eOp gSortL [oa]) := (me_sortLO hk hu hg hm ha hs).fz
end
end Q
set_option Elab.async false
set_option linter.all false
set_option maxRecDepth 100000
set_option autoImplicit false
/-! QX: sorted of a tuple -/
namespace Q
open PySem PySem.Spec PyProof.Rows L2 PySem.SeqAt
section
variable {P : Program} {w : World} {A : Around} {E : Value → Shared → Prop} {s : Shared}
/-- the items of a tuple, in a list -/
theorem collect_tup {u : Addr} {vs : List Value} {Q : List Value → Shared → Prop} (ht : s.heap.IsTuple u vs.toArray) (hz : vs.length ≤ sizeLine)
    (q : Q vs { s with heap := (s.heap.push (PyProof.Rows.seqObj "list" #[] 0)).update s.heap.objs.size (Obj.mapSeq (· ++ vs.toArray)) }) : wpAny (model P w) A (collect (.ref u)) Q E s := by
  obtain ⟨ob, at_u, cls_u, n, dat_u⟩ := id ht
  unfold collect
  refine wpAny_bind (wpAny_runValue (codeAny_builtin PyProof.Rows.entry_proto_collect' ?_))
  show wpAny _ _ (do again (.builtin "list.__iadd__" ⟨[← newList [], .ref u], []⟩)) _ _ s
  refine wpAny_bind (wpAny_newList (wpAny_pure ⟨Code.quiet_builtin _ (by decide +kernel), codeAny_builtin PyProof.Rows.entry_list_iadd' ?_⟩))
  show wpAny _ _ (Builtin.List.listExtendWith (.ref s.heap.objs.size) (.ref u) (.ref s.heap.objs.size)) _ _ { s with heap := s.heap.push (PyProof.Rows.seqObj "list" #[] 0) }
  unfold Builtin.List.listExtendWith
  have at_u' : (s.heap.push (PyProof.Rows.seqObj "list" #[] 0)).get? u = some ob := Heap.get?_push_of_some _ at_u
  refine wpAny_bind (wpAny_typeOf (T := "tuple") ⟨ob, at_u', cls_u⟩ ?_)
  have isTup : (Value.type "tuple" == Value.type "tuple") = true := by rfl
  rw [if_pos (by rw [isTup]; simp)]
  refine wpAny_bind (listItems_at at_u' dat_u ?_)
  refine wpAny_bind (listItems_at (xs := #[]) (n := 0) (Heap.get?_push_size _ rfl) rfl ?_)
  rw [if_neg (by simp)]
  refine wpAny_bind (listUpdate_at (xs := #[]) (n := 0) (Heap.get?_push_size _ rfl) rfl ?_ (Nat.zero_le _) (by show ((#[] : Array Value) ++ vs.toArray).size ≤ _; simp only [Array.size_append, List.size_toArray, List.length_nil]; omega))
  refine wpAny_pure ?_
  show wpAny (model P w) A (load s.heap.objs.size >>= _) Q E _
  refine wpAny_bind (wpAny_load (get?_update_seq (Heap.get?_push_size _ rfl) _) ?_)
  show wpAny _ _ (pure ((#[] : Array Value) ++ vs.toArray).toList) Q E _
  rw [show ((#[] : Array Value) ++ vs.toArray).toList = vs by simp]
  exact wpAny_pure q
theorem sort_of_tup {u : Addr} {vs : List Value} {Q : Value → Shared → Prop} (ht : s.heap.IsTuple u vs.toArray) (hz : vs.length ≤ sizeLine)
    (body : ∀ E' : Value → Shared → Prop, wpAny (model P w) A.in1.in1 (Builtin.«list.sort» ⟨[.ref (s.heap.objs.size + 1)], []⟩) (fun f s' => f = .done (.ret .none) ∧ Q (.ref (s.heap.objs.size + 1)) s') E' { s with heap := PySem.W.copyHeap s.heap vs }) :
    wpAny (model P w) A (call (.builtin "sorted") [.ref u]) Q E s := by
  refine call_function_entry_kw kind_sorted plain_sorted entry_sorted (args_sorted1 _) ?_
  unfold Builtin.«sorted»
  refine wpAny_bind (m := checkCount "sorted" 1 1 _) (wpAny_pure ?_)
  refine wpAny_bind (collect_tup ht hz ?_)
  refine wpAny_bind (wpAny_newList ?_ hz)
  have size : ((s.heap.push (PyProof.Rows.seqObj "list" #[] 0)).update s.heap.objs.size (Obj.mapSeq (· ++ vs.toArray))).objs.size = s.heap.objs.size + 1 := by
    rw [Heap.size_update, size_push']
  show wpAny _ _ _ _ _ { s with heap := PySem.W.copyHeap s.heap vs }
  rw [size]
  refine wpAny_bind (wpAny_holding (wpAny_call_entry_kw slot_list_sort ⟨_, PySem.W.copyHeap_at s.heap vs, rfl⟩ entry_list_sort ?run (args_list_sort _)))
  case run =>
    show wpAny (model P w) A.in1.in1 (Builtin.«list.sort» ⟨[.ref (s.heap.objs.size + 1)], []⟩) _ _ _
    refine wpAny_mono (body _) (fun f s' ⟨e, q⟩ => ?_) fun _ _ e => e
    subst e
    exact ⟨_, rfl, wpAny_pure ⟨_, rfl, q⟩⟩
theorem sorted_tup_data {β : Type} {vs : List Value} {bs : List β} {enc : β → PyData} {R : Value → β → Prop} {u : Addr} {Q : Value → Shared → Prop} (ht : s.heap.IsTuple u vs.toArray) (e : PySem.W.EachIs R vs bs) (er : PySem.W.EachIs (fun v b => ∃ as, Reads s.heap v (enc b) as) vs bs)
    (al : PySem.W.AllAlike (bs.map enc)) (so : PySem.W.Sortable (bs.map enc)) (hz : bs.length ≤ sizeLine) (room : ∀ b, b ∈ bs → A.units + 2 + (enc b).depth < cLine)
    (q : ∀ out, out.length = bs.length → PySem.W.EachIs R out (bs.mergeSort (PySem.W.dataLe false enc)) → Q (.ref (s.heap.objs.size + 1)) { s with heap := PyProof.Rows.sortedAll s.heap vs (List.toArray out) }) : wpAny (model P w) A (call (.builtin "sorted") [.ref u]) Q E s := by
  have er2 : PySem.W.EachIs (fun v b => ∃ as, Reads (PySem.W.sortingHeap (PySem.W.copyHeap s.heap vs) (s.heap.objs.size + 1) vs) v (enc b) as) vs bs := er.mono fun _ _ ⟨as, r⟩ => ⟨as, PyProof.Rows.Reads.keeps (fun _ _ => PySem.W.sorting_copy_old) r⟩
  have hz2 : vs.length ≤ sizeLine := by rw [e.length]; exact hz
  have S := PySem.W.SortsAt.data (prog := P) (w := w) (A := A.in1.in1) (s := { s with heap := PySem.W.sortingHeap (PySem.W.copyHeap s.heap vs) (s.heap.objs.size + 1) vs }) (PySem.W.each_map (R := fun v d => ∃ as, Reads (PySem.W.sortingHeap (PySem.W.copyHeap s.heap vs) (s.heap.objs.size + 1) vs) v d as) enc er2) al so (PySem.W.bound_map room)
  refine sort_of_tup ht hz2 fun E' => PySem.W.list_sort_vals (s := { s with heap := PySem.W.copyHeap s.heap vs }) (PySem.W.copyHeap_at s.heap vs) S hz2 ⟨rfl, ?_⟩
  exact q _ (by rw [PySem.W.sortVals_length false rfl]; exact e.length) (PySem.W.sortVals_data false e er2 al)
end
/-- sorted(xs), xs a list or a tuple of data of one kind -/
def rSortTup (k : KK) : List V → Hp → VK → Prop := fun vs H Q => ∃ (φ : List Addr) (ds : List D) (v : V), vs = [v] ∧ RepR k φ H (.tup ds) v ∧ sortOk ds = true ∧ ∀ (p : Addr) (ws : List V), H p = none → RepAll k φ H (isort leD ds) ws → Q (.ref p) (upd H p (.lst ws))
theorem cr_sortTup {X : Cx} {k : KK} (hk : X.K = k.f) (hu : X.A.units + 64 < cLine) : CallR X (.builtin "sorted") (rSortTup k) := by
  intro pins s σ H vs us Q I r h
  obtain ⟨φ, ds, v, rfl, hr, hok, q⟩ := h
  unfold sortOk at hok
  rw [Bool.and_eq_true, Bool.and_eq_true, Bool.and_eq_true, Bool.and_eq_true] at hok
  obtain ⟨pl, sh, al, so, sz⟩ := hok
  obtain ⟨a, vs, rfl, rd, ra⟩ := hr.tup
  obtain ⟨its, rv, ⟨o, ho, hc, n, hd⟩, hz⟩ := I.tuple (hk ▸ rd)
  rw [Vals.ref1 r]
  have each := RepAll.each rv ra
  have er : PySem.W.EachIs (fun u d => ∃ as, Reads s.heap u (D.py d) as) its ds := by
    refine eachMemR each fun u d hd ⟨w, rw', hw⟩ => ?_
    exact RepD.reads hk I d w u (plAll_mem pl d hd) hw rw'
  refine sorted_tup_data (R := fun u d => ∃ v, RelV v u ∧ RepD k φ H d v) (enc := D.py) (bs := ds) ⟨o, ho, hc, n, hd⟩ each er ?_ ?_ (by simpa using sz) (fun d hd => ?_) fun out ho eo => ?_
  · intro d hd d' hd'
    obtain ⟨x, hx, rfl⟩ := List.mem_map.mp hd
    obtain ⟨y, hy, rfl⟩ := List.mem_map.mp hd'
    exact List.all_eq_true.mp (List.all_eq_true.mp al x hx) y hy
  · rw [Bool.or_eq_true] at so
    rcases so with so | so
    · refine .inl fun d hd => ?_
      obtain ⟨x, hx, rfl⟩ := List.mem_map.mp hd
      exact tup1_py (List.all_eq_true.mp so x hx)
    · refine .inr fun d hd => ?_
      obtain ⟨x, hx, rfl⟩ := List.mem_map.mp hd
      exact notTN_py (plAll_mem pl x hx) (List.all_eq_true.mp so x hx)
  · have := D.sh_depth 8 d (plAll_mem pl d hd) (List.all_eq_true.mp sh d hd)
    omega
  · rw [sort_leD] at eo
    obtain ⟨ws, rw', hw⟩ := RepAll.of_each eo
    obtain ⟨ep, he'⟩ := PyProof.Rows.sortedAll_at s.heap its out.toArray
    have hlen : ws.length ≤ sizeLine := by
      rw [← hw.length, (isort_perm ds).length_eq]
      simpa using sz
    exact ⟨.ref _, upd H (s.heap.objs.size + 1) (.lst ws), I.laid (t' := s.toks) (fun _ _ => PyProof.Rows.sortedAll_old) (Nat.le_succ _) ⟨hlen, out, ep, rw', he'⟩, rfl, q _ ws (I.hok.fresh (Nat.le_succ _)) hw⟩
def gSortA : List D → Option D
  | [.lst xs] => if sortOkV xs = true then some (.lst (isort leV xs)) else none
  | [.tup xs] => if sortOkV xs = true then some (.lst (isort leV xs)) else none
  | _ => none
theorem opd_sortA {C : Ctx} : OpD C true (fun vs H Q => rSorted C.K vs H Q ∨ rSortTup C.K vs H Q) gSortA := by
  intro φ st σ H R ds vs d Q hr hg q
  match ds, hr, hg with
  | [.lst xs], hr, hg => exact .inl (opd_sortL φ st σ H R [.lst xs] vs d Q hr hg q)
  | [.tup xs], hr, hg =>
    obtain ⟨v, rfl, h1⟩ := hr.one
    have hg : (if sortOkV xs = true then some (D.lst (isort leV xs)) else none) = some d := hg
    split at hg
    · rename_i hc
      obtain ⟨h2, h3⟩ := sortOkV_ok hc
      cases hg
      refine .inr ⟨φ, xs, v, rfl, h1, h2, fun p ws hp hw => ?_⟩
      rw [h3] at hw
      exact q _ _ (same_new hp) (newL hp hw)
    · cases hg
section
variable {X : Cx} {C : Ctx} {a : Expr} {oa : Opd} {p pos : Pos}
theorem me_sortAO (hk : X.K = C.K.f) (hu : X.A.units + 64 < cLine) (hg : Gl X "sorted") (hm : X.mg "sorted" = none) (ha : MO X C a oa) (hs : starEach [a] X.env = (false, eval a X.env) :: starEach [] X.env := by rfl) : ME X C true (.Call (.Name "sorted" p) [a] [] pos) (eOp gSortA [oa]) :=
  me_callB (fun pins s σ H xs us Q I r h => h.elim (cr_sortedQ hk hu pins s σ H xs us Q I r) (cr_sortTup hk hu pins s σ H xs us Q I r)) opd_sortA hg hm PyProof.Rows.boot_sorted (ma_cons ha ma_nil hs) (he := hs)
theorem me_sortA (hk : X.K = C.K.f) (hu : X.A.units + 64 < cLine) (hg : Gl X "sorted") (hm : X.mg "sorted" = none) (ha : MO X C a oa) (hs : starEach [a] X.env = (false, eval a X.env) :: starEach [] X.env := by rfl) : ME X C false (.Call (.Name "sorted" p) [a] [] pos) (eOp gSortA [oa]) := (me_sortAO hk hu hg hm ha hs).fz
end
end Q
set_option Elab.async false
set_option linter.all false
set_option maxRecDepth 100000
set_option autoImplicit false
/-! RA: min and max of data -/
namespace Q
open PySem PySem.Spec PyProof.Rows L2 PySem.SeqAt
section
variable {P : Program} {w : World} {A : Around} {E : Value → Shared → Prop} {s : Shared}
/-- min of two data that stand on the heap -/
theorem call_min_pair {a b : Value} {x y : PyData} {as bs : List Addr} {Q : Value → Shared → Prop} (free : A.handled = none) (ra : Reads s.heap a x as) (rb : Reads s.heap b y bs) (al : PySem.W.AlikeAll [x, y]) (room : A.units + 1 + PyData.depthAll [x, y] < cLine)
    (q : ∀ (i : Nat) v (g : Heap) tk cs, (#[a, b] : Array Value)[i]? = some v → Reads g v (PySem.W.minD x [y]) cs → (∀ c o, s.heap.get? c = some o → g.get? c = some o) → Q v { s with heap := g, toks := tk }) :
    wpAny (model P w) A (call (.builtin "min") [a, b]) Q E s := by
  have name : (toString "min" ++ toString ".loop" : String) = "min.loop" := by decide
  refine call_function_tree F.kind_min F.plain_min F.entry_min (F.args_min2 _ _) ?_
  show wpAny _ A.in1 (Builtin.Builtins.bindParams "min" ["key", "default"] 0 ⟨[], []⟩ >>= _) _ _ s
  refine wpAny_bind (wpAny_of_eq (show Builtin.Builtins.bindParams "min" ["key", "default"] 0 ⟨[], []⟩ = pure [none, none] from rfl) ?_)
  show wpAny _ A.in1 (newTuple [a, b] >>= _) _ _ s
  refine wpAny_bind (wpAny_newObj_type ?_)
  have old : ∀ c o, s.heap.get? c = some o → (s.heap.push { cls := .type "tuple", data := .seq [a, b].toArray }).get? c = some o := fun c o e => Heap.get?_push_of_some _ e
  have isT : (s.heap.push { cls := .type "tuple", data := .seq [a, b].toArray }).IsTuple s.heap.objs.size #[a, b] := ⟨_, Heap.get?_push_size _ rfl, rfl, 0, rfl⟩
  refine wpAny_bind (PySem.W.iter_tupleW (A := A.in1) (s := { s with heap := s.heap.push { cls := .type "tuple", data := .seq [a, b].toArray } }) free isT fun s2 e2 W st2 low out keep => ?_)
  refine wpAny_bind (wpAny_newObj_type ?_)
  have outS : s2.heap.objs.size ∉ [(s.heap.push { cls := .type "tuple", data := .seq [a, b].toArray }).objs.size, s.heap.objs.size] := fun hm => Nat.lt_irrefl _ (low _ hm)
  have reads : ReadsAll (s.heap.push { cls := .type "tuple", data := .seq [a, b].toArray }) (#[a, b] : Array Value).toList [x, y] _ := .cons (PySem.W.reads_keeps old ra) (.cons (PySem.W.reads_keeps old rb) .nil)
  have cmp := PySem.W.cmpIn_lt (prog := P) (w := w) (A := A.in1) (s := { s with heap := s.heap.push { cls := .type "tuple", data := .seq [a, b].toArray } }) reads al (show A.units + 1 + _ < _ from room)
  rw [name]
  refine wpAny_pure ⟨plainId_quiet F.plain_min_loop _, codeAny_min_loop_firstH W (s.heap.push { cls := .type "tuple", data := .seq [a, b].toArray }) out _ cmp s2.heap.objs.size outS (fresh_in keep) _ (show 0 < 2 from Nat.zero_lt_two) (fun c o e => Heap.get?_push_of_some _ (keep c o e)) (W.frame 0 s2 _ s2.toks st2 (Nat.le_refl _) fun c _ o e => Heap.get?_push_of_some _ e) (Heap.get?_push_size _ rfl) fun v s' hP hm => ?_⟩
  obtain ⟨g, tk, rfl, old'⟩ := PySem.W.moved_old (s := { s with heap := s.heap.push { cls := .type "tuple", data := .seq [a, b].toArray } }) e2 rfl (Moved.drop_new (tk := s2.toks) hm (Nat.le_refl _))
  obtain ⟨cs, r, _, _, _⟩ := PySem.W.readsAll_atA reads _ v hP
  have best := (PySem.W.argBest_fold PySem.W.dataLt PyData.none x [y] 1 (Nat.le_refl _)).2
  refine q _ v g tk cs hP (PySem.W.reads_keeps old' ?_) fun c o e => old' c o (old c o e)
  unfold PySem.W.minD
  have e1 : [y].take 1 = [y] := rfl
  rw [e1] at best
  rw [← best]
  exact r
end
def minV (x : D) (xs : List D) : D := xs.foldl (fun a y => if D.ltv y a = true then y else a) x
/-- all can be compared with one another -/
def minOk (ds : List D) : Bool := D.plAll ds && (ds.all (D.sh 8) && (ds.all (fun d => D.alk d d) && (alkEach ds && ds.all fun d => !isNon d)))
theorem py_inj : ∀ {a b : D}, a.pl = true → b.pl = true → a.py = b.py → a = b := by
  have both : (∀ a b : D, a.pl = true → b.pl = true → a.py = b.py → a = b) ∧ True := ⟨?_, trivial⟩
  · exact fun {a b} => both.1 a b
  intro a
  exact D.rec (motive_1 := fun a => ∀ b : D, a.pl = true → b.pl = true → a.py = b.py → a = b) (motive_2 := fun as => ∀ bs : List D, D.plAll as = true → D.plAll bs = true → D.pyAll as = D.pyAll bs → as = bs) (motive_3 := fun _ => True) (motive_4 := fun _ => True)
    (fun b _ hb e => by cases b <;> first | rfl | (unfold D.py at e; cases e; done) | (unfold D.pl at hb; cases hb; done))
    (fun x b _ hb e => by cases b <;> first | (unfold D.py at e; cases e; rfl) | (unfold D.py at e; cases e; done) | (unfold D.pl at hb; cases hb; done))
    (fun x b _ hb e => by cases b <;> first | (unfold D.py at e; cases e; rfl) | (unfold D.py at e; cases e; done) | (unfold D.pl at hb; cases hb; done))
    (fun x b _ hb e => by cases b <;> first | (unfold D.py at e; cases e; rfl) | (unfold D.py at e; cases e; done) | (unfold D.pl at hb; cases hb; done))
    (fun xs ih b ha hb e => by
      cases b with
      | lst ys =>
        unfold D.pl at ha hb
        unfold D.py at e
        injection e with e
        rw [ih ys ha hb e]
      | _ => first | (unfold D.py at e; cases e; done) | (unfold D.pl at hb; cases hb; done))
    (fun xs ih b ha hb e => by
      cases b with
      | tup ys =>
        unfold D.pl at ha hb
        unfold D.py at e
        injection e with e
        rw [ih ys ha hb e]
      | _ => first | (unfold D.py at e; cases e; done) | (unfold D.pl at hb; cases hb; done))
    (fun _ _ b ha => by unfold D.pl at ha; cases ha)
    (fun _ _ b ha => by unfold D.pl at ha; cases ha)
    (fun _ b ha => by unfold D.pl at ha; cases ha)
    (fun _ _ _ b ha => by unfold D.pl at ha; cases ha)
    (fun _ _ b ha => by unfold D.pl at ha; cases ha)
    (fun bs _ hb e => by
      cases bs with
      | nil => rfl
      | cons _ _ => unfold D.pyAll at e; cases e)
    (fun x xs ih1 ih2 bs ha hb e => by
      cases bs with
      | nil => unfold D.pyAll at e; cases e
      | cons y ys =>
        unfold D.plAll at ha hb
        rw [Bool.and_eq_true] at ha hb
        unfold D.pyAll at e
        injection e with e1 e2
        rw [ih1 y ha.1 hb.1 e1, ih2 ys ha.2 hb.2 e2])
    trivial (fun _ _ _ _ => trivial) (fun _ _ _ _ => trivial) a
theorem minOk_parts {ds : List D} (h : minOk ds = true) : D.plAll ds = true ∧ (∀ d ∈ ds, D.sh 8 d = true) ∧ PySem.W.AlikeAll (D.pyAll ds) ∧ (∀ a ∈ ds, ∀ b ∈ ds, PySem.W.alike a.py b.py = true) := by
  unfold minOk at h
  rw [Bool.and_eq_true, Bool.and_eq_true, Bool.and_eq_true, Bool.and_eq_true] at h
  obtain ⟨pl, sh, sl, al, nn⟩ := h
  have each := alkEach_all pl (List.all_eq_true.mp sl) al
  refine ⟨pl, List.all_eq_true.mp sh, ⟨fun x hx y hy => ?_, fun x hx => ?_⟩, each⟩
  · rw [D.pyAll_eq] at hx hy
    obtain ⟨a, ha, rfl⟩ := List.mem_map.mp hx
    obtain ⟨b, hb, rfl⟩ := List.mem_map.mp hy
    exact each a ha b hb
  · rw [D.pyAll_eq] at hx
    obtain ⟨a, ha, rfl⟩ := List.mem_map.mp hx
    have n1 := List.all_eq_true.mp nn a ha
    have p1 := plAll_mem pl a ha
    cases a with
    | non => cases n1
    | dic _ => unfold D.pl at p1; cases p1
    | set _ => unfold D.pl at p1; cases p1
    | ref _ => unfold D.pl at p1; cases p1
    | fn _ _ => unfold D.pl at p1; cases p1
    | raw _ => unfold D.pl at p1; cases p1
    | _ => intro z; unfold D.py at z; cases z
theorem minV_mem (x : D) : ∀ xs : List D, minV x xs ∈ x :: xs := by
  have go : ∀ (xs : List D) (a : D) (L : List D), a ∈ L → (∀ y ∈ xs, y ∈ L) → xs.foldl (fun a y => if D.ltv y a = true then y else a) a ∈ L := fun xs => by
    induction xs with
    | nil => exact fun a L h _ => h
    | cons y ys ih =>
      intro a L h h2
      refine ih _ L ?_ fun z hz => h2 z (List.mem_cons_of_mem _ hz)
      show (if D.ltv y a = true then y else a) ∈ L
      split
      · exact h2 y List.mem_cons_self
      · exact h
  exact fun xs => go xs x _ List.mem_cons_self fun y hy => List.mem_cons_of_mem _ hy
theorem minV_py : ∀ (xs : List D) (x : D), D.plAll (x :: xs) = true → (∀ a ∈ x :: xs, ∀ b ∈ x :: xs, PySem.W.alike a.py b.py = true) → (minV x xs).py = PySem.W.minD x.py (D.pyAll xs)
  | [], x, _, _ => by unfold D.pyAll; rfl
  | y :: ys, x, pl, al => by
    have px := plAll_mem pl x List.mem_cons_self
    have py' := plAll_mem pl y (List.mem_cons_of_mem _ List.mem_cons_self)
    have e : D.ltv y x = PySem.W.dataLt y.py x.py := D.ltv_py y x py' px (by rw [D.alk_py y x py' px]; exact al y (List.mem_cons_of_mem _ List.mem_cons_self) x List.mem_cons_self)
    unfold D.pyAll
    show (minV (if D.ltv y x = true then y else x) ys).py = PySem.W.minD (if PySem.W.dataLt y.py x.py = true then y.py else x.py) (D.pyAll ys)
    have pys : D.plAll ys = true := by
      unfold D.plAll at pl
      rw [Bool.and_eq_true] at pl
      have h2 := pl.2
      unfold D.plAll at h2
      rw [Bool.and_eq_true] at h2
      exact h2.2
    have hcons : ∀ z : D, z.pl = true → D.plAll (z :: ys) = true := fun z hz => by
      unfold D.plAll
      rw [hz, pys]
      rfl
    by_cases hc : D.ltv y x = true
    · have hc2 : PySem.W.dataLt y.py x.py = true := by rw [← e]; exact hc
      rw [if_pos hc, if_pos hc2]
      exact minV_py ys y (hcons y py') fun a ha b hb => al a (List.mem_cons_of_mem _ ha) b (List.mem_cons_of_mem _ hb)
    · have hc2 : ¬ PySem.W.dataLt y.py x.py = true := by rw [← e]; exact hc
      rw [if_neg hc, if_neg hc2]
      have sub : ∀ a, a ∈ x :: ys → a ∈ x :: y :: ys := fun a ha => (List.mem_cons.mp ha).elim (fun z => by rw [z]; exact List.mem_cons_self) fun z => List.mem_cons_of_mem _ (List.mem_cons_of_mem _ z)
      exact minV_py ys x (hcons x px) fun a ha b hb => al a (sub a ha) b (sub b hb)
theorem depth_le {ds : List D} (pl : D.plAll ds = true) (sh : ∀ d ∈ ds, D.sh 8 d = true) : PyData.depthAll (D.pyAll ds) ≤ 8 := depthAll_le fun x hx => by
  rw [D.pyAll_eq] at hx
  obtain ⟨a, ha, rfl⟩ := List.mem_map.mp hx
  exact D.sh_depth 8 a (plAll_mem pl a ha) (sh a ha)
/-- min(xs), xs a list or a tuple of data; min(a, b) -/
def rMinL (k : KK) : List V → Hp → VK → Prop := fun vs H Q => ∃ (φ : List Addr) (x : D) (xs : List D) (v : V), vs = [v] ∧ (RepR k φ H (.lst (x :: xs)) v ∨ RepR k φ H (.tup (x :: xs)) v) ∧ minOk (x :: xs) = true ∧ ∀ y, RepD k φ H (minV x xs) y → Q y H
def rMin2 (k : KK) : List V → Hp → VK → Prop := fun vs H Q => ∃ (φ : List Addr) (a b : D) (v w : V), vs = [v, w] ∧ RepD k φ H a v ∧ RepD k φ H b w ∧ minOk [a, b] = true ∧ ∀ y, RepD k φ H (minV a [b]) y → Q y H
section
variable {X : Cx} {k : KK}
/-- which of the items it is -/
theorem min_item {pins : List (Addr × Obj)} {σ : SS} {H : Hp} {s : Shared} {φ : List Addr} (hk : X.K = k.f) (I : Inv X pins σ H s) {x : D} {xs : List D} {vs : List V} {us : List Value} (ok : minOk (x :: xs) = true) (ra : RepAll k φ H (x :: xs) vs) (rv : Vals vs us) {i : Nat} {u : Value} {bs : List Addr} (hi : us[i]? = some u) (r : Reads s.heap u (PySem.W.minD x.py (D.pyAll xs)) bs) :
    ∃ y, RelV y u ∧ RepD k φ H (minV x xs) y := by
  obtain ⟨pl, sh, al, each⟩ := minOk_parts ok
  obtain ⟨y, hy, ry⟩ : ∃ y, vs[i]? = some y ∧ RelV y u := by
    have hl := rv.length
    have hlt : i < us.length := (List.getElem?_eq_some_iff.mp hi).1
    obtain ⟨y, hy⟩ : ∃ y, vs[i]? = some y := ⟨vs[i], List.getElem?_eq_getElem (by omega)⟩
    obtain ⟨u', hu', ru'⟩ := rv.get hy
    rw [hi] at hu'
    cases hu'
    exact ⟨y, hy, ru'⟩
  have hlen := ra.length
  have hlt : i < vs.length := (List.getElem?_eq_some_iff.mp hy).1
  obtain ⟨d, hd⟩ : ∃ d, (x :: xs)[i]? = some d := ⟨(x :: xs)[i], List.getElem?_eq_getElem (by omega)⟩
  obtain ⟨y', hy', rd⟩ := ra.get hd
  rw [hy] at hy'
  cases hy'
  have md : d ∈ x :: xs := List.mem_of_getElem? hd
  have mm := minV_mem x xs
  obtain ⟨as, r1⟩ := RepD.reads hk I d y u (plAll_mem pl d md) rd ry
  rw [← minV_py xs x pl each] at r
  have e := PySem.W.alike_unique d.py (minV x xs).py u as bs (each d md _ mm) r1 r
  have e2 : d = minV x xs := py_inj (plAll_mem pl d md) (plAll_mem pl _ mm) e
  rw [← e2]
  exact ⟨y, ry, rd⟩
theorem cr_minL (hk : X.K = k.f) (calm : X.calm = true) (hu : X.A.units + 64 < cLine) : CallR X (.builtin "min") (rMinL k) := by
  intro pins s σ H vs us Q I r h
  obtain ⟨φ, x, xs, v, rfl, hr, ok, q⟩ := h
  obtain ⟨pl, sh, al, each⟩ := minOk_parts ok
  have dep := depth_le pl sh
  rcases hr with hr | hr
  · obtain ⟨a, ws, rfl, rd, ra⟩ := hr.lst
    obtain ⟨its, rv, hl, hz⟩ := I.list (show SqL X.K H a ws from .inl rd)
    rw [Vals.ref1 r]
    obtain ⟨as, rr⟩ := RepAll.reads hk I (x :: xs) ws its pl ra rv
    unfold D.pyAll at rr al dep
    refine PySem.W.min_list_data (I.ok.hd calm) hl.isList rr al (by omega) fun i u g tk bs hi rd' old => ?_
    have I2 : Inv X pins σ H { s with heap := g, toks := tk } := I.kept old
    obtain ⟨y, ry, rp⟩ := min_item hk I2 ok ra rv (by simpa using hi) rd'
    exact ⟨y, H, I2, ry, q y rp⟩
  · obtain ⟨a, ws, rfl, rd, ra⟩ := hr.tup
    obtain ⟨its, rv, ⟨o, ho, hc, n, hd⟩, hz⟩ := I.tuple (hk ▸ rd)
    rw [Vals.ref1 r]
    obtain ⟨as, rr⟩ := RepAll.reads hk I (x :: xs) ws its pl ra rv
    unfold D.pyAll at rr al dep
    refine PySem.W.min_tuple_data (vs := its.toArray) (I.ok.hd calm) ⟨o, ho, hc, n, hd⟩ rr al (by omega) fun i u g tk bs hi rd' old => ?_
    have I2 : Inv X pins σ H { s with heap := g, toks := tk } := I.kept old
    obtain ⟨y, ry, rp⟩ := min_item hk I2 ok ra rv (by simpa using hi) rd'
    exact ⟨y, H, I2, ry, q y rp⟩
theorem cr_min2 (hk : X.K = k.f) (calm : X.calm = true) (hu : X.A.units + 64 < cLine) : CallR X (.builtin "min") (rMin2 k) := by
  intro pins s σ H vs us Q I r h
  obtain ⟨φ, a, b, v, w, rfl, h1, h2, ok, q⟩ := h
  obtain ⟨pl, sh, al, each⟩ := minOk_parts ok
  have dep := depth_le pl sh
  have ra : RepAll k φ H [a, b] [v, w] := .cons h1 (.cons h2 .nil)
  cases r with
  | @cons _ u1 _ _ r1 r2 =>
    cases r2 with
    | @cons _ u2 _ _ r2 r3 =>
      cases r3
      have rv : Vals [v, w] [u1, u2] := .cons r1 (.cons r2 .nil)
      obtain ⟨as, q1⟩ := RepD.reads hk I a v u1 (plAll_mem pl a List.mem_cons_self) h1 r1
      obtain ⟨bs, q2⟩ := RepD.reads hk I b w u2 (plAll_mem pl b (List.mem_cons_of_mem _ List.mem_cons_self)) h2 r2
      unfold D.pyAll D.pyAll D.pyAll at al dep
      refine call_min_pair (I.ok.hd calm) q1 q2 al (by omega) fun i u g tk cs hi rd' old => ?_
      have I2 : Inv X pins σ H { s with heap := g, toks := tk } := I.kept old
      obtain ⟨y, ry, rp⟩ := min_item hk I2 ok ra rv (i := i) (by simpa using hi) (by unfold D.pyAll D.pyAll; exact rd')
      exact ⟨y, H, I2, ry, q y rp⟩
end
def gMinA : List D → Option D
  | [.lst (x :: xs)] => if minOk (x :: xs) = true then some (minV x xs) else none
  | [.tup (x :: xs)] => if minOk (x :: xs) = true then some (minV x xs) else none
  | _ => none
def gMin2A : List D → Option D
  | [a, b] => if minOk [a, b] = true then some (minV a [b]) else none
  | _ => none
end Q
set_option Elab.async false
set_option linter.all false
set_option maxRecDepth 100000
set_option autoImplicit false
/-! RB: min; reversed; enumerate of a tuple; dicts read; is, is not of truths; extend; [::-1] -/
namespace Q
open PySem PySem.Spec PyProof.Rows L2 PySem.SeqAt RT
/-! ### min -/
theorem opd_minL {C : Ctx} : OpD C false (rMinL C.K) gMinA := by
  intro φ st σ H R ds vs d Q hr hg q
  match ds, hr, hg with
  | [.lst (x :: xs)], hr, hg =>
    obtain ⟨v, rfl, h1⟩ := hr.one
    have hg : (if minOk (x :: xs) = true then some (minV x xs) else none) = some d := hg
    split at hg
    · rename_i hc
      cases hg
      exact ⟨φ, x, xs, v, rfl, .inl h1, hc, fun y hy => q y H (Same.refl H) (.of_rep rfl hy)⟩
    · cases hg
  | [.tup (x :: xs)], hr, hg =>
    obtain ⟨v, rfl, h1⟩ := hr.one
    have hg : (if minOk (x :: xs) = true then some (minV x xs) else none) = some d := hg
    split at hg
    · rename_i hc
      cases hg
      exact ⟨φ, x, xs, v, rfl, .inr h1, hc, fun y hy => q y H (Same.refl H) (.of_rep rfl hy)⟩
    · cases hg
section
variable {X : Cx} {C : Ctx} {a b : Expr} {oa ob : Opd} {p pos : Pos} {ma mb : MS → Res D}
theorem me_minL (hk : X.K = C.K.f) (calm : X.calm = true) (hu : X.A.units + 64 < cLine) (hg : Gl X "min") (hm : X.mg "min" = none) (ha : MO X C a oa) (hs : starEach [a] X.env = (false, eval a X.env) :: starEach [] X.env := by rfl) : ME X C false (.Call (.Name "min" p) [a] [] pos) (eOp gMinA [oa]) :=
  me_callB (cr_minL (k := C.K) hk calm hu) opd_minL hg hm PyProof.Rows.boot_min (ma_cons ha ma_nil hs) (he := hs)
theorem min2_inv {ds : List D} {d : D} (h : gMin2A ds = some d) : ∃ a b, ds = [a, b] ∧ minOk [a, b] = true ∧ d = minV a [b] := by
  unfold gMin2A at h
  split at h
  · rename_i a b
    split at h
    · rename_i hc
      exact ⟨a, b, rfl, hc, (Option.some.inj h).symm⟩
    · cases h
  · cases h
theorem vald_min2 : ValD C false (rMin2 C.K) gMin2A := by
  intro φ H ds vs d Q hr hg q
  obtain ⟨a, b, rfl, hc, rfl⟩ := min2_inv hg
  obtain ⟨v, w, rfl, h1, h2⟩ := hr.two
  exact ⟨φ, a, b, v, w, rfl, h1, h2, hc, fun y hy => q y H (Same.refl H) (.of_rep rfl hy)⟩
theorem me_callBV {o : Bool} {e : Expr} {es : List Expr} {ms : List (MS → Res D)} {x : Str} {id : String} {r : List V → Hp → VK → Prop} {g : List D → Option D} (hc : CallR X (.builtin id) r) (hgD : ValD C o r g) (hg : Gl X x) (hm : X.mg x = none) (hv : bootBuiltins x = some (.builtin id)) (ha : MV X C (e :: es) ms) (hn : x ≠ "__name__" := by decide) (hdb : (x == ("__debug__" : Str)) = false := by decide)
    (he : starEach (e :: es) X.env = (false, eval e X.env) :: starEach es X.env := by rfl) (hpl : (backTo pos (starEach es X.env)).any (·.1) = false := by rfl) : ME X C o (.Call (.Name x p) (e :: es) [] pos) (eVal g ms) :=
  PE.weak (pe_callB hc hg hm hv ha.pa hn hdb he hpl) fun _ _ _ h => run_val hgD h
theorem me_min2A (hk : X.K = C.K.f) (calm : X.calm = true) (hu : X.A.units + 64 < cLine) (hg : Gl X "min") (hm : X.mg "min" = none) (ha : MV X C [a, b] [ma, mb]) (he : starEach [a, b] X.env = (false, eval a X.env) :: starEach [b] X.env := by rfl) (hpl : (backTo pos (starEach [b] X.env)).any (·.1) = false := by rfl) : ME X C false (.Call (.Name "min" p) [a, b] [] pos) (eVal gMin2A [ma, mb]) :=
  me_callBV (cr_min2 (k := C.K) hk calm hu) vald_min2 hg hm PyProof.Rows.boot_min ha (he := he) (hpl := hpl)
end
/-! ### reversed -/
def iRevD (m : MS → Res D) : MS → Res (List D) := fun st => (m st).bind fun d st' => match d with
  | .lst xs => .ok xs.reverse st'
  | .raw xs => .ok xs.reverse st'
  | .tup xs => .ok xs.reverse st'
  | _ => .stuck
section
variable {C : Ctx} {φ : List Addr} {H : Hp} {a : Addr} {xs : List D} {vs : List V}
theorem rev_get {α : Type} {xs : List α} {i : Nat} {d : α} (h : xs.reverse[i]? = some d) : i < xs.length ∧ xs[xs.length - 1 - i]? = some d := by
  have hi : i < xs.length := by
    have := (List.getElem?_eq_some_iff.mp h).1
    rwa [List.length_reverse] at this
  rw [List.getElem?_reverse hi] at h
  exact ⟨hi, h⟩
theorem lit_revL (h : FrzL C.K H a vs) (r : RepAll C.K φ H xs vs) : LIt C (Itv C.K a vs.length) φ H xs.reverse := by
  refine ⟨fun i d φ' H' e S => ?_, fun φ' H' S => ?_⟩
  · obtain ⟨hi, e⟩ := rev_get e
    obtain ⟨v, hv, rv⟩ := r.get e
    have sq := (h.mono S.fz).sql
    rw [r.length] at hv hi
    refine ⟨⟨hi, vs, v, sq, hv⟩, fun x H'' ⟨eH, hx⟩ => ?_⟩
    subst eH
    have := hx vs sq
    rw [hv] at this
    cases this
    exact ⟨Same.refl _, rv.mono S.fz S.pre⟩
  · show vs.length ≤ xs.reverse.length
    rw [List.length_reverse, r.length]
    exact Nat.le_refl _
theorem lit_revT (h : SqT C.K H a vs) (r : RepAll C.K φ H xs vs) : LIt C (ItvT C.K a vs.length) φ H xs.reverse := by
  refine ⟨fun i d φ' H' e S => ?_, fun φ' H' S => ?_⟩
  · obtain ⟨hi, e⟩ := rev_get e
    obtain ⟨v, hv, rv⟩ := r.get e
    have sq := SqT.mono S.fz h
    rw [r.length] at hv hi
    refine ⟨⟨hi, vs, v, sq, hv⟩, fun x H'' ⟨eH, hx⟩ => ?_⟩
    subst eH
    have := hx vs sq
    rw [hv] at this
    cases this
    exact ⟨Same.refl _, rv.mono S.fz S.pre⟩
  · show vs.length ≤ xs.reverse.length
    rw [List.length_reverse, r.length]
    exact Nat.le_refl _
end
section
variable {X : Cx} {C : Ctx} {tg e : Expr} {m : MS → Res D} {p pos : Pos}
theorem mi_rev (hk : X.K = C.K) (hg : Gl X "reversed") (hm : X.mg "reversed" = none) (h : ME X C false e m) (hs : starEach [e] X.env = (false, eval e X.env) :: starEach [] X.env := by rfl) : MI X C tg (.Call (.Name "reversed" p) [e] [] pos) (iRevD m) :=
  PI.weak (pi_revA hg hm h hs) fun σ H R ⟨st, φ, rel, q⟩ => by
    refine ⟨st, φ, rel, Post.mono (Post.bind q) fun d st1 φ1 H1 R1 S1 p v hv => ?_⟩
    have hr := hv.rep
    rw [hk]
    cases d with
    | lst xs =>
      unfold RepD at hr
      obtain ⟨a, o, vs, rfl, hs, ra⟩ := hr
      exact ⟨a, vs, rfl, .inl ⟨.inl (.inr ⟨o, hs⟩), p φ1 H1 R1 .refl _ (lit_revL (.inl ⟨o, hs⟩) ra)⟩⟩
    | raw xs =>
      unfold RepD at hr
      obtain ⟨a, vs, rfl, hs, ra⟩ := hr
      exact ⟨a, vs, rfl, .inl ⟨hs.sql, p φ1 H1 R1 .refl _ (lit_revL hs ra)⟩⟩
    | tup xs =>
      unfold RepD at hr
      obtain ⟨a, vs, rfl, hs, ra⟩ := hr
      exact ⟨a, vs, rfl, .inr ⟨hs, p φ1 H1 R1 .refl _ (lit_revT hs ra)⟩⟩
    | _ => exact p.elim
end
/-! ### dicts, read -/
def gGetD : List D → Option D
  | [.dic kvs, k] => if (dkey k).isSome = true then dicGet kvs k else none
  | _ => none
def gHasD (neg : Bool) : List D → Option D
  | [k, .dic kvs] => if (dkey k).isSome = true then some (.bl (neg != (dicGet kvs k).isSome)) else none
  | _ => none
def gLenD : List D → Option D
  | [.dic kvs] => some (.int kvs.length)
  | ds => gLen ds
theorem RepR.dic {K : KK} {φ : List Addr} {H : Hp} {v : V} {kvs : List (D × D)} (h : RepR K φ H (.dic kvs) v) : ∃ a kv, v = .ref a ∧ Rd H a (.dK kv) ∧ RepKv K φ H kvs kv := by
  rcases h with h | ⟨a, e, h⟩
  · unfold RepD at h
    obtain ⟨a, o, kv, e, q, r⟩ := h
    exact ⟨a, kv, e, .inr ⟨o, q⟩, r⟩
  · obtain ⟨kv, q, r⟩ := h
    exact ⟨a, kv, e, .inl q, r⟩
theorem key_val {K : KK} {φ : List Addr} {H : Hp} {k : D} {key : Key} {w : V} (e : dkey k = some key) (h : RepR K φ H k w) : w = kV key := by
  cases k with
  | int i => cases e; exact h.int
  | str x => cases e; exact h.str
  | _ => cases e
def rGetD : R2 := fun x y H Q => ∃ a v, x = .ref a ∧ DGet H a y (some v) ∧ Q v H
theorem ix_dictD {X : Cx} (hu : X.A.units + 64 < cLine) : IxR X rGetD := by
  intro value slice pins s σ H x y v u Q I rx ry h hs
  obtain ⟨a, w, rfl, g, q⟩ := h
  obtain rfl : v = Value.ref a := rx
  have hT := dict_typeIs I g
  unfold subscriptTail
  refine wpAny_bind ?_
  rw [getitemInPython_of_ne hT.not_modules]
  refine wpAny_bind (wpAny_specialOf hT PySem.F.slot_dict_getitem.lookup ?_)
  have fin : wpAny (model X.prog X.w) X.A (subscripted slice false (.ref a) u) (fun r s3 => wpAny (model X.prog X.w) X.A (letTemporaryGo value (.ref a) r >>= fun _ => pure r) (EP X pins σ Q) X.xe s3) X.xe s := by
    rw [hs]
    exact wpAny_operating (d_getItem (by omega) I g ry fun w' s3 I3 rw' => wpAny_bind (wpAny_letTemporaryGo (wpAny_pure ⟨w, H, I3, rw', q⟩)))
  first
    | exact wpAny_pure (wpAny_bind fin)
    | exact wpAny_bind (wpAny_pure (wpAny_bind fin))
    | exact wpAny_bind fin
def rHasD (neg : Bool) : R2 := fun x y H Q => ∃ a o, y = .ref a ∧ DGet H a x o ∧ Q (.bl (neg != o.isSome)) H
theorem op_hasD {X : Cx} (hu : X.A.units + 64 < cLine) : OpR X (compareOp .In) (rHasD false) := by
  intro pins s σ H x y v u Q I rx ry h
  obtain ⟨a, o, rfl, g, q⟩ := h
  obtain rfl : u = Value.ref a := ry
  refine d_in (by omega) I g rx fun s3 I3 => ⟨.bl o.isSome, H, I3, rfl, ?_⟩
  have e : (false != o.isSome) = o.isSome := by cases o.isSome <;> rfl
  rw [e] at q
  exact q
theorem op_hasNotD {X : Cx} (hu : X.A.units + 64 < cLine) : OpR X (compareOp .NotIn) (rHasD true) := by
  intro pins s σ H x y v u Q I rx ry h
  obtain ⟨a, o, rfl, g, q⟩ := h
  obtain rfl : u = Value.ref a := ry
  refine d_notIn (by omega) I g rx fun s3 I3 => ⟨.bl (!o.isSome), H, I3, rfl, ?_⟩
  have e : (true != o.isSome) = !o.isSome := by cases o.isSome <;> rfl
  rw [e] at q
  exact q
theorem opd_getD {C : Ctx} : OpD C false (rB rGetD) gGetD := by
  intro φ st σ H R ds vs d Q hr hg q
  match ds, hr, hg with
  | [.dic kvs, k], hr, hg =>
    obtain ⟨v, w, rfl, h1, h2⟩ := hr.two
    have hg : (if (dkey k).isSome = true then dicGet kvs k else none) = some d := hg
    split at hg
    · rename_i hc
      cases e : dkey k with
      | none => rw [e] at hc; cases hc
      | some key =>
        obtain ⟨a, kv, rfl, rd, r⟩ := h1.dic
        have ek := dkey_some e
        have g := r.get key
        rw [← ek, hg] at g
        obtain ⟨y, hy, ry⟩ := g
        rw [key_val e h2]
        exact ⟨_, _, rfl, a, y, rfl, .inl ⟨kv, key, rd, rfl, hy.symm⟩, q y H (Same.refl H) (.of_rep rfl ry)⟩
    · cases hg
theorem opd_hasD {C : Ctx} {o neg : Bool} : OpD C o (rB (rHasD neg)) (gHasD neg) := by
  intro φ st σ H R ds vs d Q hr hg q
  match ds, hr, hg with
  | [k, .dic kvs], hr, hg =>
    obtain ⟨v, w, rfl, h1, h2⟩ := hr.two
    have hg : (if (dkey k).isSome = true then some (D.bl (neg != (dicGet kvs k).isSome)) else none) = some d := hg
    split at hg
    · rename_i hc
      cases hg
      cases e : dkey k with
      | none => rw [e] at hc; cases hc
      | some key =>
        obtain ⟨a, kv, rfl, rd, r⟩ := h2.dic
        have ek := dkey_some e
        have g := r.get key
        rw [← ek] at g
        rw [key_val e h1]
        refine ⟨_, _, rfl, a, valV kv key, rfl, .inl ⟨kv, key, rd, rfl, rfl⟩, ?_⟩
        have es : (valV kv key).isSome = (dicGet kvs k).isSome := by
          cases eg : dicGet kvs k with
          | none => rw [eg] at g; rw [g]; rfl
          | some y => rw [eg] at g; obtain ⟨z, hz, _⟩ := g; rw [hz]; rfl
        rw [es]
        exact q _ H (Same.refl H) rep_bl
    · cases hg
section
variable {X : Cx} {C : Ctx} {o : Bool} {a b : Expr} {oa ob : Opd} {p pos : Pos}
theorem me_getD (hu : X.A.units + 64 < cLine) (ha : MO X C a oa) (hb : MO X C b ob) (hs : PlainIx b := by exact fun _ _ => rfl) : ME X C false (.Subscript a b pos) (eOp gGetD [oa, ob]) :=
  PE.weak (pe_ix (ix_dictD hu) ha.pe hb.pe hs) fun _ _ _ h => run_bin ha hb opd_getD h
theorem me_hasD (hu : X.A.units + 64 < cLine) (ha : MO X C a oa) (hb : MO X C b ob) (hm : behindInMarks .In b = false := by rfl) : ME X C o (.Compare a [.In] [b] pos) (eOp (gHasD false) [oa, ob]) := me_cmp (op_hasD hu) opd_hasD ha hb hm
theorem me_hasNotD (hu : X.A.units + 64 < cLine) (ha : MO X C a oa) (hb : MO X C b ob) (hm : behindInMarks .NotIn b = false := by rfl) : ME X C o (.Compare a [.NotIn] [b] pos) (eOp (gHasD true) [oa, ob]) := me_cmp (op_hasNotD hu) opd_hasD ha hb hm
theorem mt_hasD (hu : X.A.units + 64 < cLine) (ha : MO X C a oa) (hb : MO X C b ob) (hm : behindInMarks .In b = false := by rfl) : MT X C (.Compare a [.In] [b] pos) (eT (eOp (gHasD false) [oa, ob])) := mt_cmp (op_hasD hu) opd_hasD ha hb hm
theorem mt_hasNotD (hu : X.A.units + 64 < cLine) (ha : MO X C a oa) (hb : MO X C b ob) (hm : behindInMarks .NotIn b = false := by rfl) : MT X C (.Compare a [.NotIn] [b] pos) (eT (eOp (gHasD true) [oa, ob])) := mt_cmp (op_hasNotD hu) opd_hasD ha hb hm
/-- {} -/
def eDic0 : MS → Res D := fun st => .ok (.dic []) st
theorem me_dic0O : ME X C true (.Dict [] [] pos) eDic0 := PE.weak pe_dnewK fun σ H Q ⟨st, φ, R, q⟩ p hp => by
  refine q φ _ (R.same (same_new hp)) (.same (same_new hp)) _ ?_
  unfold ValR
  rw [if_pos (show (true && isOwn (.dic [])) = true from rfl)]
  exact ⟨p, rfl, ⟨[], upd_same, .nil⟩, hp⟩
theorem me_dic0 : ME X C false (.Dict [] [] pos) eDic0 := me_dic0O.fz
/-! ### is, is not of truths -/
def gIsB (neg : Bool) : List D → Option D
  | [.bl a, .bl b] => some (.bl (neg != decide (a = b)))
  | _ => none
theorem opd_isB {neg : Bool} {r : R2} (hr : ∀ (a b : Bool) (H : Hp) (Q : VK), Q (.bl (neg != decide (a = b))) H → r (.bl a) (.bl b) H Q) : OpD C o (rB r) (gIsB neg) := by
  intro φ st σ H R ds vs d Q hr' hg q
  match ds, hr', hg with
  | [.bl a, .bl b], hr', hg =>
    obtain ⟨v, w, rfl, h1, h2⟩ := hr'.two
    cases hg
    rw [h1.bl, h2.bl]
    exact ⟨_, _, rfl, hr a b H Q (q _ H (Same.refl H) rep_bl)⟩
theorem me_isB (ha : MO X C a oa) (hb : MO X C b ob) (hm : behindInMarks .Is b = false := by rfl) : ME X C o (.Compare a [.Is] [b] pos) (eOp (gIsB false) [oa, ob]) := me_cmp op_isBl (opd_isB fun a b H Q q => ⟨a, b, rfl, rfl, by cases a <;> cases b <;> exact q⟩) ha hb hm
theorem mt_isB (ha : MO X C a oa) (hb : MO X C b ob) (hm : behindInMarks .Is b = false := by rfl) : MT X C (.Compare a [.Is] [b] pos) (eT (eOp (gIsB false) [oa, ob])) := mt_cmp op_isBl (opd_isB fun a b H Q q => ⟨a, b, rfl, rfl, by cases a <;> cases b <;> exact q⟩) ha hb hm
theorem me_notB (ha : MO X C a oa) (hb : MO X C b ob) (hm : behindInMarks .IsNot b = false := by rfl) : ME X C o (.Compare a [.IsNot] [b] pos) (eOp (gIsB true) [oa, ob]) := me_cmp op_notBl (opd_isB fun a b H Q q => ⟨a, b, rfl, rfl, by cases a <;> cases b <;> exact q⟩) ha hb hm
theorem mt_notB (ha : MO X C a oa) (hb : MO X C b ob) (hm : behindInMarks .IsNot b = false := by rfl) : MT X C (.Compare a [.IsNot] [b] pos) (eT (eOp (gIsB true) [oa, ob])) := mt_cmp op_notBl (opd_isB fun a b H Q q => ⟨a, b, rfl, rfl, by cases a <;> cases b <;> exact q⟩) ha hb hm
end
/-! ### extend -/
def rExtR : V → List V → Hp → VK → Prop := fun x vs H Q => ∃ l b xs zs, x = .ref l ∧ vs = [.ref b] ∧ H l = some (.lst xs) ∧ Rd H b (.lst zs) ∧ xs.length + zs.length ≤ sizeLine ∧ Q .non (upd H l (.lst (xs ++ zs)))
theorem mt_extR {X : Cx} : MtM X "list.extend" rExtR := by
  intro pins s σ H x vs v us Q I rx rv h
  obtain ⟨l, b, xs, zs, rfl, rfl, hH, hB, hz, q⟩ := h
  cases rx
  obtain ⟨u, rfl, ru⟩ := rv.one
  cases ru
  obtain ⟨z, its, n, r, hl, e⟩ := I.lstM hH
  obtain ⟨z2, its2, n2, r2, hl2, e2⟩ := inv_rdL I hB
  have size : its.toArray.size + its2.toArray.size ≤ sizeLine := by rw [List.size_toArray, List.size_toArray]; omega
  have short : ¬ (!its.toArray.isEmpty && Builtin.List.listTooLong (its.toArray.size + its2.toArray.size)) = true := by
    rw [notLongL size, Bool.and_false]
    exact Bool.false_ne_true
  refine call_meets PySem.F.slot_list_extend ⟨_, e, rfl⟩ PySem.F.entry_list_extend (PySem.F.args_list_extend_2 _ _) (AutoSeq1.list_extend_list_list_0 l its.toArray n b its2.toArray n2 short (by rw [List.size_toArray]; omega) (by omega)) ⟨e, e2, ?_⟩
  refine ⟨.non, _, I.lset (its' := its ++ its2) hH e (by simp) (r.append r2) ?_, rfl, q⟩
  rw [List.length_append]
  omega
def eExt (i : Nat) (m : MS → Res D) : MS → Res D := fun st => match st.get i with
  | some (.lst _) => (m st).bind fun d st1 => match st1.get i, d with
    | some (.lst xs), .lst zs => if xs.length + zs.length ≤ sizeLine then .ok .non (st1.set i (.lst (xs ++ zs))) else .stuck
    | _, _ => .stuck
  | _ => .stuck
section
variable {X : Cx} {C : Ctx} {i : Nat} {o e : Expr} {m : MS → Res D} {apos cpos : Pos}
theorem me_extend (h : PE X o (tVar i)) (ho : C.own i = true) (hm : ME X C false e m) (hbase : attributeBase o "extend" X.env (eval o X.env) = eval o X.env := by rfl)
    (hfew : ((backTo cpos (starEach [e] X.env)).all (fun x => !x.1) && (backToKw cpos (keywordEach [] X.env)).all (fun x => x.1.isSome)
      && decide ([e].length + ([] : List Keyword).length + (if ([] : List Keyword).isEmpty then 0 else 1) < 30)) = true := by rfl)
    (hline : (apos.endLine == cpos.line) = true := by rfl) (hs : starEach [e] X.env = (false, eval e X.env) :: starEach [] X.env := by rfl) (hplain : (backTo cpos (starEach [] X.env)).any (·.1) = false := by rfl) :
    ME X C false (.Call (.Attribute o "extend" apos) [e] [] cpos) (eExt i m) :=
  PE.weak (pe_bm PySem.F.plainAttrs_list PySem.F.slot_list_extend PySem.F.type_list_extend mt_extR h (pa_cons hm pa_nil hs) hbase hfew hline hs hplain) fun σ H Q ⟨st, φ, R, q⟩ => by
    unfold eExt at q
    cases e0 : st.get i with
    | none => rw [e0] at q; exact q.elim
    | some c =>
      cases c with
      | lst xs0 =>
        rw [e0] at q
        obtain ⟨a, ea, ⟨vs0, h0, _⟩, _⟩ := R.own i _ ho (MS.get_some e0)
        refine ⟨.ref a, ea, .inl ⟨rfl, _, .inl (.inl h0)⟩, st, φ, R, Post.mono (Post.bind q) fun d st1 φ1 H1 R1 S1 p v hv => ?_⟩
        cases e1 : st1.get i with
        | none => simp only [e1] at p; exact p.elim
        | some c1 =>
          cases c1 with
          | lst xs =>
            cases d with
            | lst zs =>
              simp only [e1] at p
              split at p
              · rename_i hl
                obtain ⟨a', ea', ⟨vs, h1, r⟩, _⟩ := R1.own i _ ho (MS.get_some e1)
                rw [ea] at ea'
                cases ea'
                have hv' := hv.rep
                unfold RepD at hv'
                obtain ⟨b, ob, ws, rfl, hb, rw'⟩ := hv'
                obtain ⟨R2, S2⟩ := own_change R1 ho e1 ea h1 (r.append rw')
                exact ⟨a, b, vs, ws, rfl, rfl, h1, .inr ⟨ob, hb⟩, by rw [← r.length, ← rw'.length]; exact hl, p φ1 _ R2 S2 _ (.of_rep rfl (by unfold RepD; rfl))⟩
              · exact p.elim
            | _ => simp only [e1] at p; exact p.elim
          | _ => simp only [e1] at p; exact p.elim
      | _ => rw [e0] at q; exact q.elim
end
end Q
set_option Elab.async false
set_option linter.all false
set_option maxRecDepth 100000
set_option autoImplicit false
/-! RC: enumerate of a tuple; [::-1] of a list or a tuple -/
namespace Q
open PySem PySem.Spec PyProof.Rows L2 PySem.SeqAt RT
open PySem (Draws Begins)
section
set_option maxHeartbeats 1000000 in
theorem enum_new_of {v : Value} {ob : Obj} {Hh : Heap → Prop} (B : Begins v ob Hh) : Meets (Builtin.«enumerate.__new__» ⟨[.type "enumerate", v], []⟩) (fun _ R s => Hh s.heap ∧
    R (.ok (.ret (.ref (s.heap.push ob).objs.size))) { s with heap := (s.heap.push ob).push { cls := .type "enumerate", data := .fields #[.none, .bool false, .ref s.heap.objs.size, rawInt 0, .none, .none] } }) :=
  .of_wp fun prog w A R s h => by
    obtain ⟨hp, g, d, tk, os⟩ := s
    obtain ⟨h1, h⟩ := h
    have subs := sub_enumerate
    have it : ∀ {A' : Around} {E : Value → Shared → Prop} {Q : Value → Shared → Prop}, Q (.ref hp.objs.size) ⟨hp.push ob, g, d, tk, os⟩ → wpAny (model prog w) A' (pyIter v) Q E ⟨hp, g, d, tk, os⟩ := fun q => B.iter prog w _ _ ⟨hp, g, d, tk, os⟩ _ h1 q
    wp_walk using it
    refine wpAny_stack_any fun st => wpAny_pure ?_
    split
    · rename_i c _ _ _ _ _
      cases (c == Value.type "enumerate")
      · wp_walk using it
        exact ⟨_, rfl, h⟩
      · wp_walk using it
        exact ⟨_, rfl, h⟩
    · wp_walk using it
      exact ⟨_, rfl, h⟩
variable {P : Program} {w : World} {A : Around} {E : Value → Shared → Prop} {s : Shared}
theorem call_enum_tup {u : Addr} {vs : Array Value} {Q : Value → Shared → Prop} (ht : s.heap.IsTuple u vs)
    (q : ∀ g, IsEnum g (s.heap.objs.size + 1) s.heap.objs.size 0 .none → g.IsTupleIter s.heap.objs.size u 0 → (∀ b o, s.heap.get? b = some o → g.get? b = some o) → Q (.ref (s.heap.objs.size + 1)) { s with heap := g }) :
    wpAny (model P w) A (call (.type "enumerate") [.ref u]) Q E s := by
  refine callType_new F.called_enumerate (by decide) (F.typeCall_enumerate_1 _) (F.newCall_enumerate_1 _) (fun ob => F.args_object_init_2 ob _) F.entry_enumerate_new (enum_new_of (begins_tuple u vs)) ⟨ht, ?_⟩
  have size : (s.heap.push { cls := .type "tuple_iterator", data := .fields #[.ref u, .int 0 0] }).objs.size = s.heap.objs.size + 1 := Heap.size_push ..
  show _ ∧ _
  rw [size]
  have isE : IsEnum ((s.heap.push { cls := .type "tuple_iterator", data := .fields #[.ref u, .int 0 0] }).push { cls := .type "enumerate", data := .fields #[.none, .bool false, .ref s.heap.objs.size, rawInt 0, .none, .none] }) (s.heap.objs.size + 1) s.heap.objs.size 0 .none := by
    have := Heap.get?_push_size (s.heap.push { cls := .type "tuple_iterator", data := .fields #[.ref u, .int 0 0] }) (o := { cls := .type "enumerate", data := .fields #[.none, .bool false, .ref s.heap.objs.size, rawInt 0, .none, .none] }) rfl
    rw [size] at this
    exact this
  exact ⟨⟨_, isE, rfl⟩, q _ isE ⟨_, Heap.get?_push_of_some _ (Heap.get?_push_size _ rfl), rfl, rfl⟩ fun b o x => Heap.get?_push_of_some _ (Heap.get?_push_of_some _ x)⟩
end
/-- the tuple at a, each item in a new pair -/
def IteT (K : PySem.W.Frag) (a : Addr) : It :=
  ⟨fun i H => ∃ (xs : List V) (x : V), SqT K H a xs ∧ xs[i]? = some x, fun i H v H' => ∃ T x, v = .ref T ∧ H T = none ∧ H' = upd H T (.tup [.int (i : Nat), x]) ∧ ∀ xs, SqT K H a xs → xs[i]? = some x, fun i H => ∃ xs : List V, SqT K H a xs ∧ xs.length ≤ i⟩
theorem turn_enumT {P : Program} {w : World} {K : PySem.W.Frag} {elts : List Expr} {kk : Nat} {tpos : Pos} (a e it : Addr) :
    Turn P w K (.Tuple elts kk tpos) (IteT K a) [e, it] e (fun i h => (∃ old, IsEnum h e it ((i : Nat) : Int) old) ∧ h.IsTupleIter it a i ∧ e ≠ it ∧ a ≠ e ∧ a ≠ it) where
  mem := by simp
  obj := fun i h st b hb => by
    obtain ⟨⟨old, isE⟩, ⟨o, ho, hc, hd⟩, _⟩ := st
    have eb : b = e ∨ b = it := by simpa using hb
    rcases eb with z | z
    · rw [z]; exact ⟨_, isE, fun v q => nomatch q⟩
    · rw [z]; exact ⟨o, ho, fun v q => by rw [hd] at q; cases q⟩
  keep := fun i h h' st k => let ⟨⟨old, isE⟩, hi, ne⟩ := st; ⟨⟨old, k e (by simp) _ isE⟩, hi.at fun o q => k it (by simp) o q, ne⟩
  item := by
    intro X hP hw hK hc i pins s σ H E I hf st hg
    subst hP hw hK
    obtain ⟨⟨old, isE⟩, isIt, ne, ae, ai⟩ := st
    obtain ⟨xs, x, hq, hx⟩ := hg
    obtain ⟨its, rv, ⟨o, ho, hcl, n, hd⟩, hz⟩ := I.tuple hq
    obtain ⟨u, hu, ru⟩ := rv.get hx
    have e_lt : e < s.heap.objs.size := Heap.lt_size isE
    have it_lt : it < s.heap.objs.size := by obtain ⟨_, q, _⟩ := isIt; exact Heap.lt_size q
    have hlt : i < its.toArray.size := by
      have := (List.getElem?_eq_some_iff.mp hu).1
      simpa using this
    have D := Draws.tuple (prog := X.prog) (w := X.w) (A := X.A.in1) (I.ok.hd hc) it a ai its.toArray
    have isT : s.heap.IsTuple a its.toArray := ⟨o, ho, hcl, n, hd⟩
    refine wpAny_pyNext_enum_itemC D isE (show s.heap.IsTupleIter it a i ∧ s.heap.IsTuple a its.toArray from ⟨isIt, isT⟩) hlt ne (by simp [ne, Ne.symm ae]) fun y g tk hy out st' atT size old' => ?_
    have ey : y = u := by
      have hu' : its.toArray[i]? = some u := by simpa using hu
      have hy' : its.toArray[i]? = some y := hy
      rw [hu'] at hy'
      exact (Option.some.inj hy').symm
    subst ey
    refine ⟨_, rfl, wpAny_letOwnedTupleGo_enum (s := { s with heap := g, toks := tk + 1 }) out fun g2 isE2 sb => ?_⟩
    have atT2 : g2.get? s.heap.objs.size = some { cls := .type "tuple", data := .seq #[.int i tk, y] } := (sb.2 _ (Nat.ne_of_gt e_lt)).trans atT
    have new : ObjOk X.prog X.w (upd H s.heap.objs.size (.tup [.int (i : Nat), x])) g2 s.heap.objs.size (.tup [.int (i : Nat), x]) := ⟨by show 2 ≤ sizeLine; decide, [.int i tk, y], .cons ⟨_, rfl⟩ (.cons ru .nil), ⟨_, atT2, rfl, _, rfl⟩⟩
    have I1 : Inv X pins σ (upd H s.heap.objs.size (.tup [.int (i : Nat), x])) { s with heap := g2, toks := tk + 1 } :=
      I.turnedNew (ch := [e, it]) (fun b ob hb q => (sb.2 b (fun z => hb (by simp [z]))).trans (old' b ob (fun z => hb (by simp [z])) (fun z => hb (by simp [z])) q)) hf (Nat.le_refl _) new
    refine ⟨.ref s.heap.objs.size, _, I1, rfl, ⟨_, x, rfl, I.hok.fresh (Nat.le_refl _), rfl, fun ys hy => by rw [I.tuple_inj hy hq]; exact hx⟩, ⟨⟨y, ?_⟩, st'.1.at fun o q => (sb.2 it (Ne.symm ne)).trans q, ne, ae, ai⟩, fun b hb => ?_⟩
    · have e1 : ((i + 1 : Nat) : Int) = (i : Int) + 1 := by omega
      rw [e1]; exact isE2
    · have b_lt : b < s.heap.objs.size := by
        have eb : b = e ∨ b = it := by simpa using hb
        rcases eb with z | z
        · rw [z]; exact e_lt
        · rw [z]; exact it_lt
      rw [upd_ne (Nat.ne_of_lt b_lt)]
      exact (hf b hb).1
  done := by
    intro X hP hw hK hc i pins s σ H E I hf st hg
    subst hP hw hK
    obtain ⟨⟨old, isE⟩, isIt, ne, ae, ai⟩ := st
    obtain ⟨xs, hq, hx⟩ := hg
    obtain ⟨its, rv, ⟨o, ho, hcl, n, hd⟩, hz⟩ := I.tuple hq
    obtain ⟨f0, f1, f2, f3, f4, f5⟩ := hf it (by simp)
    have hl := rv.length
    have isT : s.heap.IsTuple a its.toArray := ⟨o, ho, hcl, n, hd⟩
    have D := Draws.tuple (prog := X.prog) (w := X.w) (A := X.A.in1) (I.ok.hd hc) it a ai its.toArray
    have hT : s.TypeIs (.ref e) "enumerate" := ⟨_, isE, rfl⟩
    unfold pyNext
    refine wpAny_bind (wpAny_attempt (wpAny_callSpecial?_slot (name := Str.ofString "__next__") hT PySem.F.slot_enumerate_next (wpAny_call_entry PySem.F.slot_enumerate_next hT PySem.F.entry_enumerate_next ?_ (PySem.F.args_enumerate_next_1 _))))
    show wpAny _ _ (field (.ref e) 2 >>= _) _ _ _
    refine wpAny_bind (wpAny_field isE rfl (x := .ref it) rfl ?_)
    refine wpAny_bind (wpAny_nextOf_tuple_end (show X.A.in1.in1.handled = none by simp [I.ok.hd hc]) isIt isT (by simp; omega) fun g z old' isStop => ?_)
    obtain ⟨oz, hoz, hcz⟩ := isStop
    refine wpAny_bind (wpAny_isInstance (T := "StopIteration") (b := true) ⟨oz, hoz, hcz⟩ isSubtype_stop ?_)
    exact wpAny_pure ⟨rfl, I.turned (t' := s.toks) (fun b o hb q => old' b o hb q) f0 f1 f3 f4 f5⟩
  self := fun A i s Q E st h => let ⟨⟨_, isE⟩, _⟩ := st; wpAny_pyIter_enum isE h
def rEnA (K : PySem.W.Frag) (ta : TA) : TI := fun σ H R => ta σ H fun vs H1 => (∃ a xs, vs = [.ref a] ∧ SqL K H1 a xs ∧ R (Ite K a) H1) ∨ (∃ a xs, vs = [.ref a] ∧ SqT K H1 a xs ∧ R (IteT K a) H1)
theorem pi_enumA {X : Cx} {e : Expr} {ta : TA} {p pos tpos : Pos} {elts : List Expr} {kk : Nat} (hg : Gl X "enumerate") (hm : X.mg "enumerate" = none) (ha : PA X [e] ta) (hs : starEach [e] X.env = [(false, eval e X.env)] := by rfl) :
    PI X (.Tuple elts kk tpos) (.Call (.Name "enumerate" p) [e] [] pos) (rEnA X.K ta) := by
  refine ⟨fun pins s σ H R I h => ?_⟩
  refine Call_ (ld_blt I hg hm boot_enumerate (PyProof.Rows.callWith_type1 (thn (ha.run pos pins s σ H _ I h) fun us s1 ⟨vs, H1, I1, r1, q1⟩ => ?_) hs rfl))
  have two : ∀ b, b ∈ [s1.heap.objs.size + 1, s1.heap.objs.size] → s1.heap.objs.size ≤ b := fun b hb => by
    rcases List.mem_cons.mp hb with z | z
    · rw [z]; exact Nat.le_add_right _ _
    · rw [List.mem_singleton.mp z]; exact Nat.le_refl _
  rcases q1 with ⟨a, xs, ex, hq, q⟩ | ⟨a, xs, ex, hq, q⟩
  · subst ex
    cases r1 with
    | cons r rr =>
      cases rr
      cases r
      obtain ⟨its, rv, isL, hz⟩ := I1.list hq
      refine call_enumerate_list isL.isList fun g isE isIt size old => wpAny_pyIter_enum isE ?_
      have I2 : Inv X pins σ H1 { s1 with heap := g } := I1.kept (t' := s1.toks) old
      exact ⟨s1.heap.objs.size + 1, [s1.heap.objs.size + 1, s1.heap.objs.size], _, _, H1, rfl, I2, turn_enum a (s1.heap.objs.size + 1) s1.heap.objs.size, ⟨⟨.none, isE⟩, isIt, Nat.succ_ne_self _⟩, fun b hb => I1.fpOk (two b hb) (I1.hok.fresh (two b hb)), q⟩
  · subst ex
    cases r1 with
    | cons r rr =>
      cases rr
      cases r
      obtain ⟨its, rv, ⟨o, ho, hcl, n, hd⟩, hz⟩ := I1.tuple hq
      refine call_enum_tup (vs := its.toArray) ⟨o, ho, hcl, n, hd⟩ fun g isE isIt old => wpAny_pyIter_enum isE ?_
      have I2 : Inv X pins σ H1 { s1 with heap := g } := I1.kept (t' := s1.toks) old
      have a_lt : a < s1.heap.objs.size := Heap.lt_size ho
      exact ⟨s1.heap.objs.size + 1, [s1.heap.objs.size + 1, s1.heap.objs.size], _, _, H1, rfl, I2, turn_enumT a (s1.heap.objs.size + 1) s1.heap.objs.size, ⟨⟨.none, isE⟩, isIt, Nat.succ_ne_self _, Nat.ne_of_lt (Nat.lt_succ_of_lt a_lt), Nat.ne_of_lt a_lt⟩, fun b hb => I1.fpOk (two b hb) (I1.hok.fresh (two b hb)), q⟩
theorem lit_enumT {C : Ctx} {φ : List Addr} {H : Hp} {a : Addr} {xs : List D} {vs : List V} (h1 : SqT C.K H a vs) (r1 : RepAll C.K φ H xs vs) : LIt C (IteT C.K a) φ H (numD 0 xs) := by
  refine ⟨fun i d φ' H' e S => ?_, fun φ' H' S => ⟨vs, SqT.mono S.fz h1, ?_⟩⟩
  · obtain ⟨x, ex, rfl⟩ := numD_get xs 0 i d e
    obtain ⟨v, hv, rv⟩ := r1.get ex
    have s1 := SqT.mono S.fz h1
    refine ⟨⟨vs, v, s1, hv⟩, fun u H'' ⟨T, x', eu, hT, eH, f1⟩ => ?_⟩
    subst eu eH
    have e1 := f1 vs s1
    rw [hv] at e1
    cases e1
    refine ⟨same_new hT, ?_⟩
    unfold RepD
    refine ⟨T, [.int (i : Nat), v], rfl, .inl (.inl upd_same), ?_⟩
    refine RepAll.same (same_new hT) (.cons ?_ (.cons (rv.mono S.fz S.pre) .nil))
    rw [Int.zero_add]
    unfold RepD
    rfl
  · rw [numD_length, r1.length]
    exact Nat.le_refl _
def enumA : List D → Option (List D)
  | [.tup xs] => some (numD 0 xs)
  | ds => enumG ds
def iEnumA (m : MS → Res D) : MS → Res (List D) := fun st => (opV [m] st).bind (okL enumA)
theorem enumA_inv {ds l : List D} (h : enumA ds = some l) : (∃ xs, ds = [.tup xs] ∧ l = numD 0 xs) ∨ enumG ds = some l := by
  unfold enumA at h
  split at h
  · cases h
    exact .inl ⟨_, rfl, rfl⟩
  · exact .inr h
section
variable {X : Cx} {C : Ctx} {a : Expr} {ma : MS → Res D} {p pos tpos : Pos} {elts : List Expr} {kk : Nat}
theorem mi_enumA (hk : X.K = C.K) (hg : Gl X "enumerate") (hm : X.mg "enumerate" = none) (ha : MV X C [a] [ma]) (hs : starEach [a] X.env = [(false, eval a X.env)] := by rfl) :
    MI X C (.Tuple elts kk tpos) (.Call (.Name "enumerate" p) [a] [] pos) (iEnumA ma) := PI.weak (pi_enumA hg hm ha.pa hs) fun σ H R h => by
  refine run_argsV h fun ds st' φ' H' vs R' hr q => ?_
  rw [hk]
  obtain ⟨l, hz, q⟩ := okL_post R' q
  rcases enumA_inv hz with ⟨xs, rfl, rfl⟩ | hz
  · obtain ⟨v, rfl, h1⟩ := hr.one
    unfold RepD at h1
    obtain ⟨l1, vs1, rfl, s1, r1⟩ := h1
    exact .inr ⟨l1, vs1, rfl, s1, q _ (lit_enumT s1 r1)⟩
  · rcases enumG_inv hz with ⟨xs, rfl, rfl⟩ | ⟨xs, rfl, rfl⟩
    · obtain ⟨v, rfl, h1⟩ := hr.one
      unfold RepD at h1
      obtain ⟨l1, o1, vs1, rfl, s1, r1⟩ := h1
      exact .inl ⟨l1, vs1, rfl, .inl (.inr ⟨o1, s1⟩), q _ (lit_enum (.inl ⟨o1, s1⟩) r1)⟩
    · obtain ⟨v, rfl, h1⟩ := hr.one
      unfold RepD at h1
      obtain ⟨l1, vs1, rfl, s1, r1⟩ := h1
      exact .inl ⟨l1, vs1, rfl, s1.sql, q _ (lit_enum s1 r1)⟩
end
end Q
set_option Elab.async false
set_option linter.all false
set_option maxRecDepth 100000
set_option autoImplicit false
/-! RD: [::-1] of a list or a tuple -/
namespace Q
open PySem PySem.Spec PyProof.Rows L2 PySem.SeqAt RT
section
variable {P : Program} {w : World} {A : Around} {E : Value → Shared → Prop} {s : Shared}
theorem sliceApplied_back {sl : Addr} {vl vu vs : Value} {n : Nat} {Q : Int × Int × Nat → Shared → Prop} (hs : s.heap.IsSliceOf sl vl vu vs) (pl : IsPart vl none) (pu : IsPart vu none) (ps : IsPart vs (some (-1)))
    (h : Q ((n : Int) - 1, -1, n) s) : wpAny (model P w) A (Builtin.Slice.sliceApplied (.ref sl) (pure (n : Int))) Q E s := by
  obtain ⟨ob, hob, hc, hd⟩ := id hs
  unfold Builtin.Slice.sliceApplied Builtin.Slice.sliceFields
  refine wpAny_bind (wpAny_bind (wpAny_field hob hd (x := vl) rfl (wpAny_bind (wpAny_field hob hd (x := vu) rfl (wpAny_bind (wpAny_field hob hd (x := vs) rfl (wpAny_pure ?_)))))))
  refine wpAny_bind (HT.slicePart_ ps ?_)
  show wpAny _ _ (if ((-1 : Int) == 0) = true then _ else _) _ _ s
  rw [if_neg (by decide)]
  refine wpAny_bind (HT.slicePart_ pl (wpAny_bind (HT.slicePart_ pu (wpAny_bind (wpAny_pure ?_)))))
  have e : Builtin.Slice.sliceAdjust none none (-1) (n : Int) = ((n : Int) - 1, -1) := by
    unfold Builtin.Slice.sliceAdjust
    simp
  have e2 : Builtin.Slice.slicePlaces ((n : Int) - 1) (-1) (-1) = n := by
    unfold Builtin.Slice.slicePlaces
    simp
    omega
  show wpAny _ _ (match Builtin.Slice.sliceAdjust none none (-1) (n : Int) with | (lo, hi) => pure (lo, (-1 : Int), Builtin.Slice.slicePlaces lo hi (-1))) _ _ s
  rw [e]
  show wpAny _ _ (pure ((n : Int) - 1, (-1 : Int), Builtin.Slice.slicePlaces ((n : Int) - 1) (-1) (-1))) _ _ s
  rw [e2]
  exact wpAny_pure h
theorem pick_back (xs : Array Value) : ((List.range xs.size).filterMap fun (m : Nat) => xs[(((xs.size : Nat) : Int) - 1 + (m : Int) * -1).toNat]?).toArray = xs.toList.reverse.toArray := by
  congr 1
  have e : ∀ n, n ≤ xs.size → ((List.range n).filterMap fun (m : Nat) => xs[(((xs.size : Nat) : Int) - 1 + (m : Int) * -1).toNat]?) = (xs.toList.reverse).take n := by
    intro n
    induction n with
    | zero => intro _; rfl
    | succ n ih =>
      intro hn
      have hx : xs[(((xs.size : Nat) : Int) - 1 + (n : Int) * -1).toNat]? = xs.toList.reverse[n]? := by
        have e1 : (((xs.size : Nat) : Int) - 1 + (n : Int) * -1).toNat = xs.size - 1 - n := by omega
        rw [e1, List.getElem?_reverse (by rw [Array.length_toList]; omega), Array.length_toList, Array.getElem?_toList]
      rw [List.range_succ, List.filterMap_append, ih (by omega), List.take_add_one, ← hx]
      congr 1
  rw [e xs.size (Nat.le_refl _), List.take_of_length_le (by rw [List.length_reverse, Array.length_toList]; exact Nat.le_refl _)]
theorem getItem_tuple_back {t sl : Addr} {items : Array Value} {vl vu vs : Value} {Q : Value → Shared → Prop} (ht : IsTup s.heap t items) (hs : s.heap.IsSliceOf sl vl vu vs) (pl : IsPart vl none) (pu : IsPart vu none) (ps : IsPart vs (some (-1)))
    (h : Q (.ref s.heap.objs.size) { s with heap := s.heap.push { cls := .type "tuple", data := .seq items.toList.reverse.toArray } }) (hz : items.size ≤ sizeLine) : wpAny (model P w) A (getItem (.ref t) (.ref sl)) Q E s := by
  have size : sizeOk (.seq items.toList.reverse.toArray) := by
    show items.toList.reverse.toArray.size ≤ sizeLine
    rw [List.size_toArray, List.length_reverse, Array.length_toList]
    exact hz
  obtain ⟨ob, hob, hcs, hds⟩ := id hs
  have tyS : s.TypeIs (.ref sl) "slice" := ⟨ob, hob, hcs⟩
  unfold getItem
  try with_reducible refine wpAny_holding ?_
  first | refine wpAny_bind (wpAny_pure ?_) | skip
  refine wpAny_bind (wpAny_sequenceKey ht.typeIs (by decide) ?_)
  refine wpAny_bind (wpAny_callSpecial?_slot (name := Str.ofString "__getitem__") ht.typeIs PyProof.Rows.slot_tuple_getitem (wpAny_call_entry PyProof.Rows.slot_tuple_getitem ht.typeIs entry_tuple_getitem ?_ (args_tuple_getitem _ _)))
  show wpAny _ _ (Builtin.Tuple.tupleItemsOf (.ref t) >>= _) _ _ s
  refine wpAny_bind (tupleItemsOf_ ht ?_)
  refine wpAny_bind (wpAny_typeOf tyS ?_)
  rw [if_pos (by decide)]
  refine wpAny_bind (sliceApplied_back hs pl pu ps ?_)
  show wpAny _ _ (if ((((items.size : Nat) : Int) - 1 == 0 && (-1 : Int) == 1 && items.size == items.size) = true) then _ else _) _ _ s
  rw [if_neg (by simp), pick_back]
  first
    | exact wpAny_bind (m := Builtin.Tuple.tupleExact _) (wpAny_newObj_type (wpAny_pure ⟨_, rfl, wpAny_pure h⟩) size)
    | exact wpAny_bind (m := Builtin.Tuple.tupleExact _) (wpAny_newObj_type (wpAny_bind (wpAny_pure (wpAny_pure ⟨_, rfl, wpAny_pure h⟩))) size)
    | exact wpAny_bind (wpAny_bind (m := Builtin.Tuple.tupleExact _) (wpAny_newObj_type (wpAny_pure (wpAny_pure ⟨_, rfl, wpAny_pure h⟩)) size))
    | exact wpAny_bind (wpAny_bind (m := Builtin.Tuple.tupleExact _) (wpAny_newObj_type (wpAny_pure ⟨_, rfl, wpAny_pure h⟩) size))
end
def tBackT (K : PySem.W.Frag) (te : TE) : TE := fun σ H Q => te σ H fun x H1 => (∃ a xs, x = .ref a ∧ SqL K H1 a xs ∧ ∀ p, H1 p = none → Q (.ref p) (upd H1 p (.lst xs.reverse))) ∨ (∃ a xs, x = .ref a ∧ SqT K H1 a xs ∧ ∀ p, H1 p = none → Q (.ref p) (upd H1 p (.tup xs.reverse)))
section
variable {X : Cx} {pos : Pos}
theorem pe_back {e : Expr} {te : TE} {k : Nat} {p1 p2 p3 : Pos} (he : PE X e te) : PE X (.Subscript e (.Slice none none (some (.UnaryOp .USub (.Constant (.int 1) k p1) p2)) p3) pos) (tBackT X.K te) := by
  refine ⟨fun pins s σ H Q I h => ?_⟩
  refine Subscript_ (thn (he.run pins s σ H _ I h) fun v s1 ⟨x, H1, I1, r1, q1⟩ => ?_)
  have st : PO X (some (.UnaryOp .USub (.Constant (.int 1) k p1) p2)) (tPart (tUn (rU fun i => .int (-i)) (tC (.int 1)))) := po_some (pe_un un_neg pe_int)
  refine wpAny_Slice (thn (po_none.run pins s1 σ H1 (fun o H2 => o = none ∧ H2 = H1) I1 ⟨rfl, rfl⟩) fun vl s2 ⟨l, H2, I2, pl, el, e2⟩ => ?_)
  subst el e2
  refine thn (po_none.run pins s2 σ H2 (fun o H3 => o = none ∧ H3 = H2) I2 ⟨rfl, rfl⟩) fun vu s3 ⟨u, H3, I3, pu, eu, e3⟩ => ?_
  subst eu e3
  refine thn (st.run pins s3 σ H3 (fun o H4 => o = some (-1) ∧ H4 = H3) I3 ⟨1, rfl, -1, rfl, rfl, rfl⟩) fun vs s4 ⟨o, H4, I4, ps, eo, e4⟩ => ?_
  subst eo e4
  have I5 : Inv X pins σ H4 { s4 with heap := s4.heap.push { cls := .type "slice", data := .fields #[vl, vu, vs] } } := I4.kept (t' := s4.toks) fun b ob q => Heap.get?_push_of_some _ q
  rcases q1 with ⟨a, xs, ex, hx, q⟩ | ⟨a, xs, ex, hx, q⟩
  · subst ex
    cases r1
    obtain ⟨its, r, ht, hz⟩ := I5.list hx
    have hlen := r.length
    show wpAny (model X.prog X.w) X.A (subscriptTail e (.Slice none none (some (.UnaryOp .USub (.Constant (.int 1) k p1) p2)) p3) (.ref a) (.ref s4.heap.objs.size)) (EP X pins σ Q) X.xe _
    refine tail_any (ops := [.ref a, .ref s4.heap.objs.size]) ht.isList.typeIs (PySem.slot_list_getitem.lookup) ?_ (by with_unfolding_all rfl)
    refine wpAny_getItem_list_slice ht.isList (Heap.IsSliceOf.new _ vl vu vs) pl pu ps (by decide) ?_ (by rw [List.size_toArray]; omega)
    rw [PySem.W.krv_pick]
    refine ⟨.ref _, _, I5.laid (t' := s4.toks) (o := .lst xs.reverse) (fun b ob q => Heap.get?_push_of_some _ q) (Nat.le_refl _) ?_, rfl, q _ (I5.hok.fresh (Nat.le_refl _))⟩
    exact ⟨by rw [List.length_reverse]; exact hz, _, 0, r.reverse, Heap.get?_push_size _ rfl⟩
  · subst ex
    cases r1
    obtain ⟨its, r, ht, hz⟩ := I5.tuple hx
    have hlen := r.length
    show wpAny (model X.prog X.w) X.A (subscriptTail e (.Slice none none (some (.UnaryOp .USub (.Constant (.int 1) k p1) p2)) p3) (.ref a) (.ref s4.heap.objs.size)) (EP X pins σ Q) X.xe _
    refine tail_any (ops := [.ref a, .ref s4.heap.objs.size]) ht.typeIs (PyProof.Rows.slot_tuple_getitem.lookup) ?_ (by with_unfolding_all rfl)
    refine getItem_tuple_back ht (Heap.IsSliceOf.new _ vl vu vs) pl pu ps ?_ (by rw [List.size_toArray]; omega)
    refine ⟨.ref _, _, I5.laid (t' := s4.toks) (o := .tup xs.reverse) (fun b ob q => Heap.get?_push_of_some _ q) (Nat.le_refl _) ?_, rfl, q _ (I5.hok.fresh (Nat.le_refl _))⟩
    exact ⟨by rw [List.length_reverse]; exact hz, _, by simpa using r.reverse, IsTup.new _ _⟩
end
def gBack : List D → Option D
  | [.lst xs] => some (.lst xs.reverse)
  | [.raw xs] => some (.lst xs.reverse)
  | [.tup xs] => some (.tup xs.reverse)
  | _ => none
section
variable {X : Cx} {C : Ctx} {e : Expr} {oa : Opd} {k : Nat} {p1 p2 p3 pos : Pos}
theorem opd_back : OpD C true (fun vs H Q => ∃ x, vs = [x] ∧ ((∃ a xs, x = .ref a ∧ SqL C.K H a xs ∧ ∀ p, H p = none → Q (.ref p) (upd H p (.lst xs.reverse))) ∨ (∃ a xs, x = .ref a ∧ SqT C.K H a xs ∧ ∀ p, H p = none → Q (.ref p) (upd H p (.tup xs.reverse))))) gBack := by
  intro φ st σ H R ds vs d Q hr hg q
  match ds, hr, hg with
  | [.lst xs], hr, hg =>
    obtain ⟨v, rfl, h1⟩ := hr.one
    obtain ⟨a, vs, rfl, ra, sa⟩ := h1.lst
    cases hg
    exact ⟨_, rfl, .inl ⟨a, vs, rfl, .inl ra, fun p hp => q _ _ (same_new hp) (newL hp sa.reverse)⟩⟩
  | [.raw xs], hr, hg =>
    obtain ⟨v, rfl, h1⟩ := hr.one
    obtain ⟨a, vs, rfl, ra, sa⟩ := h1.raw
    cases hg
    exact ⟨_, rfl, .inl ⟨a, vs, rfl, ra, fun p hp => q _ _ (same_new hp) (newL hp sa.reverse)⟩⟩
  | [.tup xs], hr, hg =>
    obtain ⟨v, rfl, h1⟩ := hr.one
    obtain ⟨a, vs, rfl, ra, sa⟩ := h1.tup
    cases hg
    refine ⟨_, rfl, .inr ⟨a, vs, rfl, ra, fun p hp => q _ _ (same_new hp) (.of_rep rfl ?_)⟩⟩
    unfold RepD
    exact ⟨p, _, rfl, .inl (.inl upd_same), RepAll.same (same_new hp) sa.reverse⟩
theorem me_backO (hk : X.K = C.K) (ha : MO X C e oa) : ME X C true (.Subscript e (.Slice none none (some (.UnaryOp .USub (.Constant (.int 1) k p1) p2)) p3) pos) (eOp gBack [oa]) :=
  PE.weak (pe_back ha.pe) fun σ H Q h => by
    have t := run_un (o := true) ha opd_back h
    unfold tBackT
    rw [hk]
    exact t
theorem me_back (hk : X.K = C.K) (ha : MO X C e oa) : ME X C false (.Subscript e (.Slice none none (some (.UnaryOp .USub (.Constant (.int 1) k p1) p2)) p3) pos) (eOp gBack [oa]) := (me_backO hk ha).fz
end
end Q
set_option Elab.async false
set_option linter.all false
set_option maxRecDepth 100000
set_option autoImplicit false
/-! RE: list comprehensions of any number of clauses, the turn's end given as an action -/
namespace Q
open PySem PySem.Spec PyProof.Rows L2 PySem.SeqAt

/-- one turn of a comprehension's loop; what stands behind the tests is an action -/
def turnOf (p : Pos) (t : Expr) (ifs : List Expr) (act : Sem Unit) (it : Value) (env : Env) (again' : Code) : Sem Fin := do
  standAt p
  match ← pyNext it with
  | none => pure (.done .next)
  | some u =>
    letOwnedTupleGo t it u
    assign t env u
    let mut good := true
    for test in ifs do
      if good then good ← isTrue test env (eval test env)
    if good then act
    again again'
/-- the next clause's loop as an action -/
def actLoop (e : Expr) (k : Nat) (src : Expr) (acc : Value) (env : Env) : Sem Unit := do
  let src0 ← eval src env
  standAt src.pos
  let src1 ← foldedSetIterable src env src0
  let _ ← runOwn (.compStart e k (← holding [src1] (pyIter src1)) acc env) env
def actApp (elt : Expr) (acc : Value) (env : Env) : Sem Unit := do
  let _ ← call (.builtin "list.append") [acc, ← eval elt env]
def turnK (p : Pos) (t : Expr) (ifs : List Expr) (actc : Sem Fin → Sem Fin) (it : Value) (env : Env) (again' : Code) : Sem Fin := do
  standAt p
  match ← pyNext it with
  | none => pure (.done .next)
  | some u =>
    letOwnedTupleGo t it u
    assign t env u
    let mut good := true
    for test in ifs do
      if good then good ← isTrue test env (eval test env)
    if good then actc (again again')
    else again again'
theorem turnK_eq {p : Pos} {t : Expr} {ifs : List Expr} {act : Sem Unit} {actc : Sem Fin → Sem Fin} {it : Value} {env : Env} {again' : Code} (h : ∀ c, actc c = act >>= fun _ => c) : turnK p t ifs actc it env again' = turnOf p t ifs act it env again' := by
  have e : actc = fun c => act >>= fun _ => c := funext h
  subst e
  rfl
def actLoopC (e : Expr) (k : Nat) (src : Expr) (acc : Value) (env : Env) (c : Sem Fin) : Sem Fin := do
  let src0 ← eval src env
  standAt src.pos
  let src1 ← foldedSetIterable src env src0
  let _ ← runOwn (.compStart e k (← holding [src1] (pyIter src1)) acc env) env
  c
theorem actLoopC_eq {e : Expr} {k : Nat} {src : Expr} {acc : Value} {env : Env} (c : Sem Fin) : actLoopC e k src acc env c = actLoop e k src acc env >>= fun _ => c := by
  unfold actLoopC actLoop
  simp only [bind_assoc, pure_bind]
def appC (elt : Expr) (acc : Value) (env : Env) (c : Sem Fin) : Sem Fin := actApp elt acc env >>= fun _ => c
section
variable (elt t0 i0 t1 i1 t2 i2 : Expr) (f0 f1 f2 : List Expr) (scope : Scope) (pos : Pos) (it acc : Value) (env : Env)
theorem turn3_0 : compTurn (.ListComp elt [⟨t0, i0, f0, 0⟩, ⟨t1, i1, f1, 0⟩, ⟨t2, i2, f2, 0⟩] scope pos) 0 it acc env = turnOf i0.pos t0 f0 (actLoop (.ListComp elt [⟨t0, i0, f0, 0⟩, ⟨t1, i1, f1, 0⟩, ⟨t2, i2, f2, 0⟩] scope pos) 1 i1 acc env) it env (.compLoop (.ListComp elt [⟨t0, i0, f0, 0⟩, ⟨t1, i1, f1, 0⟩, ⟨t2, i2, f2, 0⟩] scope pos) 0 it acc env) :=
  (show _ = turnK i0.pos t0 f0 (actLoopC (.ListComp elt [⟨t0, i0, f0, 0⟩, ⟨t1, i1, f1, 0⟩, ⟨t2, i2, f2, 0⟩] scope pos) 1 i1 acc env) it env _ from rfl).trans (turnK_eq fun c => actLoopC_eq c)
theorem turn3_1 : compTurn (.ListComp elt [⟨t0, i0, f0, 0⟩, ⟨t1, i1, f1, 0⟩, ⟨t2, i2, f2, 0⟩] scope pos) 1 it acc env = turnOf i1.pos t1 f1 (actLoop (.ListComp elt [⟨t0, i0, f0, 0⟩, ⟨t1, i1, f1, 0⟩, ⟨t2, i2, f2, 0⟩] scope pos) 2 i2 acc env) it env (.compLoop (.ListComp elt [⟨t0, i0, f0, 0⟩, ⟨t1, i1, f1, 0⟩, ⟨t2, i2, f2, 0⟩] scope pos) 1 it acc env) :=
  (show _ = turnK i1.pos t1 f1 (actLoopC (.ListComp elt [⟨t0, i0, f0, 0⟩, ⟨t1, i1, f1, 0⟩, ⟨t2, i2, f2, 0⟩] scope pos) 2 i2 acc env) it env _ from rfl).trans (turnK_eq fun c => actLoopC_eq c)
theorem turn3_2 : compTurn (.ListComp elt [⟨t0, i0, f0, 0⟩, ⟨t1, i1, f1, 0⟩, ⟨t2, i2, f2, 0⟩] scope pos) 2 it acc env = turnOf i2.pos t2 f2 (actApp elt acc env) it env (.compLoop (.ListComp elt [⟨t0, i0, f0, 0⟩, ⟨t1, i1, f1, 0⟩, ⟨t2, i2, f2, 0⟩] scope pos) 2 it acc env) := by rfl
end
section
variable {prog : Program} {w : World} {A : Around} {R : Result → Shared → Prop} {s : Shared} {elt : Expr} {gens : List Comprehension} {scope : Scope} {pos : Pos} {it acc : Value} {env : Env}
theorem loop_of {k : Nat} {p : Pos} {t : Expr} {ifs : List Expr} {act : Sem Unit} (hT : compTurn (.ListComp elt gens scope pos) k it acc env = turnOf p t ifs act it env (.compLoop (.ListComp elt gens scope pos) k it acc env)) (I : Nat → Shared → Prop)
    (turn : ∀ n s, I n s → wpAny (model prog w) A (pyNext it) (fun r s₁ => match r with
      | none => R (.ok .next) s₁
      | some u => wpAny (model prog w) A (letOwnedTupleGo t it u) (fun _ s₂ => wpAny (model prog w) A (assign t env u) (fun _ s₃ =>
          wpAny (model prog w) A (forIn ifs true fun c r => if r = true then do let good ← isTrue c env (eval c env); pure (ForInStep.yield good) else pure (ForInStep.yield r)) (fun good s₄ =>
            if good = true then wpAny (model prog w) A act (fun _ s₅ => ∃ m, m < n ∧ I m s₅) (notedBy (model prog w) A env fun x s' => R (.error x) s') s₄
            else ∃ m, m < n ∧ I m s₄) (notedBy (model prog w) A env fun x s' => R (.error x) s') s₃) (notedBy (model prog w) A env fun x s' => R (.error x) s') s₂) (notedBy (model prog w) A env fun x s' => R (.error x) s') s₁) (notedBy (model prog w) A env fun x s' => R (.error x) s') s)
    (n : Nat) (h : I n s) :
    codeAny (model prog w) A (.compLoop (.ListComp elt gens scope pos) k it acc env) R s := by
  refine codeAny_loop rfl I (fun n s hI => ?_) n h
  show wpAny _ A ((compTurn (.ListComp elt gens scope pos) k it acc env).onRaise (fun x => do noteFrame x env; theTreesLotGoes x)) _ _ s
  refine wpAny_noted ?_
  rw [hT]
  unfold turnOf
  refine wpAny_bind (wpAny_standAt (wpAny_bind (wpAny_mono (turn n s hI) (fun r s₁ h₁ => ?_) fun _ _ z => z)))
  cases r with
  | none => exact wpAny_pure h₁
  | some u =>
    refine wpAny_bind (wpAny_mono h₁ (fun _ s₂ h₂ => ?_) fun _ _ z => z)
    refine wpAny_bind (wpAny_mono h₂ (fun _ s₃ h₃ => wpAny_bind (wpAny_mono h₃ (fun good s₄ h₄ => ?_) fun _ _ z => z)) fun _ _ z => z)
    cases good with
    | false => exact wpAny_pure ⟨rfl, h₄⟩
    | true =>
      refine wpAny_bind (wpAny_mono h₄ (fun _ s₅ h₅ => ?_) fun _ _ z => z)
      exact wpAny_pure ⟨rfl, h₅⟩
/-- a later clause's start -/
theorem start_of {k : Nat} {t i : Expr} {ifs : List Expr} (hg : gens[k]? = some ⟨t, i, ifs, 0⟩) (h0 : codeAny (model prog w) A (.compLoop (.ListComp elt gens scope pos) k it acc env) R s)
    (h : wpAny (model prog w) A (pyIter it) (fun it2 s' => codeAny (model prog w) A (.compLoop (.ListComp elt gens scope pos) k it2 acc env) R s')
      (notedBy (model prog w) A env fun x s' => R (.error x) s') s) (hk : k ≠ 0) :
    codeAny (model prog w) A (.compStart (.ListComp elt gens scope pos) k it acc env) R s := by
  have hc : (clausesOf (.ListComp elt gens scope pos))[k]? = some ⟨t, i, ifs, 0⟩ := hg
  cases k with
  | zero => exact absurd rfl hk
  | succ k =>
    refine codeAny_of_tree ?_
    show wpAny _ _ ((compStart (.ListComp elt gens scope pos) (k + 1) it acc env).onRaise (fun x => do noteFrame x env; standAt theWindowsPlace)) _ _ s
    refine wpAny_notedAt ?_
    unfold compStart
    rw [hc]
    show wpAny _ _ (ask >>= _) _ _ s
    refine wpAny_bind (wpAny_askSetting (wpAny_ite ?_))
    split
    · first
        | exact wpAny_bind (wpAny_pure (wpAny_pure (And.intro rfl h0)))
        | exact wpAny_pure (And.intro rfl h0)
    · first
        | exact wpAny_bind (wpAny_rule (wpAny_bind (wpAny_standAt (wpAny_bind (wpAny_mono h (fun _ _ z => wpAny_pure (And.intro rfl z)) fun _ _ x => x)))))
        | (refine wpAny_bind (wpAny_rule ?_); show wpAny _ _ (standAt i.pos >>= _) _ _ s; exact wpAny_bind (wpAny_standAt (wpAny_bind (wpAny_mono h (fun _ _ z => wpAny_pure (And.intro rfl z)) fun _ _ x => x))))
end
/-- what is wanted of a turn's end: D the list, Nx wanted behind it -/
abbrev TBd := Addr → SS → Hp → (Hp → Prop) → Prop
def bApp (te : TE) : TBd := fun D σ H Nx => te σ H fun y H7 => ∃ acc, H7 D = some (.lst acc) ∧ acc.length < sizeLine ∧ Nx (upd H7 D (.lst (acc ++ [y])))
def bLoop (wi : TI) (g : TG) (tt : TT) (vs : List Nat) (b : TBd) : TBd := fun D σ H Nx => wi σ H fun J H4 => ∃ W : Nat → Nat → Hp → Prop, (∃ m, W 0 m H4) ∧ ∀ j k H, W j k H →
      (J.stop j H ∧ Nx H) ∨ (J.go j H ∧ ∃ Nx1 : Hp → Prop, (∀ H', Nx1 H' → ∃ k', k' < k ∧ W (j + 1) k' H') ∧ ∀ x H', J.yld j H x H' → g x (wipe σ vs) H' fun σ3 H5 => wipe σ3 vs = wipe σ vs ∧ tt σ3 H5 fun c H6 =>
        if c = true then b D σ3 H6 Nx1 else Nx1 H6)
/-- an action that is a turn's end -/
structure PBd (X : Cx) (act : Value → Sem Unit) (vs : List Nat) (b : TBd) : Prop where
  run : ∀ (pins : List (Addr × Obj)) (s : Shared) (σ : SS) (H : Hp) (D : Addr) (Nx : Hp → Prop), Inv X pins σ H s → b D σ H Nx →
    wpAny (model X.prog X.w) X.A (act (.ref D)) (fun _ s' => ∃ H', Inv X pins (wipe σ vs) H' s' ∧ Nx H') (fun _ _ => False) s
theorem thnX {X : Cx} {α : Type} {t : Sem α} {Q Q' : α → Shared → Prop} {E : Value → Shared → Prop} {s : Shared} (hx : ∀ x s, ¬ X.xe x s) (h : wpAny (model X.prog X.w) X.A t Q X.xe s) (hQ : ∀ a s, Q a s → Q' a s) : wpAny (model X.prog X.w) X.A t Q' E s := wpAny_mono h hQ fun x s z => (hx x s z).elim
section
variable {X : Cx}
theorem pbd_app {elt : Expr} {te : TE} (hx : ∀ x s, ¬ X.xe x s) (he : PE X elt te) : PBd X (fun acc => actApp elt acc X.env) [] (bApp te) := by
  refine ⟨fun pins s σ H D Nx I h => ?_⟩
  show wpAny _ _ (eval elt X.env >>= fun x => call (.builtin "list.append") [.ref D, x] >>= fun _ => pure ()) _ _ s
  refine wpAny_bind (thnX hx (he.run pins s σ H _ I h) fun z s1 ⟨y, H1, I1, r1, acc, hD, hz, nx⟩ => wpAny_bind (app_ok I1 hD hz r1 fun s2 I2 => wpAny_pure ⟨_, I2, nx⟩))
theorem pbd_loop {elt : Expr} {gens : List Comprehension} {scope : Scope} {pos : Pos} {k : Nat} {tg iter : Expr} {ifs : List Expr} {wi : TI} {g : TG} {tt : TT} {vs vs' : List Nat} {act : Value → Sem Unit} {b : TBd} (hx : ∀ x s, ¬ X.xe x s) (hc : X.calm = true) (hk : gens[k + 1]? = some ⟨tg, iter, ifs, 0⟩)
    (hT : ∀ it acc, compTurn (.ListComp elt gens scope pos) (k + 1) it acc X.env = turnOf iter.pos tg ifs (act acc) it X.env (.compLoop (.ListComp elt gens scope pos) (k + 1) it acc X.env))
    (hi : PI X tg iter wi) (hg : PG X tg g) (ht : PTs X ifs tt) (hb : PBd X act vs' b) (hv : ∀ v ∈ vs', v ∈ vs) (hs : ∀ x, foldedSetIterable iter X.env x = pure x) :
    PBd X (fun acc => actLoop (.ListComp elt gens scope pos) (k + 1) iter acc X.env) vs (bLoop wi g tt vs b) := by
  refine ⟨fun pins s σ H D Nx I h => ?_⟩
  show wpAny _ _ (actLoop (.ListComp elt gens scope pos) (k + 1) iter (.ref D) X.env) _ _ s
  unfold actLoop
  refine wpAny_bind (thnX hx (hi.run pins s σ H _ I h) fun xv s10 hxv => ?_)
  refine wpAny_bind (wpAny_standAt (wpAny_bind (wpAny_of_eq (hs xv) (wpAny_bind (wpAny_holding (thnX hx hxv fun itv s11 h11 => ?_))))))
  obtain ⟨it1, fp1, tn1, J1, H11, e1, I11, T1, st11, f11, W1, ⟨m1, w1⟩, turn1⟩ := h11
  subst e1
  have stat1 : ∀ {H' : Hp}, (∀ b ∈ fp1, H' b = none) → ∀ b ∈ fp1, FpOk X pins H' b := fun hn b hb => ⟨hn b hb, (f11 b hb).2⟩
  have loop1 : codeAny (model X.prog X.w) X.A (.compLoop (.ListComp elt gens scope pos) (k + 1) (.ref it1) (.ref D) X.env)
      (fun r s' => match r with
        | .ok _ => ∃ H', Inv X pins (wipe σ vs) H' s' ∧ Nx H'
        | .error _ => False) s11 := by
    refine loop_of (hT (.ref it1) (.ref D)) (fun n s' => ∃ j H', Inv X pins (wipe σ vs) H' s' ∧ tn1 j s'.heap ∧ (∀ b ∈ fp1, H' b = none) ∧ W1 j n H') ?_ m1 ⟨0, H11, I11.weak (wipe_length _ _) (fun j v e => (wipe_some e).1), st11, fun b hb => (f11 b hb).1, w1⟩
    rintro n s12 ⟨j, H12, I12, st12, n12, w12⟩
    rcases turn1 j n H12 w12 with ⟨stop1, nx1⟩ | ⟨go1, Nx1, hNx1, step1⟩
    · refine thnF (T1.done X rfl rfl rfl hc j _ s12 (wipe σ vs) H12 (fun _ _ => False) I12 (stat1 n12) st12 stop1) fun r s13 ⟨hr, I13⟩ => ?_
      subst hr
      exact ⟨H12, I13, nx1⟩
    · refine thnF (T1.item X rfl rfl rfl hc j _ s12 (wipe σ vs) H12 (fun _ _ => False) I12 (stat1 n12) st12 go1) fun r s13 ⟨u1, hr, h13⟩ => ?_
      subst hr
      refine thnF h13 fun _ s14 ⟨x1, H14, I14, r14, y14, st14, n14⟩ => ?_
      have I14' := I14.pinned (stat1 n14) (T1.obj _ _ st14)
      refine thnX hx (hg.run _ s14 (wipe σ vs) H14 x1 u1 _ I14' r14 (step1 x1 H14 y14)) fun _ s15 ⟨σ15, H15, I15, hw15, q15⟩ => ?_
      refine thnX hx (ht.run _ s15 σ15 H15 _ I15 q15) fun b1 s16 ⟨H16, I16, q16⟩ => ?_
      have fin1 : ∀ {s' : Shared} {H' : Hp} {σ' : SS}, Inv X (pins ++ pinsAt fp1 s14.heap) σ' H' s' → (wipe σ vs).length = σ'.length → (∀ (j : Nat) v, (wipe σ vs)[j]? = some (some v) → σ'[j]? = some (some v)) → Nx1 H' → ∃ m, m < n ∧ ∃ j H', Inv X pins (wipe σ vs) H' s' ∧ tn1 j s'.heap ∧ (∀ b ∈ fp1, H' b = none) ∧ W1 j m H' := fun {s' H' σ'} I' hl hkk nx => by
        obtain ⟨m', hm, w'⟩ := hNx1 H' nx
        have pin' : ∀ b ∈ fp1, ∀ o, s14.heap.get? b = some o → s'.heap.get? b = some o ∧ H' b = none := fun b hb o e =>
          let z := I'.pin (b, o) (List.mem_append_right _ (List.mem_append_right _ (mem_pinsAt hb e)))
          ⟨z.1, z.2.1⟩
        refine ⟨m', hm, j + 1, H', (I'.unpinned (pins := pins)).weak hl hkk, T1.keep _ _ _ st14 fun b hb o e => (pin' b hb o e).1, fun b hb => ?_, w'⟩
        obtain ⟨o, e, _⟩ := T1.obj _ _ st14 b hb
        exact (pin' b hb o e).2
      have hl15 : (wipe σ vs).length = σ15.length := by rw [← hw15, wipe_length]
      cases b1 with
      | false =>
        simp only [Bool.false_eq_true, if_false] at q16 ⊢
        exact fin1 I16 hl15 (fun j v e => by rw [← hw15] at e; exact (wipe_some e).1) q16
      | true =>
        simp only [if_true] at q16 ⊢
        refine thnF (hb.run _ s16 σ15 H16 D Nx1 I16 q16) fun _ s17 ⟨H17, I17, nx⟩ => fin1 I17 (hl15.trans (wipe_length σ15 vs').symm) (fun j v e => ?_) nx
        rw [← hw15] at e
        obtain ⟨e1, e2⟩ := wipe_some e
        rw [wipe_out fun z => e2 (hv j z)]
        exact e1
  refine wpAny_bind (wpAny_runOwn ?_)
  rw [Around.mark_none]
  refine codeAny_mono (start_of hk loop1 (T1.self X.A 0 _ _ _ st11 loop1) (Nat.succ_ne_zero k)) fun r s' hr => ?_
  cases r with
  | ok f =>
    first
      | exact wpAny_pure hr
      | exact wpAny_bind (wpAny_pure hr)
  | error x => exact hr.elim
end
section
variable {X : Cx}
/-- the whole comprehension: the first clause over any body -/
def tLcB (wi : TI) (g : TG) (tt : TT) (vs : List Nat) (b : TBd) : TE := fun σ H Q => wi σ H fun J H1 => ∀ D, H1 D = none → ∃ W : Nat → Nat → Hp → Prop, (∃ m, W 0 m (upd H1 D (.lst []))) ∧ ∀ i m H, W i m H →
  (J.stop i H ∧ Q (.ref D) H) ∨ (J.go i H ∧ ∃ Nx : Hp → Prop, (∀ H', Nx H' → ∃ m', m' < m ∧ W (i + 1) m' H') ∧ ∀ x H', J.yld i H x H' → g x (wipe σ vs) H' fun σ2 H2 => wipe σ2 vs = wipe σ vs ∧ tt σ2 H2 fun c H3 =>
    if c = true then b D σ2 H3 Nx else Nx H3)
theorem lcB_core {pins : List (Addr × Obj)} {s : Shared} {σ : SS} {H : Hp} {Q : VK} {elt tg iter : Expr} {ifs : List Expr} {rest : List Comprehension} {scope : Scope} {own : List (Str × Nat)} {pos pos' : Pos} {wi : TI} {g : TG} {tt : TT} {vs' : List Nat} {act : Env → Value → Sem Unit} {b : TBd} {use : Option (Value → Sem Unit)} {Qf : Value → Shared → Prop}
    (hc : X.calm = true) (hN : X.N.Nodup) (I : Inv X pins σ H s) (hi : PI X tg iter wi) (ok : BlkOk X.N X.env.scope scope own) (hv : ∀ i ∈ vs', i ∈ own.map (·.2))
    (hT : ∀ it acc env, compTurn (.ListComp elt (⟨tg, iter, ifs, 0⟩ :: rest) scope pos) 0 it acc env = turnOf iter.pos tg ifs (act env acc) it env (.compLoop (.ListComp elt (⟨tg, iter, ifs, 0⟩ :: rest) scope pos) 0 it acc env))
    (hg : ∀ (s : Shared) (H : Hp) (C : Addr) (cl : List (Str × Addr)) (fp : List Addr), PG (X.blk s H scope (compEnvC scope cl C X.env) fp) tg g) (ht : ∀ (s : Shared) (H : Hp) (C : Addr) (cl : List (Str × Addr)) (fp : List Addr), PTs (X.blk s H scope (compEnvC scope cl C X.env) fp) ifs tt)
    (hb : ∀ (s : Shared) (H : Hp) (C : Addr) (cl : List (Str × Addr)) (fp : List Addr), PBd (X.blk s H scope (compEnvC scope cl C X.env) fp) (act (compEnvC scope cl C X.env)) vs' b) (hs : ∀ x, foldedSetIterable iter X.env x = pure x)
    (h : tLcB wi g tt (own.map (·.2)) b σ H Q)
    (hRR : ∀ D C s' m H', Inv X pins σ H' s' → Q (.ref D) H' → s'.heap.Ns C m → FpOk X pins H' C → compPost (model X.prog X.w) X.A X.xe use Qf (.ref D) C (.ok .next) s') :
    wpAny (model X.prog X.w) X.A (comprehension (.ListComp elt (⟨tg, iter, ifs, 0⟩ :: rest) scope pos) scope X.env pos' (newList []) false (eval iter X.env) use) Qf X.xe s := by
  have fr : ∀ y ∈ scope.names, y.2 = .free → ∃ c, X.env.cells.lookup y.1 = some c := fun y hy e => (ok.free y hy e).elim (fun k => I.ok.has _ (.inl k)) fun k => I.ok.has _ (.inr k)
  refine wpAny_comprehension_free (use := use) rfl hs (closure_ok fr) ok.kind (fun y hy e => (ok.uniq y hy).trans (congrArg some e)) (thn (hi.run pins s σ H _ I h) fun xv s1 hx => thn hx fun itv s2 h2 => ?_)
  obtain ⟨it, fp, tn, J, H2, e, I2, T, st2, f2, q⟩ := h2
  subst e
  refine wpAny_newObj_type (newEnv_comp ?_) (by show 0 ≤ sizeLine; decide)
  generalize hD : s2.heap.objs.size = D
  have hDn : H2 D = none := I2.hok.fresh (by rw [hD]; exact Nat.le_refl D)
  obtain ⟨W, ⟨m0, w0⟩, turn⟩ := q D hDn
  generalize hs3 : ({ s2 with heap := s2.heap.push { cls := .type "list", data := .seq ([] : List Value).toArray } } : Shared) = s3
  have h3 : s3.heap = s2.heap.push { cls := .type "list", data := .seq ([] : List Value).toArray } := by subst hs3; rfl
  have I3 : Inv X pins σ (upd H2 D (.lst [])) s3 := by
    subst hs3
    refine I2.laid (t' := s2.toks) (fun b o e => Heap.get?_push_of_some _ e) (Nat.le_of_eq hD) ⟨Nat.zero_le _, [], 0, .nil, ?_⟩
    subst hD
    exact Heap.get?_push_size _ rfl
  have lt : ∀ b ∈ fp, b < s2.heap.objs.size := fun b hb => Exists.elim (T.obj _ _ st2 b hb) fun o z => Heap.lt_size z.1
  have f3 : ∀ b ∈ fp, FpOk X pins (upd H2 D (.lst [])) b ∧ b < s3.heap.objs.size := fun b hb => by
    have l := lt b hb
    have ne : b ≠ D := by rw [← hD]; exact Nat.ne_of_lt l
    exact ⟨⟨(upd_ne ne).trans (f2 b hb).1, (f2 b hb).2⟩, by rw [h3, Heap.size_push]; exact Nat.lt_succ_of_lt l⟩
  have st3 : tn 0 s3.heap := T.keep _ _ _ st2 fun b _ o e => by rw [h3]; exact Heap.get?_push_of_some _ e
  have I4 := block_start I3 ok hN f3
  generalize hcl : cellsFrom (s3.heap.objs.size + 1) scope.names (cloFrom X.env.cells scope.names []) = cl at I4 ⊢
  have pg := hg s3 (upd H2 D (.lst [])) s3.heap.objs.size cl fp
  have pt := ht s3 (upd H2 D (.lst [])) s3.heap.objs.size cl fp
  have pb := hb s3 (upd H2 D (.lst [])) s3.heap.objs.size cl fp
  show codeAny _ _ (.compStart (.ListComp elt (⟨tg, iter, ifs, 0⟩ :: rest) scope pos) 0 (.ref it) (.ref D) (compEnvC scope cl s3.heap.objs.size X.env)) (compPost (model X.prog X.w) X.A X.xe use Qf (.ref D) s3.heap.objs.size) { s3 with heap := pushCells (s3.heap.push { cls := .type "dict", data := .dict #[] }) scope.names }
  have nfp : ∀ b ∈ fp, (upd H2 D (.lst [])) b = none := fun b hb => (f3 b hb).1.1
  generalize hce : compEnvC scope cl s3.heap.objs.size X.env = ce at I4 pg pt pb ⊢
  have cL : ce.locals = s3.heap.objs.size := by subst hce; rfl
  generalize hH3 : upd H2 D (.lst []) = H3 at I3 I4 pg pt pb w0 nfp f3
  generalize hs4 : ({ s3 with heap := pushCells (s3.heap.push { cls := .type "dict", data := .dict #[] }) scope.names } : Shared) = s4 at I4 ⊢
  have st4 : tn 0 s4.heap := T.keep _ _ _ st3 fun b _ o e => by subst hs4; exact pushCells_keeps _ _ _ _ (Heap.get?_push_of_some _ e)
  have stat : ∀ {σ' : SS} {H' : Hp} {s' : Shared}, Inv (X.blk s3 H3 scope ce fp) [] σ' H' s' → (∀ b ∈ fp, H' b = none) → ∀ b ∈ fp, FpOk (X.blk s3 H3 scope ce fp) [] H' b := fun {σ' H' s'} I' hn b hb =>
    ⟨hn b hb, (I'.ok.exf b hb).1, I'.ok.exfs b hb, .inl hb, fun x c e => (I'.ok.exf b hb).2 x c e, fun p hp => absurd (show p ∈ ([] : List (Addr × Obj)) ++ [] from hp) (by simp)⟩
  have loop : codeAny (model X.prog X.w) X.A (.compLoop (.ListComp elt (⟨tg, iter, ifs, 0⟩ :: rest) scope pos) 0 (.ref it) (.ref D) ce) (compPost (model X.prog X.w) X.A X.xe use Qf (.ref D) s3.heap.objs.size) s4 := by
    refine loop_of (hT _ _ ce) (fun n s' => ∃ i H', Inv (X.blk s3 H3 scope ce fp) [] (wipe σ (own.map (·.2))) H' s' ∧ tn i s'.heap ∧ (∀ b ∈ fp, H' b = none) ∧ W i n H') ?_ m0 ⟨0, H3, I4, st4, nfp, w0⟩
    rintro n s5 ⟨i, H5, I5, st5, n5, w5⟩
    rcases turn i n H5 w5 with ⟨stop, qq⟩ | ⟨go, Nx, hNx, step⟩
    · have td := T.done (X.blk s3 H3 scope ce fp) rfl rfl rfl hc i [] s5 _ H5 (fun _ _ => False) I5 (stat I5 n5) st5 stop
      refine thnF td fun r s6 ⟨hr, I6⟩ => ?_
      subst hr
      have I7 : Inv X pins σ H5 s6 := I3.call' (ch := fp) I6.os I6.base I6.hok I6.bare fun b hb => ⟨(f3 b hb).1.2.2.2.1, (f3 b hb).1.2.1, (f3 b hb).1.2.2.2.2.1, (f3 b hb).1.2.2.2.2.2⟩
      have nC : H5 s3.heap.objs.size = none := cL ▸ (show H5 ce.locals = none from I6.free)
      obtain ⟨m, hn, _⟩ := I6.loc
      have hn : s6.heap.Ns ce.locals m := hn
      rw [cL] at hn
      exact hRR D s3.heap.objs.size s6 m H5 I7 qq hn (I3.fpOk (Nat.le_refl _) nC)
    · have ti := T.item (X.blk s3 H3 scope ce fp) rfl rfl rfl hc i [] s5 _ H5 (fun _ _ => False) I5 (stat I5 n5) st5 go
      refine thnF ti fun r s6 ⟨u, hr, h6⟩ => ?_
      subst hr
      refine thnF h6 fun _ s7 ⟨x, H7, I7, r7, y7, st7, n7⟩ => ?_
      have I7' := I7.pinned (stat I7 n7) (T.obj _ _ st7)
      refine thnF (pg.run _ s7 _ H7 x u _ I7' r7 (step x H7 y7)) fun _ s8 ⟨σ8, H8, I8, hw8, q8⟩ => ?_
      refine thnF (pt.run _ s8 σ8 H8 _ I8 q8) fun c s9 ⟨H9, I9, q9⟩ => ?_
      have fin : ∀ {σ9 : SS} {s' : Shared} {H' : Hp}, Inv (X.blk s3 H3 scope ce fp) ([] ++ pinsAt fp s7.heap) σ9 H' s' → (wipe σ (own.map (·.2))).length = σ9.length → (∀ (j : Nat) v, (wipe σ (own.map (·.2)))[j]? = some (some v) → σ9[j]? = some (some v)) → Nx H' →
          ∃ m, m < n ∧ ∃ i H', Inv (X.blk s3 H3 scope ce fp) [] (wipe σ (own.map (·.2))) H' s' ∧ tn i s'.heap ∧ (∀ b ∈ fp, H' b = none) ∧ W i m H' := fun {σ9 s' H'} I' hl hk nx => by
        obtain ⟨m', hm, w'⟩ := hNx H' nx
        have pin' : ∀ b ∈ fp, ∀ o, s7.heap.get? b = some o → s'.heap.get? b = some o ∧ H' b = none := fun b hb o e =>
          have z := I'.pin (b, o) (List.mem_append_right _ (List.mem_append_right _ (mem_pinsAt hb e)))
          ⟨z.1, z.2.1⟩
        refine ⟨m', hm, i + 1, H', (I'.unpinned (pins := [])).weak hl hk, T.keep _ _ _ st7 fun b hb o e => (pin' b hb o e).1, fun b hb => ?_, w'⟩
        obtain ⟨o, e, _⟩ := T.obj _ _ st7 b hb
        exact (pin' b hb o e).2
      have hl8 : (wipe σ (own.map (·.2))).length = σ8.length := by rw [← hw8, wipe_length]
      cases c with
      | false =>
        simp only [Bool.false_eq_true, if_false] at q9 ⊢
        exact fin I9 hl8 (fun j v e => by rw [← hw8] at e; exact (wipe_some e).1) q9
      | true =>
        simp only [if_true] at q9 ⊢
        refine thnF (pb.run _ s9 σ8 H9 D Nx I9 q9) fun _ s10 ⟨H10, I10, nx⟩ => fin I10 (hl8.trans (wipe_length σ8 vs').symm) (fun j v e => ?_) nx
        rw [← hw8] at e
        obtain ⟨e1, e2⟩ := wipe_some e
        rw [wipe_out fun z => e2 (hv j z)]
        exact e1
  exact codeAny_compStart_list loop (T.self X.A 0 _ _ _ st4 loop)
theorem pe_lcB {elt tg iter : Expr} {ifs : List Expr} {rest : List Comprehension} {scope : Scope} {own : List (Str × Nat)} {pos : Pos} {wi : TI} {g : TG} {tt : TT} {vs' : List Nat} {act : Env → Value → Sem Unit} {b : TBd}
    (hc : X.calm = true) (hN : X.N.Nodup) (hi : PI X tg iter wi) (ok : BlkOk X.N X.env.scope scope own) (hv : ∀ i ∈ vs', i ∈ own.map (·.2))
    (hT : ∀ it acc env, compTurn (.ListComp elt (⟨tg, iter, ifs, 0⟩ :: rest) scope pos) 0 it acc env = turnOf iter.pos tg ifs (act env acc) it env (.compLoop (.ListComp elt (⟨tg, iter, ifs, 0⟩ :: rest) scope pos) 0 it acc env))
    (hg : ∀ (s : Shared) (H : Hp) (C : Addr) (cl : List (Str × Addr)) (fp : List Addr), PG (X.blk s H scope (compEnvC scope cl C X.env) fp) tg g) (ht : ∀ (s : Shared) (H : Hp) (C : Addr) (cl : List (Str × Addr)) (fp : List Addr), PTs (X.blk s H scope (compEnvC scope cl C X.env) fp) ifs tt)
    (hb : ∀ (s : Shared) (H : Hp) (C : Addr) (cl : List (Str × Addr)) (fp : List Addr), PBd (X.blk s H scope (compEnvC scope cl C X.env) fp) (act (compEnvC scope cl C X.env)) vs' b) (hs : ∀ x, foldedSetIterable iter X.env x = pure x) :
    PE X (.ListComp elt (⟨tg, iter, ifs, 0⟩ :: rest) scope pos) (tLcB wi g tt (own.map (·.2)) b) := by
  refine ⟨fun pins s σ H Q I h => ?_⟩
  rw [eval_ListComp]
  refine lcB_core hc hN I hi ok hv hT hg ht hb hs h fun D C s' m H' I' q hn f => ⟨m, hn, fun h'' sb => ?_⟩
  exact ⟨.ref D, H', I'.turned (t' := s'.toks) (fun b o hb e => (sb.2 b hb).trans e) f.1 f.2.1 f.2.2.2.1 f.2.2.2.2.1 f.2.2.2.2.2, rfl, q⟩
theorem ps_setLcB {i : Nat} {y : Str} {py : Pos} {elt tg iter : Expr} {ifs : List Expr} {rest : List Comprehension} {scope : Scope} {own : List (Str × Nat)} {pos spos : Pos} {wi : TI} {g : TG} {tt : TT} {vs' : List Nat} {act : Env → Value → Sem Unit} {b : TBd}
    (hc : X.calm = true) (hN : X.N.Nodup) (hy : X.N[i]? = some y) (hyl : X.env.scope.names.lookup y = some .local)
    (hsw : swapsWith (.ListComp elt (⟨tg, iter, ifs, 0⟩ :: rest) scope pos) (some (.Name y py)) spos.line X.env = pure true) (hi : PI X tg iter wi) (ok : BlkOk X.N X.env.scope scope own) (hv : ∀ i ∈ vs', i ∈ own.map (·.2))
    (hT : ∀ it acc env, compTurn (.ListComp elt (⟨tg, iter, ifs, 0⟩ :: rest) scope pos) 0 it acc env = turnOf iter.pos tg ifs (act env acc) it env (.compLoop (.ListComp elt (⟨tg, iter, ifs, 0⟩ :: rest) scope pos) 0 it acc env))
    (hg : ∀ (s : Shared) (H : Hp) (C : Addr) (cl : List (Str × Addr)) (fp : List Addr), PG (X.blk s H scope (compEnvC scope cl C X.env) fp) tg g) (ht : ∀ (s : Shared) (H : Hp) (C : Addr) (cl : List (Str × Addr)) (fp : List Addr), PTs (X.blk s H scope (compEnvC scope cl C X.env) fp) ifs tt)
    (hb : ∀ (s : Shared) (H : Hp) (C : Addr) (cl : List (Str × Addr)) (fp : List Addr), PBd (X.blk s H scope (compEnvC scope cl C X.env) fp) (act (compEnvC scope cl C X.env)) vs' b) (hs : ∀ x, foldedSetIterable iter X.env x = pure x) :
    PS X (.Assign [.Name y py] (.ListComp elt (⟨tg, iter, ifs, 0⟩ :: rest) scope pos) spos) (tAsg (tLcB wi g tt (own.map (·.2)) b) (gName i)) := by
  refine ⟨fun pins s σ H D I h => ?_⟩
  rw [exec_Assign_Name_used _ _ _ _ hsw]
  refine wpAny_bind (wpAny_standAt (wpAny_bind ?_))
  show wpAny _ X.A (do let _ ← comprehension (.ListComp elt (⟨tg, iter, ifs, 0⟩ :: rest) scope pos) scope X.env (firstIterPos (⟨tg, iter, ifs, 0⟩ :: rest) pos) (newList []) false (eval iter X.env) (some (assign (.Name y py) X.env))) _ _ s
  have h : tLcB wi g tt (own.map (·.2)) b σ H (fun x H1 => gName i x σ H1 D.nx) := h
  refine wpAny_bind (thn (lcB_core (Qf := fun _ s' => SP X pins D .next s') hc hN I hi ok hv hT hg ht hb hs h fun L C s' m H' I' q hn f => ?_) fun _ s' hq => wpAny_pure (wpAny_pure hq))
  show wpAny _ _ (assign (.Name y py) X.env (.ref L)) _ _ _
  refine wpAny_assign_Name (store_ok2 (v := V.ref L) I' hN hy (.inl hyl) rfl (fun s2 I2 ⟨a, sb, ha⟩ => ?_) (.inr hyl))
  have haC : C ≠ a := ha.elim (fun z => z ▸ f.2.1) fun z e => f.2.2.2.2.1 y a z e.symm
  exact ⟨m, hn.sameBut sb haC, fun h3 sb3 => ⟨_, H', I2.turned (t' := s2.toks) (fun b o hb e => (sb3.2 b hb).trans e) f.1 f.2.1 f.2.2.2.1 f.2.2.2.2.1 f.2.2.2.2.2, q⟩⟩
end
end Q
set_option Elab.async false
set_option linter.all false
set_option maxRecDepth 100000
set_option autoImplicit false
/-! RF: comprehensions of three clauses, on data -/
namespace Q
open PySem PySem.Spec PyProof.Rows L2 PySem.SeqAt

/-- a loop of a comprehension over any body -/
def lcB (vs : List Nat) (g : D → MS → Res Unit) (tt : MS → Res Bool) (bd : MS → Res (List D)) : List D → MS → Res (List D)
  | [], st => .ok [] st
  | d :: ds, st => (g d (st.wipe vs)).safe.bind fun _ st1 => (tt st1).safe.bind fun b st2 =>
    if b = true then (bd st2).safe.bind fun ys st3 => (lcB vs g tt bd ds st3).bind fun zs st4 => .ok (ys ++ zs) st4
    else lcB vs g tt bd ds st2
def bdE (te : MS → Res D) : MS → Res (List D) := fun st => (te st).bind fun y st1 => .ok [y] st1
def bdL (vs : List Nat) (mi : MS → Res (List D)) (g : D → MS → Res Unit) (tt : MS → Res Bool) (bd : MS → Res (List D)) : MS → Res (List D) := fun st => (mi st).bind fun ds st1 => lcB vs g tt bd ds st1
def eLcB (vs : List Nat) (mi : MS → Res (List D)) (g : D → MS → Res Unit) (tt : MS → Res Bool) (bd : MS → Res (List D)) : MS → Res D := fun st => (mi st).bind fun ds st1 =>
  (lcB vs g tt bd ds st1).safe.bind fun ys st2 => if ys.length ≤ sizeLine then Res.ok (D.lst ys) (st2.back st1 vs) else .stuck
theorem lcB_open {vs : List Nat} {g : D → MS → Res Unit} {tt : MS → Res Bool} {bd : MS → Res (List D)} {d : D} {ds : List D} {st : MS} {acc all : List D} {st9 : MS} (h : ((lcB vs g tt bd (d :: ds) st).bind fun ys st' => Res.ok (acc ++ ys) st') = Res.ok all st9) :
    ∃ u st1 b st2, g d (st.wipe vs) = .ok u st1 ∧ tt st1 = .ok b st2 ∧ ((b = false ∧ ((lcB vs g tt bd ds st2).bind fun ys st' => Res.ok (acc ++ ys) st') = Res.ok all st9) ∨ (b = true ∧ ∃ ys st4, bd st2 = .ok ys st4 ∧ (acc ++ ys).length ≤ all.length ∧ ((lcB vs g tt bd ds st4).bind fun zs st' => Res.ok ((acc ++ ys) ++ zs) st') = Res.ok all st9)) := by
  unfold lcB at h
  cases eg : g d (st.wipe vs) with
  | stuck => rw [eg] at h; cases h
  | err x st' => rw [eg] at h; cases h
  | ok u st1 =>
    rw [eg] at h
    cases et : tt st1 with
    | stuck => simp only [Res.safe, Res.bind, et] at h; cases h
    | err x st' => simp only [Res.safe, Res.bind, et] at h; cases h
    | ok b st2 =>
      refine ⟨u, st1, b, st2, rfl, et, ?_⟩
      cases b with
      | false =>
        simp only [Res.safe, Res.bind, et, Bool.false_eq_true, if_false] at h
        exact .inl ⟨rfl, h⟩
      | true =>
        cases em : bd st2 with
        | stuck => simp only [Res.safe, Res.bind, et, em, if_true] at h; cases h
        | err x st' => simp only [Res.safe, Res.bind, et, em, if_true] at h; cases h
        | ok ys st4 =>
          simp only [Res.safe, Res.bind, et, em, if_true] at h
          refine .inr ⟨rfl, ys, st4, rfl, ?_, ?_⟩
          · cases e2 : lcB vs g tt bd ds st4 with
            | stuck => rw [e2] at h; cases h
            | err x st' => rw [e2] at h; cases h
            | ok zs st' =>
              rw [e2] at h
              cases h
              rw [List.length_append, List.length_append, List.length_append]
              omega
          · rw [← h]
            cases lcB vs g tt bd ds st4 with
            | ok ys st7 => simp only [Res.bind, List.append_assoc]
            | err x st7 => rfl
            | stuck => rfl
/-- a body's mirror tells what the body does -/
structure BdOk (C : Ctx) (vs : List Nat) (bd : MS → Res (List D)) (b : TBd) : Prop where
  run : ∀ {σ : SS} {φ1 : List Addr} {H1 : Hp} {L : Addr} {st : MS} {φ : List Addr} {H : Hp} {acc : List D} {av : List V} {ys : List D} {st9 : MS} {Nx : Hp → Prop}, H1 L = none → C.H0 L = none → ¬ Ow C σ L →
    LcW C [] σ φ1 H1 L st φ H acc av → bd st = .ok ys st9 → (acc ++ ys).length ≤ sizeLine → (∀ φ' H' av', LcW C vs σ φ1 H1 L st9 φ' H' (acc ++ ys) av' → SStep φ H φ' H' → Nx H') → b L σ H Nx
theorem bdOk_app {C : Ctx} {te : MS → Res D} : BdOk C [] (bdE te) (bApp (tV C.ne false te)) := by
  refine ⟨fun {σ φ1 H1 L st5 φ5 H5 acc av ys st9 Nx} hL hL0 nwL w e hz hN => ?_⟩
  unfold bdE at e
  cases ee : te st5 with
  | stuck => rw [ee] at e; cases e
  | err x st' => rw [ee] at e; cases e
  | ok y st6 =>
    rw [ee] at e
    cases e
    have R5 : Rel C φ5 st5 σ H5 := w.rel
    refine ⟨st5, φ5, R5.ne, ?_⟩
    rw [ee]
    intro φ6 H6 R6 S6 v6 hv6
    have S6 := S6.of_ne
    have R6 := R6.of_ne
    have nLφ5 : L ∉ φ5 := fun z => by
      obtain ⟨A, dx, fs, q⟩ := R5.sto.some z
      rw [w.lst] at q; cases q
    have l6 : H6 L = some (.lst av) := S6.keep L _ w.lst nwL nLφ5
    have f6 : Fz H6 (upd H6 L (.lst (av ++ [v6]))) := same_upd_lst l6
    have ra := (w.rep.mono S6.fz S6.pre).append (.cons hv6.rep .nil)
    have up6 : SStep φ6 H6 φ6 (upd H6 L (.lst (av ++ [v6]))) := ⟨.refl _, fun _ h => .inl h, f6, fun a h => by
      by_cases ha : a = L
      · subst ha; rw [upd_same]; exact fun z => by cases z
      · rw [upd_ne ha]; exact h⟩
    refine ⟨av, l6, by rw [← w.rep.length]; rw [List.length_append] at hz; exact Nat.lt_of_succ_le hz, hN φ6 _ (av ++ [v6]) ⟨R6.aside l6 hL0 nwL, (w.step.trans S6.s).trans up6, fun a x q n m => ?_, upd_same, ra.mono f6 (.refl _)⟩ (S6.s.trans up6)⟩
    have na : a ≠ L := fun z => by rw [z, hL] at q; cases q
    rw [upd_ne na]
    refine S6.keep a x (w.keep a x q n m) n fun z => ?_
    rcases w.step.new a z with z | z
    · exact m z
    · rw [q] at z; cases z
section
variable {C : Ctx} {vs vs' : List Nat} {g : D → MS → Res Unit} {tt : MS → Res Bool} {bd : MS → Res (List D)} {b : TBd} {σ : SS} {φ1 φ3 : List Addr} {H1 H4 : Hp} {L : Addr} {st3 st9 : MS} {acc0 all ds : List D} {av0 : List V} {J : It} {Nx : Hp → Prop}
/-- a loop over a body that is told by its mirror -/
theorem loop_lcB (hb : BdOk C vs' bd b) (hs : ∀ v ∈ vs', v ∈ vs) (hv : ∀ v ∈ vs, C.own v = false) (hL : H1 L = none) (hL0 : C.H0 L = none) (nwL : ¬ Ow C σ L) (w0 : LcW C vs σ φ1 H1 L st3 φ3 H4 acc0 av0) (LI : ∀ (i : Nat) φ' H', SStep φ3 H4 φ' H' → (∀ d, ds[i]? = some d → J.go i H' ∧ ∀ x H'', J.yld i H' x H'' → Same H' H'' ∧ RepD C.K φ' H'' d x) ∧ (i = ds.length → J.stop i H')) (e0 : ((lcB vs g tt bd ds st3).bind fun ys st' => Res.ok (acc0 ++ ys) st') = .ok all st9) (hsz : all.length ≤ sizeLine)
    (hN : ∀ φ' H' av', LcW C vs σ φ1 H1 L st9 φ' H' all av' → SStep φ3 H4 φ' H' → Nx H') :
    ∃ W1 : Nat → Nat → Hp → Prop, (∃ m, W1 0 m H4) ∧ ∀ j k H, W1 j k H → (J.stop j H ∧ Nx H) ∨ (J.go j H ∧ ∃ Nx1 : Hp → Prop, (∀ H', Nx1 H' → ∃ k', k' < k ∧ W1 (j + 1) k' H') ∧ ∀ x H', J.yld j H x H' →
      tGc C.ne vs g x (wipe σ vs) H' fun σ3 H5 => wipe σ3 vs = wipe σ vs ∧ tT C.ne tt σ3 H5 fun c H6 => if c = true then b L σ3 H6 Nx1 else Nx1 H6) := by
  refine ⟨fun i n H' => i + n = ds.length ∧ ∃ st2 φ2 acc av, LcW C vs σ φ1 H1 L st2 φ2 H' acc av ∧ SStep φ3 H4 φ2 H' ∧ ((lcB vs g tt bd (ds.drop i) st2).bind fun ys st' => Res.ok (acc ++ ys) st') = .ok all st9, ⟨ds.length, by omega, st3, φ3, acc0, av0, w0, .refl, e0⟩, fun i n H2 w => ?_⟩
  obtain ⟨en, st2, φ2, acc, av, w, s2, eq⟩ := w
  by_cases hi : i < ds.length
  · have e : ds[i]? = some ds[i] := List.getElem?_eq_getElem hi
    obtain ⟨go, yl⟩ := (LI i φ2 H2 s2).1 _ e
    rw [List.drop_eq_getElem_cons hi] at eq
    refine .inr ⟨go, fun H' => ∃ st2 φ2 acc av, LcW C vs σ φ1 H1 L st2 φ2 H' acc av ∧ SStep φ3 H4 φ2 H' ∧ ((lcB vs g tt bd (ds.drop (i + 1)) st2).bind fun ys st' => Res.ok (acc ++ ys) st') = .ok all st9, fun H' ⟨a, b, c, d, e, f, g⟩ => ⟨n - 1, by omega, by omega, a, b, c, d, e, f, g⟩, fun x H3 hy => ?_⟩
    obtain ⟨sm, rx⟩ := yl x H3 hy
    have R3 : Rel C φ2 (st2.wipe vs) (wipe σ vs) H3 := w.rel.same sm
    obtain ⟨u, st4, c, st5, eg, et, eq⟩ := lcB_open eq
    refine ⟨st2.wipe vs, φ2, ds[i], R3.ne, rx, ?_⟩
    rw [eg]
    intro σ4 R4 w4
    have w4' : wipe σ4 vs = wipe σ vs := w4.trans (wipe_idem σ vs)
    refine ⟨w4', ?_⟩
    have nw4 : ¬ Ow C σ4 L := fun z => nwL ((ow_wipe hv).mp (by rw [← w4']; exact (ow_wipe hv).mpr z))
    have ow4 : ∀ {a}, ¬ Ow C σ a → ¬ Ow C σ4 a := fun {a} n z => n ((ow_wipe hv).mp (by rw [← w4']; exact (ow_wipe hv).mpr z))
    have ow4' : ∀ {a}, ¬ Ow C σ4 a → ¬ Ow C σ a := fun {a} n z => n ((ow_wipe hv).mp (by rw [w4']; exact (ow_wipe hv).mpr z))
    refine ⟨st4, φ2, R4, ?_⟩
    rw [et]
    intro φ5 H5 R5 S5
    have S5 := S5.of_ne
    have R5 := R5.of_ne
    have lt2 : SStep φ1 H1 φ2 H3 := w.step.trans (.same sm)
    have nLφ : L ∉ φ2 := fun z => by
      obtain ⟨A, dx, fs, q⟩ := w.rel.sto.some z
      rw [w.lst] at q; cases q
    have l5 : H5 L = some (.lst av) := S5.keep L _ (sm L _ w.lst) nw4 nLφ
    have k5 : ∀ a x, H1 a = some x → ¬ Ow C σ a → a ∉ φ1 → H5 a = some x := fun a x q n m => by
      refine S5.keep a x (sm a x (w.keep a x q n m)) (ow4 n) fun z => ?_
      rcases w.step.new a z with z | z
      · exact m z
      · rw [q] at z; cases z
    have r5 : RepAll C.K φ5 H5 acc av := (w.rep.mono (.of_same sm) (.refl _)).mono S5.fz S5.pre
    have t5 : SStep φ1 H1 φ5 H5 := lt2.trans S5.s
    have u5 : SStep φ3 H4 φ5 H5 := (s2.trans (.same sm)).trans S5.s
    rcases eq with ⟨rfl, eq⟩ | ⟨rfl, ys, st6, ee, hle, eq⟩
    · exact ⟨st5, φ5, acc, av, ⟨by rw [← w4']; exact R5.wiped hv, t5, k5, l5, r5⟩, u5, eq⟩
    · refine hb.run (acc := acc) (av := av) (ys := ys) hL hL0 nw4 ⟨R5, t5, fun a x q n m => k5 a x q (ow4' n) m, l5, r5⟩ ee (by omega) fun φ6 H6 av6 w6 s6 => ?_
      refine ⟨st6, φ6, acc ++ ys, av6, ⟨?_, w6.step, fun a x q n m => w6.keep a x q (ow4 n) m, w6.lst, w6.rep⟩, u5.trans s6, eq⟩
      have R7 := w6.rel.wiped hv
      rw [wipe_sub' σ4 vs vs' hs, w4'] at R7
      have e7 : (st6.wipe vs').wipe vs = st6.wipe vs := by
        show MS.mk (wipeE (wipeE st6.env vs') vs) st6.sto = MS.mk (wipeE st6.env vs) st6.sto
        rw [wipeE_sub st6.env vs vs' hs]
      rw [e7] at R7
      exact R7
  · rw [List.drop_of_length_le (by omega)] at eq
    have eq : Res.ok (acc ++ []) st2 = .ok all st9 := eq
    rw [List.append_nil] at eq
    cases eq
    exact .inl ⟨(LI i φ2 H2 s2).2 (by omega), hN φ2 H2 av w s2⟩
end
theorem bdOk_loop {C : Ctx} {vs vs' : List Nat} {mi : MS → Res (List D)} {g : D → MS → Res Unit} {tt : MS → Res Bool} {bd : MS → Res (List D)} {b : TBd} (hb : BdOk C vs' bd b) (hs : ∀ v ∈ vs', v ∈ vs) (hv : ∀ v ∈ vs, C.own v = false) :
    BdOk C vs (bdL vs mi g tt bd) (bLoop (tI C.ne mi) (tGc C.ne vs g) (tT C.ne tt) vs b) := by
  refine ⟨fun {σ φ1 H1 L st5 φ5 H5 acc av ys st9 Nx} hL hL0 nwL w e hz hN => ?_⟩
  unfold bdL at e
  cases em : mi st5 with
  | stuck => rw [em] at e; cases e
  | err x st' => rw [em] at e; cases e
  | ok ds st6 =>
    rw [em] at e
    have e : lcB vs g tt bd ds st6 = .ok ys st9 := e
    have R5 : Rel C φ5 st5 σ H5 := w.rel
    refine ⟨st5, φ5, R5.ne, ?_⟩
    rw [em]
    intro φ6 H6 R6 S6 J1 LI1
    have S6 := S6.of_ne
    have R6 := R6.of_ne
    have nLφ5 : L ∉ φ5 := fun z => by
      obtain ⟨A, dx, fs, q⟩ := R5.sto.some z
      rw [w.lst] at q; cases q
    have l6 : H6 L = some (.lst av) := S6.keep L _ w.lst nwL nLφ5
    refine loop_lcB hb hs hv hL hL0 nwL (st3 := st6) (acc0 := acc) (av0 := av) (all := acc ++ ys) (st9 := st9) (ds := ds) ⟨R6.wiped hv, w.step.trans S6.s, fun a x q n m => ?_, l6, w.rep.mono S6.fz S6.pre⟩ (fun i φ' H' s => ⟨fun d q => LI1.go i d φ' H' q s, fun q => ?_⟩) ?_ hz fun φ' H' av' w' s' => hN φ' H' av' w' (S6.s.trans s')
    · refine S6.keep a x (w.keep a x q n m) n fun z => ?_
      rcases w.step.new a z with z | z
      · exact m z
      · rw [q] at z; cases z
    · rw [q]
      exact LI1.stop φ' H' s
    · rw [e]
      rfl
theorem run_lcB {C : Ctx} {vs vs' : List Nat} {mi : MS → Res (List D)} {g : D → MS → Res Unit} {tt : MS → Res Bool} {bd : MS → Res (List D)} {b : TBd} (hb : BdOk C vs' bd b) (hs : ∀ v ∈ vs', v ∈ vs) (hv : ∀ v ∈ vs, C.own v = false) {σ : SS} {H : Hp} {Q : VK} (h : tV C true (eLcB vs mi g tt bd) σ H Q) :
    tLcB (tI C mi) (tGc C.ne vs g) (tT C.ne tt) vs b σ H Q := by
  obtain ⟨st, φ, R, q⟩ := h
  refine ⟨st, φ, R, Post.mono (Post.bind (r := mi st) (f := fun (ds : List D) (st1 : MS) => (lcB vs g tt bd ds st1).safe.bind fun ys st2 => if ys.length ≤ sizeLine then Res.ok (D.lst ys) (st2.back st1 vs) else .stuck) q) fun ds st1 φ1 H1 R1 S1 p J LI L hL => ?_⟩
  cases ea : lcB vs g tt bd ds st1 with
  | stuck => rw [ea] at p; exact p.elim
  | err x st' => rw [ea] at p; exact p.elim
  | ok all st9 =>
    rw [ea] at p
    have p : Post C σ φ1 H1 (if all.length ≤ sizeLine then Res.ok (D.lst all) (st9.back st1 vs) else .stuck) _ := p
    by_cases hlen : all.length ≤ sizeLine
    · rw [if_pos hlen] at p
      have hL0 : C.H0 L = none := R1.none0 hL
      have nwL : ¬ Ow C σ L := fun z => R1.alive L z hL
      refine loop_lcB hb hs hv hL hL0 nwL (st3 := st1) (acc0 := []) (av0 := []) (all := all) (st9 := st9) (ds := ds) ⟨(R1.same (same_new hL)).wiped hv, .same (same_new hL), fun a x e _ _ => same_new hL a x e, upd_same, .nil⟩ (fun i φ' H' s => ⟨fun d q => LI.go i d φ' H' q (SStep.trans (.same (same_new hL)) s), fun q => ?_⟩) ?_ hlen fun φ2 H2 av w s2 => ?_
      · rw [q]
        exact LI.stop φ' H' (SStep.trans (.same (same_new hL)) s)
      · rw [ea]
        rfl
      · have S2 : Step C σ φ1 H1 φ2 H2 := ⟨w.step.pre, w.step.new, w.step.fz, w.keep, w.step.dom⟩
        refine p φ2 H2 (R1.back w.rel hv w.step.fz w.step.pre) S2 _ ?_
        unfold ValR
        rw [if_pos (show (true && isOwn (.lst _)) = true from rfl)]
        refine ⟨L, rfl, ⟨av, w.lst, w.rep⟩, ?_⟩
        cases z : H L with
        | none => rfl
        | some x => exact absurd hL (S1.dom L (by rw [z]; exact fun z => by cases z))
    · rw [if_neg hlen] at p
      exact p.elim
section
variable {X : Cx} {C : Ctx} {i : Nat} {y : Str} {py : Pos} {elt tg iter tg1 iter1 tg2 iter2 : Expr} {ifs ifs1 ifs2 : List Expr} {scope : Scope} {own : List (Str × Nat)} {vs1 vs2 : List Nat} {pos spos : Pos} {mi mi1 mi2 : MS → Res (List D)} {g g1 g2 : D → MS → Res Unit} {tt tt1 tt2 : MS → Res Bool} {te : MS → Res D}
def eLc3 (vs : List Nat) (mi : MS → Res (List D)) (g : D → MS → Res Unit) (tt : MS → Res Bool) (vs1 : List Nat) (mi1 : MS → Res (List D)) (g1 : D → MS → Res Unit) (tt1 : MS → Res Bool) (vs2 : List Nat) (mi2 : MS → Res (List D)) (g2 : D → MS → Res Unit) (tt2 : MS → Res Bool) (te : MS → Res D) : MS → Res D :=
  eLcB vs mi g tt (bdL vs1 mi1 g1 tt1 (bdL vs2 mi2 g2 tt2 (bdE te)))
def tLc3 (C : Ctx) (vs : List Nat) (mi : MS → Res (List D)) (g : D → MS → Res Unit) (tt : MS → Res Bool) (vs1 : List Nat) (mi1 : MS → Res (List D)) (g1 : D → MS → Res Unit) (tt1 : MS → Res Bool) (vs2 : List Nat) (mi2 : MS → Res (List D)) (g2 : D → MS → Res Unit) (tt2 : MS → Res Bool) (te : MS → Res D) : TE :=
  tLcB (tI C mi) (tGc C.ne vs g) (tT C.ne tt) vs (bLoop (tI C.ne mi1) (tGc C.ne vs1 g1) (tT C.ne tt1) vs1 (bLoop (tI C.ne mi2) (tGc C.ne vs2 g2) (tT C.ne tt2) vs2 (bApp (tV C.ne false te))))
theorem run_lc3 (hv : ∀ v ∈ own.map (·.2), C.own v = false) (h1 : ∀ v ∈ vs1, v ∈ own.map (·.2)) (h2 : ∀ v ∈ vs2, v ∈ vs1) {σ : SS} {H : Hp} {Q : VK} (h : tV C true (eLc3 (own.map (·.2)) mi g tt vs1 mi1 g1 tt1 vs2 mi2 g2 tt2 te) σ H Q) : tLc3 C (own.map (·.2)) mi g tt vs1 mi1 g1 tt1 vs2 mi2 g2 tt2 te σ H Q :=
  run_lcB (bdOk_loop (bdOk_loop bdOk_app (fun _ z => by cases z) fun v m => hv v (h1 v (h2 v m))) h2 fun v m => hv v (h1 v m)) h1 hv h
theorem pb_lc3 {X : Cx} {k : Nat} (hx : ∀ x s, ¬ X.xe x s) (hc : X.calm = true) (h2 : ∀ v ∈ vs2, v ∈ vs1)
    (hi1 : MI X C.ne tg1 iter1 mi1) (hg1 : MGc X C.ne vs1 tg1 g1) (ht1 : MTs X C.ne ifs1 tt1) (hi2 : MI X C.ne tg2 iter2 mi2) (hg2 : MGc X C.ne vs2 tg2 g2) (ht2 : MTs X C.ne ifs2 tt2) (he : ME X C.ne false elt te)
    (hs1 : ∀ x, foldedSetIterable iter1 X.env x = pure x) (hs2 : ∀ x, foldedSetIterable iter2 X.env x = pure x) :
    PBd X (fun acc => actLoop (.ListComp elt [⟨tg, iter, ifs, 0⟩, ⟨tg1, iter1, ifs1, 0⟩, ⟨tg2, iter2, ifs2, 0⟩] scope pos) 1 iter1 acc X.env) vs1 (bLoop (tI C.ne mi1) (tGc C.ne vs1 g1) (tT C.ne tt1) vs1 (bLoop (tI C.ne mi2) (tGc C.ne vs2 g2) (tT C.ne tt2) vs2 (bApp (tV C.ne false te)))) :=
  pbd_loop (k := 0) hx hc rfl (fun it acc => turn3_1 ..) hi1 hg1 ht1 (pbd_loop (k := 1) hx hc rfl (fun it acc => turn3_2 ..) hi2 hg2 ht2 (pbd_app hx he) (fun _ z => by cases z) hs2) h2 hs1
theorem me_lc3O (hc : X.calm = true) (hN : X.N.Nodup) (hv : ∀ v ∈ own.map (·.2), C.own v = false) (hi : MI X C tg iter mi) (ok : BlkOk X.N X.env.scope scope own) (h1 : ∀ v ∈ vs1, v ∈ own.map (·.2)) (h2 : ∀ v ∈ vs2, v ∈ vs1)
    (hg : ∀ (s : Shared) (H : Hp) (A : Addr) (cl : List (Str × Addr)) (fp : List Addr), MGc (X.blk s H scope (compEnvC scope cl A X.env) fp) C.ne (own.map (·.2)) tg g) (ht : ∀ (s : Shared) (H : Hp) (A : Addr) (cl : List (Str × Addr)) (fp : List Addr), MTs (X.blk s H scope (compEnvC scope cl A X.env) fp) C.ne ifs tt)
    (hi1 : ∀ (s : Shared) (H : Hp) (A : Addr) (cl : List (Str × Addr)) (fp : List Addr), MI (X.blk s H scope (compEnvC scope cl A X.env) fp) C.ne tg1 iter1 mi1)
    (hg1 : ∀ (s : Shared) (H : Hp) (A : Addr) (cl : List (Str × Addr)) (fp : List Addr), MGc (X.blk s H scope (compEnvC scope cl A X.env) fp) C.ne vs1 tg1 g1) (ht1 : ∀ (s : Shared) (H : Hp) (A : Addr) (cl : List (Str × Addr)) (fp : List Addr), MTs (X.blk s H scope (compEnvC scope cl A X.env) fp) C.ne ifs1 tt1)
    (hi2 : ∀ (s : Shared) (H : Hp) (A : Addr) (cl : List (Str × Addr)) (fp : List Addr), MI (X.blk s H scope (compEnvC scope cl A X.env) fp) C.ne tg2 iter2 mi2)
    (hg2 : ∀ (s : Shared) (H : Hp) (A : Addr) (cl : List (Str × Addr)) (fp : List Addr), MGc (X.blk s H scope (compEnvC scope cl A X.env) fp) C.ne vs2 tg2 g2) (ht2 : ∀ (s : Shared) (H : Hp) (A : Addr) (cl : List (Str × Addr)) (fp : List Addr), MTs (X.blk s H scope (compEnvC scope cl A X.env) fp) C.ne ifs2 tt2)
    (he : ∀ (s : Shared) (H : Hp) (A : Addr) (cl : List (Str × Addr)) (fp : List Addr), ME (X.blk s H scope (compEnvC scope cl A X.env) fp) C.ne false elt te) (hs : ∀ x, foldedSetIterable iter X.env x = pure x := by intro _; rfl) (hs1 : ∀ env x, foldedSetIterable iter1 env x = pure x := by intro _ _; rfl) (hs2 : ∀ env x, foldedSetIterable iter2 env x = pure x := by intro _ _; rfl) :
    ME X C true (.ListComp elt [⟨tg, iter, ifs, 0⟩, ⟨tg1, iter1, ifs1, 0⟩, ⟨tg2, iter2, ifs2, 0⟩] scope pos) (eLc3 (own.map (·.2)) mi g tt vs1 mi1 g1 tt1 vs2 mi2 g2 tt2 te) :=
  PE.weak (pe_lcB hc hN hi ok h1 (act := fun env acc => actLoop (.ListComp elt [⟨tg, iter, ifs, 0⟩, ⟨tg1, iter1, ifs1, 0⟩, ⟨tg2, iter2, ifs2, 0⟩] scope pos) 1 iter1 acc env) (fun it acc env => turn3_0 ..) hg ht (fun s H A cl fp => pb_lc3 (X := X.blk s H scope (compEnvC scope cl A X.env) fp) (k := 0) (fun _ _ z => z) hc h2 (hi1 s H A cl fp) (hg1 s H A cl fp) (ht1 s H A cl fp) (hi2 s H A cl fp) (hg2 s H A cl fp) (ht2 s H A cl fp) (he s H A cl fp) (hs1 _) (hs2 _)) hs) fun σ H Q q => run_lc3 hv h1 h2 q
theorem ps_lc3A (hc : X.calm = true) (hN : X.N.Nodup) (hy : X.N[i]? = some y) (hyl : X.env.scope.names.lookup y = some .local) (hsw : swapsWith (.ListComp elt [⟨tg, iter, ifs, 0⟩, ⟨tg1, iter1, ifs1, 0⟩, ⟨tg2, iter2, ifs2, 0⟩] scope pos) (some (.Name y py)) spos.line X.env = pure true) (hi : MI X C tg iter mi) (ok : BlkOk X.N X.env.scope scope own) (h1 : ∀ v ∈ vs1, v ∈ own.map (·.2)) (h2 : ∀ v ∈ vs2, v ∈ vs1)
    (hg : ∀ (s : Shared) (H : Hp) (A : Addr) (cl : List (Str × Addr)) (fp : List Addr), MGc (X.blk s H scope (compEnvC scope cl A X.env) fp) C.ne (own.map (·.2)) tg g) (ht : ∀ (s : Shared) (H : Hp) (A : Addr) (cl : List (Str × Addr)) (fp : List Addr), MTs (X.blk s H scope (compEnvC scope cl A X.env) fp) C.ne ifs tt)
    (hi1 : ∀ (s : Shared) (H : Hp) (A : Addr) (cl : List (Str × Addr)) (fp : List Addr), MI (X.blk s H scope (compEnvC scope cl A X.env) fp) C.ne tg1 iter1 mi1)
    (hg1 : ∀ (s : Shared) (H : Hp) (A : Addr) (cl : List (Str × Addr)) (fp : List Addr), MGc (X.blk s H scope (compEnvC scope cl A X.env) fp) C.ne vs1 tg1 g1) (ht1 : ∀ (s : Shared) (H : Hp) (A : Addr) (cl : List (Str × Addr)) (fp : List Addr), MTs (X.blk s H scope (compEnvC scope cl A X.env) fp) C.ne ifs1 tt1)
    (hi2 : ∀ (s : Shared) (H : Hp) (A : Addr) (cl : List (Str × Addr)) (fp : List Addr), MI (X.blk s H scope (compEnvC scope cl A X.env) fp) C.ne tg2 iter2 mi2)
    (hg2 : ∀ (s : Shared) (H : Hp) (A : Addr) (cl : List (Str × Addr)) (fp : List Addr), MGc (X.blk s H scope (compEnvC scope cl A X.env) fp) C.ne vs2 tg2 g2) (ht2 : ∀ (s : Shared) (H : Hp) (A : Addr) (cl : List (Str × Addr)) (fp : List Addr), MTs (X.blk s H scope (compEnvC scope cl A X.env) fp) C.ne ifs2 tt2)
    (he : ∀ (s : Shared) (H : Hp) (A : Addr) (cl : List (Str × Addr)) (fp : List Addr), ME (X.blk s H scope (compEnvC scope cl A X.env) fp) C.ne false elt te) (hs : ∀ x, foldedSetIterable iter X.env x = pure x := by intro _; rfl) (hs1 : ∀ env x, foldedSetIterable iter1 env x = pure x := by intro _ _; rfl) (hs2 : ∀ env x, foldedSetIterable iter2 env x = pure x := by intro _ _; rfl) :
    PS X (.Assign [.Name y py] (.ListComp elt [⟨tg, iter, ifs, 0⟩, ⟨tg1, iter1, ifs1, 0⟩, ⟨tg2, iter2, ifs2, 0⟩] scope pos) spos) (tAsg (tLc3 C (own.map (·.2)) mi g tt vs1 mi1 g1 tt1 vs2 mi2 g2 tt2 te) (gName i)) :=
  ps_setLcB hc hN hy hyl hsw hi ok h1 (act := fun env acc => actLoop (.ListComp elt [⟨tg, iter, ifs, 0⟩, ⟨tg1, iter1, ifs1, 0⟩, ⟨tg2, iter2, ifs2, 0⟩] scope pos) 1 iter1 acc env) (fun it acc env => turn3_0 ..) hg ht (fun s H A cl fp => pb_lc3 (X := X.blk s H scope (compEnvC scope cl A X.env) fp) (k := 0) (fun _ _ z => z) hc h2 (hi1 s H A cl fp) (hg1 s H A cl fp) (ht1 s H A cl fp) (hi2 s H A cl fp) (hg2 s H A cl fp) (ht2 s H A cl fp) (he s H A cl fp) (hs1 _) (hs2 _)) hs
theorem ms_lc3O (hv : ∀ v ∈ own.map (·.2), C.own v = false) (h1 : ∀ v ∈ vs1, v ∈ own.map (·.2)) (h2 : ∀ v ∈ vs2, v ∈ vs1) (ho : C.own i = true) (hio : ∀ p ∈ C.io, p.1 ≠ i) {st : Stmt} (h : PS X st (tAsg (tLc3 C (own.map (·.2)) mi g tt vs1 mi1 g1 tt1 vs2 mi2 g2 tt2 te) (gName i))) :
    MS1 X C st (sSetO i (eLc3 (own.map (·.2)) mi g tt vs1 mi1 g1 tt1 vs2 mi2 g2 tt2 te)) := ms_ofO h (fun σ H Q q => run_lc3 hv h1 h2 q) ho hio
theorem ms_lc3F (hv : ∀ v ∈ own.map (·.2), C.own v = false) (h1 : ∀ v ∈ vs1, v ∈ own.map (·.2)) (h2 : ∀ v ∈ vs2, v ∈ vs1) (ho : C.own i = false) {st : Stmt} (h : PS X st (tAsg (tLc3 C (own.map (·.2)) mi g tt vs1 mi1 g1 tt1 vs2 mi2 g2 tt2 te) (gName i))) :
    MS1 X C st (sSet i (eLc3 (own.map (·.2)) mi g tt vs1 mi1 g1 tt1 vs2 mi2 g2 tt2 te)) := ms_ofF h (fun σ H Q q => run_lc3 hv h1 h2 q) ho
end
end Q
set_option Elab.async false
set_option linter.all false
set_option maxRecDepth 100000
set_option autoImplicit false
/-! QY: reckoning with the mirrors: equations for simp -/
namespace Q
open PySem PySem.Spec PyProof.Rows L2 PySem.SeqAt
/-- an operation's datum as a result -/
def ofO (o : Option D) (st : MS) : Res D := match o with
  | some d => .ok d st
  | none => .stuck
def ofL (o : Option (List D)) (st : MS) : Res (List D) := match o with
  | some d => .ok d st
  | none => .stuck
def toB (d : D) (st : MS) : Res Bool := match d with
  | .bl b => .ok b st
  | _ => .stuck
def SR.seq (r : SR) (f : MS → SR) : SR := match r with
  | .nx st => f st
  | r => r
def FR.res (r : FR) (as : List CArg) (st : MS) : Res D := match r with
  | .ok d ios sto' => .ok d (setOuts as ios { st with sto := sto' })
  | .err x ios sto' => .err x (setOuts as ios { st with sto := sto' })
  | .stuck => .stuck
def FR.resK (r : FR) (st : MS) : Res D := match r with
  | .ok d _ sto' => .ok d { st with sto := sto' }
  | .err x _ sto' => .err x { st with sto := sto' }
  | .stuck => .stuck
def eAndK (d : D) (m : MS → Res D) (st : MS) : Res D := match d with
  | .bl true => m st
  | .bl false => .ok (.bl false) st
  | _ => .stuck
def eOrK (d : D) (m : MS → Res D) (st : MS) : Res D := match d with
  | .bl true => .ok (.bl true) st
  | .bl false => m st
  | _ => .stuck
def eNotK (d : D) (st : MS) : Res D := match d with
  | .bl b => .ok (.bl (!b)) st
  | _ => .stuck
def isoK (d : D) (r : Res (List D)) : Res (List D) := if isOwn d = true then r else .stuck
section
variable {α β : Type} {a : α} {st : MS} {f : α → MS → Res β} {g : α → MS → SR} {env : List (Option D)} {sto : List SO} {i j k : Int} {n m' : Nat} {d d' : D} {h g' : List D → Option D} {os : List Opd} {m m1 m2 m3 : MS → Res D} {t t1 t2 : MS → Res Bool} {s s1 s2 : MS → SR} {fs : MS → SR} {o : Option D} {ms mk : List (MS → Res D)} {fm : FM} {as : List CArg} {b : Bool} {x : Exn} {m0 : MS} {ds : List D} {gg : D → MS → Res Unit} {gs : List D → MS → Res Unit} {mi : MS → Res (List D)}
@[simp] theorem bind_ok : (Res.ok a st).bind f = f a st := (rfl)
@[simp] theorem stm_ok : (Res.ok a st).stm g = g a st := (rfl)
@[simp] theorem safe_ok : (Res.ok a st).safe = .ok a st := (rfl)
@[simp] theorem seq_nx : (SR.nx st).seq fs = fs st := (rfl)
@[simp] theorem seq_rt : (SR.rt d st).seq fs = .rt d st := (rfl)
@[simp] theorem get_mk : MS.get ⟨env, sto⟩ n = (env[n]?).bind id := (rfl)
@[simp] theorem set_mk : MS.set ⟨env, sto⟩ n d = ⟨env.set n (some d), sto⟩ := (rfl)
@[simp] theorem del_mk : MS.del ⟨env, sto⟩ n = ⟨env.set n none, sto⟩ := (rfl)
@[simp] theorem ofO_some : ofO (some d) st = .ok d st := (rfl)
@[simp] theorem ofL_some : ofL (some ds) st = .ok ds st := (rfl)
@[simp] theorem toB_bl : toB (.bl b) st = .ok b st := (rfl)
@[simp] theorem eOp_mk : eOp h os st = (opN os st).bind fun ds st' => ofO (h ds) st' := (rfl)
@[simp] theorem eVal_mk : eVal h ms st = (opV ms st).bind fun ds st' => ofO (h ds) st' := (rfl)
@[simp] theorem opN_nil : opN [] st = .ok [] st := (rfl)
@[simp] theorem opN_val {r : List Opd} : opN (.val m :: r) st = (m st).bind fun x st1 => (opN r st1).bind fun xs st2 => .ok (x :: xs) st2 := (rfl)
@[simp] theorem opN_own {r : List Opd} : opN (.own n :: r) st = (ofO (st.get n) st).bind fun _ st' => (opN r st').bind fun xs st1 => (ofO (st1.get n) st1).bind fun x st1 => .ok (x :: xs) st1 := by
  rw [opN]
  cases st.get n with
  | none => rfl
  | some d =>
    show (opN r st).bind _ = (opN r st).bind _
    congr 1
    funext xs st1
    cases st1.get n <;> rfl
@[simp] theorem opV_nil : opV [] st = .ok [] st := (rfl)
@[simp] theorem opV_cons {r : List (MS → Res D)} : opV (m :: r) st = (m st).bind fun x st1 => (opV r st1).bind fun xs st2 => .ok (x :: xs) st2 := (rfl)
@[simp] theorem eV_mk : eV n ⟨env, sto⟩ = ofO ((env[n]?).bind id) ⟨env, sto⟩ := (rfl)
@[simp] theorem eK_mk : eK d st = .ok d st := (rfl)
@[simp] theorem eT_mk : eT m st = (m st).bind fun d st' => toB d st' := by
  unfold eT
  congr 1
@[simp] theorem eIf_mk : eIf t m1 m2 st = (t st).bind fun b st1 => if b = true then m1 st1 else m2 st1 := (rfl)
@[simp] theorem eAnd_mk : eAnd m1 m2 st = (m1 st).bind fun d st1 => eAndK d m2 st1 := by
  unfold eAnd
  congr 1
@[simp] theorem eOr_mk : eOr m1 m2 st = (m1 st).bind fun d st1 => eOrK d m2 st1 := by
  unfold eOr
  congr 1
@[simp] theorem eAndK_bl : eAndK (.bl b) m st = if b = true then m st else .ok (.bl false) st := by cases b <;> rfl
@[simp] theorem eOrK_bl : eOrK (.bl b) m st = if b = true then .ok (.bl true) st else m st := by cases b <;> rfl
@[simp] theorem eNot_mk : eNot m st = (m st).bind fun d st1 => eNotK d st1 := by
  unfold eNot
  congr 1
@[simp] theorem eNotK_bl : eNotK (.bl b) st = .ok (.bl (!b)) st := (rfl)
@[simp] theorem tAnd2_mk : tAnd2 t1 t2 st = (t1 st).bind fun b st1 => if b = true then t2 st1 else .ok false st1 := (rfl)
@[simp] theorem tOr2_mk : tOr2 t1 t2 st = (t1 st).bind fun b st1 => if b = true then .ok true st1 else t2 st1 := (rfl)
@[simp] theorem tNot1_mk : tNot1 t st = (t st).bind fun b st1 => .ok (!b) st1 := (rfl)
@[simp] theorem tYesM_mk : tYesM st = .ok true st := (rfl)
def eChK (o : Option D) (g' : List D → Option D) (y : D) (nc : MS → Res D) (st2 : MS) : Res D := match o with
  | some (.bl true) => (nc st2).bind fun z st3 => ofO (g' [y, z]) st3
  | some (.bl false) => .ok (.bl false) st2
  | _ => .stuck
@[simp] theorem eCh_mk : eCh h g' m1 m2 m3 st = (m1 st).bind fun x st1 => (m2 st1).bind fun y st2 => eChK (h [x, y]) g' y m3 st2 := (rfl)
@[simp] theorem eChK_bl {y : D} : eChK (some (.bl b)) g' y m st = if b = true then (m st).bind fun z st3 => ofO (g' [y, z]) st3 else .ok (.bl false) st := by cases b <;> rfl
@[simp] theorem sNil_mk : sNil st = .nx st := (rfl)
@[simp] theorem sSeq_mk : sSeq s1 s2 st = (s1 st).seq s2 := by
  unfold sSeq SR.seq
  cases s1 st <;> rfl
@[simp] theorem sExpr_mk : sExpr m st = (m st).stm fun _ st' => .nx st' := (rfl)
@[simp] theorem sRet_mk : sRet m st = (m st).stm fun d st' => .rt d st' := (rfl)
@[simp] theorem sRetN_mk : sRetN st = .rt .non st := (rfl)
@[simp] theorem sIf_mk : sIf t s1 s2 st = (t st).stm fun b st' => if b = true then s1 st' else s2 st' := (rfl)
@[simp] theorem sSet_mk : sSet n m st = (m st).stm fun d st' => .nx (st'.set n d) := (rfl)
@[simp] theorem sSetO_mk : sSetO n m st = (m st).stm fun d st' => if isOwn d = true then .nx (st'.set n d) else .stuck := (rfl)
@[simp] theorem sFor_mk : sFor mi gg s st = (mi st).stm fun ds st1 => forL gg s ds st1 := (rfl)
@[simp] theorem sAsg_mk : sAsg m gg st = (m st).stm fun d st' => (gg d st').stm fun _ st'' => .nx st'' := (rfl)
@[simp] theorem sPar_mk {is : List Nat} : sPar is as st = (opC as st).stm fun ds st1 => .nx (setAll is ds st1) := (rfl)
@[simp] theorem setAll_cons {is : List Nat} : setAll (n :: is) (d :: ds) st = setAll is ds (st.set n d) := (rfl)
@[simp] theorem setAll_nil : setAll [] ds st = st := (rfl)
@[simp] theorem gNm_mk : gNm n d st = .ok () (st.set n d) := (rfl)
@[simp] theorem gsNil_mk : gsNil [] st = .ok () st := (rfl)
@[simp] theorem gsCons_mk : gsCons gg gs (d :: ds) st = (gg d st).bind fun _ st' => gs ds st' := (rfl)
@[simp] theorem gTp_mk : gTp n gs (.tup ds) st = if ds.length = n then gs ds st else .stuck := (rfl)
def gSbK (i : Nat) (d k : D) (st1 : MS) : Res Unit := match st1.get i with
  | none => .stuck
  | some c => match Q.stored c k d with
    | some c' => .ok () (st1.set i c')
    | none => .stuck
@[simp] theorem gSb_mk : gSb n m d st = (ofO (st.get n) st).bind fun _ st => (m st).bind fun k st1 => gSbK n d k st1 := by
  unfold gSb
  cases st.get n <;> rfl
theorem gSbK_mk {c c' kk : D} (h1 : st.get n = some c) (h2 : Q.stored c kk d = some c') : gSbK n d kk st = .ok () (st.set n c') := by
  unfold gSbK
  rw [h1]
  dsimp only
  rw [h2]
@[simp] theorem opC_nil : opC [] st = .ok [] st := (rfl)
@[simp] theorem opC_val {r : List CArg} : opC (.val m :: r) st = (m st).bind fun x st1 => (opC r st1).bind fun xs st2 => .ok (x :: xs) st2 := (rfl)
@[simp] theorem opC_tmp {r : List CArg} : opC (.tmp m :: r) st = (m st).bind fun x st1 => isoK x ((opC r st1).bind fun xs st2 => .ok (x :: xs) st2) := (rfl)
@[simp] theorem isoK_lst {r : Res (List D)} : isoK (.lst ds) r = r := (rfl)
@[simp] theorem isoK_dic {r : Res (List D)} {kv : List (D × D)} : isoK (.dic kv) r = r := (rfl)
@[simp] theorem isOwn_lst : isOwn (.lst ds) = true := (rfl)
@[simp] theorem isOwn_dic {kv : List (D × D)} : isOwn (.dic kv) = true := (rfl)
@[simp] theorem opC_own {r : List CArg} : opC (.own n :: r) st = (ofO (st.get n) st).bind fun _ st' => (opC r st').bind fun xs st1 => (ofO (st1.get n) st1).bind fun x st1 => .ok (x :: xs) st1 := by
  rw [opC]
  cases st.get n with
  | none => rfl
  | some d =>
    show (opC r st).bind _ = (opC r st).bind _
    congr 1
    funext xs st1
    cases st1.get n <;> rfl
@[simp] theorem eCall_mk : eCall fm as st = (opC as st).bind fun ds st1 => (fm ds st1.sto).res as st1 := by
  unfold eCall
  congr 1
@[simp] theorem res_ok {ios : List D} : (FR.ok d ios sto).res as st = .ok d (setOuts as ios { st with sto := sto }) := (rfl)
@[simp] theorem eCallK_mk {is : List Nat} : eCallK fm ms mk is st = (opV ms st).bind fun ds st1 => (opV mk st1).bind fun es st2 => (fm (ds ++ permBy is es) st2.sto).resK st2 := by
  unfold eCallK
  congr 1
@[simp] theorem resK_ok {ios : List D} : (FR.ok d ios sto).resK st = .ok d { st with sto := sto } := (rfl)
@[simp] theorem setOuts_nil : setOuts [] ds st = st := by cases ds <;> rfl
@[simp] theorem setOuts_own {r : List CArg} : setOuts (.own n :: r) (d :: ds) st = setOuts r ds (st.set n d) := (rfl)
@[simp] theorem setOuts_tmp {r : List CArg} : setOuts (.tmp m :: r) (d :: ds) st = setOuts r ds st := (rfl)
@[simp] theorem setOuts_val {r : List CArg} : setOuts (.val m :: r) ds st = setOuts r ds st := by cases ds <;> rfl
@[simp] theorem iRange1_mk {a : Opd} : iRange1 a st = (opN [a] st).bind fun ds st' => match ds with
  | [.int j] => if -(2 ^ 62) ≤ j ∧ j < 2 ^ 62 then .ok (upTo 0 j.toNat) st' else .stuck
  | _ => .stuck := (rfl)
@[simp] theorem iRange2_mk {a b : Opd} : iRange2 a b st = (opN [a, b] st).bind fun ds st' => match ds with
  | [.int i, .int j] => if -(2 ^ 62) ≤ i ∧ i < 2 ^ 62 ∧ -(2 ^ 62) ≤ j ∧ j < 2 ^ 62 then .ok (upTo i (j - i).toNat) st' else .stuck
  | _ => .stuck := (rfl)
@[simp] theorem iRange3_mk {a b c : Opd} : iRange3 a b c st = (opN [a, b, c] st).bind fun ds st' => ofL (stepG ds) st' := (rfl)
@[simp] theorem iZip_mk : iZip m1 m2 st = (opV [m1, m2] st).bind fun ds st' => ofL (zipG ds) st' := (rfl)
@[simp] theorem iEnum_mk : iEnum m1 st = (opV [m1] st).bind fun ds st' => ofL (enumG ds) st' := (rfl)
def seqL (d : D) (st : MS) : Res (List D) := match d with
  | .lst xs => .ok xs st
  | .raw xs => .ok xs st
  | .tup xs => .ok xs st
  | _ => .stuck
@[simp] theorem iSeq_mk : iSeq m st = (m st).bind fun d st' => seqL d st' := by
  unfold iSeq
  congr 1
@[simp] theorem seqL_lst : seqL (.lst ds) st = .ok ds st := (rfl)
@[simp] theorem seqL_raw : seqL (.raw ds) st = .ok ds st := (rfl)
@[simp] theorem seqL_tup : seqL (.tup ds) st = .ok ds st := (rfl)
@[simp] theorem forL_nil : forL gg s [] st = .nx st := (rfl)
def SR.loop (r : SR) (f : MS → SR) : SR := match r with
  | .nx st => f st
  | .ct st => f st
  | .bk st => .nx st
  | r => r
@[simp] theorem loop_nx : (SR.nx st).loop fs = fs st := (rfl)
@[simp] theorem loop_ct : (SR.ct st).loop fs = fs st := (rfl)
@[simp] theorem loop_bk : (SR.bk st).loop fs = .nx st := (rfl)
@[simp] theorem loop_rt : (SR.rt d st).loop fs = .rt d st := (rfl)
theorem forL_cons : forL gg s (d :: ds) st = (gg d st).stm fun _ st1 => (s st1).loop fun st2 => forL gg s ds st2 := by
  rw [forL]
  congr 1
theorem whileF_succ : whileF t s (n + 1) st = (t st).stm fun b st1 => if b = true then (s st1).loop fun st2 => whileF t s n st2 else .nx st1 := by
  rw [whileF]
  congr 1
theorem forL_go (h : (gg d st).stm (fun _ st1 => s st1) = .nx m0 ∨ (gg d st).stm (fun _ st1 => s st1) = .ct m0) : forL gg s (d :: ds) st = forL gg s ds m0 := by
  rw [forL_cons]
  cases hg : gg d st with
  | ok u st1 =>
    rw [hg, stm_ok] at h
    rw [stm_ok]
    rcases h with h | h <;> rw [h] <;> rfl
  | err x st1 => rw [hg] at h; rcases h with h | h <;> cases h
  | stuck => rw [hg] at h; rcases h with h | h <;> cases h
/-- loops whose bodies always go on -/
theorem forL_inv {γ : Type} {P : Nat → MS → Prop} (l : List γ) (en : γ → D) (step : ∀ (k : Nat) (x : γ) (st : MS), l[k]? = some x → P k st → ∃ st', ((gg (en x) st).stm (fun _ st1 => s st1) = .nx st' ∨ (gg (en x) st).stm (fun _ st1 => s st1) = .ct st') ∧ P (k + 1) st') :
    ∀ (r : List γ) (k : Nat) (st : MS), l.drop k = r → P k st → ∃ st', forL gg s (r.map en) st = .nx st' ∧ P (k + r.length) st'
  | [], k, st, _, p => ⟨st, rfl, p⟩
  | x :: r, k, st, e, p => by
    have hx : l[k]? = some x := by
      have := congrArg (fun l => l[0]?) e
      simpa using this
    obtain ⟨st', e1, p1⟩ := step k x st hx p
    have e2 : l.drop (k + 1) = r := by
      have := congrArg List.tail e
      rw [List.tail_drop] at this
      exact this
    obtain ⟨st2, e3, p3⟩ := forL_inv l en step r (k + 1) st' e2 p1
    refine ⟨st2, ?_, by rw [List.length_cons, ← Nat.add_assoc, Nat.add_right_comm]; exact p3⟩
    rw [List.map_cons, forL_go e1]
    exact e3
/-- the whole list -/
theorem forL_all {γ : Type} {P : Nat → MS → Prop} (l : List γ) (en : γ → D) (h0 : P 0 st) (step : ∀ (k : Nat) (x : γ) (st : MS), l[k]? = some x → P k st → ∃ st', ((gg (en x) st).stm (fun _ st1 => s st1) = .nx st' ∨ (gg (en x) st).stm (fun _ st1 => s st1) = .ct st') ∧ P (k + 1) st') :
    ∃ st', forL gg s (l.map en) st = .nx st' ∧ P l.length st' := by
  obtain ⟨st', e, p⟩ := forL_inv l en step l 0 st rfl h0
  rw [Nat.zero_add] at p
  exact ⟨st', e, p⟩
theorem upTo_map : ∀ (n : Nat) (lo : Int), upTo lo n = (List.range n).map fun k => D.int (lo + (k : Nat))
  | 0, lo => rfl
  | n + 1, lo => by
    rw [List.range_succ_eq_map]
    show D.int lo :: upTo (lo + 1) n = _
    rw [upTo_map n (lo + 1), List.map_cons, List.map_map]
    congr 1
    · simp
    · refine List.map_congr_left fun k _ => ?_
      show D.int _ = D.int _
      congr 1
      push_cast
      omega
/-- loops over range(n) -/
theorem forL_range {P : Nat → MS → Prop} {n : Nat} (h0 : P 0 st) (step : ∀ (k : Nat) (st : MS), k < n → P k st → ∃ st', ((gg (.int k) st).stm (fun _ st1 => s st1) = .nx st' ∨ (gg (.int k) st).stm (fun _ st1 => s st1) = .ct st') ∧ P (k + 1) st') :
    ∃ st', forL gg s (upTo 0 n) st = .nx st' ∧ P n st' := by
  rw [upTo_map]
  have := forL_all (gg := gg) (s := s) (P := P) (List.range n) (fun k => D.int (0 + (k : Int))) h0 fun k x st hx p => by
    have hk : k < n ∧ x = k := by
      rw [List.getElem?_eq_some_iff] at hx
      obtain ⟨h1, h2⟩ := hx
      rw [List.length_range] at h1
      rw [List.getElem_range] at h2
      exact ⟨h1, h2.symm⟩
    obtain ⟨h1, rfl⟩ := hk
    rw [Int.zero_add]
    exact step _ st h1 p
  rw [List.length_range] at this
  exact this
/-! comprehensions -/
theorem lcL_cons {vs : List Nat} {tt : MS → Res Bool} {te : MS → Res D} : lcL vs gg tt te (d :: ds) st = (gg d (st.wipe vs)).safe.bind fun _ st1 => (tt st1).safe.bind fun b st2 =>
    if b = true then (te st2).safe.bind fun y st3 => (lcL vs gg tt te ds st3).bind fun ys st4 => .ok (y :: ys) st4 else lcL vs gg tt te ds st2 := by rw [lcL]
@[simp] theorem lcL_nil {vs : List Nat} {tt : MS → Res Bool} {te : MS → Res D} : lcL vs gg tt te [] st = .ok [] st := (rfl)
/-- one that keeps all, each turn by an invariant of the state -/
theorem lcL_all {γ : Type} {vs : List Nat} {tt : MS → Res Bool} {te : MS → Res D} {P : Nat → MS → Prop} (en : γ → D) (val : γ → D → Prop) :
    ∀ (l : List γ) (k : Nat) (st : MS), P k st → (∀ (k : Nat) (x : γ) (st : MS), x ∈ l → P k st → ∃ st1 st2 y st3, gg (en x) (st.wipe vs) = .ok () st1 ∧ tt st1 = .ok true st2 ∧ te st2 = .ok y st3 ∧ val x y ∧ P (k + 1) st3) →
      ∃ ys st', lcL vs gg tt te (l.map en) st = .ok ys st' ∧ P (k + l.length) st' ∧ ys.length = l.length ∧ ∀ (i : Nat) (x : γ) (y : D), l[i]? = some x → ys[i]? = some y → val x y
  | [], k, st, p, _ => ⟨[], st, rfl, p, rfl, fun i x y e => by simp at e⟩
  | x :: l, k, st, p, step => by
    obtain ⟨st1, st2, y, st3, e1, e2, e3, hv, p3⟩ := step k x st List.mem_cons_self p
    obtain ⟨ys, st4, e4, p4, hl, hy⟩ := lcL_all en val l (k + 1) st3 p3 fun k z st hz => step k z st (List.mem_cons_of_mem _ hz)
    refine ⟨y :: ys, st4, ?_, by rw [List.length_cons, ← Nat.add_assoc, Nat.add_right_comm]; exact p4, by rw [List.length_cons, List.length_cons, hl], fun i z w h1 h2 => ?_⟩
    · rw [List.map_cons, lcL_cons, e1, safe_ok, bind_ok, e2, safe_ok, bind_ok, if_pos rfl, e3, safe_ok, bind_ok, e4]
      rfl
    · cases i with
      | zero => simp at h1 h2; subst h1 h2; exact hv
      | succ i => exact hy i z w (by simpa using h1) (by simpa using h2)
end
/-! ### data -/
section
variable {xs ys : List D} {i j : Int} {n : Nat} {s t : Str} {b c : Bool} {d e : D}
theorem atI_pos {α : Type} {xs : List α} {i : Int} (h : 0 ≤ i) : L2.atI xs i = xs[i.toNat]? := by
  unfold L2.atI L2.ixN
  rw [if_pos h]
  split
  · rfl
  · rename_i h2
    rw [List.getElem?_eq_none (by omega)]
    rfl
@[simp] theorem gIdx_lst : gIdx [.lst xs, .int i] = L2.atI xs i := (rfl)
@[simp] theorem gIdx_tup : gIdx [.tup xs, .int i] = L2.atI xs i := (rfl)
@[simp] theorem gIdx_raw : gIdx [.raw xs, .int i] = L2.atI xs i := (rfl)
@[simp] theorem atI_zero {α : Type} {x : α} {xs : List α} : L2.atI (x :: xs) 0 = some x := by rw [atI_pos (by decide)]; rfl
@[simp] theorem atI_one {α : Type} {x y : α} {xs : List α} : L2.atI (x :: y :: xs) 1 = some y := by rw [atI_pos (by decide)]; rfl
@[simp] theorem atI_two {α : Type} {x y z : α} {xs : List α} : L2.atI (x :: y :: z :: xs) 2 = some z := by rw [atI_pos (by decide)]; rfl
@[simp] theorem stored_lst : Q.stored (.lst xs) (.int i) d = (L2.ixN xs.length i).map fun j => .lst (xs.set j d) := (rfl)
theorem ixN_pos (h : 0 ≤ i) (h2 : i < n) : L2.ixN n i = some i.toNat := by
  unfold L2.ixN
  rw [if_pos h, if_pos h2]
@[simp] theorem gAdd_int : gAdd [.int i, .int j] = some (.int (i + j)) := (rfl)
@[simp] theorem gSub_int : gSub [.int i, .int j] = some (.int (i - j)) := (rfl)
@[simp] theorem gNeg_int : gNeg [.int i] = some (.int (-i)) := (rfl)
@[simp] theorem gInt_int : gInt [.int i] = some (.int i) := (rfl)
@[simp] theorem gLtA_int : gLtA [.int i, .int j] = some (.bl (decide (i < j))) := (rfl)
@[simp] theorem gGtA_int : gGtA [.int i, .int j] = some (.bl (decide (j < i))) := (rfl)
@[simp] theorem gLeA_int : gLeA [.int i, .int j] = some (.bl (decide (i ≤ j))) := by
  show some (D.bl (!decide (j < i))) = _
  congr 2
  rw [← decide_not]
  congr 1
  exact propext Int.not_lt
@[simp] theorem gGeA_int : gGeA [.int i, .int j] = some (.bl (decide (j ≤ i))) := by
  show some (D.bl (!decide (i < j))) = _
  congr 2
  rw [← decide_not]
  congr 1
  exact propext Int.not_lt
@[simp] theorem gEq_int : gEq [.int i, .int j] = some (.bl (decide (i = j))) := by
  show some (D.bl (false != (i == j))) = _
  congr 2
  by_cases h : i = j <;> simp [h]
@[simp] theorem gNe_int : gNe [.int i, .int j] = some (.bl (decide (i ≠ j))) := by
  show some (D.bl (true != (i == j))) = _
  congr 2
  by_cases h : i = j <;> simp [h]
theorem gMul_ok (h : i.natAbs.log2 + j.natAbs.log2 < 1000000) : gMul [.int i, .int j] = some (.int (i * j)) := by
  show (if i.natAbs.log2 + j.natAbs.log2 < 1000000 then some (D.int (i * j)) else none) = _
  rw [if_pos h]
theorem log2_small {i : Int} {k : Nat} (h : i.natAbs < 2 ^ k) : i.natAbs.log2 ≤ k := by
  by_cases h0 : i.natAbs = 0
  · rw [h0]; simp
  · exact Nat.le_of_lt ((Nat.log2_lt h0).mpr h)
theorem gMod_ok (h : 0 < j) : gMod [.int i, .int j] = some (.int (i % j)) := by
  show (if 0 < j then some (D.int (i % j)) else none) = _
  rw [if_pos h]
theorem gDiv_ok (h : 0 < j) (h2 : j.natAbs.log2 < 9000) : gDiv [.int i, .int j] = some (.int (i / j)) := by
  show (if 0 < j ∧ j.natAbs.log2 < 9000 then some (D.int (i / j)) else none) = _
  rw [if_pos ⟨h, h2⟩]
theorem gDivmod_ok (h : 0 < j) (h2 : j < 1073741824) : gDivmod [.int i, .int j] = some (.tup [.int (i / j), .int (i % j)]) := by
  show (if 0 < j ∧ j < 1073741824 then some (D.tup [.int (i / j), .int (i % j)]) else none) = _
  rw [if_pos ⟨h, h2⟩]
@[simp] theorem gMin2_int : gMin2 [.int i, .int j] = some (.int (if j < i then j else i)) := (rfl)
@[simp] theorem gMax2_int : gMax2 [.int i, .int j] = some (.int (if j > i then j else i)) := (rfl)
@[simp] theorem gAbs_int : gAbs [.int i] = some (.int (if i < 0 then -i else i)) := (rfl)
@[simp] theorem gLen_lst : gLen [.lst xs] = some (.int xs.length) := (rfl)
@[simp] theorem gLen_tup : gLen [.tup xs] = some (.int xs.length) := (rfl)
@[simp] theorem gLen_raw : gLen [.raw xs] = some (.int xs.length) := (rfl)
theorem gTup_ok (h : xs.length ≤ 16777216) : gTup xs = some (.tup xs) := by
  unfold gTup
  exact if_pos h
theorem gLst_ok (h : xs.length ≤ 16777216) : gLst xs = some (.lst xs) := by
  unfold gLst
  exact if_pos h
@[simp] theorem gTup_0 : gTup [] = some (.tup []) := gTup_ok (by simp)
@[simp] theorem gTup_1 {a : D} : gTup [a] = some (.tup [a]) := gTup_ok (by simp)
@[simp] theorem gTup_2 {a b : D} : gTup [a, b] = some (.tup [a, b]) := gTup_ok (by simp)
@[simp] theorem gTup_3 {a b c : D} : gTup [a, b, c] = some (.tup [a, b, c]) := gTup_ok (by simp)
@[simp] theorem gLst_0 : gLst [] = some (.lst []) := gLst_ok (by simp)
@[simp] theorem gLst_1 {a : D} : gLst [a] = some (.lst [a]) := gLst_ok (by simp)
@[simp] theorem gLst_2 {a b : D} : gLst [a, b] = some (.lst [a, b]) := gLst_ok (by simp)
@[simp] theorem gLst_3 {a b c : D} : gLst [a, b, c] = some (.lst [a, b, c]) := gLst_ok (by simp)
end
/-- a def's result by its body's -/
theorem run_rt {n : Nat} {ow : List Bool} {m : MS → SR} {ds ios : List D} {sto : List SO} {d : D} {st : MS} (hl : ds.length = ow.length) (h : m ⟨ds.map some ++ List.replicate (n - ds.length) none, sto⟩ = .rt d st) (hi : iosOf ow st.env = some ios) : (runF n ow m).safe ds sto = .ok d ios st.sto := by
  unfold FM.safe runF
  rw [if_pos hl, h]
  dsimp only
  rw [hi]
theorem run_nx {n : Nat} {ow : List Bool} {m : MS → SR} {ds ios : List D} {sto : List SO} {st : MS} (hl : ds.length = ow.length) (h : m ⟨ds.map some ++ List.replicate (n - ds.length) none, sto⟩ = .nx st) (hi : iosOf ow st.env = some ios) : (runF n ow m).safe ds sto = .ok .non ios st.sto := by
  unfold FM.safe runF
  rw [if_pos hl, h]
  dsimp only
  rw [hi]
end Q
set_option Elab.async false
set_option linter.all false
set_option maxRecDepth 100000
set_option autoImplicit false
/-! QZ: comprehensions that change nothing; lists of truths; the order of pairs -/
namespace Q
open PySem PySem.Spec L2 PySem.SeqAt
theorem backE_at {e e1 : List (Option D)} {i : Nat} : ∀ {vs : List Nat}, i ∈ vs → i < e.length → (backE e e1 vs)[i]? = some ((e1[i]?).getD none)
  | [], h, _ => by cases h
  | v :: vs, h, hl => by
    unfold backE
    by_cases hv : v = i
    · subst hv
      rw [List.getElem?_set_self (by rw [backE_length]; exact hl)]
    · rw [List.getElem?_set_ne hv]
      exact backE_at ((List.mem_cons.mp h).elim (fun z => absurd z.symm hv) id) hl
theorem back_eq {st st1 : MS} {vs : List Nat} (h : st1.wipe vs = st.wipe vs) : st1.back st vs = st := by
  have he : wipeE st1.env vs = wipeE st.env vs := congrArg MS.env h
  have hs : st1.sto = st.sto := by
    have z : (st1.wipe vs).sto = (st.wipe vs).sto := by rw [h]
    exact z
  have hl : st1.env.length = st.env.length := by rw [← wipeE_length st1.env vs, he, wipeE_length]
  unfold MS.back
  obtain ⟨env, sto⟩ := st
  obtain ⟨env1, sto1⟩ := st1
  simp only at he hs hl ⊢
  subst hs
  congr 1
  refine List.ext_getElem? fun i => ?_
  by_cases hi : i ∈ vs
  · rcases Nat.lt_or_ge i env1.length with h1 | h1
    · rw [backE_at hi h1, List.getElem?_eq_getElem (by omega)]
      rfl
    · rw [List.getElem?_eq_none (by rw [backE_length]; exact h1), List.getElem?_eq_none (by omega)]
  · rw [backE_out hi, ← wipeE_out hi (e := env1), he, wipeE_out hi]
section
variable {γ : Type} {st : MS} {vs : List Nat} {g : D → MS → Res Unit} {tt : MS → Res Bool} {te : MS → Res D} {mi : MS → Res (List D)}
theorem lcL_pure {en : γ → D} {S : γ → MS} {b : γ → Bool} {f : γ → D} : ∀ (l : List γ) (st1 : MS), st1.wipe vs = st.wipe vs →
    (∀ x ∈ l, g (en x) (st.wipe vs) = .ok () (S x) ∧ tt (S x) = .ok (b x) (S x) ∧ (b x = true → te (S x) = .ok (f x) (S x)) ∧ (S x).wipe vs = st.wipe vs) →
    ∃ st2, lcL vs g tt te (l.map en) st1 = .ok ((l.filter b).map f) st2 ∧ st2.wipe vs = st.wipe vs
  | [], st1, h1, _ => ⟨st1, rfl, h1⟩
  | x :: l, st1, h1, h => by
    obtain ⟨e1, e2, e3, e4⟩ := h x List.mem_cons_self
    obtain ⟨st2, e5, e6⟩ := lcL_pure (en := en) (S := S) (b := b) (f := f) l (S x) e4 fun y hy => h y (List.mem_cons_of_mem _ hy)
    refine ⟨st2, ?_, e6⟩
    rw [List.map_cons, lcL_cons, h1, e1, safe_ok, bind_ok, e2, safe_ok, bind_ok]
    cases hb : b x with
    | true =>
      rw [if_pos rfl, e3 hb, safe_ok, bind_ok, e5, List.filter_cons_of_pos hb]
      rfl
    | false =>
      rw [if_neg Bool.false_ne_true, e5, List.filter_cons_of_neg (by rw [hb]; exact Bool.false_ne_true)]
/-- [te for g in mi if tt], nothing is changed -/
theorem eLc_pure (l : List γ) (en : γ → D) (S : γ → MS) (b : γ → Bool) (f : γ → D) (hmi : mi st = .ok (l.map en) st) (hl : l.length ≤ 16777216)
    (h : ∀ x ∈ l, g (en x) (st.wipe vs) = .ok () (S x) ∧ tt (S x) = .ok (b x) (S x) ∧ (b x = true → te (S x) = .ok (f x) (S x)) ∧ (S x).wipe vs = st.wipe vs) : eLc vs mi g tt te st = .ok (.lst ((l.filter b).map f)) st := by
  unfold eLc
  rw [hmi, bind_ok, if_pos (by rw [List.length_map]; exact hl)]
  obtain ⟨st2, e1, e2⟩ := lcL_pure l st rfl h
  rw [e1, bind_ok, back_eq e2]
theorem filter_yes (l : List γ) : l.filter (fun _ => true) = l := List.filter_eq_self.mpr fun _ _ => rfl
/-- .. without a test -/
theorem eLc_map (l : List γ) (en : γ → D) (S : γ → MS) (f : γ → D) (hmi : mi st = .ok (l.map en) st) (hl : l.length ≤ 16777216)
    (h : ∀ x ∈ l, g (en x) (st.wipe vs) = .ok () (S x) ∧ te (S x) = .ok (f x) (S x) ∧ (S x).wipe vs = st.wipe vs) : eLc vs mi g tYesM te st = .ok (.lst (l.map f)) st := by
  have := eLc_pure (tt := tYesM) (te := te) (g := g) (vs := vs) l en S (fun _ => true) f hmi hl fun x hx => ⟨(h x hx).1, rfl, fun _ => (h x hx).2.1, (h x hx).2.2⟩
  rw [filter_yes] at this
  exact this
end
theorem wipeE_here {e : List (Option D)} {i : Nat} : ∀ {vs : List Nat}, i ∈ vs → i < e.length → (wipeE e vs)[i]? = some none
  | [], h, _ => by cases h
  | v :: vs, h, hl => by
    unfold wipeE
    by_cases hv : v = i
    · subst hv
      rw [List.getElem?_set_self (by rw [wipeE_length]; exact hl)]
    · rw [List.getElem?_set_ne hv]
      exact wipeE_here ((List.mem_cons.mp h).elim (fun z => absurd z.symm hv) id) hl
theorem wipe_wipe {st : MS} {vs vs1 : List Nat} (h : ∀ v ∈ vs1, v ∈ vs) : (st.wipe vs1).wipe vs = st.wipe vs := by
  unfold MS.wipe
  simp only
  congr 1
  refine List.ext_getElem? fun i => ?_
  by_cases hi : i ∈ vs
  · rcases Nat.lt_or_ge i st.env.length with h1 | h1
    · rw [wipeE_here hi (by rw [wipeE_length]; exact h1), wipeE_here hi h1]
    · rw [List.getElem?_eq_none (by rw [wipeE_length, wipeE_length]; exact h1), List.getElem?_eq_none (by rw [wipeE_length]; exact h1)]
  · rw [wipeE_out hi, wipeE_out hi, wipeE_out fun z => hi (h i z)]
section
variable {γ δ : Type} {st : MS} {vs vs1 : List Nat} {g g1 : D → MS → Res Unit} {tt tt1 : MS → Res Bool} {te : MS → Res D} {mi mi1 : MS → Res (List D)}
theorem lcL2_pure {en : γ → D} {S : γ → MS} {b : γ → Bool} {L : γ → List δ} {en1 : δ → D} {T : γ → δ → MS} {b1 : γ → δ → Bool} {f : γ → δ → D} (hsub : ∀ v ∈ vs1, v ∈ vs) : ∀ (l : List γ) (st1 : MS), st1.wipe vs = st.wipe vs →
    (∀ x ∈ l, g (en x) (st.wipe vs) = .ok () (S x) ∧ tt (S x) = .ok (b x) (S x) ∧ (S x).wipe vs = st.wipe vs ∧ (b x = true → mi1 (S x) = .ok ((L x).map en1) (S x) ∧
      ∀ y ∈ L x, g1 (en1 y) ((S x).wipe vs1) = .ok () (T x y) ∧ tt1 (T x y) = .ok (b1 x y) (T x y) ∧ (b1 x y = true → te (T x y) = .ok (f x y) (T x y)) ∧ (T x y).wipe vs1 = (S x).wipe vs1)) →
    ∃ st2, lcL2 vs g tt vs1 mi1 g1 tt1 te (l.map en) st1 = .ok ((l.filter b).flatMap fun x => ((L x).filter (b1 x)).map (f x)) st2 ∧ st2.wipe vs = st.wipe vs
  | [], st1, h1, _ => ⟨st1, by rw [List.map_nil, lcL2]; rfl, h1⟩
  | x :: l, st1, h1, h => by
    obtain ⟨e1, e2, e3, e4⟩ := h x List.mem_cons_self
    have ih := fun st' h' => lcL2_pure (en := en) (S := S) (b := b) (L := L) (en1 := en1) (T := T) (b1 := b1) (f := f) hsub l st' h' fun y hy => h y (List.mem_cons_of_mem _ hy)
    cases hb : b x with
    | true =>
      obtain ⟨e5, e6⟩ := e4 hb
      obtain ⟨st3, e7, e8⟩ := lcL_pure (st := S x) (vs := vs1) (L x) (S x) rfl e6
      have e9 : st3.wipe vs = st.wipe vs := by rw [← wipe_wipe hsub, e8, wipe_wipe hsub, e3]
      obtain ⟨st2, e10, e11⟩ := ih st3 e9
      refine ⟨st2, ?_, e11⟩
      rw [List.map_cons, lcL2, h1, e1, safe_ok, bind_ok, e2, safe_ok, bind_ok, hb, if_pos rfl, e5, safe_ok, bind_ok, e7, safe_ok, bind_ok, e10, List.filter_cons_of_pos hb]
      rfl
    | false =>
      obtain ⟨st2, e10, e11⟩ := ih (S x) e3
      refine ⟨st2, ?_, e11⟩
      rw [List.map_cons, lcL2, h1, e1, safe_ok, bind_ok, e2, safe_ok, bind_ok, hb, if_neg Bool.false_ne_true, e10, List.filter_cons_of_neg (by rw [hb]; exact Bool.false_ne_true)]
theorem eLc2_pure (l : List γ) (en : γ → D) (S : γ → MS) (b : γ → Bool) (L : γ → List δ) (en1 : δ → D) (T : γ → δ → MS) (b1 : γ → δ → Bool) (f : γ → δ → D) (hsub : ∀ v ∈ vs1, v ∈ vs) (hmi : mi st = .ok (l.map en) st)
    (hl : ((l.filter b).flatMap fun x => ((L x).filter (b1 x)).map (f x)).length ≤ 16777216)
    (h : ∀ x ∈ l, g (en x) (st.wipe vs) = .ok () (S x) ∧ tt (S x) = .ok (b x) (S x) ∧ (S x).wipe vs = st.wipe vs ∧ (b x = true → mi1 (S x) = .ok ((L x).map en1) (S x) ∧
      ∀ y ∈ L x, g1 (en1 y) ((S x).wipe vs1) = .ok () (T x y) ∧ tt1 (T x y) = .ok (b1 x y) (T x y) ∧ (b1 x y = true → te (T x y) = .ok (f x y) (T x y)) ∧ (T x y).wipe vs1 = (S x).wipe vs1)) :
    eLc2 vs mi g tt vs1 mi1 g1 tt1 te st = .ok (.lst ((l.filter b).flatMap fun x => ((L x).filter (b1 x)).map (f x))) st := by
  obtain ⟨st2, e1, e2⟩ := lcL2_pure hsub l st rfl h
  unfold eLc2
  rw [hmi, bind_ok, e1, safe_ok, bind_ok, if_pos (by simpa [sizeLine] using hl), back_eq e2]
end
theorem blsOf_map {γ : Type} (b : γ → Bool) : ∀ l : List γ, blsOf (l.map fun x => D.bl (b x)) = some (l.map b)
  | [] => rfl
  | x :: l => by
    show (blsOf (l.map fun x => D.bl (b x))).map (b x :: ·) = _
    rw [blsOf_map b l]
    rfl
theorem gAll_map {γ : Type} (b : γ → Bool) (l : List γ) : gAll [.lst (l.map fun x => D.bl (b x))] = some (.bl (l.all b)) := by
  show (blsOf _).map _ = _
  rw [blsOf_map]
  simp [Function.comp_def]
theorem gAny_map {γ : Type} (b : γ → Bool) (l : List γ) : gAny [.lst (l.map fun x => D.bl (b x))] = some (.bl (l.any b)) := by
  show (blsOf _).map _ = _
  rw [blsOf_map]
  simp [Function.comp_def]
theorem intsOf_map {γ : Type} (b : γ → Int) : ∀ l : List γ, intsOf (l.map fun x => D.int (b x)) = some (l.map b)
  | [] => rfl
  | x :: l => by
    show (intsOf (l.map fun x => D.int (b x))).map (b x :: ·) = _
    rw [intsOf_map b l]
    rfl
theorem gSum_map {γ : Type} (b : γ → Int) (l : List γ) : gSum [.lst (l.map fun x => D.int (b x))] = some (.int (l.map b).sum) := by
  show (intsOf _).map _ = _
  rw [intsOf_map]
  rfl
/-! ### pairs -/
def pd (p : Int × Int) : D := .tup [.int p.1, .int p.2]
def ltP (p q : Int × Int) : Bool := decide (p.1 < q.1) || (decide (p.1 = q.1) && decide (p.2 < q.2))
def leP (p q : Int × Int) : Bool := !ltP q p
theorem eqv_int {i j : Int} : D.eqv (.int i) (.int j) = decide (i = j) := by
  unfold D.eqv
  by_cases h : i = j <;> simp [h]
theorem ltv_pd (p q : Int × Int) : D.ltv (pd p) (pd q) = ltP p q := by
  unfold pd ltP
  simp only [D.ltv, D.ltvAll, eqv_int]
  by_cases h : p.1 = q.1
  · by_cases h2 : p.2 = q.2 <;> simp [h, h2]
  · simp [h]
theorem eqv_pd (p q : Int × Int) : D.eqv (pd p) (pd q) = decide (p = q) := by
  unfold pd
  simp only [D.eqv, D.eqvAll]
  obtain ⟨a, b⟩ := p
  obtain ⟨c, d⟩ := q
  by_cases h : a = c <;> by_cases h2 : b = d <;> simp [h, h2]
theorem leV_pd (p q : Int × Int) : leV (pd p) (pd q) = leP p q := by
  unfold leV leP
  rw [ltv_pd]
theorem insB_map {α β : Type} {f : α → α → Bool} {g : β → β → Bool} (h : α → β) (e : ∀ x y, g (h x) (h y) = f x y) (x : α) : ∀ l : List α, insB g (h x) (l.map h) = (insB f x l).map h
  | [] => rfl
  | y :: ys => by
    rw [List.map_cons]
    unfold insB
    rw [e, insB_map h e x ys]
    split <;> rfl
theorem isort_map {α β : Type} {f : α → α → Bool} {g : β → β → Bool} (h : α → β) (e : ∀ x y, g (h x) (h y) = f x y) : ∀ l : List α, isort g (l.map h) = (isort f l).map h
  | [] => rfl
  | x :: xs => by
    rw [List.map_cons]
    unfold isort
    rw [isort_map h e xs, insB_map h e]
theorem leP_trans (a b c : Int × Int) (h1 : leP a b = true) (h2 : leP b c = true) : leP a c = true := by
  unfold leP ltP at *
  simp only [Bool.not_eq_true', Bool.or_eq_false_iff, Bool.and_eq_false_iff, decide_eq_false_iff_not] at *
  omega
theorem leP_total (a b : Int × Int) : (leP a b || leP b a) = true := by
  unfold leP ltP
  by_cases h1 : b.1 < a.1 <;> by_cases h2 : a.1 < b.1 <;> by_cases h3 : a.2 < b.2 <;> by_cases h4 : b.2 < a.2 <;> simp [h1, h2, h3, h4] <;> omega
theorem isort_pairwise {α : Type} {le : α → α → Bool} (trans : ∀ a b c, le a b → le b c → le a c) (total : ∀ a b, le a b || le b a) (l : List α) : (isort le l).Pairwise fun a b => le a b := by
  rw [← mergeSort_isort trans total]
  exact List.pairwise_mergeSort trans total l
/-- pairs no two of which are the same, sorted: strictly ascending -/
theorem isort_strict {l : List (Int × Int)} (nd : l.Nodup) : (isort leP l).Pairwise fun p q => ltP p q = true := by
  have h1 := isort_pairwise leP_trans leP_total l
  have h2 : (isort leP l).Nodup := (isort_perm l).nodup_iff.mpr nd
  refine List.Pairwise.imp₂ (fun a b hl hn => ?_) h1 h2
  have hl : leP a b = true := hl
  have hn : a ≠ b := hn
  unfold leP at hl
  unfold ltP at hl ⊢
  simp only [Bool.not_eq_true', Bool.or_eq_false_iff, Bool.and_eq_false_iff, decide_eq_false_iff_not] at hl
  simp only [Bool.or_eq_true, Bool.and_eq_true, decide_eq_true_eq]
  by_cases h3 : a.1 = b.1
  · have h4 : a.2 ≠ b.2 := fun z => hn (Prod.ext h3 z)
    omega
  · omega
theorem sortOk_pd (l : List (Int × Int)) (hl : l.length ≤ 16777216) : sortOkV (l.map pd) = true := by
  have pl : ∀ p : Int × Int, (pd p).pl = true := fun p => rfl
  have pls : ∀ l : List (Int × Int), D.plAll (l.map pd) = true := fun l => by
    rw [D.plAll_eq]
    exact List.all_eq_true.mpr fun d hd => by
      obtain ⟨p, _, rfl⟩ := List.mem_map.mp hd
      rfl
  have al : ∀ p q : Int × Int, D.alk (pd p) (pd q) = true := fun p q => rfl
  have each : ∀ l : List (Int × Int), alkEach (l.map pd) = true := fun l => by
    induction l with
    | nil => rfl
    | cons p l ih =>
      rw [List.map_cons]
      unfold alkEach
      rw [ih, Bool.and_true]
      exact List.all_eq_true.mpr fun d hd => by
        obtain ⟨q, _, rfl⟩ := List.mem_map.mp hd
        exact al p q
  have mem : ∀ (b : D → Bool), (∀ p : Int × Int, b (pd p) = true) → (l.map pd).all b = true := fun b hb => List.all_eq_true.mpr fun d hd => by
    obtain ⟨p, _, rfl⟩ := List.mem_map.mp hd
    exact hb p
  unfold sortOkV
  rw [pls, mem (D.sh 8) (fun p => rfl), mem (fun d => D.alk d d) (fun p => al p p), each, mem tup1 (fun p => rfl)]
  simpa [sizeLine] using hl
theorem gSortA_pd (l : List (Int × Int)) (hl : l.length ≤ 16777216) : gSortA [.lst (l.map pd)] = some (.lst ((isort leP l).map pd)) := by
  show (if sortOkV (l.map pd) = true then some (D.lst (isort leV (l.map pd))) else none) = _
  rw [if_pos (sortOk_pd l hl), isort_map pd leV_pd]
theorem cutD_from {α : Type} (xs : List α) (k : Nat) : Q.cutD xs (some (k : Int)) none = xs.drop k := by
  unfold Q.cutD
  rw [HT.sIx_nat, HT.sIx_none]
  rcases Nat.lt_or_ge k xs.length with h | h
  · rw [Nat.min_eq_left (Nat.le_of_lt h)]
    exact List.take_of_length_le (by rw [List.length_drop]; exact Nat.le_refl _)
  · rw [Nat.min_eq_right h, List.drop_of_length_le (Nat.le_refl _), List.drop_of_length_le h, List.take_nil]
theorem cutD_to {α : Type} (xs : List α) (k : Nat) : Q.cutD xs none (some (k : Int)) = xs.take k := by
  unfold Q.cutD
  rw [HT.sIx_nat, HT.sIx_none, List.drop_zero, Nat.sub_zero]
  rcases Nat.lt_or_ge k xs.length with h | h
  · rw [Nat.min_eq_left (Nat.le_of_lt h)]
  · rw [Nat.min_eq_right h, List.take_of_length_le (Nat.le_refl _), List.take_of_length_le h]
theorem gSl10_tup (xs : List D) (k : Nat) : gSl10 [.tup xs, .int k] = some (.tup (xs.drop k)) := by
  show some (D.tup (Q.cutD xs (some (k : Int)) none)) = _
  rw [cutD_from]
theorem gSl10_lst (xs : List D) (k : Nat) : gSl10 [.lst xs, .int k] = some (.lst (xs.drop k)) := by
  show some (D.lst (Q.cutD xs (some (k : Int)) none)) = _
  rw [cutD_from]
theorem gSl01_tup (xs : List D) (k : Nat) : gSl01 [.tup xs, .int k] = some (.tup (xs.take k)) := by
  show some (D.tup (Q.cutD xs none (some (k : Int)))) = _
  rw [cutD_to]
theorem gSl01_lst (xs : List D) (k : Nat) : gSl01 [.lst xs, .int k] = some (.lst (xs.take k)) := by
  show some (D.lst (Q.cutD xs none (some (k : Int)))) = _
  rw [cutD_to]
theorem plAll_map {γ : Type} {f : γ → D} (h : ∀ x, (f x).pl = true) (l : List γ) : D.plAll (l.map f) = true := by
  rw [D.plAll_eq]
  exact List.all_eq_true.mpr fun d hd => by
    obtain ⟨p, _, rfl⟩ := List.mem_map.mp hd
    exact h p
theorem any_int (v : Int) (ys : List Int) : ((ys.map D.int).any fun z => D.eqv z (.int v)) = decide (v ∈ ys) := by
  induction ys with
  | nil => simp
  | cons y ys ih =>
    rw [List.map_cons, List.any_cons, ih, eqv_int]
    by_cases h : y = v
    · simp [h]
    · have h2 : v ≠ y := fun z => h z.symm
      simp [h, h2]
theorem any_pd (p : Int × Int) (ys : List (Int × Int)) : ((ys.map pd).any fun z => D.eqv z (pd p)) = decide (p ∈ ys) := by
  induction ys with
  | nil => simp
  | cons y ys ih =>
    rw [List.map_cons, List.any_cons, ih, eqv_pd]
    by_cases h : y = p
    · simp [h]
    · have h2 : p ≠ y := fun z => h z.symm
      simp [h, h2]
theorem gIn_nat {neg : Bool} (v : Int) (ys : List Int) : gInS neg [.int v, .lst (ys.map .int)] = some (.bl (neg != decide (v ∈ ys))) := by
  show (if (D.pl (.int v) && D.plAll (ys.map .int) && D.sh 8 (.int v)) = true then some (D.bl (neg != (ys.map D.int).any fun z => D.eqv z (.int v))) else none) = _
  rw [plAll_map (fun _ => rfl), any_int]
  rfl
theorem gIn_natT {neg : Bool} (v : Int) (ys : List Int) : gInS neg [.int v, .tup (ys.map .int)] = some (.bl (neg != decide (v ∈ ys))) := by
  show (if (D.pl (.int v) && D.plAll (ys.map .int) && D.sh 8 (.int v)) = true then some (D.bl (neg != (ys.map D.int).any fun z => D.eqv z (.int v))) else none) = _
  rw [plAll_map (fun _ => rfl), any_int]
  rfl
theorem gIn_pd {neg : Bool} (p : Int × Int) (ys : List (Int × Int)) : gInS neg [pd p, .lst (ys.map pd)] = some (.bl (neg != decide (p ∈ ys))) := by
  show (if (D.pl (pd p) && D.plAll (ys.map pd) && D.sh 8 (pd p)) = true then some (D.bl (neg != (ys.map pd).any fun z => D.eqv z (pd p))) else none) = _
  rw [plAll_map (fun _ => rfl), any_pd]
  rfl
theorem gIn_pdT {neg : Bool} (p : Int × Int) (ys : List (Int × Int)) : gInS neg [pd p, .tup (ys.map pd)] = some (.bl (neg != decide (p ∈ ys))) := by
  show (if (D.pl (pd p) && D.plAll (ys.map pd) && D.sh 8 (pd p)) = true then some (D.bl (neg != (ys.map pd).any fun z => D.eqv z (pd p))) else none) = _
  rw [plAll_map (fun _ => rfl), any_pd]
  rfl
theorem numD_int : ∀ (zs : List Int) (n : Nat), numD n (zs.map .int) = (zs.zipIdx n).map fun p => D.tup [.int p.2, .int p.1]
  | [], _ => rfl
  | z :: zs, n => by
    show D.tup [.int n, .int z] :: numD ((n : Int) + 1) (zs.map .int) = _
    have e : (n : Int) + 1 = ((n + 1 : Nat) : Int) := by push_cast; rfl
    rw [e, numD_int zs (n + 1)]
    rfl
end Q
/-! NUM: numbers: factorials, choices, sums (plain) -/
namespace Q
def fact : Nat → Nat
  | 0 => 1
  | n + 1 => fact n * (n + 1)
def C : Nat → Nat → Nat
  | _, 0 => 1
  | 0, _ + 1 => 0
  | n + 1, k + 1 => C n k + C n (k + 1)
def dfact : Nat → Nat
  | 0 => 1
  | n + 1 => dfact n * (2 * n + 1)
theorem C_gt : ∀ {n k : Nat}, n < k → C n k = 0
  | 0, k + 1, _ => by unfold C; rfl
  | n + 1, k + 1, h => by
    unfold C
    rw [C_gt (show n < k by omega), C_gt (show n < k + 1 by omega)]
theorem C_self : ∀ n : Nat, C n n = 1
  | 0 => by unfold C; rfl
  | n + 1 => by
    unfold C
    rw [C_self n, C_gt (Nat.lt_succ_self n)]
theorem C_zero (n : Nat) : C n 0 = 1 := by cases n <;> (unfold C; rfl)
theorem C_succ (n k : Nat) : C (n + 1) (k + 1) = C n k + C n (k + 1) := by rw [C]
theorem C_step : ∀ n k : Nat, k ≤ n → C n k * (n - k) = C n (k + 1) * (k + 1)
  | 0, k, h => by
    have : k = 0 := by omega
    subst this
    decide
  | n + 1, 0, _ => by
    rw [C_succ, C_zero, C_zero]
    have ih := C_step n 0 (Nat.zero_le _)
    rw [C_zero] at ih
    omega
  | n + 1, k + 1, h => by
    have ih := C_step n k (by omega)
    rw [C_succ n k, C_succ n (k + 1), Nat.add_mul, Nat.add_mul, Nat.add_sub_add_right]
    rcases Nat.lt_or_ge k n with hk | hk
    · have ih2 := C_step n (k + 1) (by omega)
      have e1 : n - k = (n - (k + 1)) + 1 := by omega
      have e2 : C n (k + 1) * (n - k) = C n (k + 1) * (n - (k + 1)) + C n (k + 1) := by rw [e1, Nat.mul_add, Nat.mul_one]
      have e3 : C n (k + 1) * (k + 1 + 1) = C n (k + 1) * (k + 1) + C n (k + 1) := by rw [Nat.mul_add, Nat.mul_one]
      omega
    · have : k = n := by omega
      subst this
      rw [Nat.sub_self, C_gt (show k < k + 1 by omega), C_gt (show k < k + 1 + 1 by omega)]
      omega
theorem C_fact : ∀ {n k : Nat}, k ≤ n → C n k * (fact k * fact (n - k)) = fact n
  | n, 0, _ => by rw [C_zero, fact, Nat.sub_zero, Nat.one_mul, Nat.one_mul]
  | n, k + 1, h => by
    have ih := C_fact (n := n) (k := k) (by omega)
    have s := C_step n k (by omega)
    have e1 : n - k = (n - (k + 1)) + 1 := by omega
    have e2 : fact (n - k) = fact (n - (k + 1)) * (n - k) := by
      rw [e1, fact]
    rw [fact]
    calc C n (k + 1) * (fact k * (k + 1) * fact (n - (k + 1))) = (C n (k + 1) * (k + 1)) * (fact k * fact (n - (k + 1))) := by ac_rfl
      _ = (C n k * (n - k)) * (fact k * fact (n - (k + 1))) := by rw [s]
      _ = C n k * (fact k * (fact (n - (k + 1)) * (n - k))) := by ac_rfl
      _ = fact n := by rw [← e2, ih]
theorem fact_pos : ∀ n, 0 < fact n
  | 0 => by decide
  | n + 1 => Nat.mul_pos (fact_pos n) (Nat.succ_pos n)
theorem C_div {n k : Nat} (h : k ≤ n) : fact n / (fact k * fact (n - k)) = C n k := by
  rw [← C_fact h]
  exact Nat.mul_div_cancel _ (Nat.mul_pos (fact_pos _) (fact_pos _))
theorem C_symm {n k : Nat} (h : k ≤ n) : C n (n - k) = C n k := by
  rw [← C_div h, ← C_div (Nat.sub_le n k), Nat.sub_sub_self h, Nat.mul_comm]
theorem C_stepI (n k : Nat) : (C n k : Int) * ((n : Int) - k) = (C n (k + 1) : Int) * ((k : Int) + 1) := by
  rcases Nat.lt_or_ge n k with h | h
  · rw [C_gt h, C_gt (by omega)]
    simp
  · have := C_step n k h
    have e : ((n : Int) - k) = ((n - k : Nat) : Int) := by omega
    rw [e]
    exact_mod_cast this
/-! sums -/
def sumTo (n : Nat) (f : Nat → Int) : Int := match n with
  | 0 => 0
  | n + 1 => sumTo n f + f n
theorem sumTo_succ (n : Nat) (f : Nat → Int) : sumTo (n + 1) f = sumTo n f + f n := rfl
theorem sumTo_congr {f g : Nat → Int} : ∀ {n : Nat}, (∀ i, i < n → f i = g i) → sumTo n f = sumTo n g
  | 0, _ => rfl
  | n + 1, h => by
    rw [sumTo_succ, sumTo_succ, sumTo_congr fun i hi => h i (by omega), h n (by omega)]
theorem sumTo_zero {f : Nat → Int} {n : Nat} (h : ∀ i, i < n → f i = 0) : sumTo n f = 0 := by
  induction n with
  | zero => rfl
  | succ n ih => rw [sumTo_succ, ih fun i hi => h i (by omega), h n (by omega)]; rfl
theorem sumTo_add (f g : Nat → Int) : ∀ n, sumTo n (fun i => f i + g i) = sumTo n f + sumTo n g
  | 0 => rfl
  | n + 1 => by
    rw [sumTo_succ, sumTo_succ, sumTo_succ, sumTo_add f g n]
    omega
theorem sumTo_mul (c : Int) (f : Nat → Int) : ∀ n, sumTo n (fun i => c * f i) = c * sumTo n f
  | 0 => by show (0 : Int) = c * 0; rw [Int.mul_zero]
  | n + 1 => by
    rw [sumTo_succ, sumTo_succ, sumTo_mul c f n, Int.mul_add]
theorem sumTo_left (f : Nat → Int) : ∀ n, sumTo (n + 1) f = f 0 + sumTo n (fun i => f (i + 1))
  | 0 => by
    show (0 : Int) + f 0 = f 0 + 0
    omega
  | n + 1 => by
    rw [sumTo_succ, sumTo_left f n, sumTo_succ]
    omega
theorem sumTo_swap (f : Nat → Nat → Int) : ∀ n m, sumTo n (fun i => sumTo m (fun j => f i j)) = sumTo m (fun j => sumTo n (fun i => f i j))
  | 0, m => (sumTo_zero fun _ _ => rfl).symm
  | n + 1, m => by
    rw [sumTo_succ, sumTo_swap f n m, ← sumTo_add]
    rfl
/-- more terms, all 0 -/
theorem sumTo_more {f : Nat → Int} {n m : Nat} (h : n ≤ m) (z : ∀ i, n ≤ i → i < m → f i = 0) : sumTo m f = sumTo n f := by
  induction m with
  | zero =>
    have : n = 0 := by omega
    subst this
    rfl
  | succ m ih =>
    rcases Nat.lt_or_ge n (m + 1) with hn | hn
    · rw [sumTo_succ, z m (by omega) (by omega), ih (by omega) fun i h1 h2 => z i h1 (by omega)]
      omega
    · have : n = m + 1 := by omega
      subst this
      rfl
/-- a sum from a place on -/
theorem sumTo_shift (f : Nat → Int) (a : Nat) : ∀ n, sumTo (a + n) (fun i => if a ≤ i then f (i - a) else 0) = sumTo n f
  | 0 => sumTo_zero fun i hi => if_neg (by omega)
  | n + 1 => by
    rw [← Nat.add_assoc, sumTo_succ, sumTo_shift f a n, if_pos (by omega), Nat.add_sub_cancel_left]
    rfl
/-! lots of joints of e ends -/
def M (e m : Nat) : Int := (C e (2 * m) * dfact m : Nat)
theorem M_zero {e m : Nat} (h : e < 2 * m) : M e m = 0 := by
  unfold M
  rw [C_gt h, Nat.zero_mul]
  rfl
def TT (e : Nat) : Int := sumTo (e + 1) (M e)
def sgn (t : Nat) : Int := if t % 2 = 0 then 1 else -1
theorem sgn_succ (t : Nat) : sgn (t + 1) = - sgn t := by
  unfold sgn
  rcases Nat.mod_two_eq_zero_or_one t with h | h
  · have h1 : ¬ (t + 1) % 2 = 0 := by omega
    rw [if_pos h, if_neg h1]
  · have h1 : (t + 1) % 2 = 0 := by omega
    have h2 : ¬ t % 2 = 0 := by omega
    rw [if_neg h2, if_pos h1]
    rfl
def W (e q m : Nat) : Int := sumTo (q + 1) fun t => if t ≤ m then sgn t * C q t * M (e - 2 * t) (m - t) else 0
def Sp (e j n : Nat) : Int := sumTo (j + 1) fun k => if j - k ≤ n then (C j k : Int) * W (e - 2 * k) (j - k) (n - (j - k)) else 0
/-! the alternating sum -/
def Al (q : Nat) (g : Nat → Int) : Int := sumTo (q + 1) fun t => sgn t * C q t * g t
theorem Al_succ (q : Nat) (g : Nat → Int) : Al (q + 1) g = Al q g - Al q fun t => g (t + 1) := by
  unfold Al
  rw [sumTo_left, sumTo_left (fun t => sgn t * (C q t : Int) * g t)]
  have e : sumTo (q + 1) (fun i => sgn (i + 1) * (C (q + 1) (i + 1) : Int) * g (i + 1)) = sumTo (q + 1) (fun i => -1 * (sgn i * (C q i : Int) * g (i + 1))) + sumTo (q + 1) (fun i => sgn (i + 1) * (C q (i + 1) : Int) * g (i + 1)) := by
    rw [← sumTo_add]
    refine sumTo_congr fun i _ => ?_
    rw [C_succ, sgn_succ]
    push_cast
    simp only [Int.neg_mul, Int.mul_add, Int.add_mul, Int.one_mul, Int.neg_add, Int.mul_neg]
  rw [e, sumTo_mul, sumTo_succ (f := fun i => sgn (i + 1) * (C q (i + 1) : Int) * g (i + 1)), C_gt (Nat.lt_succ_self q), C_zero, C_zero]
  simp only [Int.neg_mul, Int.one_mul, Int.mul_zero, Int.zero_mul, Int.natCast_zero, Int.ofNat_zero, Int.add_zero]
  omega
def DD (j : Nat) (h : Nat → Int) : Int := sumTo (j + 1) fun k => (C j k : Int) * Al (j - k) fun t => h (k + t)
theorem DD_succ (j : Nat) (h : Nat → Int) : DD (j + 1) h = DD j h := by
  unfold DD
  rw [sumTo_left]
  have e : sumTo (j + 1) (fun k => (C (j + 1) (k + 1) : Int) * Al (j + 1 - (k + 1)) fun t => h (k + 1 + t)) = sumTo (j + 1) (fun k => (C j k : Int) * Al (j - k) fun t => h (k + 1 + t)) + sumTo (j + 1) (fun k => (C j (k + 1) : Int) * Al (j - k) fun t => h (k + 1 + t)) := by
    rw [← sumTo_add]
    refine sumTo_congr fun k _ => ?_
    rw [C_succ, Nat.add_sub_add_right]
    push_cast
    rw [Int.add_mul]
  rw [e, sumTo_succ (f := fun k => (C j (k + 1) : Int) * Al (j - k) fun t => h (k + 1 + t)), C_gt (Nat.lt_succ_self j)]
  have e2 : sumTo (j + 1) (fun k => (C j k : Int) * Al (j + 1 - k) fun t => h (k + t)) = (C (j + 1) 0 : Int) * Al (j + 1 - 0) (fun t => h (0 + t)) + sumTo j fun k => (C j (k + 1) : Int) * Al (j - k) fun t => h (k + 1 + t) := by
    rw [sumTo_left, C_zero, C_zero]
    congr 1
    refine sumTo_congr fun k _ => ?_
    rw [Nat.add_sub_add_right]
  have e3 : sumTo (j + 1) (fun k => (C j k : Int) * Al (j + 1 - k) fun t => h (k + t)) = sumTo (j + 1) (fun k => (C j k : Int) * Al (j - k) fun t => h (k + t)) + sumTo (j + 1) (fun k => -1 * ((C j k : Int) * Al (j - k) fun t => h (k + 1 + t))) := by
    rw [← sumTo_add]
    refine sumTo_congr fun k hk => ?_
    have e4 : j + 1 - k = (j - k) + 1 := by omega
    rw [e4, Al_succ]
    have e5 : (fun t => h (k + (t + 1))) = fun t => h (k + 1 + t) := by
      funext t
      congr 1
      omega
    rw [e5, Int.mul_sub]
    omega
  rw [sumTo_mul] at e3
  rw [e2] at e3
  simp only [Int.zero_mul, Int.natCast_zero, Int.ofNat_zero, Int.add_zero]
  omega
theorem DD_eq (h : Nat → Int) : ∀ j, DD j h = h 0
  | 0 => by
    unfold DD Al
    show (0 : Int) + (C 0 0 : Int) * ((0 : Int) + sgn 0 * (C 0 0 : Int) * h (0 + 0)) = h 0
    rw [C_zero]
    simp [sgn]
  | j + 1 => by rw [DD_succ, DD_eq h j]
/-! all spheres together -/
theorem sum_M (e n : Nat) (h : e ≤ 2 * n + 1) : sumTo (n + 1) (M e) = TT e := by
  unfold TT
  rcases Nat.le_total n e with h2 | h2
  · exact (sumTo_more (show n + 1 ≤ e + 1 by omega) fun i h1 _ => M_zero (by omega)).symm
  · exact sumTo_more (show e + 1 ≤ n + 1 by omega) fun i h1 _ => M_zero (by omega)
theorem sum_W (e q n : Nat) (hq : q ≤ n) (h : e ≤ 2 * n + 1) : sumTo (n + 1) (W e q) = Al q fun t => TT (e - 2 * t) := by
  unfold W Al
  rw [sumTo_swap (fun m t => if t ≤ m then sgn t * (C q t : Int) * M (e - 2 * t) (m - t) else 0)]
  refine sumTo_congr fun t ht => ?_
  obtain ⟨r, rfl⟩ : ∃ r, n = t + r := ⟨n - t, by omega⟩
  have s := sumTo_shift (fun m => sgn t * (C q t : Int) * M (e - 2 * t) m) t (r + 1)
  rw [← Nat.add_assoc] at s
  rw [s, sumTo_mul, sum_M _ _ (by omega)]
theorem sum_Sp (e j N : Nat) (h1 : 2 * j ≤ e) (h2 : e ≤ N) : sumTo (N + 1) (Sp e j) = TT e := by
  unfold Sp
  rw [sumTo_swap (fun n k => if j - k ≤ n then (C j k : Int) * W (e - 2 * k) (j - k) (n - (j - k)) else 0)]
  have e1 : DD j (fun s => TT (e - 2 * s)) = TT e := by rw [DD_eq]; rfl
  rw [← e1]
  unfold DD
  refine sumTo_congr fun k hk => ?_
  obtain ⟨r, hr⟩ : ∃ r, N + 1 = (j - k) + (r + 1) := ⟨N - (j - k), by omega⟩
  have s := sumTo_shift (fun m => (C j k : Int) * W (e - 2 * k) (j - k) m) (j - k) (r + 1)
  rw [hr, s, sumTo_mul, sum_W _ _ _ (by omega) (by omega)]
  congr 2
  funext t
  congr 1
  omega
/-- one more number -/
theorem Sp_out {e j n : Nat} (h1 : 2 * j ≤ e) (h2 : e < n) : Sp e j n = 0 := by
  unfold Sp
  refine sumTo_zero fun k hk => ?_
  rw [if_pos (by omega)]
  unfold W
  rw [sumTo_zero, Int.mul_zero]
  intro t ht
  split
  · rw [M_zero (by omega), Int.mul_zero]
  · rfl
end Q
set_option Elab.async false
set_option linter.all false
set_option maxRecDepth 100000
set_option maxHeartbeats 0
namespace G76
open PySem PySem.Spec PyProof.Rows L2 Q PySem.SeqAt
def top (i : Nat) : Stmt := (PySem.W.OpenLaw.row PySem.Challenge.rw_jointmaps_k76_whole_map_counts).prog.main.body.getD i (.Pass ⟨0, 0, 0, 0⟩)
structure Top (K : KK) (mg : PySem.Str → Option Value) : Prop where
  d_is_whole : DefAt K.f "is_whole" (top 7)
  g_is_whole : mg "is_whole" = some (.ref (He.ga K.f "is_whole"))
  d_is_between : DefAt K.f "is_between" (top 8)
  g_is_between : mg "is_between" = some (.ref (He.ga K.f "is_between"))
  d_is_up_to : DefAt K.f "is_up_to" (top 9)
  g_is_up_to : mg "is_up_to" = some (.ref (He.ga K.f "is_up_to"))
  d_is_named : DefAt K.f "is_named" (top 10)
  g_is_named : mg "is_named" = some (.ref (He.ga K.f "is_named"))
  d_is_tuple_up_to : DefAt K.f "is_tuple_up_to" (top 11)
  g_is_tuple_up_to : mg "is_tuple_up_to" = some (.ref (He.ga K.f "is_tuple_up_to"))
  d_is_tuple_of : DefAt K.f "is_tuple_of" (top 12)
  g_is_tuple_of : mg "is_tuple_of" = some (.ref (He.ga K.f "is_tuple_of"))
  d_is_pair : DefAt K.f "is_pair" (top 13)
  g_is_pair : mg "is_pair" = some (.ref (He.ga K.f "is_pair"))
  d_are_rising : DefAt K.f "are_rising" (top 14)
  g_are_rising : mg "are_rising" = some (.ref (He.ga K.f "are_rising"))
  d_are_unlike : DefAt K.f "are_unlike" (top 15)
  g_are_unlike : mg "are_unlike" = some (.ref (He.ga K.f "are_unlike"))
  d_is_end_of : DefAt K.f "is_end_of" (top 18)
  g_is_end_of : mg "is_end_of" = some (.ref (He.ga K.f "is_end_of"))
  d_is_joint_of : DefAt K.f "is_joint_of" (top 19)
  g_is_joint_of : mg "is_joint_of" = some (.ref (He.ga K.f "is_joint_of"))
  d_ends_in : DefAt K.f "ends_in" (top 20)
  g_ends_in : mg "ends_in" = some (.ref (He.ga K.f "ends_in"))
  d_are_joints_of : DefAt K.f "are_joints_of" (top 21)
  g_are_joints_of : mg "are_joints_of" = some (.ref (He.ga K.f "are_joints_of"))
  d_is_any_map : DefAt K.f "is_any_map" (top 22)
  g_is_any_map : mg "is_any_map" = some (.ref (He.ga K.f "is_any_map"))
  d_check_blocks : DefAt K.f "check_blocks" (top 23)
  g_check_blocks : mg "check_blocks" = some (.ref (He.ga K.f "check_blocks"))
  d_check_chart : DefAt K.f "check_chart" (top 24)
  g_check_chart : mg "check_chart" = some (.ref (He.ga K.f "check_chart"))
  d_factorial : DefAt K.f "factorial" (top 26)
  g_factorial : mg "factorial" = some (.ref (He.ga K.f "factorial"))
  d_choices : DefAt K.f "choices" (top 27)
  g_choices : mg "choices" = some (.ref (He.ga K.f "choices"))
  d_pairings : DefAt K.f "pairings" (top 28)
  g_pairings : mg "pairings" = some (.ref (He.ga K.f "pairings"))
  d_blocks_of : DefAt K.f "blocks_of" (top 30)
  g_blocks_of : mg "blocks_of" = some (.ref (He.ga K.f "blocks_of"))
  d_joints_of : DefAt K.f "joints_of" (top 31)
  g_joints_of : mg "joints_of" = some (.ref (He.ga K.f "joints_of"))
  d_mate_of : DefAt K.f "mate_of" (top 32)
  g_mate_of : mg "mate_of" = some (.ref (He.ga K.f "mate_of"))
  d_joint_of : DefAt K.f "joint_of" (top 33)
  g_joint_of : mg "joint_of" = some (.ref (He.ga K.f "joint_of"))
  d_made_map : DefAt K.f "made_map" (top 34)
  g_made_map : mg "made_map" = some (.ref (He.ga K.f "made_map"))
  d_partners_of : DefAt K.f "partners_of" (top 35)
  g_partners_of : mg "partners_of" = some (.ref (He.ga K.f "partners_of"))
  d_free_by : DefAt K.f "free_by" (top 36)
  g_free_by : mg "free_by" = some (.ref (He.ga K.f "free_by"))
  d_map_count_of : DefAt K.f "map_count_of" (top 38)
  g_map_count_of : mg "map_count_of" = some (.ref (He.ga K.f "map_count_of"))
  d_map_count_in_all : DefAt K.f "map_count_in_all" (top 39)
  g_map_count_in_all : mg "map_count_in_all" = some (.ref (He.ga K.f "map_count_in_all"))
  d_free_behind : DefAt K.f "free_behind" (top 40)
  g_free_behind : mg "free_behind" = some (.ref (He.ga K.f "free_behind"))
  d_grown_at : DefAt K.f "grown_at" (top 41)
  g_grown_at : mg "grown_at" = some (.ref (He.ga K.f "grown_at"))
  d_all_maps_by : DefAt K.f "all_maps_by" (top 42)
  g_all_maps_by : mg "all_maps_by" = some (.ref (He.ga K.f "all_maps_by"))
  d_map_count : DefAt K.f "map_count" (top 45)
  g_map_count : mg "map_count" = some (.ref (He.ga K.f "map_count"))
  d_map_count_by : DefAt K.f "map_count_by" (top 46)
  g_map_count_by : mg "map_count_by" = some (.ref (He.ga K.f "map_count_by"))
  d_all_maps : DefAt K.f "all_maps" (top 47)
  g_all_maps : mg "all_maps" = some (.ref (He.ga K.f "all_maps"))
  d_is_map : DefAt K.f "is_map" (top 49)
  g_is_map : mg "is_map" = some (.ref (He.ga K.f "is_map"))
  d_walk_from : DefAt K.f "walk_from" (top 53)
  g_walk_from : mg "walk_from" = some (.ref (He.ga K.f "walk_from"))
  d_turned_round : DefAt K.f "turned_round" (top 54)
  g_turned_round : mg "turned_round" = some (.ref (He.ga K.f "turned_round"))
  d_row_reading : DefAt K.f "row_reading" (top 55)
  g_row_reading : mg "row_reading" = some (.ref (He.ga K.f "row_reading"))
  d_turns_of : DefAt K.f "turns_of" (top 56)
  g_turns_of : mg "turns_of" = some (.ref (He.ga K.f "turns_of"))
  d_ring_reading : DefAt K.f "ring_reading" (top 57)
  g_ring_reading : mg "ring_reading" = some (.ref (He.ga K.f "ring_reading"))
  d_rows_by : DefAt K.f "rows_by" (top 58)
  g_rows_by : mg "rows_by" = some (.ref (He.ga K.f "rows_by"))
  d_rings_by : DefAt K.f "rings_by" (top 59)
  g_rings_by : mg "rings_by" = some (.ref (He.ga K.f "rings_by"))
  d_pieces_by : DefAt K.f "pieces_by" (top 60)
  g_pieces_by : mg "pieces_by" = some (.ref (He.ga K.f "pieces_by"))
  d_joints_of_steps : DefAt K.f "joints_of_steps" (top 61)
  g_joints_of_steps : mg "joints_of_steps" = some (.ref (He.ga K.f "joints_of_steps"))
  d_map_by : DefAt K.f "map_by" (top 62)
  g_map_by : mg "map_by" = some (.ref (He.ga K.f "map_by"))
  d_is_piece_in : DefAt K.f "is_piece_in" (top 64)
  g_is_piece_in : mg "is_piece_in" = some (.ref (He.ga K.f "is_piece_in"))
  d_enters_anew : DefAt K.f "enters_anew" (top 65)
  g_enters_anew : mg "enters_anew" = some (.ref (He.ga K.f "enters_anew"))
  d_wrong_in_pieces : DefAt K.f "wrong_in_pieces" (top 66)
  g_wrong_in_pieces : mg "wrong_in_pieces" = some (.ref (He.ga K.f "wrong_in_pieces"))
  d_pieces : DefAt K.f "pieces" (top 67)
  g_pieces : mg "pieces" = some (.ref (He.ga K.f "pieces"))
  d_map_of : DefAt K.f "map_of" (top 68)
  g_map_of : mg "map_of" = some (.ref (He.ga K.f "map_of"))
  d__law_well : DefAt K.f "_law_well" (top 70)
  g__law_well : mg "_law_well" = some (.ref (He.ga K.f "_law_well"))
  d__law_take : DefAt K.f "_law_take" (top 71)
  g__law_take : mg "_law_take" = some (.ref (He.ga K.f "_law_take"))
  d__law_same : DefAt K.f "_law_same" (top 72)
  g__law_same : mg "_law_same" = some (.ref (He.ga K.f "_law_same"))
  d__law_mate : DefAt K.f "_law_mate" (top 73)
  g__law_mate : mg "_law_mate" = some (.ref (He.ga K.f "_law_mate"))
  d__law_partners : DefAt K.f "_law_partners" (top 74)
  g__law_partners : mg "_law_partners" = some (.ref (He.ga K.f "_law_partners"))
  d__law_reading : DefAt K.f "_law_reading" (top 75)
  g__law_reading : mg "_law_reading" = some (.ref (He.ga K.f "_law_reading"))
  d__law_pieces : DefAt K.f "_law_pieces" (top 76)
  g__law_pieces : mg "_law_pieces" = some (.ref (He.ga K.f "_law_pieces"))
  d__law_choose : DefAt K.f "_law_choose" (top 77)
  g__law_choose : mg "_law_choose" = some (.ref (He.ga K.f "_law_choose"))
  d__law_pairings : DefAt K.f "_law_pairings" (top 78)
  g__law_pairings : mg "_law_pairings" = some (.ref (He.ga K.f "_law_pairings"))
  d__law_all_maps : DefAt K.f "_law_all_maps" (top 79)
  g__law_all_maps : mg "_law_all_maps" = some (.ref (He.ga K.f "_law_all_maps"))
  d__law_by_rows : DefAt K.f "_law_by_rows" (top 80)
  g__law_by_rows : mg "_law_by_rows" = some (.ref (He.ga K.f "_law_by_rows"))
  d__law_count : DefAt K.f "_law_count" (top 81)
  g__law_count : mg "_law_count" = some (.ref (He.ga K.f "_law_count"))
  d__law_is_told : DefAt K.f "_law_is_told" (top 82)
  g__law_is_told : mg "_law_is_told" = some (.ref (He.ga K.f "_law_is_told"))
  d__law_all_right : DefAt K.f "_law_all_right" (top 83)
  g__law_all_right : mg "_law_all_right" = some (.ref (He.ga K.f "_law_all_right"))
  d__law_right : DefAt K.f "_law_right" (top 84)
  g__law_right : mg "_law_right" = some (.ref (He.ga K.f "_law_right"))
  d_law : DefAt K.f "law" (top 85)
  g_law : mg "law" = some (.ref (He.ga K.f "law"))
  b_abs : mg "abs" = none
  b_all : mg "all" = none
  b_any : mg "any" = none
  b_bool : mg "bool" = none
  b_dict : mg "dict" = none
  b_divmod : mg "divmod" = none
  b_enumerate : mg "enumerate" = none
  b_int : mg "int" = none
  b_isinstance : mg "isinstance" = none
  b_len : mg "len" = none
  b_list : mg "list" = none
  b_max : mg "max" = none
  b_min : mg "min" = none
  b_range : mg "range" = none
  b_reversed : mg "reversed" = none
  b_sorted : mg "sorted" = none
  b_str : mg "str" = none
  b_sum : mg "sum" = none
  b_tuple : mg "tuple" = none
  b_zip : mg "zip" = none
  c_MOST_BLOCKS : ∃ t, mg "MOST_BLOCKS" = some (.int 40 t)
  c_MOST_LISTED : ∃ t, mg "MOST_LISTED" = some (.int 3 t)
  c_ROW : ∃ t, mg "ROW" = some (.str "row" t)
  c_RING : ∃ t, mg "RING" = some (.str "ring" t)
variable {K : KK} {mg : PySem.Str → Option Value} {base : Heap} {cls : Nat → Option Addr}
/-! is_whole -/
def S_is_whole : Scope := by
  have e : defScope (top 7) = defScope (top 7) := rfl
  conv at e => rhs; whnf
  exact rhsOf e
def B_is_whole : List Stmt := by
  have e : defBody (top 7) = defBody (top 7) := rfl
  conv at e => rhs; whnf
  exact rhsOf e
theorem sc_is_whole : FnScope ["value"] ["value"] S_is_whole := ⟨rfl, rfl, rfl, by decide +kernel, rfl, by decide +kernel, by decide +kernel⟩
def m_is_whole : MS → SR := (sRet (eAnd (eOp (gIsi [.int]) [(.val (eV 0))]) (eNot (eOp (gIsi [.bl]) [(.val (eV 0))]))))
def f_is_whole : FM := (runF 1 [false] m_is_whole).safe
theorem ok_is_whole (T : Top K mg) : DefOk K mg base cls 1 "is_whole" (top 7) ["value"] [false] false f_is_whole := defOk T.d_is_whole T.g_is_whole (fun _ _ _ _ _ _ us hl => match us, hl with | [_], _ => by kernel_rfl) fun f fd F => fn_okS (k := 0) [false] [] false F rfl rfl rfl sc_is_whole rfl (by decide) fun cdv A outer s H vs E hr _ => have sc := sc_is_whole
  (ms_one (ms_ret (me_and (me_isi rfl .int rfl T.b_isinstance rfl T.b_int boot_int (mo_val me_vs)) (me_one (me_not (me_isi rfl .bl rfl T.b_isinstance rfl T.b_bool boot_bool (mo_val me_vs)))))))
/-! is_between -/
def S_is_between : Scope := by
  have e : defScope (top 8) = defScope (top 8) := rfl
  conv at e => rhs; whnf
  exact rhsOf e
def B_is_between : List Stmt := by
  have e : defBody (top 8) = defBody (top 8) := rfl
  conv at e => rhs; whnf
  exact rhsOf e
theorem sc_is_between : FnScope ["value", "low", "high"] ["value", "low", "high"] S_is_between := ⟨rfl, rfl, rfl, by decide +kernel, rfl, by decide +kernel, by decide +kernel⟩
def m_is_between : MS → SR := (sRet (eAnd (eCall f_is_whole [(.val (eV 0))]) (eCh gLeA gLeA (eV 1) (eV 0) (eV 2))))
def f_is_between : FM := (runF 3 [false, false, false] m_is_between).safe
theorem ok_is_between (T : Top K mg) : DefOk K mg base cls 2 "is_between" (top 8) ["value", "low", "high"] [false, false, false] false f_is_between := defOk T.d_is_between T.g_is_between (fun _ _ _ _ _ _ us hl => match us, hl with | [_, _, _], _ => by kernel_rfl) fun f fd F => fn_okS (k := 1) [false, false, false] [] false F rfl rfl rfl sc_is_between rfl (by decide) fun cdv A outer s H vs E hr _ => have sc := sc_is_between
  (ms_one (ms_ret (me_and (me_callD ⟨rfl, rfl, rfl, rfl⟩ (ok_is_whole T) hr (by omega) rfl (mc_val me_vs mc_nil) rfl (by decide)) (me_one (me_chain (op_leQ rfl hr.units) (op_leQ rfl hr.units) opd_ord opd_ord me_vs me_vs me_vs)))))
/-! is_up_to -/
def S_is_up_to : Scope := by
  have e : defScope (top 9) = defScope (top 9) := rfl
  conv at e => rhs; whnf
  exact rhsOf e
def B_is_up_to : List Stmt := by
  have e : defBody (top 9) = defBody (top 9) := rfl
  conv at e => rhs; whnf
  exact rhsOf e
theorem sc_is_up_to : FnScope ["value", "most"] ["value", "most"] S_is_up_to := ⟨rfl, rfl, rfl, by decide +kernel, rfl, by decide +kernel, by decide +kernel⟩
def m_is_up_to : MS → SR := (sRet (eCall f_is_between [(.val (eV 0)), (.val (eK (.int 0))), (.val (eV 1))]))
def f_is_up_to : FM := (runF 2 [false, false] m_is_up_to).safe
theorem ok_is_up_to (T : Top K mg) : DefOk K mg base cls 3 "is_up_to" (top 9) ["value", "most"] [false, false] false f_is_up_to := defOk T.d_is_up_to T.g_is_up_to (fun _ _ _ _ _ _ us hl => match us, hl with | [_, _], _ => by kernel_rfl) fun f fd F => fn_okS (k := 2) [false, false] [] false F rfl rfl rfl sc_is_up_to rfl (by decide) fun cdv A outer s H vs E hr _ => have sc := sc_is_up_to
  (ms_one (ms_ret (me_callD ⟨rfl, rfl, rfl, rfl⟩ (ok_is_between T) hr (by omega) rfl (mc_val me_vs (mc_val me_int (mc_val me_vs mc_nil))) rfl (by decide))))
/-! is_named -/
def S_is_named : Scope := by
  have e : defScope (top 10) = defScope (top 10) := rfl
  conv at e => rhs; whnf
  exact rhsOf e
def B_is_named : List Stmt := by
  have e : defBody (top 10) = defBody (top 10) := rfl
  conv at e => rhs; whnf
  exact rhsOf e
theorem sc_is_named : FnScope ["value", "names"] ["value", "names"] S_is_named := ⟨rfl, rfl, rfl, by decide +kernel, rfl, by decide +kernel, by decide +kernel⟩
def m_is_named : MS → SR := (sRet (eAnd (eOp (gIsi [.str]) [(.val (eV 0))]) (eOp gInA [(.val (eV 0)), (.val (eV 1))])))
def f_is_named : FM := (runF 2 [false, false] m_is_named).safe
theorem ok_is_named (T : Top K mg) : DefOk K mg base cls 1 "is_named" (top 10) ["value", "names"] [false, false] false f_is_named := defOk T.d_is_named T.g_is_named (fun _ _ _ _ _ _ us hl => match us, hl with | [_, _], _ => by kernel_rfl) fun f fd F => fn_okS (k := 0) [false, false] [] false F rfl rfl rfl sc_is_named rfl (by decide) fun cdv A outer s H vs E hr _ => have sc := sc_is_named
  (ms_one (ms_ret (me_and (me_isi rfl .str rfl T.b_isinstance rfl T.b_str boot_str (mo_val me_vs)) (me_one (me_inA ⟨rfl, rfl, rfl, rfl⟩ rfl hr.units (mo_val me_vs) (mo_val me_vs))))))
/-! is_tuple_up_to -/
def S_is_tuple_up_to : Scope := by
  have e : defScope (top 11) = defScope (top 11) := rfl
  conv at e => rhs; whnf
  exact rhsOf e
def B_is_tuple_up_to : List Stmt := by
  have e : defBody (top 11) = defBody (top 11) := rfl
  conv at e => rhs; whnf
  exact rhsOf e
theorem sc_is_tuple_up_to : FnScope ["value", "low", "high"] ["value", "low", "high"] S_is_tuple_up_to := ⟨rfl, rfl, rfl, by decide +kernel, rfl, by decide +kernel, by decide +kernel⟩
def m_is_tuple_up_to : MS → SR := (sRet (eAnd (eOp (gIsi [.tup]) [(.val (eV 0))]) (eCh gLeA gLeA (eV 1) (eOp gLen [(.val (eV 0))]) (eV 2))))
def f_is_tuple_up_to : FM := (runF 3 [false, false, false] m_is_tuple_up_to).safe
theorem ok_is_tuple_up_to (T : Top K mg) : DefOk K mg base cls 1 "is_tuple_up_to" (top 11) ["value", "low", "high"] [false, false, false] false f_is_tuple_up_to := defOk T.d_is_tuple_up_to T.g_is_tuple_up_to (fun _ _ _ _ _ _ us hl => match us, hl with | [_, _, _], _ => by kernel_rfl) fun f fd F => fn_okS (k := 0) [false, false, false] [] false F rfl rfl rfl sc_is_tuple_up_to rfl (by decide) fun cdv A outer s H vs E hr _ => have sc := sc_is_tuple_up_to
  (ms_one (ms_ret (me_and (me_isi rfl .tup rfl T.b_isinstance rfl T.b_tuple boot_tuple (mo_val me_vs)) (me_one (me_chain (op_leQ rfl hr.units) (op_leQ rfl hr.units) opd_ord opd_ord me_vs (me_callB call_len opd_len rfl T.b_len boot_len (ma_cons (mo_val me_vs) ma_nil)) me_vs)))))
/-! is_tuple_of -/
def S_is_tuple_of : Scope := by
  have e : defScope (top 12) = defScope (top 12) := rfl
  conv at e => rhs; whnf
  exact rhsOf e
def B_is_tuple_of : List Stmt := by
  have e : defBody (top 12) = defBody (top 12) := rfl
  conv at e => rhs; whnf
  exact rhsOf e
theorem sc_is_tuple_of : FnScope ["value", "many"] ["value", "many"] S_is_tuple_of := ⟨rfl, rfl, rfl, by decide +kernel, rfl, by decide +kernel, by decide +kernel⟩
def m_is_tuple_of : MS → SR := (sRet (eCall f_is_tuple_up_to [(.val (eV 0)), (.val (eV 1)), (.val (eV 1))]))
def f_is_tuple_of : FM := (runF 2 [false, false] m_is_tuple_of).safe
theorem ok_is_tuple_of (T : Top K mg) : DefOk K mg base cls 2 "is_tuple_of" (top 12) ["value", "many"] [false, false] false f_is_tuple_of := defOk T.d_is_tuple_of T.g_is_tuple_of (fun _ _ _ _ _ _ us hl => match us, hl with | [_, _], _ => by kernel_rfl) fun f fd F => fn_okS (k := 1) [false, false] [] false F rfl rfl rfl sc_is_tuple_of rfl (by decide) fun cdv A outer s H vs E hr _ => have sc := sc_is_tuple_of
  (ms_one (ms_ret (me_callD ⟨rfl, rfl, rfl, rfl⟩ (ok_is_tuple_up_to T) hr (by omega) rfl (mc_val me_vs (mc_val me_vs (mc_val me_vs mc_nil))) rfl (by decide))))
/-! is_pair -/
def S_is_pair : Scope := by
  have e : defScope (top 13) = defScope (top 13) := rfl
  conv at e => rhs; whnf
  exact rhsOf e
def B_is_pair : List Stmt := by
  have e : defBody (top 13) = defBody (top 13) := rfl
  conv at e => rhs; whnf
  exact rhsOf e
theorem sc_is_pair : FnScope ["value"] ["value"] S_is_pair := ⟨rfl, rfl, rfl, by decide +kernel, rfl, by decide +kernel, by decide +kernel⟩
def m_is_pair : MS → SR := (sRet (eCall f_is_tuple_of [(.val (eV 0)), (.val (eK (.int 2)))]))
def f_is_pair : FM := (runF 1 [false] m_is_pair).safe
theorem ok_is_pair (T : Top K mg) : DefOk K mg base cls 3 "is_pair" (top 13) ["value"] [false] false f_is_pair := defOk T.d_is_pair T.g_is_pair (fun _ _ _ _ _ _ us hl => match us, hl with | [_], _ => by kernel_rfl) fun f fd F => fn_okS (k := 2) [false] [] false F rfl rfl rfl sc_is_pair rfl (by decide) fun cdv A outer s H vs E hr _ => have sc := sc_is_pair
  (ms_one (ms_ret (me_callD ⟨rfl, rfl, rfl, rfl⟩ (ok_is_tuple_of T) hr (by omega) rfl (mc_val me_vs (mc_val me_int mc_nil)) rfl (by decide))))
/-! are_rising -/
def S_are_rising : Scope := by
  have e : defScope (top 14) = defScope (top 14) := rfl
  conv at e => rhs; whnf
  exact rhsOf e
def B_are_rising : List Stmt := by
  have e : defBody (top 14) = defBody (top 14) := rfl
  conv at e => rhs; whnf
  exact rhsOf e
theorem sc_are_rising : FnScope ["values", "one", "two"] ["values"] S_are_rising := ⟨rfl, rfl, rfl, by decide +kernel, rfl, by decide +kernel, by decide +kernel⟩
def m_are_rising : MS → SR := (sRet (eOp gAll [(.val (eLc [1, 2] (iZip (eV 0) (eOp gSl10 [(.val (eV 0)), (.val (eK (.int 1)))])) (gTp 2 (gsCons (gNm 1) (gsCons (gNm 2) gsNil))) tYesM (eOp gLtA [(.val (eV 1)), (.val (eV 2))])))]))
def f_are_rising : FM := (runF 3 [false] m_are_rising).safe
theorem ok_are_rising (T : Top K mg) : DefOk K mg base cls 1 "are_rising" (top 14) ["values"] [false] false f_are_rising := defOk T.d_are_rising T.g_are_rising (fun _ _ _ _ _ _ us hl => match us, hl with | [_], _ => by kernel_rfl) fun f fd F => fn_okS (k := 0) [false] [] false F rfl rfl rfl sc_are_rising rfl (by decide) fun cdv A outer s H vs E hr _ => have sc := sc_are_rising
  (ms_one (ms_ret (me_callB (cr_all rfl) opd_all rfl T.b_all boot_all (ma_cons (mo_val (ME.fz (me_lcO (own := [("one", 1), ("two", 2)]) rfl sc.nd (ownOut rfl) (mi_zip rfl rfl T.b_zip (mv_cons me_vs (mv_cons (me_sl10 rfl (mo_val me_vs) (mo_val me_int)) mv_nil))) (blkOk_by rfl) (fun _ _ _ _ _ => (mgc_tup rfl rfl (mgcs_cons (mgc_name sc.nd rfl (by decide) rfl (.inl rfl)) (mgcs_cons (mgc_name sc.nd rfl (by decide) rfl (.inl rfl)) mgcs_nil)))) (fun _ _ _ _ _ => mts_nil) (fun _ _ _ _ _ => (me_ltA rfl hr.units (mo_val me_vs) (mo_val me_vs)))))) ma_nil))))
/-! are_unlike -/
def S_are_unlike : Scope := by
  have e : defScope (top 15) = defScope (top 15) := rfl
  conv at e => rhs; whnf
  exact rhsOf e
def B_are_unlike : List Stmt := by
  have e : defBody (top 15) = defBody (top 15) := rfl
  conv at e => rhs; whnf
  exact rhsOf e
theorem sc_are_unlike : FnScope ["values", "at", "value"] ["values"] S_are_unlike := ⟨rfl, rfl, rfl, by decide +kernel, rfl, by decide +kernel, by decide +kernel⟩
def m_are_unlike : MS → SR := (sRet (eOp gAll [(.val (eLc [1, 2] (iEnumA (eV 0)) (gTp 2 (gsCons (gNm 1) (gsCons (gNm 2) gsNil))) tYesM (eOp gNotInA [(.val (eV 2)), (.val (eOp gSl01 [(.val (eV 0)), (.val (eV 1))]))])))]))
def f_are_unlike : FM := (runF 3 [false] m_are_unlike).safe
theorem ok_are_unlike (T : Top K mg) : DefOk K mg base cls 1 "are_unlike" (top 15) ["values"] [false] false f_are_unlike := defOk T.d_are_unlike T.g_are_unlike (fun _ _ _ _ _ _ us hl => match us, hl with | [_], _ => by kernel_rfl) fun f fd F => fn_okS (k := 0) [false] [] false F rfl rfl rfl sc_are_unlike rfl (by decide) fun cdv A outer s H vs E hr _ => have sc := sc_are_unlike
  (ms_one (ms_ret (me_callB (cr_all rfl) opd_all rfl T.b_all boot_all (ma_cons (mo_val (ME.fz (me_lcO (own := [("at", 1), ("value", 2)]) rfl sc.nd (ownOut rfl) (mi_enumA rfl rfl T.b_enumerate (mv_cons me_vs mv_nil)) (blkOk_by rfl) (fun _ _ _ _ _ => (mgc_tup rfl rfl (mgcs_cons (mgc_name sc.nd rfl (by decide) rfl (.inl rfl)) (mgcs_cons (mgc_name sc.nd rfl (by decide) rfl (.inl rfl)) mgcs_nil)))) (fun _ _ _ _ _ => mts_nil) (fun _ _ _ _ _ => (me_notInA ⟨rfl, rfl, rfl, rfl⟩ rfl hr.units (mo_val me_vs) (mo_val (me_sl01 rfl (mo_val me_vs) (mo_val me_vs)))))))) ma_nil))))
/-! is_end_of -/
def S_is_end_of : Scope := by
  have e : defScope (top 18) = defScope (top 18) := rfl
  conv at e => rhs; whnf
  exact rhsOf e
def B_is_end_of : List Stmt := by
  have e : defBody (top 18) = defBody (top 18) := rfl
  conv at e => rhs; whnf
  exact rhsOf e
theorem sc_is_end_of : FnScope ["value", "blocks"] ["value", "blocks"] S_is_end_of := ⟨rfl, rfl, rfl, by decide +kernel, rfl, by decide +kernel, by decide +kernel⟩
def m_is_end_of : MS → SR := (sRet (eCall f_is_up_to [(.val (eV 0)), (.val (eOp gSub [(.val (eOp gMul [(.val (eK (.int 2))), (.val (eV 1))])), (.val (eK (.int 1)))]))]))
def f_is_end_of : FM := (runF 2 [false, false] m_is_end_of).safe
theorem ok_is_end_of (T : Top K mg) : DefOk K mg base cls 4 "is_end_of" (top 18) ["value", "blocks"] [false, false] false f_is_end_of := defOk T.d_is_end_of T.g_is_end_of (fun _ _ _ _ _ _ us hl => match us, hl with | [_, _], _ => by kernel_rfl) fun f fd F => fn_okS (k := 3) [false, false] [] false F rfl rfl rfl sc_is_end_of rfl (by decide) fun cdv A outer s H vs E hr _ => have sc := sc_is_end_of
  (ms_one (ms_ret (me_callD ⟨rfl, rfl, rfl, rfl⟩ (ok_is_up_to T) hr (by omega) rfl (mc_val me_vs (mc_val (me_sub (mo_val (me_mul (mo_val me_int) (mo_val me_vs))) (mo_val me_int)) mc_nil)) rfl (by decide))))
/-! is_joint_of -/
def S_is_joint_of : Scope := by
  have e : defScope (top 19) = defScope (top 19) := rfl
  conv at e => rhs; whnf
  exact rhsOf e
def B_is_joint_of : List Stmt := by
  have e : defBody (top 19) = defBody (top 19) := rfl
  conv at e => rhs; whnf
  exact rhsOf e
theorem sc_is_joint_of : FnScope ["value", "blocks"] ["value", "blocks"] S_is_joint_of := ⟨rfl, rfl, rfl, by decide +kernel, rfl, by decide +kernel, by decide +kernel⟩
def m_is_joint_of : MS → SR := (sRet (eAnd (eCall f_is_pair [(.val (eV 0))]) (eAnd (eCall f_is_end_of [(.val (eOp gIdx [(.val (eV 0)), (.val (eK (.int 0)))])), (.val (eV 1))]) (eAnd (eCall f_is_end_of [(.val (eOp gIdx [(.val (eV 0)), (.val (eK (.int 1)))])), (.val (eV 1))]) (eOp gLtA [(.val (eOp gIdx [(.val (eV 0)), (.val (eK (.int 0)))])), (.val (eOp gIdx [(.val (eV 0)), (.val (eK (.int 1)))]))])))))
def f_is_joint_of : FM := (runF 2 [false, false] m_is_joint_of).safe
theorem ok_is_joint_of (T : Top K mg) : DefOk K mg base cls 5 "is_joint_of" (top 19) ["value", "blocks"] [false, false] false f_is_joint_of := defOk T.d_is_joint_of T.g_is_joint_of (fun _ _ _ _ _ _ us hl => match us, hl with | [_, _], _ => by kernel_rfl) fun f fd F => fn_okS (k := 4) [false, false] [] false F rfl rfl rfl sc_is_joint_of rfl (by decide) fun cdv A outer s H vs E hr _ => have sc := sc_is_joint_of
  (ms_one (ms_ret (me_and (me_callD ⟨rfl, rfl, rfl, rfl⟩ (ok_is_pair T) hr (by omega) rfl (mc_val me_vs mc_nil) rfl (by decide)) (me_and (me_callD ⟨rfl, rfl, rfl, rfl⟩ (ok_is_end_of T) hr (by omega) rfl (mc_val (me_idx rfl (mo_val me_vs) (mo_val me_int)) (mc_val me_vs mc_nil)) rfl (by decide)) (me_and (me_callD ⟨rfl, rfl, rfl, rfl⟩ (ok_is_end_of T) hr (by omega) rfl (mc_val (me_idx rfl (mo_val me_vs) (mo_val me_int)) (mc_val me_vs mc_nil)) rfl (by decide)) (me_one (me_ltA rfl hr.units (mo_val (me_idx rfl (mo_val me_vs) (mo_val me_int))) (mo_val (me_idx rfl (mo_val me_vs) (mo_val me_int))))))))))
/-! ends_in -/
def S_ends_in : Scope := by
  have e : defScope (top 20) = defScope (top 20) := rfl
  conv at e => rhs; whnf
  exact rhsOf e
def B_ends_in : List Stmt := by
  have e : defBody (top 20) = defBody (top 20) := rfl
  conv at e => rhs; whnf
  exact rhsOf e
theorem sc_ends_in : FnScope ["joints", "joint", "end"] ["joints"] S_ends_in := ⟨rfl, rfl, rfl, by decide +kernel, rfl, by decide +kernel, by decide +kernel⟩
def m_ends_in : MS → SR := (sRet (eLc2 [1, 2] (iSeq (eV 0)) (gNm 1) tYesM [2] (iSeq (eV 1)) (gNm 2) tYesM (eV 2)))
def f_ends_in : FM := (runF 3 [false] m_ends_in).safe
theorem ok_ends_in (T : Top K mg) : DefOk K mg base cls 1 "ends_in" (top 20) ["joints"] [false] false f_ends_in := defOk T.d_ends_in T.g_ends_in (fun _ _ _ _ _ _ us hl => match us, hl with | [_], _ => by kernel_rfl) fun f fd F => fn_okS (k := 0) [false] [] false F rfl rfl rfl sc_ends_in rfl (by decide) fun cdv A outer s H vs E hr _ => have sc := sc_ends_in
  (ms_one (ms_ret (ME.fz (me_lc2O (own := [("joint", 1), ("end", 2)]) (vs1 := [2]) rfl sc.nd (ownOut rfl) (mi_seq rfl me_vs) (blkOk_by rfl) (vsIn rfl) (fun _ _ _ _ _ => (mgc_name sc.nd rfl (by decide) rfl (.inl rfl))) (fun _ _ _ _ _ => mts_nil) (fun _ _ _ _ _ => (mi_seq rfl me_vs)) (fun _ _ _ _ _ => (mgc_name sc.nd rfl (by decide) rfl (.inl rfl))) (fun _ _ _ _ _ => mts_nil) (fun _ _ _ _ _ => me_vs)))))
/-! are_joints_of -/
def S_are_joints_of : Scope := by
  have e : defScope (top 21) = defScope (top 21) := rfl
  conv at e => rhs; whnf
  exact rhsOf e
def B_are_joints_of : List Stmt := by
  have e : defBody (top 21) = defBody (top 21) := rfl
  conv at e => rhs; whnf
  exact rhsOf e
theorem sc_are_joints_of : FnScope ["value", "blocks", "each"] ["value", "blocks"] S_are_joints_of := ⟨rfl, rfl, rfl, by decide +kernel, rfl, by decide +kernel, by decide +kernel⟩
def m_are_joints_of : MS → SR := (sSeq (sIf (tOr2 (tNot1 (eT (eOp (gIsi [.tup]) [(.val (eV 0))]))) (tNot1 (eT (eOp gAll [(.val (eLc [2] (iSeq (eV 0)) (gNm 2) tYesM (eCall f_is_joint_of [(.val (eV 2)), (.val (eV 1))])))])))) (sRet (eK (.bl false))) sNil) (sRet (eAnd (eCall f_are_rising [(.val (eV 0))]) (eCall f_are_unlike [(.val (eCall f_ends_in [(.val (eV 0))]))]))))
def f_are_joints_of : FM := (runF 3 [false, false] m_are_joints_of).safe
theorem ok_are_joints_of (T : Top K mg) : DefOk K mg base cls 6 "are_joints_of" (top 21) ["value", "blocks"] [false, false] false f_are_joints_of := defOk T.d_are_joints_of T.g_are_joints_of (fun _ _ _ _ _ _ us hl => match us, hl with | [_, _], _ => by kernel_rfl) fun f fd F => fn_okS (k := 5) [false, false] [] false F rfl rfl rfl sc_are_joints_of rfl (by decide) fun cdv A outer s H vs E hr _ => have sc := sc_are_joints_of
  (ms_cons (ms_if (MW.mt (mw_or (mt_not (mt_val (me_isi rfl .tup rfl T.b_isinstance rfl T.b_tuple boot_tuple (mo_val me_vs)))) (mw_or1 (mt_not (mt_val (me_callB (cr_all rfl) opd_all rfl T.b_all boot_all (ma_cons (mo_val (ME.fz (me_lcO (own := [("each", 2)]) rfl sc.nd (ownOut rfl) (mi_seq rfl me_vs) (blkOk_by rfl) (fun _ _ _ _ _ => (mgc_name sc.nd rfl (by decide) rfl (.inl rfl))) (fun _ _ _ _ _ => mts_nil) (fun _ _ _ _ _ => (me_callD ⟨rfl, rfl, rfl, rfl⟩ (ok_is_joint_of T) hr (by omega) rfl (mc_val me_vs (mc_val me_vs mc_nil)) rfl (by decide)))))) ma_nil))))))) (ms_one (ms_ret me_bl)) ms_nil)
  (ms_one (ms_ret (me_and (me_callD ⟨rfl, rfl, rfl, rfl⟩ (ok_are_rising T) hr (by omega) rfl (mc_val me_vs mc_nil) rfl (by decide)) (me_one (me_callD ⟨rfl, rfl, rfl, rfl⟩ (ok_are_unlike T) hr (by omega) rfl (mc_val (me_callD ⟨rfl, rfl, rfl, rfl⟩ (ok_ends_in T) hr (by omega) rfl (mc_val me_vs mc_nil) rfl (by decide)) mc_nil) rfl (by decide)))))))
/-! is_any_map -/
def S_is_any_map : Scope := by
  have e : defScope (top 22) = defScope (top 22) := rfl
  conv at e => rhs; whnf
  exact rhsOf e
def B_is_any_map : List Stmt := by
  have e : defBody (top 22) = defBody (top 22) := rfl
  conv at e => rhs; whnf
  exact rhsOf e
theorem sc_is_any_map : FnScope ["value"] ["value"] S_is_any_map := ⟨rfl, rfl, rfl, by decide +kernel, rfl, by decide +kernel, by decide +kernel⟩
def m_is_any_map : MS → SR := (sRet (eAnd (eCall f_is_pair [(.val (eV 0))]) (eAnd (eCall f_is_between [(.val (eOp gIdx [(.val (eV 0)), (.val (eK (.int 0)))])), (.val (eK (.int 1))), (.val (eK (.int 40)))]) (eCall f_are_joints_of [(.val (eOp gIdx [(.val (eV 0)), (.val (eK (.int 1)))])), (.val (eOp gIdx [(.val (eV 0)), (.val (eK (.int 0)))]))]))))
def f_is_any_map : FM := (runF 1 [false] m_is_any_map).safe
theorem ok_is_any_map (T : Top K mg) : DefOk K mg base cls 7 "is_any_map" (top 22) ["value"] [false] false f_is_any_map := defOk T.d_is_any_map T.g_is_any_map (fun _ _ _ _ _ _ us hl => match us, hl with | [_], _ => by kernel_rfl) fun f fd F => fn_okS (k := 6) [false] [] false F rfl rfl rfl sc_is_any_map rfl (by decide) fun cdv A outer s H vs E hr _ => have sc := sc_is_any_map
  (ms_one (ms_ret (me_and (me_callD ⟨rfl, rfl, rfl, rfl⟩ (ok_is_pair T) hr (by omega) rfl (mc_val me_vs mc_nil) rfl (by decide)) (me_and (me_callD ⟨rfl, rfl, rfl, rfl⟩ (ok_is_between T) hr (by omega) rfl (mc_val (me_idx rfl (mo_val me_vs) (mo_val me_int)) (mc_val me_int (mc_val (me_glob rfl T.c_MOST_BLOCKS) mc_nil))) rfl (by decide)) (me_one (me_callD ⟨rfl, rfl, rfl, rfl⟩ (ok_are_joints_of T) hr (by omega) rfl (mc_val (me_idx rfl (mo_val me_vs) (mo_val me_int)) (mc_val (me_idx rfl (mo_val me_vs) (mo_val me_int)) mc_nil)) rfl (by decide)))))))
/-! check_blocks -/
def S_check_blocks : Scope := by
  have e : defScope (top 23) = defScope (top 23) := rfl
  conv at e => rhs; whnf
  exact rhsOf e
def B_check_blocks : List Stmt := by
  have e : defBody (top 23) = defBody (top 23) := rfl
  conv at e => rhs; whnf
  exact rhsOf e
theorem sc_check_blocks : FnScope ["blocks"] ["blocks"] S_check_blocks := ⟨rfl, rfl, rfl, by decide +kernel, rfl, by decide +kernel, by decide +kernel⟩
def m_check_blocks : MS → SR := (sIf (tNot1 (eT (eCall f_is_between [(.val (eV 0)), (.val (eK (.int 1))), (.val (eK (.int 40)))]))) sNever sNil)
def f_check_blocks : FM := (runF 1 [false] m_check_blocks).safe
theorem ok_check_blocks (T : Top K mg) : DefOk K mg base cls 3 "check_blocks" (top 23) ["blocks"] [false] false f_check_blocks := defOk T.d_check_blocks T.g_check_blocks (fun _ _ _ _ _ _ us hl => match us, hl with | [_], _ => by kernel_rfl) fun f fd F => fn_okS (k := 2) [false] [] false F rfl rfl rfl sc_check_blocks rfl (by decide) fun cdv A outer s H vs E hr _ => have sc := sc_check_blocks
  (ms_one (ms_if (mt_not (mt_val (me_callD ⟨rfl, rfl, rfl, rfl⟩ (ok_is_between T) hr (by omega) rfl (mc_val me_vs (mc_val me_int (mc_val (me_glob rfl T.c_MOST_BLOCKS) mc_nil))) rfl (by decide)))) (ms_one ms_never) ms_nil))
/-! check_chart -/
def S_check_chart : Scope := by
  have e : defScope (top 24) = defScope (top 24) := rfl
  conv at e => rhs; whnf
  exact rhsOf e
def B_check_chart : List Stmt := by
  have e : defBody (top 24) = defBody (top 24) := rfl
  conv at e => rhs; whnf
  exact rhsOf e
theorem sc_check_chart : FnScope ["chart"] ["chart"] S_check_chart := ⟨rfl, rfl, rfl, by decide +kernel, rfl, by decide +kernel, by decide +kernel⟩
def m_check_chart : MS → SR := (sIf (tNot1 (eT (eCall f_is_any_map [(.val (eV 0))]))) sNever sNil)
def f_check_chart : FM := (runF 1 [false] m_check_chart).safe
theorem ok_check_chart (T : Top K mg) : DefOk K mg base cls 8 "check_chart" (top 24) ["chart"] [false] false f_check_chart := defOk T.d_check_chart T.g_check_chart (fun _ _ _ _ _ _ us hl => match us, hl with | [_], _ => by kernel_rfl) fun f fd F => fn_okS (k := 7) [false] [] false F rfl rfl rfl sc_check_chart rfl (by decide) fun cdv A outer s H vs E hr _ => have sc := sc_check_chart
  (ms_one (ms_if (mt_not (mt_val (me_callD ⟨rfl, rfl, rfl, rfl⟩ (ok_is_any_map T) hr (by omega) rfl (mc_val me_vs mc_nil) rfl (by decide)))) (ms_one ms_never) ms_nil))
/-! factorial -/
def S_factorial : Scope := by
  have e : defScope (top 26) = defScope (top 26) := rfl
  conv at e => rhs; whnf
  exact rhsOf e
def B_factorial : List Stmt := by
  have e : defBody (top 26) = defBody (top 26) := rfl
  conv at e => rhs; whnf
  exact rhsOf e
theorem sc_factorial : FnScope ["number", "found", "each"] ["number"] S_factorial := ⟨rfl, rfl, rfl, by decide +kernel, rfl, by decide +kernel, by decide +kernel⟩
def m_factorial : MS → SR := (sSeq (sSet 1 (eK (.int 1))) (sSeq (sFor (iRange2 (.val (eK (.int 2))) (.val (eOp gAdd [(.val (eV 0)), (.val (eK (.int 1)))]))) (gNm 2) (sSet 1 (eOp gMul [(.val (eV 1)), (.val (eV 2))]))) (sRet (eV 1))))
def f_factorial : FM := (runF 3 [false] m_factorial).safe
theorem ok_factorial (T : Top K mg) : DefOk K mg base cls 1 "factorial" (top 26) ["number"] [false] false f_factorial := defOk T.d_factorial T.g_factorial (fun _ _ _ _ _ _ us hl => match us, hl with | [_], _ => by kernel_rfl) fun f fd F => fn_okS (k := 0) [false] [] false F rfl rfl rfl sc_factorial rfl (by decide) fun cdv A outer s H vs E hr _ => have sc := sc_factorial
  (ms_cons (ms_set sc.nd rfl rfl (.inl rfl) me_int)
  (ms_cons (ms_for .never rfl (mi_range2 rfl T.b_range (ma_cons (mo_val me_int) (ma_cons (mo_val (me_add rfl (mo_val me_vs) (mo_val me_int))) ma_nil))) (mg_name sc.nd rfl rfl (.inl rfl)) (ms_one (ms_set sc.nd rfl rfl (.inl rfl) (me_mul (mo_val me_vs) (mo_val me_vs)))))
  (ms_one (ms_ret me_vs))))
/-! choices -/
def S_choices : Scope := by
  have e : defScope (top 27) = defScope (top 27) := rfl
  conv at e => rhs; whnf
  exact rhsOf e
def B_choices : List Stmt := by
  have e : defBody (top 27) = defBody (top 27) := rfl
  conv at e => rhs; whnf
  exact rhsOf e
theorem sc_choices : FnScope ["number", "many"] ["number", "many"] S_choices := ⟨rfl, rfl, rfl, by decide +kernel, rfl, by decide +kernel, by decide +kernel⟩
def m_choices : MS → SR := (sSeq (sIf (tOr2 (eT (eOp gLtA [(.val (eV 1)), (.val (eK (.int 0)))])) (eT (eOp gGtA [(.val (eV 1)), (.val (eV 0))]))) (sRet (eK (.int 0))) sNil) (sRet (eOp gDiv [(.val (eCall f_factorial [(.val (eV 0))])), (.val (eOp gMul [(.val (eCall f_factorial [(.val (eV 1))])), (.val (eCall f_factorial [(.val (eOp gSub [(.val (eV 0)), (.val (eV 1))]))]))]))])))
def f_choices : FM := (runF 2 [false, false] m_choices).safe
theorem ok_choices (T : Top K mg) : DefOk K mg base cls 2 "choices" (top 27) ["number", "many"] [false, false] false f_choices := defOk T.d_choices T.g_choices (fun _ _ _ _ _ _ us hl => match us, hl with | [_, _], _ => by kernel_rfl) fun f fd F => fn_okS (k := 1) [false, false] [] false F rfl rfl rfl sc_choices rfl (by decide) fun cdv A outer s H vs E hr _ => have sc := sc_choices
  (ms_cons (ms_if (MW.mt (mw_or (mt_ltA rfl hr.units (mo_val me_vs) (mo_val me_int)) (mw_or1 (mt_gtA rfl hr.units (mo_val me_vs) (mo_val me_vs))))) (ms_one (ms_ret me_int)) ms_nil)
  (ms_one (ms_ret (me_div (mo_val (me_callD ⟨rfl, rfl, rfl, rfl⟩ (ok_factorial T) hr (by omega) rfl (mc_val me_vs mc_nil) rfl (by decide))) (mo_val (me_mul (mo_val (me_callD ⟨rfl, rfl, rfl, rfl⟩ (ok_factorial T) hr (by omega) rfl (mc_val me_vs mc_nil) rfl (by decide))) (mo_val (me_callD ⟨rfl, rfl, rfl, rfl⟩ (ok_factorial T) hr (by omega) rfl (mc_val (me_sub (mo_val me_vs) (mo_val me_vs)) mc_nil) rfl (by decide)))))))))
/-! pairings -/
def S_pairings : Scope := by
  have e : defScope (top 28) = defScope (top 28) := rfl
  conv at e => rhs; whnf
  exact rhsOf e
def B_pairings : List Stmt := by
  have e : defBody (top 28) = defBody (top 28) := rfl
  conv at e => rhs; whnf
  exact rhsOf e
theorem sc_pairings : FnScope ["number", "found", "each"] ["number"] S_pairings := ⟨rfl, rfl, rfl, by decide +kernel, rfl, by decide +kernel, by decide +kernel⟩
def m_pairings : MS → SR := (sSeq (sIf (eT (eOp gEq [(.val (eOp gMod [(.val (eV 0)), (.val (eK (.int 2)))])), (.val (eK (.int 1)))])) (sRet (eK (.int 0))) sNil) (sSeq (sSet 1 (eK (.int 1))) (sSeq (sFor (iRange3 (.val (eK (.int 1))) (.val (eV 0)) (.val (eK (.int 2)))) (gNm 2) (sSet 1 (eOp gMul [(.val (eV 1)), (.val (eV 2))]))) (sRet (eV 1)))))
def f_pairings : FM := (runF 3 [false] m_pairings).safe
theorem ok_pairings (T : Top K mg) : DefOk K mg base cls 1 "pairings" (top 28) ["number"] [false] false f_pairings := defOk T.d_pairings T.g_pairings (fun _ _ _ _ _ _ us hl => match us, hl with | [_], _ => by kernel_rfl) fun f fd F => fn_okS (k := 0) [false] [] false F rfl rfl rfl sc_pairings rfl (by decide) fun cdv A outer s H vs E hr _ => have sc := sc_pairings
  (ms_cons (ms_if (mt_eq rfl hr.units (mo_val (me_mod (mo_val me_vs) (mo_val me_int))) (mo_val me_int)) (ms_one (ms_ret me_int)) ms_nil)
  (ms_cons (ms_set sc.nd rfl rfl (.inl rfl) me_int)
  (ms_cons (ms_for .never rfl (mi_range3 rfl T.b_range (ma_cons (mo_val me_int) (ma_cons (mo_val me_vs) (ma_cons (mo_val me_int) ma_nil)))) (mg_name sc.nd rfl rfl (.inl rfl)) (ms_one (ms_set sc.nd rfl rfl (.inl rfl) (me_mul (mo_val me_vs) (mo_val me_vs)))))
  (ms_one (ms_ret me_vs)))))
/-! blocks_of -/
def S_blocks_of : Scope := by
  have e : defScope (top 30) = defScope (top 30) := rfl
  conv at e => rhs; whnf
  exact rhsOf e
def B_blocks_of : List Stmt := by
  have e : defBody (top 30) = defBody (top 30) := rfl
  conv at e => rhs; whnf
  exact rhsOf e
theorem sc_blocks_of : FnScope ["chart"] ["chart"] S_blocks_of := ⟨rfl, rfl, rfl, by decide +kernel, rfl, by decide +kernel, by decide +kernel⟩
def m_blocks_of : MS → SR := (sRet (eOp gIdx [(.val (eV 0)), (.val (eK (.int 0)))]))
def f_blocks_of : FM := (runF 1 [false] m_blocks_of).safe
theorem ok_blocks_of (T : Top K mg) : DefOk K mg base cls 1 "blocks_of" (top 30) ["chart"] [false] false f_blocks_of := defOk T.d_blocks_of T.g_blocks_of (fun _ _ _ _ _ _ us hl => match us, hl with | [_], _ => by kernel_rfl) fun f fd F => fn_okS (k := 0) [false] [] false F rfl rfl rfl sc_blocks_of rfl (by decide) fun cdv A outer s H vs E hr _ => have sc := sc_blocks_of
  (ms_one (ms_ret (me_idx rfl (mo_val me_vs) (mo_val me_int))))
/-! joints_of -/
def S_joints_of : Scope := by
  have e : defScope (top 31) = defScope (top 31) := rfl
  conv at e => rhs; whnf
  exact rhsOf e
def B_joints_of : List Stmt := by
  have e : defBody (top 31) = defBody (top 31) := rfl
  conv at e => rhs; whnf
  exact rhsOf e
theorem sc_joints_of : FnScope ["chart"] ["chart"] S_joints_of := ⟨rfl, rfl, rfl, by decide +kernel, rfl, by decide +kernel, by decide +kernel⟩
def m_joints_of : MS → SR := (sRet (eOp gIdx [(.val (eV 0)), (.val (eK (.int 1)))]))
def f_joints_of : FM := (runF 1 [false] m_joints_of).safe
theorem ok_joints_of (T : Top K mg) : DefOk K mg base cls 1 "joints_of" (top 31) ["chart"] [false] false f_joints_of := defOk T.d_joints_of T.g_joints_of (fun _ _ _ _ _ _ us hl => match us, hl with | [_], _ => by kernel_rfl) fun f fd F => fn_okS (k := 0) [false] [] false F rfl rfl rfl sc_joints_of rfl (by decide) fun cdv A outer s H vs E hr _ => have sc := sc_joints_of
  (ms_one (ms_ret (me_idx rfl (mo_val me_vs) (mo_val me_int))))
/-! mate_of -/
def S_mate_of : Scope := by
  have e : defScope (top 32) = defScope (top 32) := rfl
  conv at e => rhs; whnf
  exact rhsOf e
def B_mate_of : List Stmt := by
  have e : defBody (top 32) = defBody (top 32) := rfl
  conv at e => rhs; whnf
  exact rhsOf e
theorem sc_mate_of : FnScope ["end"] ["end"] S_mate_of := ⟨rfl, rfl, rfl, by decide +kernel, rfl, by decide +kernel, by decide +kernel⟩
def m_mate_of : MS → SR := (sRet (eIf (eT (eOp gEq [(.val (eOp gMod [(.val (eOp gInt [(.val (eV 0))])), (.val (eK (.int 2)))])), (.val (eK (.int 0)))])) (eOp gAdd [(.val (eV 0)), (.val (eK (.int 1)))]) (eOp gSub [(.val (eV 0)), (.val (eK (.int 1)))])))
def f_mate_of : FM := (runF 1 [false] m_mate_of).safe
theorem ok_mate_of (T : Top K mg) : DefOk K mg base cls 1 "mate_of" (top 32) ["end"] [false] false f_mate_of := defOk T.d_mate_of T.g_mate_of (fun _ _ _ _ _ _ us hl => match us, hl with | [_], _ => by kernel_rfl) fun f fd F => fn_okS (k := 0) [false] [] false F rfl rfl rfl sc_mate_of rfl (by decide) fun cdv A outer s H vs E hr _ => have sc := sc_mate_of
  (ms_one (ms_ret (me_ifExp (mt_eq rfl hr.units (mo_val (me_mod (mo_val (me_callTy call_int1 opd_int1 rfl T.b_int boot_int (ma_cons (mo_val me_vs) ma_nil))) (mo_val me_int))) (mo_val me_int)) (me_add rfl (mo_val me_vs) (mo_val me_int)) (me_sub (mo_val me_vs) (mo_val me_int)))))
/-! joint_of -/
def S_joint_of : Scope := by
  have e : defScope (top 33) = defScope (top 33) := rfl
  conv at e => rhs; whnf
  exact rhsOf e
def B_joint_of : List Stmt := by
  have e : defBody (top 33) = defBody (top 33) := rfl
  conv at e => rhs; whnf
  exact rhsOf e
theorem sc_joint_of : FnScope ["end", "other"] ["end", "other"] S_joint_of := ⟨rfl, rfl, rfl, by decide +kernel, rfl, by decide +kernel, by decide +kernel⟩
def m_joint_of : MS → SR := (sRet (eIf (eT (eOp gLtA [(.val (eV 0)), (.val (eV 1))])) (eVal gTup [(eV 0), (eV 1)]) (eVal gTup [(eV 1), (eV 0)])))
def f_joint_of : FM := (runF 2 [false, false] m_joint_of).safe
theorem ok_joint_of (T : Top K mg) : DefOk K mg base cls 1 "joint_of" (top 33) ["end", "other"] [false, false] false f_joint_of := defOk T.d_joint_of T.g_joint_of (fun _ _ _ _ _ _ us hl => match us, hl with | [_, _], _ => by kernel_rfl) fun f fd F => fn_okS (k := 0) [false, false] [] false F rfl rfl rfl sc_joint_of rfl (by decide) fun cdv A outer s H vs E hr _ => have sc := sc_joint_of
  (ms_one (ms_ret (me_ifExp (mt_ltA rfl hr.units (mo_val me_vs) (mo_val me_vs)) (me_tup (mv_cons me_vs (mv_cons me_vs mv_nil))) (me_tup (mv_cons me_vs (mv_cons me_vs mv_nil))))))
/-! made_map -/
def S_made_map : Scope := by
  have e : defScope (top 34) = defScope (top 34) := rfl
  conv at e => rhs; whnf
  exact rhsOf e
def B_made_map : List Stmt := by
  have e : defBody (top 34) = defBody (top 34) := rfl
  conv at e => rhs; whnf
  exact rhsOf e
theorem sc_made_map : FnScope ["blocks", "joints"] ["blocks", "joints"] S_made_map := ⟨rfl, rfl, rfl, by decide +kernel, rfl, by decide +kernel, by decide +kernel⟩
def m_made_map : MS → SR := (sRet (eVal gTup [(eV 0), (eOp gTuple [(.val (eOp gSortA [(.val (eOp gList [(.val (eV 1))]))]))])]))
def f_made_map : FM := (runF 2 [false, false] m_made_map).safe
theorem ok_made_map (T : Top K mg) : DefOk K mg base cls 1 "made_map" (top 34) ["blocks", "joints"] [false, false] false f_made_map := defOk T.d_made_map T.g_made_map (fun _ _ _ _ _ _ us hl => match us, hl with | [_, _], _ => by kernel_rfl) fun f fd F => fn_okS (k := 0) [false, false] [] false F rfl rfl rfl sc_made_map rfl (by decide) fun cdv A outer s H vs E hr _ => have sc := sc_made_map
  (ms_one (ms_ret (me_tup (mv_cons me_vs (mv_cons (me_callTy call_tuple_of opd_tuple rfl T.b_tuple boot_tuple (ma_cons (mo_val (me_sortA rfl hr.units rfl T.b_sorted (mo_val (ME.fz (me_callTy call_list_of opd_list rfl T.b_list boot_list (ma_cons (mo_val me_vs) ma_nil)))))) ma_nil)) mv_nil)))))
/-! partners_of -/
def S_partners_of : Scope := by
  have e : defScope (top 35) = defScope (top 35) := rfl
  conv at e => rhs; whnf
  exact rhsOf e
def B_partners_of : List Stmt := by
  have e : defBody (top 35) = defBody (top 35) := rfl
  conv at e => rhs; whnf
  exact rhsOf e
theorem sc_partners_of : FnScope ["chart", "found", "one", "two"] ["chart"] S_partners_of := ⟨rfl, rfl, rfl, by decide +kernel, rfl, by decide +kernel, by decide +kernel⟩
def m_partners_of : MS → SR := (sSeq (sSetO 1 (eOp gMul [(.val (eVal gLst [(eK .non)])), (.val (eOp gMul [(.val (eK (.int 2))), (.val (eCall f_blocks_of [(.val (eV 0))]))]))])) (sSeq (sFor (iSeq (eCall f_joints_of [(.val (eV 0))])) (gTp 2 (gsCons (gNm 2) (gsCons (gNm 3) gsNil))) (sAsg (eVal gTup [(eV 3), (eV 2)]) (gTp 2 (gsCons (gSb 1 (eV 2)) (gsCons (gSb 1 (eV 3)) gsNil))))) (sRetMv 1)))
def f_partners_of : FM := (runF 4 [false] m_partners_of).safe
theorem ok_partners_of (T : Top K mg) : DefOk K mg base cls 2 "partners_of" (top 35) ["chart"] [false] false f_partners_of := defOk T.d_partners_of T.g_partners_of (fun _ _ _ _ _ _ us hl => match us, hl with | [_], _ => by kernel_rfl) fun f fd F => fn_okS (k := 1) [false] [1] false F rfl rfl rfl sc_partners_of rfl (by decide) fun cdv A outer s H vs E hr _ => have sc := sc_partners_of
  (ms_cons (ms_setO sc.nd rfl (ioNe rfl) rfl (.inl rfl) (me_mulO (mo_val (me_lst (mv_cons me_non mv_nil))) (mo_val (me_mul (mo_val me_int) (mo_val (me_callD ⟨rfl, rfl, rfl, rfl⟩ (ok_blocks_of T) hr (by omega) rfl (mc_val me_vs mc_nil) rfl (by decide)))))))
  (ms_cons (ms_for .never rfl (mi_seq rfl (me_callD ⟨rfl, rfl, rfl, rfl⟩ (ok_joints_of T) hr (by omega) rfl (mc_val me_vs mc_nil) rfl (by decide))) (mg_tup rfl rfl (mgs_cons (mg_name sc.nd rfl rfl (.inl rfl)) (mgs_cons (mg_name sc.nd rfl rfl (.inl rfl)) mgs_nil))) (ms_one (ms_asg (me_tup (mv_cons me_vs (mv_cons me_vs mv_nil))) (mg_tup rfl rfl (mgs_cons (mg_sub hr.units (pv 1) rfl me_vs) (mgs_cons (mg_sub hr.units (pv 1) rfl me_vs) mgs_nil))))))
  (ms_one (ms_retMv (pv 1) rfl (ioNe rfl) rfl))))
/-! free_by -/
def S_free_by : Scope := by
  have e : defScope (top 36) = defScope (top 36) := rfl
  conv at e => rhs; whnf
  exact rhsOf e
def B_free_by : List Stmt := by
  have e : defBody (top 36) = defBody (top 36) := rfl
  conv at e => rhs; whnf
  exact rhsOf e
theorem sc_free_by : FnScope ["chart", "end", "partner"] ["chart"] S_free_by := ⟨rfl, rfl, rfl, by decide +kernel, rfl, by decide +kernel, by decide +kernel⟩
def m_free_by : MS → SR := (sRet (eLc [1, 2] (iEnumA (eCall f_partners_of [(.val (eV 0))])) (gTp 2 (gsCons (gNm 1) (gsCons (gNm 2) gsNil))) (eT (eOp (gIsN false) [(.val (eV 2))])) (eV 1)))
def f_free_by : FM := (runF 3 [false] m_free_by).safe
theorem ok_free_by (T : Top K mg) : DefOk K mg base cls 3 "free_by" (top 36) ["chart"] [false] false f_free_by := defOk T.d_free_by T.g_free_by (fun _ _ _ _ _ _ us hl => match us, hl with | [_], _ => by kernel_rfl) fun f fd F => fn_okS (k := 2) [false] [] false F rfl rfl rfl sc_free_by rfl (by decide) fun cdv A outer s H vs E hr _ => have sc := sc_free_by
  (ms_one (ms_ret (ME.fz (me_lcO (own := [("end", 1), ("partner", 2)]) rfl sc.nd (ownOut rfl) (mi_enumA rfl rfl T.b_enumerate (mv_cons (me_callD ⟨rfl, rfl, rfl, rfl⟩ (ok_partners_of T) hr (by omega) rfl (mc_val me_vs mc_nil) rfl (by decide)) mv_nil)) (blkOk_by rfl) (fun _ _ _ _ _ => (mgc_tup rfl rfl (mgcs_cons (mgc_name sc.nd rfl (by decide) rfl (.inl rfl)) (mgcs_cons (mgc_name sc.nd rfl (by decide) rfl (.inl rfl)) mgcs_nil)))) (fun _ _ _ _ _ => (mts_one (mt_isN (mo_val me_vs)))) (fun _ _ _ _ _ => me_vs)))))
/-! map_count_of -/
def S_map_count_of : Scope := by
  have e : defScope (top 38) = defScope (top 38) := rfl
  conv at e => rhs; whnf
  exact rhsOf e
def B_map_count_of : List Stmt := by
  have e : defBody (top 38) = defBody (top 38) := rfl
  conv at e => rhs; whnf
  exact rhsOf e
theorem sc_map_count_of : FnScope ["blocks", "rows"] ["blocks", "rows"] S_map_count_of := ⟨rfl, rfl, rfl, by decide +kernel, rfl, by decide +kernel, by decide +kernel⟩
def m_map_count_of : MS → SR := (sRet (eOp gMul [(.val (eCall f_choices [(.val (eOp gMul [(.val (eK (.int 2))), (.val (eV 0))])), (.val (eOp gMul [(.val (eK (.int 2))), (.val (eV 1))]))])), (.val (eCall f_pairings [(.val (eOp gSub [(.val (eOp gMul [(.val (eK (.int 2))), (.val (eV 0))])), (.val (eOp gMul [(.val (eK (.int 2))), (.val (eV 1))]))]))]))]))
def f_map_count_of : FM := (runF 2 [false, false] m_map_count_of).safe
theorem ok_map_count_of (T : Top K mg) : DefOk K mg base cls 3 "map_count_of" (top 38) ["blocks", "rows"] [false, false] false f_map_count_of := defOk T.d_map_count_of T.g_map_count_of (fun _ _ _ _ _ _ us hl => match us, hl with | [_, _], _ => by kernel_rfl) fun f fd F => fn_okS (k := 2) [false, false] [] false F rfl rfl rfl sc_map_count_of rfl (by decide) fun cdv A outer s H vs E hr _ => have sc := sc_map_count_of
  (ms_one (ms_ret (me_mul (mo_val (me_callD ⟨rfl, rfl, rfl, rfl⟩ (ok_choices T) hr (by omega) rfl (mc_val (me_mul (mo_val me_int) (mo_val me_vs)) (mc_val (me_mul (mo_val me_int) (mo_val me_vs)) mc_nil)) rfl (by decide))) (mo_val (me_callD ⟨rfl, rfl, rfl, rfl⟩ (ok_pairings T) hr (by omega) rfl (mc_val (me_sub (mo_val (me_mul (mo_val me_int) (mo_val me_vs))) (mo_val (me_mul (mo_val me_int) (mo_val me_vs)))) mc_nil) rfl (by decide))))))
/-! map_count_in_all -/
def S_map_count_in_all : Scope := by
  have e : defScope (top 39) = defScope (top 39) := rfl
  conv at e => rhs; whnf
  exact rhsOf e
def B_map_count_in_all : List Stmt := by
  have e : defBody (top 39) = defBody (top 39) := rfl
  conv at e => rhs; whnf
  exact rhsOf e
theorem sc_map_count_in_all : FnScope ["blocks", "rows"] ["blocks"] S_map_count_in_all := ⟨rfl, rfl, rfl, by decide +kernel, rfl, by decide +kernel, by decide +kernel⟩
def m_map_count_in_all : MS → SR := (sRet (eOp gSum [(.val (eLc [1] (iRange1 (.val (eOp gAdd [(.val (eV 0)), (.val (eK (.int 1)))]))) (gNm 1) tYesM (eCall f_map_count_of [(.val (eV 0)), (.val (eV 1))])))]))
def f_map_count_in_all : FM := (runF 2 [false] m_map_count_in_all).safe
theorem ok_map_count_in_all (T : Top K mg) : DefOk K mg base cls 4 "map_count_in_all" (top 39) ["blocks"] [false] false f_map_count_in_all := defOk T.d_map_count_in_all T.g_map_count_in_all (fun _ _ _ _ _ _ us hl => match us, hl with | [_], _ => by kernel_rfl) fun f fd F => fn_okS (k := 3) [false] [] false F rfl rfl rfl sc_map_count_in_all rfl (by decide) fun cdv A outer s H vs E hr _ => have sc := sc_map_count_in_all
  (ms_one (ms_ret (me_callB (cr_sum rfl) opd_sum rfl T.b_sum boot_sum (ma_cons (mo_val (ME.fz (me_lcO (own := [("rows", 1)]) rfl sc.nd (ownOut rfl) (mi_range1 rfl T.b_range (ma_cons (mo_val (me_add rfl (mo_val me_vs) (mo_val me_int))) ma_nil)) (blkOk_by rfl) (fun _ _ _ _ _ => (mgc_name sc.nd rfl (by decide) rfl (.inl rfl))) (fun _ _ _ _ _ => mts_nil) (fun _ _ _ _ _ => (me_callD ⟨rfl, rfl, rfl, rfl⟩ (ok_map_count_of T) hr (by omega) rfl (mc_val me_vs (mc_val me_vs mc_nil)) rfl (by decide)))))) ma_nil))))
/-! free_behind -/
def S_free_behind : Scope := by
  have e : defScope (top 40) = defScope (top 40) := rfl
  conv at e => rhs; whnf
  exact rhsOf e
def B_free_behind : List Stmt := by
  have e : defBody (top 40) = defBody (top 40) := rfl
  conv at e => rhs; whnf
  exact rhsOf e
theorem sc_free_behind : FnScope ["joints", "end", "many", "taken", "joint", "each", "other"] ["joints", "end", "many"] S_free_behind := ⟨rfl, rfl, rfl, by decide +kernel, rfl, by decide +kernel, by decide +kernel⟩
def m_free_behind : MS → SR := (sSeq (sSet 3 (eLc2 [4, 5] (iSeq (eV 0)) (gNm 4) tYesM [5] (iSeq (eV 4)) (gNm 5) tYesM (eV 5))) (sRet (eLc [6] (iRange2 (.val (eOp gAdd [(.val (eV 1)), (.val (eK (.int 1)))])) (.val (eV 2))) (gNm 6) (eT (eOp gNotInA [(.val (eV 6)), (.val (eV 3))])) (eV 6))))
def f_free_behind : FM := (runF 7 [false, false, false] m_free_behind).safe
theorem ok_free_behind (T : Top K mg) : DefOk K mg base cls 1 "free_behind" (top 40) ["joints", "end", "many"] [false, false, false] false f_free_behind := defOk T.d_free_behind T.g_free_behind (fun _ _ _ _ _ _ us hl => match us, hl with | [_, _, _], _ => by kernel_rfl) fun f fd F => fn_okS (k := 0) [false, false, false] [] false F rfl rfl rfl sc_free_behind rfl (by decide) fun cdv A outer s H vs E hr _ => have sc := sc_free_behind
  (ms_cons (ms_set sc.nd rfl rfl (.inr rfl) (ME.fz (me_lc2O (own := [("joint", 4), ("each", 5)]) (vs1 := [5]) rfl sc.nd (ownOut rfl) (mi_seq rfl me_vs) (blkOk_by rfl) (vsIn rfl) (fun _ _ _ _ _ => (mgc_name sc.nd rfl (by decide) rfl (.inl rfl))) (fun _ _ _ _ _ => mts_nil) (fun _ _ _ _ _ => (mi_seq rfl me_vs)) (fun _ _ _ _ _ => (mgc_name sc.nd rfl (by decide) rfl (.inl rfl))) (fun _ _ _ _ _ => mts_nil) (fun _ _ _ _ _ => me_vs))))
  (ms_one (ms_ret (ME.fz (me_lcO (own := [("other", 6)]) rfl sc.nd (ownOut rfl) (mi_range2 rfl T.b_range (ma_cons (mo_val (me_add rfl (mo_val me_vs) (mo_val me_int))) (ma_cons (mo_val me_vs) ma_nil))) (blkOk_by rfl) (fun _ _ _ _ _ => (mgc_name sc.nd rfl (by decide) rfl (.inl rfl))) (fun _ _ _ _ _ => (mts_one (mt_notInA ⟨rfl, rfl, rfl, rfl⟩ rfl hr.units (mo_val me_vs) (mo_val me_vs)))) (fun _ _ _ _ _ => me_vs))))))
/-! grown_at -/
def S_grown_at : Scope := by
  have e : defScope (top 41) = defScope (top 41) := rfl
  conv at e => rhs; whnf
  exact rhsOf e
def B_grown_at : List Stmt := by
  have e : defBody (top 41) = defBody (top 41) := rfl
  conv at e => rhs; whnf
  exact rhsOf e
theorem sc_grown_at : FnScope ["joints", "end", "many", "joint", "other"] ["joints", "end", "many"] S_grown_at := ⟨rfl, rfl, rfl, by decide +kernel, rfl, by decide +kernel, by decide +kernel⟩
def m_grown_at : MS → SR := (sSeq (sIf (eT (eOp gAny [(.val (eLc [3] (iSeq (eV 0)) (gNm 3) tYesM (eOp gInA [(.val (eV 1)), (.val (eV 3))])))])) (sRet (eVal gLst [(eV 0)])) sNil) (sRet (eOp gAdd [(.val (eVal gLst [(eV 0)])), (.val (eLc [4] (iSeq (eCall f_free_behind [(.val (eV 0)), (.val (eV 1)), (.val (eV 2))])) (gNm 4) tYesM (eOp gAdd [(.val (eV 0)), (.val (eVal gLst [(eCall f_joint_of [(.val (eV 1)), (.val (eV 4))])]))])))])))
def f_grown_at : FM := (runF 5 [false, false, false] m_grown_at).safe
theorem ok_grown_at (T : Top K mg) : DefOk K mg base cls 2 "grown_at" (top 41) ["joints", "end", "many"] [false, false, false] false f_grown_at := defOk T.d_grown_at T.g_grown_at (fun _ _ _ _ _ _ us hl => match us, hl with | [_, _, _], _ => by kernel_rfl) fun f fd F => fn_okS (k := 1) [false, false, false] [] false F rfl rfl rfl sc_grown_at rfl (by decide) fun cdv A outer s H vs E hr _ => have sc := sc_grown_at
  (ms_cons (ms_if (mt_val (me_callB (cr_any rfl) opd_any rfl T.b_any boot_any (ma_cons (mo_val (ME.fz (me_lcO (own := [("joint", 3)]) rfl sc.nd (ownOut rfl) (mi_seq rfl me_vs) (blkOk_by rfl) (fun _ _ _ _ _ => (mgc_name sc.nd rfl (by decide) rfl (.inl rfl))) (fun _ _ _ _ _ => mts_nil) (fun _ _ _ _ _ => (me_inA ⟨rfl, rfl, rfl, rfl⟩ rfl hr.units (mo_val me_vs) (mo_val me_vs)))))) ma_nil))) (ms_one (ms_ret (me_lst (mv_cons me_vs mv_nil)))) ms_nil)
  (ms_one (ms_ret (me_add rfl (mo_val (me_lst (mv_cons me_vs mv_nil))) (mo_val (ME.fz (me_lcO (own := [("other", 4)]) rfl sc.nd (ownOut rfl) (mi_seq rfl (me_callD ⟨rfl, rfl, rfl, rfl⟩ (ok_free_behind T) hr (by omega) rfl (mc_val me_vs (mc_val me_vs (mc_val me_vs mc_nil))) rfl (by decide))) (blkOk_by rfl) (fun _ _ _ _ _ => (mgc_name sc.nd rfl (by decide) rfl (.inl rfl))) (fun _ _ _ _ _ => mts_nil) (fun _ _ _ _ _ => (me_add rfl (mo_val me_vs) (mo_val (me_lst (mv_cons (me_callD ⟨rfl, rfl, rfl, rfl⟩ (ok_joint_of T) hr (by omega) rfl (mc_val me_vs (mc_val me_vs mc_nil)) rfl (by decide)) mv_nil))))))))))))
/-! all_maps_by -/
def S_all_maps_by : Scope := by
  have e : defScope (top 42) = defScope (top 42) := rfl
  conv at e => rhs; whnf
  exact rhsOf e
def B_all_maps_by : List Stmt := by
  have e : defBody (top 42) = defBody (top 42) := rfl
  conv at e => rhs; whnf
  exact rhsOf e
theorem sc_all_maps_by : FnScope ["blocks", "found", "end", "joints", "more"] ["blocks"] S_all_maps_by := ⟨rfl, rfl, rfl, by decide +kernel, rfl, by decide +kernel, by decide +kernel⟩
def m_all_maps_by : MS → SR := (sSeq (sSet 1 (eVal gLst [(eVal gLst [])])) (sSeq (sFor (iRange1 (.val (eOp gMul [(.val (eK (.int 2))), (.val (eV 0))]))) (gNm 2) (sSet 1 (eLc2 [3, 4] (iSeq (eV 1)) (gNm 3) tYesM [4] (iSeq (eCall f_grown_at [(.val (eV 3)), (.val (eV 2)), (.val (eOp gMul [(.val (eK (.int 2))), (.val (eV 0))]))])) (gNm 4) tYesM (eV 4)))) (sRet (eOp gSortA [(.val (eLc [3] (iSeq (eV 1)) (gNm 3) tYesM (eCall f_made_map [(.val (eV 0)), (.val (eV 3))])))]))))
def f_all_maps_by : FM := (runF 5 [false] m_all_maps_by).safe
theorem ok_all_maps_by (T : Top K mg) : DefOk K mg base cls 3 "all_maps_by" (top 42) ["blocks"] [false] false f_all_maps_by := defOk T.d_all_maps_by T.g_all_maps_by (fun _ _ _ _ _ _ us hl => match us, hl with | [_], _ => by kernel_rfl) fun f fd F => fn_okS (k := 2) [false] [] false F rfl rfl rfl sc_all_maps_by rfl (by decide) fun cdv A outer s H vs E hr _ => have sc := sc_all_maps_by
  (ms_cons (ms_set sc.nd rfl rfl (.inl rfl) (me_lst (mv_cons (me_lst mv_nil) mv_nil)))
  (ms_cons (ms_for .never rfl (mi_range1 rfl T.b_range (ma_cons (mo_val (me_mul (mo_val me_int) (mo_val me_vs))) ma_nil)) (mg_name sc.nd rfl rfl (.inr rfl)) (ms_one (ms_lc2F (own := [("joints", 3), ("more", 4)]) (vs1 := [4]) (ownOut rfl) (vsIn rfl) rfl (ps_lc2A (own := [("joints", 3), ("more", 4)]) (vs1 := [4]) rfl sc.nd rfl rfl rfl (mi_seq rfl me_vs) (blkOk_by rfl) (vsIn rfl) (fun _ _ _ _ _ => (mgc_name sc.nd rfl (by decide) rfl (.inl rfl))) (fun _ _ _ _ _ => mts_nil) (fun _ _ _ _ _ => (mi_seq rfl (me_callD ⟨rfl, rfl, rfl, rfl⟩ (ok_grown_at T) hr (by omega) rfl (mc_val me_vs (mc_val me_vs (mc_val (me_mul (mo_val me_int) (mo_val me_vs)) mc_nil))) rfl (by decide)))) (fun _ _ _ _ _ => (mgc_name sc.nd rfl (by decide) rfl (.inl rfl))) (fun _ _ _ _ _ => mts_nil) (fun _ _ _ _ _ => me_vs)))))
  (ms_one (ms_ret (me_sortA rfl hr.units rfl T.b_sorted (mo_val (ME.fz (me_lcO (own := [("joints", 3)]) rfl sc.nd (ownOut rfl) (mi_seq rfl me_vs) (blkOk_by rfl) (fun _ _ _ _ _ => (mgc_name sc.nd rfl (by decide) rfl (.inl rfl))) (fun _ _ _ _ _ => mts_nil) (fun _ _ _ _ _ => (me_callD ⟨rfl, rfl, rfl, rfl⟩ (ok_made_map T) hr (by omega) rfl (mc_val me_vs (mc_val me_vs mc_nil)) rfl (by decide)))))))))))
/-! map_count -/
def S_map_count : Scope := by
  have e : defScope (top 45) = defScope (top 45) := rfl
  conv at e => rhs; whnf
  exact rhsOf e
def B_map_count : List Stmt := by
  have e : defBody (top 45) = defBody (top 45) := rfl
  conv at e => rhs; whnf
  exact rhsOf e
theorem sc_map_count : FnScope ["blocks"] ["blocks"] S_map_count := ⟨rfl, rfl, rfl, by decide +kernel, rfl, by decide +kernel, by decide +kernel⟩
def m_map_count : MS → SR := (sSeq (sExpr (eCall f_check_blocks [(.val (eV 0))])) (sRet (eCall f_map_count_in_all [(.val (eV 0))])))
def f_map_count : FM := (runF 1 [false] m_map_count).safe
theorem ok_map_count (T : Top K mg) : DefOk K mg base cls 5 "map_count" (top 45) ["blocks"] [false] false f_map_count := defOk T.d_map_count T.g_map_count (fun _ _ _ _ _ _ us hl => match us, hl with | [_], _ => by kernel_rfl) fun f fd F => fn_okS (k := 4) [false] [] false F rfl rfl rfl sc_map_count rfl (by decide) fun cdv A outer s H vs E hr _ => have sc := sc_map_count
  (ms_cons (ms_expr (me_callD ⟨rfl, rfl, rfl, rfl⟩ (ok_check_blocks T) hr (by omega) rfl (mc_val me_vs mc_nil) rfl (by decide)))
  (ms_one (ms_ret (me_callD ⟨rfl, rfl, rfl, rfl⟩ (ok_map_count_in_all T) hr (by omega) rfl (mc_val me_vs mc_nil) rfl (by decide)))))
/-! map_count_by -/
def S_map_count_by : Scope := by
  have e : defScope (top 46) = defScope (top 46) := rfl
  conv at e => rhs; whnf
  exact rhsOf e
def B_map_count_by : List Stmt := by
  have e : defBody (top 46) = defBody (top 46) := rfl
  conv at e => rhs; whnf
  exact rhsOf e
theorem sc_map_count_by : FnScope ["blocks", "rows"] ["blocks", "rows"] S_map_count_by := ⟨rfl, rfl, rfl, by decide +kernel, rfl, by decide +kernel, by decide +kernel⟩
def m_map_count_by : MS → SR := (sSeq (sExpr (eCall f_check_blocks [(.val (eV 0))])) (sSeq (sIf (tNot1 (eT (eCall f_is_up_to [(.val (eV 1)), (.val (eV 0))]))) sNever sNil) (sRet (eCall f_map_count_of [(.val (eV 0)), (.val (eV 1))]))))
def f_map_count_by : FM := (runF 2 [false, false] m_map_count_by).safe
theorem ok_map_count_by (T : Top K mg) : DefOk K mg base cls 4 "map_count_by" (top 46) ["blocks", "rows"] [false, false] false f_map_count_by := defOk T.d_map_count_by T.g_map_count_by (fun _ _ _ _ _ _ us hl => match us, hl with | [_, _], _ => by kernel_rfl) fun f fd F => fn_okS (k := 3) [false, false] [] false F rfl rfl rfl sc_map_count_by rfl (by decide) fun cdv A outer s H vs E hr _ => have sc := sc_map_count_by
  (ms_cons (ms_expr (me_callD ⟨rfl, rfl, rfl, rfl⟩ (ok_check_blocks T) hr (by omega) rfl (mc_val me_vs mc_nil) rfl (by decide)))
  (ms_cons (ms_if (mt_not (mt_val (me_callD ⟨rfl, rfl, rfl, rfl⟩ (ok_is_up_to T) hr (by omega) rfl (mc_val me_vs (mc_val me_vs mc_nil)) rfl (by decide)))) (ms_one ms_never) ms_nil)
  (ms_one (ms_ret (me_callD ⟨rfl, rfl, rfl, rfl⟩ (ok_map_count_of T) hr (by omega) rfl (mc_val me_vs (mc_val me_vs mc_nil)) rfl (by decide))))))
/-! all_maps -/
def S_all_maps : Scope := by
  have e : defScope (top 47) = defScope (top 47) := rfl
  conv at e => rhs; whnf
  exact rhsOf e
def B_all_maps : List Stmt := by
  have e : defBody (top 47) = defBody (top 47) := rfl
  conv at e => rhs; whnf
  exact rhsOf e
theorem sc_all_maps : FnScope ["blocks"] ["blocks"] S_all_maps := ⟨rfl, rfl, rfl, by decide +kernel, rfl, by decide +kernel, by decide +kernel⟩
def m_all_maps : MS → SR := (sSeq (sExpr (eCall f_check_blocks [(.val (eV 0))])) (sSeq (sIf (eT (eOp gGtA [(.val (eV 0)), (.val (eK (.int 3)))])) sNever sNil) (sRet (eOp gTuple [(.val (eCall f_all_maps_by [(.val (eV 0))]))]))))
def f_all_maps : FM := (runF 1 [false] m_all_maps).safe
theorem ok_all_maps (T : Top K mg) : DefOk K mg base cls 4 "all_maps" (top 47) ["blocks"] [false] false f_all_maps := defOk T.d_all_maps T.g_all_maps (fun _ _ _ _ _ _ us hl => match us, hl with | [_], _ => by kernel_rfl) fun f fd F => fn_okS (k := 3) [false] [] false F rfl rfl rfl sc_all_maps rfl (by decide) fun cdv A outer s H vs E hr _ => have sc := sc_all_maps
  (ms_cons (ms_expr (me_callD ⟨rfl, rfl, rfl, rfl⟩ (ok_check_blocks T) hr (by omega) rfl (mc_val me_vs mc_nil) rfl (by decide)))
  (ms_cons (ms_if (mt_gtA rfl hr.units (mo_val me_vs) (mo_val (me_glob rfl T.c_MOST_LISTED))) (ms_one ms_never) ms_nil)
  (ms_one (ms_ret (me_callTy call_tuple_of opd_tuple rfl T.b_tuple boot_tuple (ma_cons (mo_val (me_callD ⟨rfl, rfl, rfl, rfl⟩ (ok_all_maps_by T) hr (by omega) rfl (mc_val me_vs mc_nil) rfl (by decide))) ma_nil))))))
/-! is_map -/
def S_is_map : Scope := by
  have e : defScope (top 49) = defScope (top 49) := rfl
  conv at e => rhs; whnf
  exact rhsOf e
def B_is_map : List Stmt := by
  have e : defBody (top 49) = defBody (top 49) := rfl
  conv at e => rhs; whnf
  exact rhsOf e
theorem sc_is_map : FnScope ["value"] ["value"] S_is_map := ⟨rfl, rfl, rfl, by decide +kernel, rfl, by decide +kernel, by decide +kernel⟩
def m_is_map : MS → SR := (sRet (eCall f_is_any_map [(.val (eV 0))]))
def f_is_map : FM := (runF 1 [false] m_is_map).safe
theorem ok_is_map (T : Top K mg) : DefOk K mg base cls 8 "is_map" (top 49) ["value"] [false] false f_is_map := defOk T.d_is_map T.g_is_map (fun _ _ _ _ _ _ us hl => match us, hl with | [_], _ => by kernel_rfl) fun f fd F => fn_okS (k := 7) [false] [] false F rfl rfl rfl sc_is_map rfl (by decide) fun cdv A outer s H vs E hr _ => have sc := sc_is_map
  (ms_one (ms_ret (me_callD ⟨rfl, rfl, rfl, rfl⟩ (ok_is_any_map T) hr (by omega) rfl (mc_val me_vs mc_nil) rfl (by decide))))
/-! walk_from -/
def S_walk_from : Scope := by
  have e : defScope (top 53) = defScope (top 53) := rfl
  conv at e => rhs; whnf
  exact rhsOf e
def B_walk_from : List Stmt := by
  have e : defBody (top 53) = defBody (top 53) := rfl
  conv at e => rhs; whnf
  exact rhsOf e
theorem sc_walk_from : FnScope ["partners", "start", "steps", "end"] ["partners", "start"] S_walk_from := ⟨rfl, rfl, rfl, by decide +kernel, rfl, by decide +kernel, by decide +kernel⟩
def m_walk_from : MS → SR := (sSeq (sPar [2, 3] [(.tmp (eVal gLst [(eV 1)])), (.val (eOp gIdx [(.val (eV 0)), (.val (eCall f_mate_of [(.val (eV 1))]))]))]) (sSeq (whileF (tAnd2 (eT (eOp (gIsN true) [(.val (eV 3))])) (eT (eOp gNe [(.val (eV 3)), (.val (eV 1))]))) (sSeq (sExpr (eApp 2 (eV 3))) (sSet 3 (eOp gIdx [(.val (eV 0)), (.val (eCall f_mate_of [(.val (eV 3))]))]))) 1000) (sRetMv 2)))
def f_walk_from : FM := (runF 4 [false, false] m_walk_from).safe
theorem ok_walk_from (T : Top K mg) : DefOk K mg base cls 2 "walk_from" (top 53) ["partners", "start"] [false, false] false f_walk_from := defOk T.d_walk_from T.g_walk_from (fun _ _ _ _ _ _ us hl => match us, hl with | [_, _], _ => by kernel_rfl) fun f fd F => fn_okS (k := 1) [false, false] [2] false F rfl rfl rfl sc_walk_from rfl (by decide) fun cdv A outer s H vs E hr _ => have sc := sc_walk_from
  (ms_cons (ms_par2 rfl sc.nd rfl rfl (by decide) (.cons ⟨rfl, ioNe rfl⟩ (.cons ⟨rfl, ioNe rfl⟩ .nil)) rfl rfl rfl (mc_tmp (me_lstO (mv_cons me_vs mv_nil)) (mc_val (me_idx rfl (mo_val me_vs) (mo_val (me_callD ⟨rfl, rfl, rfl, rfl⟩ (ok_mate_of T) hr (by omega) rfl (mc_val me_vs mc_nil) rfl (by decide)))) mc_nil)) rfl)
  (ms_cons (ms_while 1000 .never (MW.mt (mw_and (mt_notN (mo_val me_vs)) (mw_and1 (mt_ne rfl hr.units (mo_val me_vs) (mo_val me_vs))))) (ms_cons (ms_expr (me_append rfl (pv 2) rfl me_vs))
  (ms_one (ms_set sc.nd rfl rfl (.inl rfl) (me_idx rfl (mo_val me_vs) (mo_val (me_callD ⟨rfl, rfl, rfl, rfl⟩ (ok_mate_of T) hr (by omega) rfl (mc_val me_vs mc_nil) rfl (by decide))))))))
  (ms_one (ms_retMv (pv 2) rfl (ioNe rfl) rfl))))
/-! turned_round -/
def S_turned_round : Scope := by
  have e : defScope (top 54) = defScope (top 54) := rfl
  conv at e => rhs; whnf
  exact rhsOf e
def B_turned_round : List Stmt := by
  have e : defBody (top 54) = defBody (top 54) := rfl
  conv at e => rhs; whnf
  exact rhsOf e
theorem sc_turned_round : FnScope ["steps", "step"] ["steps"] S_turned_round := ⟨rfl, rfl, rfl, by decide +kernel, rfl, by decide +kernel, by decide +kernel⟩
def m_turned_round : MS → SR := (sRet (eLc [1] (iRevD (eV 0)) (gNm 1) tYesM (eCall f_mate_of [(.val (eV 1))])))
def f_turned_round : FM := (runF 2 [false] m_turned_round).safe
theorem ok_turned_round (T : Top K mg) : DefOk K mg base cls 2 "turned_round" (top 54) ["steps"] [false] false f_turned_round := defOk T.d_turned_round T.g_turned_round (fun _ _ _ _ _ _ us hl => match us, hl with | [_], _ => by kernel_rfl) fun f fd F => fn_okS (k := 1) [false] [] false F rfl rfl rfl sc_turned_round rfl (by decide) fun cdv A outer s H vs E hr _ => have sc := sc_turned_round
  (ms_one (ms_ret (ME.fz (me_lcO (own := [("step", 1)]) rfl sc.nd (ownOut rfl) (mi_rev rfl rfl T.b_reversed me_vs) (blkOk_by rfl) (fun _ _ _ _ _ => (mgc_name sc.nd rfl (by decide) rfl (.inl rfl))) (fun _ _ _ _ _ => mts_nil) (fun _ _ _ _ _ => (me_callD ⟨rfl, rfl, rfl, rfl⟩ (ok_mate_of T) hr (by omega) rfl (mc_val me_vs mc_nil) rfl (by decide)))))))
/-! row_reading -/
def S_row_reading : Scope := by
  have e : defScope (top 55) = defScope (top 55) := rfl
  conv at e => rhs; whnf
  exact rhsOf e
def B_row_reading : List Stmt := by
  have e : defBody (top 55) = defBody (top 55) := rfl
  conv at e => rhs; whnf
  exact rhsOf e
theorem sc_row_reading : FnScope ["steps"] ["steps"] S_row_reading := ⟨rfl, rfl, rfl, by decide +kernel, rfl, by decide +kernel, by decide +kernel⟩
def m_row_reading : MS → SR := (sRet (eVal gMin2A [(eOp gTuple [(.val (eV 0))]), (eOp gTuple [(.val (eCall f_turned_round [(.val (eV 0))]))])]))
def f_row_reading : FM := (runF 1 [false] m_row_reading).safe
theorem ok_row_reading (T : Top K mg) : DefOk K mg base cls 3 "row_reading" (top 55) ["steps"] [false] false f_row_reading := defOk T.d_row_reading T.g_row_reading (fun _ _ _ _ _ _ us hl => match us, hl with | [_], _ => by kernel_rfl) fun f fd F => fn_okS (k := 2) [false] [] false F rfl rfl rfl sc_row_reading rfl (by decide) fun cdv A outer s H vs E hr _ => have sc := sc_row_reading
  (ms_one (ms_ret (me_min2A rfl rfl hr.units rfl T.b_min (mv_cons (me_callTy call_tuple_of opd_tuple rfl T.b_tuple boot_tuple (ma_cons (mo_val me_vs) ma_nil)) (mv_cons (me_callTy call_tuple_of opd_tuple rfl T.b_tuple boot_tuple (ma_cons (mo_val (me_callD ⟨rfl, rfl, rfl, rfl⟩ (ok_turned_round T) hr (by omega) rfl (mc_val me_vs mc_nil) rfl (by decide))) ma_nil)) mv_nil)))))
/-! turns_of -/
def S_turns_of : Scope := by
  have e : defScope (top 56) = defScope (top 56) := rfl
  conv at e => rhs; whnf
  exact rhsOf e
def B_turns_of : List Stmt := by
  have e : defBody (top 56) = defBody (top 56) := rfl
  conv at e => rhs; whnf
  exact rhsOf e
theorem sc_turns_of : FnScope ["steps", "at"] ["steps"] S_turns_of := ⟨rfl, rfl, rfl, by decide +kernel, rfl, by decide +kernel, by decide +kernel⟩
def m_turns_of : MS → SR := (sRet (eLc [1] (iRange1 (.val (eOp gLen [(.val (eV 0))]))) (gNm 1) tYesM (eOp gTuple [(.val (eOp gAdd [(.val (eOp gSl10 [(.val (eV 0)), (.val (eV 1))])), (.val (eOp gSl01 [(.val (eV 0)), (.val (eV 1))]))]))])))
def f_turns_of : FM := (runF 2 [false] m_turns_of).safe
theorem ok_turns_of (T : Top K mg) : DefOk K mg base cls 1 "turns_of" (top 56) ["steps"] [false] false f_turns_of := defOk T.d_turns_of T.g_turns_of (fun _ _ _ _ _ _ us hl => match us, hl with | [_], _ => by kernel_rfl) fun f fd F => fn_okS (k := 0) [false] [] false F rfl rfl rfl sc_turns_of rfl (by decide) fun cdv A outer s H vs E hr _ => have sc := sc_turns_of
  (ms_one (ms_ret (ME.fz (me_lcO (own := [("at", 1)]) rfl sc.nd (ownOut rfl) (mi_range1 rfl T.b_range (ma_cons (mo_val (me_callB call_len opd_len rfl T.b_len boot_len (ma_cons (mo_val me_vs) ma_nil))) ma_nil)) (blkOk_by rfl) (fun _ _ _ _ _ => (mgc_name sc.nd rfl (by decide) rfl (.inl rfl))) (fun _ _ _ _ _ => mts_nil) (fun _ _ _ _ _ => (me_callTy call_tuple_of opd_tuple rfl T.b_tuple boot_tuple (ma_cons (mo_val (me_add rfl (mo_val (me_sl10 rfl (mo_val me_vs) (mo_val me_vs))) (mo_val (me_sl01 rfl (mo_val me_vs) (mo_val me_vs))))) ma_nil)))))))
/-! ring_reading -/
def S_ring_reading : Scope := by
  have e : defScope (top 57) = defScope (top 57) := rfl
  conv at e => rhs; whnf
  exact rhsOf e
def B_ring_reading : List Stmt := by
  have e : defBody (top 57) = defBody (top 57) := rfl
  conv at e => rhs; whnf
  exact rhsOf e
theorem sc_ring_reading : FnScope ["steps"] ["steps"] S_ring_reading := ⟨rfl, rfl, rfl, by decide +kernel, rfl, by decide +kernel, by decide +kernel⟩
def m_ring_reading : MS → SR := (sRet (eOp gMinA [(.val (eOp gAdd [(.val (eCall f_turns_of [(.val (eV 0))])), (.val (eCall f_turns_of [(.val (eCall f_turned_round [(.val (eV 0))]))]))]))]))
def f_ring_reading : FM := (runF 1 [false] m_ring_reading).safe
theorem ok_ring_reading (T : Top K mg) : DefOk K mg base cls 3 "ring_reading" (top 57) ["steps"] [false] false f_ring_reading := defOk T.d_ring_reading T.g_ring_reading (fun _ _ _ _ _ _ us hl => match us, hl with | [_], _ => by kernel_rfl) fun f fd F => fn_okS (k := 2) [false] [] false F rfl rfl rfl sc_ring_reading rfl (by decide) fun cdv A outer s H vs E hr _ => have sc := sc_ring_reading
  (ms_one (ms_ret (me_minL rfl rfl hr.units rfl T.b_min (mo_val (me_add rfl (mo_val (me_callD ⟨rfl, rfl, rfl, rfl⟩ (ok_turns_of T) hr (by omega) rfl (mc_val me_vs mc_nil) rfl (by decide))) (mo_val (me_callD ⟨rfl, rfl, rfl, rfl⟩ (ok_turns_of T) hr (by omega) rfl (mc_val (me_callD ⟨rfl, rfl, rfl, rfl⟩ (ok_turned_round T) hr (by omega) rfl (mc_val me_vs mc_nil) rfl (by decide)) mc_nil) rfl (by decide))))))))
/-! rows_by -/
def S_rows_by : Scope := by
  have e : defScope (top 58) = defScope (top 58) := rfl
  conv at e => rhs; whnf
  exact rhsOf e
def B_rows_by : List Stmt := by
  have e : defBody (top 58) = defBody (top 58) := rfl
  conv at e => rhs; whnf
  exact rhsOf e
theorem sc_rows_by : FnScope ["chart", "partners", "found", "end", "reading"] ["chart"] S_rows_by := ⟨rfl, rfl, rfl, by decide +kernel, rfl, by decide +kernel, by decide +kernel⟩
def m_rows_by : MS → SR := (sSeq (sPar [1, 2] [(.val (eCall f_partners_of [(.val (eV 0))])), (.tmp (eVal gLst []))]) (sSeq (sFor (iSeq (eCall f_free_by [(.val (eV 0))])) (gNm 3) (sSeq (sSet 4 (eCall f_row_reading [(.val (eCall f_walk_from [(.val (eV 1)), (.val (eV 3))]))])) (sIf (eT (eOp gNotInA [(.val (eVal gTup [(eK (.str "row")), (eV 4)])), (.own 2)])) (sExpr (eApp 2 (eVal gTup [(eK (.str "row")), (eV 4)]))) sNil))) (sRetMv 2)))
def f_rows_by : FM := (runF 5 [false] m_rows_by).safe
theorem ok_rows_by (T : Top K mg) : DefOk K mg base cls 4 "rows_by" (top 58) ["chart"] [false] false f_rows_by := defOk T.d_rows_by T.g_rows_by (fun _ _ _ _ _ _ us hl => match us, hl with | [_], _ => by kernel_rfl) fun f fd F => fn_okS (k := 3) [false] [2] false F rfl rfl rfl sc_rows_by rfl (by decide) fun cdv A outer s H vs E hr _ => have sc := sc_rows_by
  (ms_cons (ms_par2 rfl sc.nd rfl rfl (by decide) (.cons ⟨rfl, ioNe rfl⟩ (.cons ⟨rfl, ioNe rfl⟩ .nil)) rfl rfl rfl (mc_val (me_callD ⟨rfl, rfl, rfl, rfl⟩ (ok_partners_of T) hr (by omega) rfl (mc_val me_vs mc_nil) rfl (by decide)) (mc_tmp (me_lstO mv_nil) mc_nil)) rfl)
  (ms_cons (ms_for .never rfl (mi_seq rfl (me_callD ⟨rfl, rfl, rfl, rfl⟩ (ok_free_by T) hr (by omega) rfl (mc_val me_vs mc_nil) rfl (by decide))) (mg_name sc.nd rfl rfl (.inl rfl)) (ms_cons (ms_set sc.nd rfl rfl (.inl rfl) (me_callD ⟨rfl, rfl, rfl, rfl⟩ (ok_row_reading T) hr (by omega) rfl (mc_val (me_callD ⟨rfl, rfl, rfl, rfl⟩ (ok_walk_from T) hr (by omega) rfl (mc_val me_vs (mc_val me_vs mc_nil)) rfl (by decide)) mc_nil) rfl (by decide)))
  (ms_one (ms_if (mt_notInA ⟨rfl, rfl, rfl, rfl⟩ rfl hr.units (mo_val (me_tup (mv_cons (me_globS rfl T.c_ROW) (mv_cons me_vs mv_nil)))) mo_os) (ms_one (ms_expr (me_append rfl (pv 2) rfl (me_tup (mv_cons (me_globS rfl T.c_ROW) (mv_cons me_vs mv_nil)))))) ms_nil))))
  (ms_one (ms_retMv (pv 2) rfl (ioNe rfl) rfl))))
/-! rings_by -/
def S_rings_by : Scope := by
  have e : defScope (top 59) = defScope (top 59) := rfl
  conv at e => rhs; whnf
  exact rhsOf e
def B_rings_by : List Stmt := by
  have e : defBody (top 59) = defBody (top 59) := rfl
  conv at e => rhs; whnf
  exact rhsOf e
theorem sc_rings_by : FnScope ["chart", "seen", "partners", "found", "done", "end", "steps"] ["chart", "seen"] S_rings_by := ⟨rfl, rfl, rfl, by decide +kernel, rfl, by decide +kernel, by decide +kernel⟩
def m_rings_by : MS → SR := (sSeq (sPar [2, 3, 4] [(.val (eCall f_partners_of [(.val (eV 0))])), (.tmp (eVal gLst [])), (.tmp (eOp gList [(.val (eV 1))]))]) (sSeq (sFor (iRange3 (.val (eK (.int 0))) (.val (eOp gMul [(.val (eK (.int 2))), (.val (eCall f_blocks_of [(.val (eV 0))]))])) (.val (eK (.int 2)))) (gNm 5) (sIf (eT (eOp gNotInA [(.val (eV 5)), (.own 4)])) (sSeq (sSet 6 (eCall f_walk_from [(.val (eV 2)), (.val (eV 5))])) (sSeq (sExpr (eExt 4 (eOp gAdd [(.val (eV 6)), (.val (eCall f_turned_round [(.val (eV 6))]))]))) (sExpr (eApp 3 (eVal gTup [(eK (.str "ring")), (eCall f_ring_reading [(.val (eV 6))])]))))) sNil)) (sRetMv 3)))
def f_rings_by : FM := (runF 7 [false, false] m_rings_by).safe
theorem ok_rings_by (T : Top K mg) : DefOk K mg base cls 4 "rings_by" (top 59) ["chart", "seen"] [false, false] false f_rings_by := defOk T.d_rings_by T.g_rings_by (fun _ _ _ _ _ _ us hl => match us, hl with | [_, _], _ => by kernel_rfl) fun f fd F => fn_okS (k := 3) [false, false] [3, 4] false F rfl rfl rfl sc_rings_by rfl (by decide) fun cdv A outer s H vs E hr _ => have sc := sc_rings_by
  (ms_cons (ms_par3 rfl sc.nd rfl rfl rfl (by decide) (by decide) (by decide) (.cons ⟨rfl, ioNe rfl⟩ (.cons ⟨rfl, ioNe rfl⟩ (.cons ⟨rfl, ioNe rfl⟩ .nil))) rfl rfl rfl rfl (mc_val (me_callD ⟨rfl, rfl, rfl, rfl⟩ (ok_partners_of T) hr (by omega) rfl (mc_val me_vs mc_nil) rfl (by decide)) (mc_tmp (me_lstO mv_nil) (mc_tmp (me_callTy call_list_of opd_list rfl T.b_list boot_list (ma_cons (mo_val me_vs) ma_nil)) mc_nil))) rfl)
  (ms_cons (ms_for .never rfl (mi_range3 rfl T.b_range (ma_cons (mo_val me_int) (ma_cons (mo_val (me_mul (mo_val me_int) (mo_val (me_callD ⟨rfl, rfl, rfl, rfl⟩ (ok_blocks_of T) hr (by omega) rfl (mc_val me_vs mc_nil) rfl (by decide))))) (ma_cons (mo_val me_int) ma_nil)))) (mg_name sc.nd rfl rfl (.inl rfl)) (ms_one (ms_if (mt_notInA ⟨rfl, rfl, rfl, rfl⟩ rfl hr.units (mo_val me_vs) mo_os) (ms_cons (ms_set sc.nd rfl rfl (.inl rfl) (me_callD ⟨rfl, rfl, rfl, rfl⟩ (ok_walk_from T) hr (by omega) rfl (mc_val me_vs (mc_val me_vs mc_nil)) rfl (by decide)))
  (ms_cons (ms_expr (me_extend (pv 4) rfl (me_add rfl (mo_val me_vs) (mo_val (me_callD ⟨rfl, rfl, rfl, rfl⟩ (ok_turned_round T) hr (by omega) rfl (mc_val me_vs mc_nil) rfl (by decide))))))
  (ms_one (ms_expr (me_append rfl (pv 3) rfl (me_tup (mv_cons (me_globS rfl T.c_RING) (mv_cons (me_callD ⟨rfl, rfl, rfl, rfl⟩ (ok_ring_reading T) hr (by omega) rfl (mc_val me_vs mc_nil) rfl (by decide)) mv_nil)))))))) ms_nil)))
  (ms_one (ms_retMv (pv 3) rfl (ioNe rfl) rfl))))
/-! pieces_by -/
def S_pieces_by : Scope := by
  have e : defScope (top 60) = defScope (top 60) := rfl
  conv at e => rhs; whnf
  exact rhsOf e
def B_pieces_by : List Stmt := by
  have e : defBody (top 60) = defBody (top 60) := rfl
  conv at e => rhs; whnf
  exact rhsOf e
theorem sc_pieces_by : FnScope ["chart", "rows", "seen", "kind", "steps", "step", "end"] ["chart"] S_pieces_by := ⟨rfl, rfl, rfl, by decide +kernel, rfl, by decide +kernel, by decide +kernel⟩
def m_pieces_by : MS → SR := (sSeq (sSet 1 (eCall f_rows_by [(.val (eV 0))])) (sSeq (sSet 2 (eLc3 [3, 4, 5, 6] (iSeq (eV 1)) (gTp 2 (gsCons (gNm 3) (gsCons (gNm 4) gsNil))) tYesM [5, 6] (iSeq (eV 4)) (gNm 5) tYesM [6] (iSeq (eVal gTup [(eV 5), (eCall f_mate_of [(.val (eV 5))])])) (gNm 6) tYesM (eV 6))) (sRet (eOp gSortA [(.val (eOp gAdd [(.val (eV 1)), (.val (eCall f_rings_by [(.val (eV 0)), (.val (eV 2))]))]))]))))
def f_pieces_by : FM := (runF 7 [false] m_pieces_by).safe
theorem ok_pieces_by (T : Top K mg) : DefOk K mg base cls 5 "pieces_by" (top 60) ["chart"] [false] false f_pieces_by := defOk T.d_pieces_by T.g_pieces_by (fun _ _ _ _ _ _ us hl => match us, hl with | [_], _ => by kernel_rfl) fun f fd F => fn_okS (k := 4) [false] [] false F rfl rfl rfl sc_pieces_by rfl (by decide) fun cdv A outer s H vs E hr _ => have sc := sc_pieces_by
  (ms_cons (ms_set sc.nd rfl rfl (.inl rfl) (me_callD ⟨rfl, rfl, rfl, rfl⟩ (ok_rows_by T) hr (by omega) rfl (mc_val me_vs mc_nil) rfl (by decide)))
  (ms_cons (ms_lc3F (own := [("kind", 3), ("steps", 4), ("step", 5), ("end", 6)]) (vs1 := [5, 6]) (vs2 := [6]) (ownOut rfl) (vsIn rfl) (by decide) rfl (ps_lc3A (own := [("kind", 3), ("steps", 4), ("step", 5), ("end", 6)]) (vs1 := [5, 6]) (vs2 := [6]) rfl sc.nd rfl rfl rfl (mi_seq rfl me_vs) (blkOk_by rfl) (vsIn rfl) (by decide) (fun _ _ _ _ _ => (mgc_tup rfl rfl (mgcs_cons (mgc_name sc.nd rfl (by decide) rfl (.inl rfl)) (mgcs_cons (mgc_name sc.nd rfl (by decide) rfl (.inl rfl)) mgcs_nil)))) (fun _ _ _ _ _ => mts_nil) (fun _ _ _ _ _ => (mi_seq rfl me_vs)) (fun _ _ _ _ _ => (mgc_name sc.nd rfl (by decide) rfl (.inl rfl))) (fun _ _ _ _ _ => mts_nil) (fun _ _ _ _ _ => (mi_seq rfl (me_tup (mv_cons me_vs (mv_cons (me_callD ⟨rfl, rfl, rfl, rfl⟩ (ok_mate_of T) hr (by omega) rfl (mc_val me_vs mc_nil) rfl (by decide)) mv_nil))))) (fun _ _ _ _ _ => (mgc_name sc.nd rfl (by decide) rfl (.inl rfl))) (fun _ _ _ _ _ => mts_nil) (fun _ _ _ _ _ => me_vs)))
  (ms_one (ms_ret (me_sortA rfl hr.units rfl T.b_sorted (mo_val (me_add rfl (mo_val me_vs) (mo_val (me_callD ⟨rfl, rfl, rfl, rfl⟩ (ok_rings_by T) hr (by omega) rfl (mc_val me_vs (mc_val me_vs mc_nil)) rfl (by decide))))))))))
/-! joints_of_steps -/
def S_joints_of_steps : Scope := by
  have e : defScope (top 61) = defScope (top 61) := rfl
  conv at e => rhs; whnf
  exact rhsOf e
def B_joints_of_steps : List Stmt := by
  have e : defBody (top 61) = defBody (top 61) := rfl
  conv at e => rhs; whnf
  exact rhsOf e
theorem sc_joints_of_steps : FnScope ["kind", "steps", "found", "one", "two"] ["kind", "steps"] S_joints_of_steps := ⟨rfl, rfl, rfl, by decide +kernel, rfl, by decide +kernel, by decide +kernel⟩
def m_joints_of_steps : MS → SR := (sSeq (sSet 2 (eLc [3, 4] (iZip (eV 1) (eOp gSl10 [(.val (eV 1)), (.val (eK (.int 1)))])) (gTp 2 (gsCons (gNm 3) (gsCons (gNm 4) gsNil))) tYesM (eCall f_joint_of [(.val (eCall f_mate_of [(.val (eV 3))])), (.val (eV 4))]))) (sRet (eIf (eT (eOp gEq [(.val (eV 0)), (.val (eK (.str "ring")))])) (eOp gAdd [(.val (eV 2)), (.val (eVal gLst [(eCall f_joint_of [(.val (eCall f_mate_of [(.val (eOp gIdx [(.val (eV 1)), (.val (eOp gNeg [(.val (eK (.int 1)))]))]))])), (.val (eOp gIdx [(.val (eV 1)), (.val (eK (.int 0)))]))])]))]) (eV 2))))
def f_joints_of_steps : FM := (runF 5 [false, false] m_joints_of_steps).safe
theorem ok_joints_of_steps (T : Top K mg) : DefOk K mg base cls 2 "joints_of_steps" (top 61) ["kind", "steps"] [false, false] false f_joints_of_steps := defOk T.d_joints_of_steps T.g_joints_of_steps (fun _ _ _ _ _ _ us hl => match us, hl with | [_, _], _ => by kernel_rfl) fun f fd F => fn_okS (k := 1) [false, false] [] false F rfl rfl rfl sc_joints_of_steps rfl (by decide) fun cdv A outer s H vs E hr _ => have sc := sc_joints_of_steps
  (ms_cons (ms_lcF (own := [("one", 3), ("two", 4)]) (ownOut rfl) rfl (ps_lcA (own := [("one", 3), ("two", 4)]) rfl sc.nd rfl rfl rfl (mi_zip rfl rfl T.b_zip (mv_cons me_vs (mv_cons (me_sl10 rfl (mo_val me_vs) (mo_val me_int)) mv_nil))) (blkOk_by rfl) (fun _ _ _ _ _ => (mgc_tup rfl rfl (mgcs_cons (mgc_name sc.nd rfl (by decide) rfl (.inl rfl)) (mgcs_cons (mgc_name sc.nd rfl (by decide) rfl (.inl rfl)) mgcs_nil)))) (fun _ _ _ _ _ => mts_nil) (fun _ _ _ _ _ => (me_callD ⟨rfl, rfl, rfl, rfl⟩ (ok_joint_of T) hr (by omega) rfl (mc_val (me_callD ⟨rfl, rfl, rfl, rfl⟩ (ok_mate_of T) hr (by omega) rfl (mc_val me_vs mc_nil) rfl (by decide)) (mc_val me_vs mc_nil)) rfl (by decide)))))
  (ms_one (ms_ret (me_ifExp (mt_eq rfl hr.units (mo_val me_vs) (mo_val (me_globS rfl T.c_RING))) (me_add rfl (mo_val me_vs) (mo_val (me_lst (mv_cons (me_callD ⟨rfl, rfl, rfl, rfl⟩ (ok_joint_of T) hr (by omega) rfl (mc_val (me_callD ⟨rfl, rfl, rfl, rfl⟩ (ok_mate_of T) hr (by omega) rfl (mc_val (me_idx rfl (mo_val me_vs) (mo_val (me_neg (mo_val me_int)))) mc_nil) rfl (by decide)) (mc_val (me_idx rfl (mo_val me_vs) (mo_val me_int)) mc_nil)) rfl (by decide)) mv_nil)))) me_vs))))
/-! map_by -/
def S_map_by : Scope := by
  have e : defScope (top 62) = defScope (top 62) := rfl
  conv at e => rhs; whnf
  exact rhsOf e
def B_map_by : List Stmt := by
  have e : defBody (top 62) = defBody (top 62) := rfl
  conv at e => rhs; whnf
  exact rhsOf e
theorem sc_map_by : FnScope ["blocks", "pieces", "kind", "steps", "joint"] ["blocks", "pieces"] S_map_by := ⟨rfl, rfl, rfl, by decide +kernel, rfl, by decide +kernel, by decide +kernel⟩
def m_map_by : MS → SR := (sRet (eCall f_made_map [(.val (eV 0)), (.val (eLc2 [2, 3, 4] (iSeq (eV 1)) (gTp 2 (gsCons (gNm 2) (gsCons (gNm 3) gsNil))) tYesM [4] (iSeq (eCall f_joints_of_steps [(.val (eV 2)), (.val (eV 3))])) (gNm 4) tYesM (eV 4)))]))
def f_map_by : FM := (runF 5 [false, false] m_map_by).safe
theorem ok_map_by (T : Top K mg) : DefOk K mg base cls 3 "map_by" (top 62) ["blocks", "pieces"] [false, false] false f_map_by := defOk T.d_map_by T.g_map_by (fun _ _ _ _ _ _ us hl => match us, hl with | [_, _], _ => by kernel_rfl) fun f fd F => fn_okS (k := 2) [false, false] [] false F rfl rfl rfl sc_map_by rfl (by decide) fun cdv A outer s H vs E hr _ => have sc := sc_map_by
  (ms_one (ms_ret (me_callD ⟨rfl, rfl, rfl, rfl⟩ (ok_made_map T) hr (by omega) rfl (mc_val me_vs (mc_val (ME.fz (me_lc2O (own := [("kind", 2), ("steps", 3), ("joint", 4)]) (vs1 := [4]) rfl sc.nd (ownOut rfl) (mi_seq rfl me_vs) (blkOk_by rfl) (vsIn rfl) (fun _ _ _ _ _ => (mgc_tup rfl rfl (mgcs_cons (mgc_name sc.nd rfl (by decide) rfl (.inl rfl)) (mgcs_cons (mgc_name sc.nd rfl (by decide) rfl (.inl rfl)) mgcs_nil)))) (fun _ _ _ _ _ => mts_nil) (fun _ _ _ _ _ => (mi_seq rfl (me_callD ⟨rfl, rfl, rfl, rfl⟩ (ok_joints_of_steps T) hr (by omega) rfl (mc_val me_vs (mc_val me_vs mc_nil)) rfl (by decide)))) (fun _ _ _ _ _ => (mgc_name sc.nd rfl (by decide) rfl (.inl rfl))) (fun _ _ _ _ _ => mts_nil) (fun _ _ _ _ _ => me_vs))) mc_nil)) rfl (by decide))))
/-! is_piece_in -/
def S_is_piece_in : Scope := by
  have e : defScope (top 64) = defScope (top 64) := rfl
  conv at e => rhs; whnf
  exact rhsOf e
def B_is_piece_in : List Stmt := by
  have e : defBody (top 64) = defBody (top 64) := rfl
  conv at e => rhs; whnf
  exact rhsOf e
theorem sc_is_piece_in : FnScope ["value", "blocks", "step"] ["value", "blocks"] S_is_piece_in := ⟨rfl, rfl, rfl, by decide +kernel, rfl, by decide +kernel, by decide +kernel⟩
def m_is_piece_in : MS → SR := (sSeq (sIf (tOr2 (tNot1 (eT (eCall f_is_pair [(.val (eV 0))]))) (tOr2 (tNot1 (eT (eCall f_is_named [(.val (eOp gIdx [(.val (eV 0)), (.val (eK (.int 0)))])), (.val (eVal gTup [(eK (.str "row")), (eK (.str "ring"))]))]))) (tOr2 (tNot1 (eT (eOp (gIsi [.tup]) [(.val (eOp gIdx [(.val (eV 0)), (.val (eK (.int 1)))]))]))) (eT (eOp gEq [(.val (eOp gIdx [(.val (eV 0)), (.val (eK (.int 1)))])), (.val (eVal gTup []))]))))) (sRet (eK (.bl false))) sNil) (sRet (eOp gAll [(.val (eLc [2] (iSeq (eOp gIdx [(.val (eV 0)), (.val (eK (.int 1)))])) (gNm 2) tYesM (eCall f_is_end_of [(.val (eV 2)), (.val (eV 1))])))])))
def f_is_piece_in : FM := (runF 3 [false, false] m_is_piece_in).safe
theorem ok_is_piece_in (T : Top K mg) : DefOk K mg base cls 5 "is_piece_in" (top 64) ["value", "blocks"] [false, false] false f_is_piece_in := defOk T.d_is_piece_in T.g_is_piece_in (fun _ _ _ _ _ _ us hl => match us, hl with | [_, _], _ => by kernel_rfl) fun f fd F => fn_okS (k := 4) [false, false] [] false F rfl rfl rfl sc_is_piece_in rfl (by decide) fun cdv A outer s H vs E hr _ => have sc := sc_is_piece_in
  (ms_cons (ms_if (MW.mt (mw_or (mt_not (mt_val (me_callD ⟨rfl, rfl, rfl, rfl⟩ (ok_is_pair T) hr (by omega) rfl (mc_val me_vs mc_nil) rfl (by decide)))) (mw_or (mt_not (mt_val (me_callD ⟨rfl, rfl, rfl, rfl⟩ (ok_is_named T) hr (by omega) rfl (mc_val (me_idx rfl (mo_val me_vs) (mo_val me_int)) (mc_val (me_tup (mv_cons (me_globS rfl T.c_ROW) (mv_cons (me_globS rfl T.c_RING) mv_nil))) mc_nil)) rfl (by decide)))) (mw_or (mt_not (mt_val (me_isi rfl .tup rfl T.b_isinstance rfl T.b_tuple boot_tuple (mo_val (me_idx rfl (mo_val me_vs) (mo_val me_int)))))) (mw_or1 (mt_eq rfl hr.units (mo_val (me_idx rfl (mo_val me_vs) (mo_val me_int))) (mo_val (me_tup mv_nil)))))))) (ms_one (ms_ret me_bl)) ms_nil)
  (ms_one (ms_ret (me_callB (cr_all rfl) opd_all rfl T.b_all boot_all (ma_cons (mo_val (ME.fz (me_lcO (own := [("step", 2)]) rfl sc.nd (ownOut rfl) (mi_seq rfl (me_idx rfl (mo_val me_vs) (mo_val me_int))) (blkOk_by rfl) (fun _ _ _ _ _ => (mgc_name sc.nd rfl (by decide) rfl (.inl rfl))) (fun _ _ _ _ _ => mts_nil) (fun _ _ _ _ _ => (me_callD ⟨rfl, rfl, rfl, rfl⟩ (ok_is_end_of T) hr (by omega) rfl (mc_val me_vs (mc_val me_vs mc_nil)) rfl (by decide)))))) ma_nil)))))
/-! enters_anew -/
def S_enters_anew : Scope := by
  have e : defScope (top 65) = defScope (top 65) := rfl
  conv at e => rhs; whnf
  exact rhsOf e
def B_enters_anew : List Stmt := by
  have e : defBody (top 65) = defBody (top 65) := rfl
  conv at e => rhs; whnf
  exact rhsOf e
theorem sc_enters_anew : FnScope ["steps", "entered", "seen", "step"] ["steps", "entered"] S_enters_anew := ⟨rfl, rfl, rfl, by decide +kernel, rfl, by decide +kernel, by decide +kernel⟩
def m_enters_anew : MS → SR := (sSeq (sSetO 2 (eOp gList [(.own 1)])) (sSeq (sFor (iSeq (eV 0)) (gNm 3) (sSeq (sIf (eT (eOp gInA [(.val (eV 3)), (.own 2)])) (sRet (eK (.bl false))) sNil) (sExpr (eExt 2 (eVal gLst [(eV 3), (eCall f_mate_of [(.val (eV 3))])]))))) (sRet (eK (.bl true)))))
def f_enters_anew : FM := (runF 4 [false, true] m_enters_anew).safe
theorem ok_enters_anew (T : Top K mg) : DefOk K mg base cls 2 "enters_anew" (top 65) ["steps", "entered"] [false, true] false f_enters_anew := defOk T.d_enters_anew T.g_enters_anew (fun _ _ _ _ _ _ us hl => match us, hl with | [_, _], _ => by kernel_rfl) fun f fd F => fn_okS (k := 1) [false, true] [2] false F rfl rfl rfl sc_enters_anew rfl (by decide) fun cdv A outer s H vs E hr _ => have sc := sc_enters_anew
  (ms_cons (ms_setO sc.nd rfl (ioNe rfl) rfl (.inl rfl) (me_callTy call_list_of opd_list rfl T.b_list boot_list (ma_cons mo_os ma_nil)))
  (ms_cons (ms_for .never rfl (mi_seq rfl me_vs) (mg_name sc.nd rfl rfl (.inl rfl)) (ms_cons (ms_if (mt_inA ⟨rfl, rfl, rfl, rfl⟩ rfl hr.units (mo_val me_vs) mo_os) (ms_one (ms_ret me_bl)) ms_nil)
  (ms_one (ms_expr (me_extend (pv 2) rfl (me_lst (mv_cons me_vs (mv_cons (me_callD ⟨rfl, rfl, rfl, rfl⟩ (ok_mate_of T) hr (by omega) rfl (mc_val me_vs mc_nil) rfl (by decide)) mv_nil))))))))
  (ms_one (ms_ret me_bl))))
/-! wrong_in_pieces -/
def S_wrong_in_pieces : Scope := by
  have e : defScope (top 66) = defScope (top 66) := rfl
  conv at e => rhs; whnf
  exact rhsOf e
def B_wrong_in_pieces : List Stmt := by
  have e : defBody (top 66) = defBody (top 66) := rfl
  conv at e => rhs; whnf
  exact rhsOf e
theorem sc_wrong_in_pieces : FnScope ["value", "blocks", "entered", "index", "piece", "step", "end"] ["value", "blocks"] S_wrong_in_pieces := ⟨rfl, rfl, rfl, by decide +kernel, rfl, by decide +kernel, by decide +kernel⟩
def m_wrong_in_pieces : MS → SR := (sSeq (sIf (tNot1 (eT (eOp (gIsi [.tup]) [(.val (eV 0))]))) (sRet (eVal gLst [(eK .non)])) sNil) (sSeq (sSetO 2 (eVal gLst [])) (sSeq (sFor (iEnumA (eV 0)) (gTp 2 (gsCons (gNm 3) (gsCons (gNm 4) gsNil))) (sSeq (sIf (tOr2 (tNot1 (eT (eCall f_is_piece_in [(.val (eV 4)), (.val (eV 1))]))) (tNot1 (eT (eCall f_enters_anew [(.val (eOp gIdx [(.val (eV 4)), (.val (eK (.int 1)))])), (.own 2)])))) (sRet (eVal gLst [(eV 3)])) sNil) (sExpr (eExt 2 (eLc2 [5, 6] (iSeq (eOp gIdx [(.val (eV 4)), (.val (eK (.int 1)))])) (gNm 5) tYesM [6] (iSeq (eVal gTup [(eV 5), (eCall f_mate_of [(.val (eV 5))])])) (gNm 6) tYesM (eV 6)))))) (sRet (eIf (eT (eOp gEq [(.val (eOp gLen [(.own 2)])), (.val (eOp gMul [(.val (eK (.int 2))), (.val (eV 1))]))])) (eVal gLst []) (eVal gLst [(eOp gLen [(.val (eV 0))])]))))))
def f_wrong_in_pieces : FM := (runF 7 [false, false] m_wrong_in_pieces).safe
theorem ok_wrong_in_pieces (T : Top K mg) : DefOk K mg base cls 6 "wrong_in_pieces" (top 66) ["value", "blocks"] [false, false] false f_wrong_in_pieces := defOk T.d_wrong_in_pieces T.g_wrong_in_pieces (fun _ _ _ _ _ _ us hl => match us, hl with | [_, _], _ => by kernel_rfl) fun f fd F => fn_okS (k := 5) [false, false] [2] false F rfl rfl rfl sc_wrong_in_pieces rfl (by decide) fun cdv A outer s H vs E hr _ => have sc := sc_wrong_in_pieces
  (ms_cons (ms_if (mt_not (mt_val (me_isi rfl .tup rfl T.b_isinstance rfl T.b_tuple boot_tuple (mo_val me_vs)))) (ms_one (ms_ret (me_lst (mv_cons me_non mv_nil)))) ms_nil)
  (ms_cons (ms_setO sc.nd rfl (ioNe rfl) rfl (.inl rfl) (me_lstO mv_nil))
  (ms_cons (ms_for .never rfl (mi_enumA rfl rfl T.b_enumerate (mv_cons me_vs mv_nil)) (mg_tup rfl rfl (mgs_cons (mg_name sc.nd rfl rfl (.inl rfl)) (mgs_cons (mg_name sc.nd rfl rfl (.inl rfl)) mgs_nil))) (ms_cons (ms_if (MW.mt (mw_or (mt_not (mt_val (me_callD ⟨rfl, rfl, rfl, rfl⟩ (ok_is_piece_in T) hr (by omega) rfl (mc_val me_vs (mc_val me_vs mc_nil)) rfl (by decide)))) (mw_or1 (mt_not (mt_val (me_callD ⟨rfl, rfl, rfl, rfl⟩ (ok_enters_anew T) hr (by omega) rfl (mc_val (me_idx rfl (mo_val me_vs) (mo_val me_int)) (mc_os mc_nil)) rfl (by decide))))))) (ms_one (ms_ret (me_lst (mv_cons me_vs mv_nil)))) ms_nil)
  (ms_one (ms_expr (me_extend (pv 2) rfl (ME.fz (me_lc2O (own := [("step", 5), ("end", 6)]) (vs1 := [6]) rfl sc.nd (ownOut rfl) (mi_seq rfl (me_idx rfl (mo_val me_vs) (mo_val me_int))) (blkOk_by rfl) (vsIn rfl) (fun _ _ _ _ _ => (mgc_name sc.nd rfl (by decide) rfl (.inl rfl))) (fun _ _ _ _ _ => mts_nil) (fun _ _ _ _ _ => (mi_seq rfl (me_tup (mv_cons me_vs (mv_cons (me_callD ⟨rfl, rfl, rfl, rfl⟩ (ok_mate_of T) hr (by omega) rfl (mc_val me_vs mc_nil) rfl (by decide)) mv_nil))))) (fun _ _ _ _ _ => (mgc_name sc.nd rfl (by decide) rfl (.inl rfl))) (fun _ _ _ _ _ => mts_nil) (fun _ _ _ _ _ => me_vs))))))))
  (ms_one (ms_ret (me_ifExp (mt_eq rfl hr.units (mo_val (me_callB call_len opd_len rfl T.b_len boot_len (ma_cons mo_os ma_nil))) (mo_val (me_mul (mo_val me_int) (mo_val me_vs)))) (me_lst mv_nil) (me_lst (mv_cons (me_callB call_len opd_len rfl T.b_len boot_len (ma_cons (mo_val me_vs) ma_nil)) mv_nil))))))))
/-! pieces -/
def S_pieces : Scope := by
  have e : defScope (top 67) = defScope (top 67) := rfl
  conv at e => rhs; whnf
  exact rhsOf e
def B_pieces : List Stmt := by
  have e : defBody (top 67) = defBody (top 67) := rfl
  conv at e => rhs; whnf
  exact rhsOf e
theorem sc_pieces : FnScope ["chart"] ["chart"] S_pieces := ⟨rfl, rfl, rfl, by decide +kernel, rfl, by decide +kernel, by decide +kernel⟩
def m_pieces : MS → SR := (sSeq (sExpr (eCall f_check_chart [(.val (eV 0))])) (sRet (eOp gTuple [(.val (eCall f_pieces_by [(.val (eV 0))]))])))
def f_pieces : FM := (runF 1 [false] m_pieces).safe
theorem ok_pieces (T : Top K mg) : DefOk K mg base cls 9 "pieces" (top 67) ["chart"] [false] false f_pieces := defOk T.d_pieces T.g_pieces (fun _ _ _ _ _ _ us hl => match us, hl with | [_], _ => by kernel_rfl) fun f fd F => fn_okS (k := 8) [false] [] false F rfl rfl rfl sc_pieces rfl (by decide) fun cdv A outer s H vs E hr _ => have sc := sc_pieces
  (ms_cons (ms_expr (me_callD ⟨rfl, rfl, rfl, rfl⟩ (ok_check_chart T) hr (by omega) rfl (mc_val me_vs mc_nil) rfl (by decide)))
  (ms_one (ms_ret (me_callTy call_tuple_of opd_tuple rfl T.b_tuple boot_tuple (ma_cons (mo_val (me_callD ⟨rfl, rfl, rfl, rfl⟩ (ok_pieces_by T) hr (by omega) rfl (mc_val me_vs mc_nil) rfl (by decide))) ma_nil)))))
/-! map_of -/
def S_map_of : Scope := by
  have e : defScope (top 68) = defScope (top 68) := rfl
  conv at e => rhs; whnf
  exact rhsOf e
def B_map_of : List Stmt := by
  have e : defBody (top 68) = defBody (top 68) := rfl
  conv at e => rhs; whnf
  exact rhsOf e
theorem sc_map_of : FnScope ["blocks", "pieces", "index"] ["blocks", "pieces"] S_map_of := ⟨rfl, rfl, rfl, by decide +kernel, rfl, by decide +kernel, by decide +kernel⟩
def m_map_of : MS → SR := (sSeq (sExpr (eCall f_check_blocks [(.val (eV 0))])) (sSeq (sFor (iSeq (eCall f_wrong_in_pieces [(.val (eV 1)), (.val (eV 0))])) (gNm 2) sNever) (sRet (eCall f_map_by [(.val (eV 0)), (.val (eV 1))]))))
def f_map_of : FM := (runF 3 [false, false] m_map_of).safe
theorem ok_map_of (T : Top K mg) : DefOk K mg base cls 7 "map_of" (top 68) ["blocks", "pieces"] [false, false] false f_map_of := defOk T.d_map_of T.g_map_of (fun _ _ _ _ _ _ us hl => match us, hl with | [_, _], _ => by kernel_rfl) fun f fd F => fn_okS (k := 6) [false, false] [] false F rfl rfl rfl sc_map_of rfl (by decide) fun cdv A outer s H vs E hr _ => have sc := sc_map_of
  (ms_cons (ms_expr (me_callD ⟨rfl, rfl, rfl, rfl⟩ (ok_check_blocks T) hr (by omega) rfl (mc_val me_vs mc_nil) rfl (by decide)))
  (ms_cons (ms_for .never rfl (mi_seq rfl (me_callD ⟨rfl, rfl, rfl, rfl⟩ (ok_wrong_in_pieces T) hr (by omega) rfl (mc_val me_vs (mc_val me_vs mc_nil)) rfl (by decide))) (mg_name sc.nd rfl rfl (.inl rfl)) (ms_one ms_never))
  (ms_one (ms_ret (me_callD ⟨rfl, rfl, rfl, rfl⟩ (ok_map_by T) hr (by omega) rfl (mc_val me_vs (mc_val me_vs mc_nil)) rfl (by decide))))))
/-! _law_well -/
def S__law_well : Scope := by
  have e : defScope (top 70) = defScope (top 70) := rfl
  conv at e => rhs; whnf
  exact rhsOf e
def B__law_well : List Stmt := by
  have e : defBody (top 70) = defBody (top 70) := rfl
  conv at e => rhs; whnf
  exact rhsOf e
theorem sc__law_well : FnScope ["script", "lap", "own", "stir", "each"] ["script", "lap"] S__law_well := ⟨rfl, rfl, rfl, by decide +kernel, rfl, by decide +kernel, by decide +kernel⟩
def m__law_well : MS → SR := (sSeq (sSet 2 (eIf (eT (eOp gLtA [(.val (eV 1)), (.val (eOp gLen [(.val (eV 0))]))])) (eOp gInt [(.val (eOp gIdx [(.val (eV 0)), (.val (eV 1))]))]) (eK (.int 0)))) (sSeq (sSet 3 (eOp gAdd [(.val (eK (.int 52027))), (.val (eOp gMul [(.val (eK (.int 6971))), (.val (eV 1))]))])) (sSeq (sFor (iSeq (eOp gAdd [(.val (eOp gSl01 [(.val (eV 0)), (.val (eK (.int 8)))])), (.val (eVal gLst [(eV 2)]))])) (gNm 4) (sSet 3 (eOp gMod [(.val (eOp gInt [(.val (eOp gAdd [(.val (eOp gAdd [(.val (eOp gMul [(.val (eV 3)), (.val (eK (.int 44497)))])), (.val (eOp gMod [(.val (eOp gInt [(.val (eV 4))])), (.val (eK (.int 2147483587)))]))])), (.val (eK (.int 29)))]))])), (.val (eK (.int 2147483563)))]))) (sRet (eVal gLst [(eIf (tOr2 (eT (eOp gLtA [(.val (eV 2)), (.val (eK (.int 0)))])) (eT (eOp gGeA [(.val (eV 2)), (.val (eOp gPow [(.val (eK (.int 10))), (.val (eK (.int 18)))]))]))) (eOp gAbs [(.val (eV 2))]) (eK (.int 0))), (eV 3), (eK (.int 0))])))))
def f__law_well : FM := (runF 5 [false, false] m__law_well).safe
theorem ok__law_well (T : Top K mg) : DefOk K mg base cls 1 "_law_well" (top 70) ["script", "lap"] [false, false] true f__law_well := defOk T.d__law_well T.g__law_well (fun _ _ _ _ _ _ us hl => match us, hl with | [_, _], _ => by kernel_rfl) fun f fd F => fn_okS (k := 0) [false, false] [] true F rfl rfl rfl sc__law_well rfl (by decide) fun cdv A outer s H vs E hr _ => have sc := sc__law_well
  (ms_cons (ms_set sc.nd rfl rfl (.inl rfl) (me_ifExp (mt_ltA rfl hr.units (mo_val me_vs) (mo_val (me_callB call_len opd_len rfl T.b_len boot_len (ma_cons (mo_val me_vs) ma_nil)))) (me_callTy call_int1 opd_int1 rfl T.b_int boot_int (ma_cons (mo_val (me_idx rfl (mo_val me_vs) (mo_val me_vs))) ma_nil)) me_int))
  (ms_cons (ms_set sc.nd rfl rfl (.inl rfl) (me_add rfl (mo_val me_int) (mo_val (me_mul (mo_val me_int) (mo_val me_vs)))))
  (ms_cons (ms_for .never rfl (mi_seq rfl (me_add rfl (mo_val (me_sl01 rfl (mo_val me_vs) (mo_val me_int))) (mo_val (me_lst (mv_cons me_vs mv_nil))))) (mg_name sc.nd rfl rfl (.inl rfl)) (ms_one (ms_set sc.nd rfl rfl (.inl rfl) (me_mod (mo_val (me_callTy call_int1 opd_int1 rfl T.b_int boot_int (ma_cons (mo_val (me_add rfl (mo_val (me_add rfl (mo_val (me_mul (mo_val me_vs) (mo_val me_int))) (mo_val (me_mod (mo_val (me_callTy call_int1 opd_int1 rfl T.b_int boot_int (ma_cons (mo_val me_vs) ma_nil))) (mo_val me_int))))) (mo_val me_int))) ma_nil))) (mo_val me_int)))))
  (ms_one (ms_ret (me_lstO (mv_cons (me_ifExp (MW.mt (mw_or (mt_ltA rfl hr.units (mo_val me_vs) (mo_val me_int)) (mw_or1 (mt_geA rfl hr.units (mo_val me_vs) (mo_val (me_pow (mo_val me_int) (mo_val me_int))))))) (me_callB call_abs opd_abs rfl T.b_abs boot_abs (ma_cons (mo_val me_vs) ma_nil)) me_int) (mv_cons me_vs (mv_cons me_int mv_nil)))))))))
/-! _law_take -/
def S__law_take : Scope := by
  have e : defScope (top 71) = defScope (top 71) := rfl
  conv at e => rhs; whnf
  exact rhsOf e
def B__law_take : List Stmt := by
  have e : defBody (top 71) = defBody (top 71) := rfl
  conv at e => rhs; whnf
  exact rhsOf e
theorem sc__law_take : FnScope ["well", "many", "digit"] ["well", "many"] S__law_take := ⟨rfl, rfl, rfl, by decide +kernel, rfl, by decide +kernel, by decide +kernel⟩
def m__law_take : MS → SR := (sSeq (sIf (eT (eOp gGtA [(.val (eOp gIdx [(.own 0), (.val (eK (.int 0)))])), (.val (eK (.int 0)))])) (sSeq (sAsg (eOp gDivmod [(.val (eOp gIdx [(.own 0), (.val (eK (.int 0)))])), (.val (eV 1))]) (gTp 2 (gsCons (gSb 0 (eK (.int 0))) (gsCons (gNm 2) gsNil)))) (sRet (eV 2))) sNil) (sSeq (sAsg (eOp gAdd [(.val (eOp gIdx [(.own 0), (.val (eK (.int 2)))])), (.val (eK (.int 1)))]) (gSb 0 (eK (.int 2)))) (sSeq (sAsg (eOp gMod [(.val (eOp gInt [(.val (eOp gAdd [(.val (eOp gAdd [(.val (eOp gMul [(.val (eOp gIdx [(.own 0), (.val (eK (.int 1)))])), (.val (eK (.int 39373)))])), (.val (eOp gMul [(.val (eOp gIdx [(.own 0), (.val (eK (.int 2)))])), (.val (eK (.int 30323)))]))])), (.val (eK (.int 11)))]))])), (.val (eK (.int 2147483543)))]) (gSb 0 (eK (.int 1)))) (sRet (eOp gMod [(.val (eOp gInt [(.val (eOp gDiv [(.val (eOp gIdx [(.own 0), (.val (eK (.int 1)))])), (.val (eK (.int 128)))]))])), (.val (eV 1))])))))
def f__law_take : FM := (runF 3 [true, false] m__law_take).safe
theorem ok__law_take (T : Top K mg) : DefOk K mg base cls 1 "_law_take" (top 71) ["well", "many"] [true, false] false f__law_take := defOk T.d__law_take T.g__law_take (fun _ _ _ _ _ _ us hl => match us, hl with | [_, _], _ => by kernel_rfl) fun f fd F => fn_okS (k := 0) [true, false] [] false F rfl rfl rfl sc__law_take rfl (by decide) fun cdv A outer s H vs E hr _ => have sc := sc__law_take
  (ms_cons (ms_if (mt_gtA rfl hr.units (mo_val (me_idx rfl mo_os (mo_val me_int))) (mo_val me_int)) (ms_cons (ms_asg (me_callB call_divmod opd_divmod rfl T.b_divmod boot_divmod (ma_cons (mo_val (me_idx rfl mo_os (mo_val me_int))) (ma_cons (mo_val me_vs) ma_nil))) (mg_tup rfl rfl (mgs_cons (mg_sub hr.units (pv 0) rfl me_int) (mgs_cons (mg_name sc.nd rfl rfl (.inl rfl)) mgs_nil))))
  (ms_one (ms_ret me_vs))) ms_nil)
  (ms_cons (ms_asg (me_add rfl (mo_val (me_idx rfl mo_os (mo_val me_int))) (mo_val me_int)) (mg_sub hr.units (pv 0) rfl me_int))
  (ms_cons (ms_asg (me_mod (mo_val (me_callTy call_int1 opd_int1 rfl T.b_int boot_int (ma_cons (mo_val (me_add rfl (mo_val (me_add rfl (mo_val (me_mul (mo_val (me_idx rfl mo_os (mo_val me_int))) (mo_val me_int))) (mo_val (me_mul (mo_val (me_idx rfl mo_os (mo_val me_int))) (mo_val me_int))))) (mo_val me_int))) ma_nil))) (mo_val me_int)) (mg_sub hr.units (pv 0) rfl me_int))
  (ms_one (ms_ret (me_mod (mo_val (me_callTy call_int1 opd_int1 rfl T.b_int boot_int (ma_cons (mo_val (me_div (mo_val (me_idx rfl mo_os (mo_val me_int))) (mo_val me_int))) ma_nil))) (mo_val me_vs)))))))
/-! _law_same -/
def S__law_same : Scope := by
  have e : defScope (top 72) = defScope (top 72) := rfl
  conv at e => rhs; whnf
  exact rhsOf e
def B__law_same : List Stmt := by
  have e : defBody (top 72) = defBody (top 72) := rfl
  conv at e => rhs; whnf
  exact rhsOf e
theorem sc__law_same : FnScope ["told", "due", "at"] ["told", "due"] S__law_same := ⟨rfl, rfl, rfl, by decide +kernel, rfl, by decide +kernel, by decide +kernel⟩
def m__law_same (rec : FM) : MS → SR := (sSeq (sIf (tOr2 (tAnd2 (eT (eOp (gIsi [.tup]) [(.val (eV 1))])) (tNot1 (eT (eOp (gIsi [.tup]) [(.val (eV 0))])))) (tAnd2 (eT (eOp (gIsi [.lst]) [(.val (eV 1))])) (tNot1 (eT (eOp (gIsi [.lst]) [(.val (eV 0))]))))) (sRet (eK (.bl false))) sNil) (sSeq (sIf (eT (eOp (gIsi [.tup, .lst]) [(.val (eV 1))])) (sRet (eAnd (eOp gEq [(.val (eOp gLen [(.val (eV 0))])), (.val (eOp gLen [(.val (eV 1))]))]) (eOp gAll [(.val (eLc [2] (iRange1 (.val (eOp gLen [(.val (eV 1))]))) (gNm 2) tYesM (eCall rec [(.val (eOp gIdx [(.val (eV 0)), (.val (eV 2))])), (.val (eOp gIdx [(.val (eV 1)), (.val (eV 2))]))])))]))) sNil) (sSeq (sIf (tOr2 (eT (eOp (gIsN false) [(.val (eV 1))])) (eT (eOp (gIsN false) [(.val (eV 0))]))) (sRet (eAnd (eOp (gIsN false) [(.val (eV 1))]) (eOp (gIsN false) [(.val (eV 0))]))) sNil) (sSeq (sIf (tOr2 (eT (eOp (gIsi [.bl]) [(.val (eV 1))])) (eT (eOp (gIsi [.bl]) [(.val (eV 0))]))) (sRet (eAnd (eOp (gIsi [.bl]) [(.val (eV 1))]) (eAnd (eOp (gIsi [.bl]) [(.val (eV 0))]) (eOp gEq [(.val (eV 1)), (.val (eV 0))])))) sNil) (sSeq (sIf (eT (eOp (gIsi [.int]) [(.val (eV 1))])) (sRet (eAnd (eOp (gIsi [.int]) [(.val (eV 0))]) (eOp gEq [(.val (eV 0)), (.val (eV 1))]))) sNil) (sSeq (sIf (eT (eOp (gIsi [.str]) [(.val (eV 1))])) (sRet (eAnd (eOp (gIsi [.str]) [(.val (eV 0))]) (eOp gEq [(.val (eV 0)), (.val (eV 1))]))) sNil) (sRet (eAnd (eOp (gIsi [.dic]) [(.val (eV 1))]) (eAnd (eOp (gIsi [.dic]) [(.val (eV 0))]) (eAnd (eOp gEq [(.val (eOp gLen [(.val (eV 0))])), (.val (eOp gLen [(.val (eV 1))]))]) (eOp gEq [(.val (eV 0)), (.val (eV 1))])))))))))))
def f__law_same : Nat → FM
  | 0 => (runF 3 [false, false] sNever).safe
  | n + 1 => (runF 3 [false, false] (m__law_same (f__law_same n))).safe
theorem ok__law_same (T : Top K mg) : ∀ n : Nat, DefOk K mg base cls (n + 1) "_law_same" (top 72) ["told", "due"] [false, false] false (f__law_same n)
  | 0 => defOk T.d__law_same T.g__law_same (fun _ _ _ _ _ _ us hl => match us, hl with | [_, _], _ => by kernel_rfl) fun f fd F => (fn_okS (k := 0) [false, false] [] false F rfl rfl rfl sc__law_same rfl (by decide) fun cdv A outer s H vs E hr _ => mss_never).mono (by omega)
  | n + 1 => defOk T.d__law_same T.g__law_same (fun _ _ _ _ _ _ us hl => match us, hl with | [_, _], _ => by kernel_rfl) fun f fd F => (fn_okS (k := n + 1) [false, false] [] false F rfl rfl rfl sc__law_same rfl (by decide) fun cdv A outer s H vs E hr _ => have sc := sc__law_same; have R := ok__law_same T n
  (ms_cons (ms_if (MW.mt (mw_or (MW.mt (mw_and (mt_val (me_isi rfl .tup rfl T.b_isinstance rfl T.b_tuple boot_tuple (mo_val me_vs))) (mw_and1 (mt_not (mt_val (me_isi rfl .tup rfl T.b_isinstance rfl T.b_tuple boot_tuple (mo_val me_vs))))))) (mw_or1 (MW.mt (mw_and (mt_val (me_isi rfl .lst rfl T.b_isinstance rfl T.b_list boot_list (mo_val me_vs))) (mw_and1 (mt_not (mt_val (me_isi rfl .lst rfl T.b_isinstance rfl T.b_list boot_list (mo_val me_vs)))))))))) (ms_one (ms_ret me_bl)) ms_nil)
  (ms_cons (ms_if (mt_val (me_isi2 rfl .tup .lst rfl T.b_isinstance rfl T.b_tuple boot_tuple rfl T.b_list boot_list (mo_val me_vs))) (ms_one (ms_ret (me_and (me_eq rfl hr.units (mo_val (me_callB call_len opd_len rfl T.b_len boot_len (ma_cons (mo_val me_vs) ma_nil))) (mo_val (me_callB call_len opd_len rfl T.b_len boot_len (ma_cons (mo_val me_vs) ma_nil)))) (me_one (me_callB (cr_all rfl) opd_all rfl T.b_all boot_all (ma_cons (mo_val (ME.fz (me_lcO (own := [("at", 2)]) rfl sc.nd (ownOut rfl) (mi_range1 rfl T.b_range (ma_cons (mo_val (me_callB call_len opd_len rfl T.b_len boot_len (ma_cons (mo_val me_vs) ma_nil))) ma_nil)) (blkOk_by rfl) (fun _ _ _ _ _ => (mgc_name sc.nd rfl (by decide) rfl (.inl rfl))) (fun _ _ _ _ _ => mts_nil) (fun _ _ _ _ _ => (me_callD ⟨rfl, rfl, rfl, rfl⟩ R hr (Nat.le_refl _) rfl (mc_val (me_idx rfl (mo_val me_vs) (mo_val me_vs)) (mc_val (me_idx rfl (mo_val me_vs) (mo_val me_vs)) mc_nil)) rfl (by decide)))))) ma_nil)))))) ms_nil)
  (ms_cons (ms_if (MW.mt (mw_or (mt_isN (mo_val me_vs)) (mw_or1 (mt_isN (mo_val me_vs))))) (ms_one (ms_ret (me_and (me_isN (mo_val me_vs)) (me_one (me_isN (mo_val me_vs)))))) ms_nil)
  (ms_cons (ms_if (MW.mt (mw_or (mt_val (me_isi rfl .bl rfl T.b_isinstance rfl T.b_bool boot_bool (mo_val me_vs))) (mw_or1 (mt_val (me_isi rfl .bl rfl T.b_isinstance rfl T.b_bool boot_bool (mo_val me_vs)))))) (ms_one (ms_ret (me_and (me_isi rfl .bl rfl T.b_isinstance rfl T.b_bool boot_bool (mo_val me_vs)) (me_and (me_isi rfl .bl rfl T.b_isinstance rfl T.b_bool boot_bool (mo_val me_vs)) (me_one (me_eq rfl hr.units (mo_val me_vs) (mo_val me_vs))))))) ms_nil)
  (ms_cons (ms_if (mt_val (me_isi rfl .int rfl T.b_isinstance rfl T.b_int boot_int (mo_val me_vs))) (ms_one (ms_ret (me_and (me_isi rfl .int rfl T.b_isinstance rfl T.b_int boot_int (mo_val me_vs)) (me_one (me_eq rfl hr.units (mo_val me_vs) (mo_val me_vs)))))) ms_nil)
  (ms_cons (ms_if (mt_val (me_isi rfl .str rfl T.b_isinstance rfl T.b_str boot_str (mo_val me_vs))) (ms_one (ms_ret (me_and (me_isi rfl .str rfl T.b_isinstance rfl T.b_str boot_str (mo_val me_vs)) (me_one (me_eq rfl hr.units (mo_val me_vs) (mo_val me_vs)))))) ms_nil)
  (ms_one (ms_ret (me_and (me_isi rfl .dic rfl T.b_isinstance rfl T.b_dict boot_dict (mo_val me_vs)) (me_and (me_isi rfl .dic rfl T.b_isinstance rfl T.b_dict boot_dict (mo_val me_vs)) (me_and (me_eq rfl hr.units (mo_val (me_callB call_len opd_len rfl T.b_len boot_len (ma_cons (mo_val me_vs) ma_nil))) (mo_val (me_callB call_len opd_len rfl T.b_len boot_len (ma_cons (mo_val me_vs) ma_nil)))) (me_one (me_eq rfl hr.units (mo_val me_vs) (mo_val me_vs))))))))))))))).mono (by omega)
/-! _law_mate -/
def S__law_mate : Scope := by
  have e : defScope (top 73) = defScope (top 73) := rfl
  conv at e => rhs; whnf
  exact rhsOf e
def B__law_mate : List Stmt := by
  have e : defBody (top 73) = defBody (top 73) := rfl
  conv at e => rhs; whnf
  exact rhsOf e
theorem sc__law_mate : FnScope ["end"] ["end"] S__law_mate := ⟨rfl, rfl, rfl, by decide +kernel, rfl, by decide +kernel, by decide +kernel⟩
def m__law_mate : MS → SR := (sRet (eIf (eT (eOp gEq [(.val (eOp gMod [(.val (eOp gInt [(.val (eV 0))])), (.val (eK (.int 2)))])), (.val (eK (.int 0)))])) (eOp gAdd [(.val (eV 0)), (.val (eK (.int 1)))]) (eOp gSub [(.val (eV 0)), (.val (eK (.int 1)))])))
def f__law_mate : FM := (runF 1 [false] m__law_mate).safe
theorem ok__law_mate (T : Top K mg) : DefOk K mg base cls 1 "_law_mate" (top 73) ["end"] [false] false f__law_mate := defOk T.d__law_mate T.g__law_mate (fun _ _ _ _ _ _ us hl => match us, hl with | [_], _ => by kernel_rfl) fun f fd F => fn_okS (k := 0) [false] [] false F rfl rfl rfl sc__law_mate rfl (by decide) fun cdv A outer s H vs E hr _ => have sc := sc__law_mate
  (ms_one (ms_ret (me_ifExp (mt_eq rfl hr.units (mo_val (me_mod (mo_val (me_callTy call_int1 opd_int1 rfl T.b_int boot_int (ma_cons (mo_val me_vs) ma_nil))) (mo_val me_int))) (mo_val me_int)) (me_add rfl (mo_val me_vs) (mo_val me_int)) (me_sub (mo_val me_vs) (mo_val me_int)))))
/-! _law_partners -/
def S__law_partners : Scope := by
  have e : defScope (top 74) = defScope (top 74) := rfl
  conv at e => rhs; whnf
  exact rhsOf e
def B__law_partners : List Stmt := by
  have e : defBody (top 74) = defBody (top 74) := rfl
  conv at e => rhs; whnf
  exact rhsOf e
theorem sc__law_partners : FnScope ["chart", "found", "one", "two"] ["chart"] S__law_partners := ⟨rfl, rfl, rfl, by decide +kernel, rfl, by decide +kernel, by decide +kernel⟩
def m__law_partners : MS → SR := (sSeq (sSetO 1 eDic0) (sSeq (sFor (iSeq (eOp gIdx [(.val (eV 0)), (.val (eK (.int 1)))])) (gTp 2 (gsCons (gNm 2) (gsCons (gNm 3) gsNil))) (sAsg (eVal gTup [(eV 3), (eV 2)]) (gTp 2 (gsCons (gSb 1 (eV 2)) (gsCons (gSb 1 (eV 3)) gsNil))))) (sRetMv 1)))
def f__law_partners : FM := (runF 4 [false] m__law_partners).safe
theorem ok__law_partners (T : Top K mg) : DefOk K mg base cls 1 "_law_partners" (top 74) ["chart"] [false] false f__law_partners := defOk T.d__law_partners T.g__law_partners (fun _ _ _ _ _ _ us hl => match us, hl with | [_], _ => by kernel_rfl) fun f fd F => fn_okS (k := 0) [false] [1] false F rfl rfl rfl sc__law_partners rfl (by decide) fun cdv A outer s H vs E hr _ => have sc := sc__law_partners
  (ms_cons (ms_setO sc.nd rfl (ioNe rfl) rfl (.inl rfl) me_dic0O)
  (ms_cons (ms_for .never rfl (mi_seq rfl (me_idx rfl (mo_val me_vs) (mo_val me_int))) (mg_tup rfl rfl (mgs_cons (mg_name sc.nd rfl rfl (.inl rfl)) (mgs_cons (mg_name sc.nd rfl rfl (.inl rfl)) mgs_nil))) (ms_one (ms_asg (me_tup (mv_cons me_vs (mv_cons me_vs mv_nil))) (mg_tup rfl rfl (mgs_cons (mg_sub hr.units (pv 1) rfl me_vs) (mgs_cons (mg_sub hr.units (pv 1) rfl me_vs) mgs_nil))))))
  (ms_one (ms_retMv (pv 1) rfl (ioNe rfl) rfl))))
/-! _law_reading -/
def S__law_reading : Scope := by
  have e : defScope (top 75) = defScope (top 75) := rfl
  conv at e => rhs; whnf
  exact rhsOf e
def B__law_reading : List Stmt := by
  have e : defBody (top 75) = defBody (top 75) := rfl
  conv at e => rhs; whnf
  exact rhsOf e
theorem sc__law_reading : FnScope ["partners", "end", "found", "turn", "there"] ["partners", "end"] S__law_reading := ⟨rfl, rfl, rfl, by decide +kernel, rfl, by decide +kernel, by decide +kernel⟩
def m__law_reading : MS → SR := (sSeq (sSetO 2 (eVal gLst [(eV 1)])) (sSeq (sFor (iRange1 (.val (eK (.int 90)))) (gNm 3) (sSeq (sSet 4 (eCall f__law_mate [(.val (eOp gIdx [(.own 2), (.val (eOp gNeg [(.val (eK (.int 1)))]))]))])) (sSeq (sIf (eT (eOp (gHasD true) [(.val (eV 4)), (.val (eV 0))])) (sRet (eVal gTup [(eOp gTuple [(.own 2)]), (eK (.bl false))])) sNil) (sSeq (sIf (eT (eOp gEq [(.val (eOp gGetD [(.val (eV 0)), (.val (eV 4))])), (.val (eV 1))])) (sRet (eVal gTup [(eOp gTuple [(.own 2)]), (eK (.bl true))])) sNil) (sExpr (eApp 2 (eOp gGetD [(.val (eV 0)), (.val (eV 4))]))))))) (sRet (eVal gTup [(eOp gTuple [(.own 2)]), (eK (.bl true))]))))
def f__law_reading : FM := (runF 5 [false, false] m__law_reading).safe
theorem ok__law_reading (T : Top K mg) : DefOk K mg base cls 2 "_law_reading" (top 75) ["partners", "end"] [false, false] false f__law_reading := defOk T.d__law_reading T.g__law_reading (fun _ _ _ _ _ _ us hl => match us, hl with | [_, _], _ => by kernel_rfl) fun f fd F => fn_okS (k := 1) [false, false] [2] false F rfl rfl rfl sc__law_reading rfl (by decide) fun cdv A outer s H vs E hr _ => have sc := sc__law_reading
  (ms_cons (ms_setO sc.nd rfl (ioNe rfl) rfl (.inl rfl) (me_lstO (mv_cons me_vs mv_nil)))
  (ms_cons (ms_for .never rfl (mi_range1 rfl T.b_range (ma_cons (mo_val me_int) ma_nil)) (mg_name sc.nd rfl rfl (.inl rfl)) (ms_cons (ms_set sc.nd rfl rfl (.inl rfl) (me_callD ⟨rfl, rfl, rfl, rfl⟩ (ok__law_mate T) hr (by omega) rfl (mc_val (me_idx rfl mo_os (mo_val (me_neg (mo_val me_int)))) mc_nil) rfl (by decide)))
  (ms_cons (ms_if (mt_hasNotD hr.units (mo_val me_vs) (mo_val me_vs)) (ms_one (ms_ret (me_tup (mv_cons (me_callTy call_tuple_of opd_tuple rfl T.b_tuple boot_tuple (ma_cons mo_os ma_nil)) (mv_cons me_bl mv_nil))))) ms_nil)
  (ms_cons (ms_if (mt_eq rfl hr.units (mo_val (me_getD hr.units (mo_val me_vs) (mo_val me_vs))) (mo_val me_vs)) (ms_one (ms_ret (me_tup (mv_cons (me_callTy call_tuple_of opd_tuple rfl T.b_tuple boot_tuple (ma_cons mo_os ma_nil)) (mv_cons me_bl mv_nil))))) ms_nil)
  (ms_one (ms_expr (me_append rfl (pv 2) rfl (me_getD hr.units (mo_val me_vs) (mo_val me_vs)))))))))
  (ms_one (ms_ret (me_tup (mv_cons (me_callTy call_tuple_of opd_tuple rfl T.b_tuple boot_tuple (ma_cons mo_os ma_nil)) (mv_cons me_bl mv_nil)))))))
/-! _law_pieces -/
def S__law_pieces : Scope := by
  have e : defScope (top 76) = defScope (top 76) := rfl
  conv at e => rhs; whnf
  exact rhsOf e
def B__law_pieces : List Stmt := by
  have e : defBody (top 76) = defBody (top 76) := rfl
  conv at e => rhs; whnf
  exact rhsOf e
theorem sc__law_pieces : FnScope ["chart", "partners", "found", "seen", "end", "steps", "is_ring", "back", "step", "readings"] ["chart"] S__law_pieces := ⟨rfl, rfl, rfl, by decide +kernel, rfl, by decide +kernel, by decide +kernel⟩
def m__law_pieces : MS → SR := (sSeq (sPar [1, 2, 3] [(.val (eCall f__law_partners [(.val (eV 0))])), (.tmp (eVal gLst [])), (.tmp eDic0)]) (sSeq (sFor (iRange1 (.val (eOp gMul [(.val (eK (.int 2))), (.val (eOp gIdx [(.val (eV 0)), (.val (eK (.int 0)))]))]))) (gNm 4) (sIf (tAnd2 (eT (eOp (gHasD true) [(.val (eOp gDiv [(.val (eV 4)), (.val (eK (.int 2)))])), (.own 3)])) (eT (eOp (gHasD true) [(.val (eV 4)), (.val (eV 1))]))) (sSeq (sAsg (eCall f__law_reading [(.val (eV 1)), (.val (eV 4))]) (gTp 2 (gsCons (gNm 5) (gsCons (gNm 6) gsNil)))) (sSeq (sSet 7 (eOp gTuple [(.val (eLc [8] (iSeq (eOp gBack [(.val (eV 5))])) (gNm 8) tYesM (eCall f__law_mate [(.val (eV 8))])))])) (sSeq (sExpr (eApp 2 (eVal gTup [(eK (.str "row")), (eVal gMin2A [(eV 5), (eV 7)])]))) (sFor (iSeq (eV 5)) (gNm 8) (sAsg (eK (.bl true)) (gSb 3 (eOp gDiv [(.val (eV 8)), (.val (eK (.int 2)))]))))))) sNil)) (sSeq (sFor (iRange1 (.val (eOp gMul [(.val (eK (.int 2))), (.val (eOp gIdx [(.val (eV 0)), (.val (eK (.int 0)))]))]))) (gNm 4) (sIf (eT (eOp (gHasD true) [(.val (eOp gDiv [(.val (eV 4)), (.val (eK (.int 2)))])), (.own 3)])) (sSeq (sSet 9 (eVal gLst [(eOp gIdx [(.val (eCall f__law_reading [(.val (eV 1)), (.val (eV 4))])), (.val (eK (.int 0)))])])) (sSeq (sFor (iSeq (eOp gIdx [(.val (eV 9)), (.val (eK (.int 0)))])) (gNm 8) (sSeq (sAsg (eK (.bl true)) (gSb 3 (eOp gDiv [(.val (eV 8)), (.val (eK (.int 2)))]))) (sSet 9 (eOp gAdd [(.val (eV 9)), (.val (eVal gLst [(eOp gIdx [(.val (eCall f__law_reading [(.val (eV 1)), (.val (eV 8))])), (.val (eK (.int 0)))]), (eOp gIdx [(.val (eCall f__law_reading [(.val (eV 1)), (.val (eCall f__law_mate [(.val (eV 8))]))])), (.val (eK (.int 0)))])]))])))) (sExpr (eApp 2 (eVal gTup [(eK (.str "ring")), (eOp gMinA [(.val (eV 9))])]))))) sNil)) (sRet (eOp gTuple [(.val (eOp gSortA [(.own 2)]))])))))
def f__law_pieces : FM := (runF 10 [false] m__law_pieces).safe
theorem ok__law_pieces (T : Top K mg) : DefOk K mg base cls 3 "_law_pieces" (top 76) ["chart"] [false] false f__law_pieces := defOk T.d__law_pieces T.g__law_pieces (fun _ _ _ _ _ _ us hl => match us, hl with | [_], _ => by kernel_rfl) fun f fd F => fn_okS (k := 2) [false] [2, 3] false F rfl rfl rfl sc__law_pieces rfl (by decide) fun cdv A outer s H vs E hr _ => have sc := sc__law_pieces
  (ms_cons (ms_par3 rfl sc.nd rfl rfl rfl (by decide) (by decide) (by decide) (.cons ⟨rfl, ioNe rfl⟩ (.cons ⟨rfl, ioNe rfl⟩ (.cons ⟨rfl, ioNe rfl⟩ .nil))) rfl rfl rfl rfl (mc_val (me_callD ⟨rfl, rfl, rfl, rfl⟩ (ok__law_partners T) hr (by omega) rfl (mc_val me_vs mc_nil) rfl (by decide)) (mc_tmp (me_lstO mv_nil) (mc_tmp me_dic0O mc_nil))) rfl)
  (ms_cons (ms_for .never rfl (mi_range1 rfl T.b_range (ma_cons (mo_val (me_mul (mo_val me_int) (mo_val (me_idx rfl (mo_val me_vs) (mo_val me_int))))) ma_nil)) (mg_name sc.nd rfl rfl (.inl rfl)) (ms_one (ms_if (MW.mt (mw_and (mt_hasNotD hr.units (mo_val (me_div (mo_val me_vs) (mo_val me_int))) mo_os) (mw_and1 (mt_hasNotD hr.units (mo_val me_vs) (mo_val me_vs))))) (ms_cons (ms_asg (me_callD ⟨rfl, rfl, rfl, rfl⟩ (ok__law_reading T) hr (by omega) rfl (mc_val me_vs (mc_val me_vs mc_nil)) rfl (by decide)) (mg_tup rfl rfl (mgs_cons (mg_name sc.nd rfl rfl (.inl rfl)) (mgs_cons (mg_name sc.nd rfl rfl (.inl rfl)) mgs_nil))))
  (ms_cons (ms_set sc.nd rfl rfl (.inl rfl) (me_callTy call_tuple_of opd_tuple rfl T.b_tuple boot_tuple (ma_cons (mo_val (ME.fz (me_lcO (own := [("step", 8)]) rfl sc.nd (ownOut rfl) (mi_seq rfl (me_back rfl (mo_val me_vs))) (blkOk_by rfl) (fun _ _ _ _ _ => (mgc_name sc.nd rfl (by decide) rfl (.inl rfl))) (fun _ _ _ _ _ => mts_nil) (fun _ _ _ _ _ => (me_callD ⟨rfl, rfl, rfl, rfl⟩ (ok__law_mate T) hr (by omega) rfl (mc_val me_vs mc_nil) rfl (by decide)))))) ma_nil)))
  (ms_cons (ms_expr (me_append rfl (pv 2) rfl (me_tup (mv_cons me_str (mv_cons (me_min2A rfl rfl hr.units rfl T.b_min (mv_cons me_vs (mv_cons me_vs mv_nil))) mv_nil)))))
  (ms_one (ms_for .never rfl (mi_seq rfl me_vs) (mg_name sc.nd rfl rfl (.inl rfl)) (ms_one (ms_asg me_bl (mg_sub hr.units (pv 3) rfl (me_div (mo_val me_vs) (mo_val me_int)))))))))) ms_nil)))
  (ms_cons (ms_for .never rfl (mi_range1 rfl T.b_range (ma_cons (mo_val (me_mul (mo_val me_int) (mo_val (me_idx rfl (mo_val me_vs) (mo_val me_int))))) ma_nil)) (mg_name sc.nd rfl rfl (.inl rfl)) (ms_one (ms_if (mt_hasNotD hr.units (mo_val (me_div (mo_val me_vs) (mo_val me_int))) mo_os) (ms_cons (ms_set sc.nd rfl rfl (.inl rfl) (me_lst (mv_cons (me_idx rfl (mo_val (me_callD ⟨rfl, rfl, rfl, rfl⟩ (ok__law_reading T) hr (by omega) rfl (mc_val me_vs (mc_val me_vs mc_nil)) rfl (by decide))) (mo_val me_int)) mv_nil)))
  (ms_cons (ms_for .never rfl (mi_seq rfl (me_idx rfl (mo_val me_vs) (mo_val me_int))) (mg_name sc.nd rfl rfl (.inl rfl)) (ms_cons (ms_asg me_bl (mg_sub hr.units (pv 3) rfl (me_div (mo_val me_vs) (mo_val me_int))))
  (ms_one (ms_set sc.nd rfl rfl (.inl rfl) (me_add rfl (mo_val me_vs) (mo_val (me_lst (mv_cons (me_idx rfl (mo_val (me_callD ⟨rfl, rfl, rfl, rfl⟩ (ok__law_reading T) hr (by omega) rfl (mc_val me_vs (mc_val me_vs mc_nil)) rfl (by decide))) (mo_val me_int)) (mv_cons (me_idx rfl (mo_val (me_callD ⟨rfl, rfl, rfl, rfl⟩ (ok__law_reading T) hr (by omega) rfl (mc_val me_vs (mc_val (me_callD ⟨rfl, rfl, rfl, rfl⟩ (ok__law_mate T) hr (by omega) rfl (mc_val me_vs mc_nil) rfl (by decide)) mc_nil)) rfl (by decide))) (mo_val me_int)) mv_nil)))))))))
  (ms_one (ms_expr (me_append rfl (pv 2) rfl (me_tup (mv_cons me_str (mv_cons (me_minL rfl rfl hr.units rfl T.b_min (mo_val me_vs)) mv_nil)))))))) ms_nil)))
  (ms_one (ms_ret (me_callTy call_tuple_of opd_tuple rfl T.b_tuple boot_tuple (ma_cons (mo_val (me_sortA rfl hr.units rfl T.b_sorted mo_os)) ma_nil)))))))
/-! _law_choose -/
def S__law_choose : Scope := by
  have e : defScope (top 77) = defScope (top 77) := rfl
  conv at e => rhs; whnf
  exact rhsOf e
def B__law_choose : List Stmt := by
  have e : defBody (top 77) = defBody (top 77) := rfl
  conv at e => rhs; whnf
  exact rhsOf e
theorem sc__law_choose : FnScope ["many", "some", "found", "k"] ["many", "some"] S__law_choose := ⟨rfl, rfl, rfl, by decide +kernel, rfl, by decide +kernel, by decide +kernel⟩
def m__law_choose : MS → SR := (sSeq (sSet 2 (eK (.int 1))) (sSeq (sFor (iRange1 (.val (eV 1))) (gNm 3) (sSet 2 (eOp gDiv [(.val (eOp gMul [(.val (eV 2)), (.val (eOp gSub [(.val (eV 0)), (.val (eV 3))]))])), (.val (eOp gAdd [(.val (eV 3)), (.val (eK (.int 1)))]))]))) (sRet (eIf (eT (eCh gLeA gLeA (eK (.int 0)) (eV 1) (eV 0))) (eV 2) (eK (.int 0))))))
def f__law_choose : FM := (runF 4 [false, false] m__law_choose).safe
theorem ok__law_choose (T : Top K mg) : DefOk K mg base cls 1 "_law_choose" (top 77) ["many", "some"] [false, false] false f__law_choose := defOk T.d__law_choose T.g__law_choose (fun _ _ _ _ _ _ us hl => match us, hl with | [_, _], _ => by kernel_rfl) fun f fd F => fn_okS (k := 0) [false, false] [] false F rfl rfl rfl sc__law_choose rfl (by decide) fun cdv A outer s H vs E hr _ => have sc := sc__law_choose
  (ms_cons (ms_set sc.nd rfl rfl (.inl rfl) me_int)
  (ms_cons (ms_for .never rfl (mi_range1 rfl T.b_range (ma_cons (mo_val me_vs) ma_nil)) (mg_name sc.nd rfl rfl (.inl rfl)) (ms_one (ms_set sc.nd rfl rfl (.inl rfl) (me_div (mo_val (me_mul (mo_val me_vs) (mo_val (me_sub (mo_val me_vs) (mo_val me_vs))))) (mo_val (me_add rfl (mo_val me_vs) (mo_val me_int)))))))
  (ms_one (ms_ret (me_ifExp (mt_chain (op_leQ rfl hr.units) (op_leQ rfl hr.units) opd_ord opd_ord me_int me_vs me_vs) me_vs me_int)))))
/-! _law_pairings -/
def S__law_pairings : Scope := by
  have e : defScope (top 78) = defScope (top 78) := rfl
  conv at e => rhs; whnf
  exact rhsOf e
def B__law_pairings : List Stmt := by
  have e : defBody (top 78) = defBody (top 78) := rfl
  conv at e => rhs; whnf
  exact rhsOf e
theorem sc__law_pairings : FnScope ["ends", "joints", "found", "odd"] ["ends", "joints"] S__law_pairings := ⟨rfl, rfl, rfl, by decide +kernel, rfl, by decide +kernel, by decide +kernel⟩
def m__law_pairings : MS → SR := (sSeq (sSet 2 (eCall f__law_choose [(.val (eV 0)), (.val (eOp gMul [(.val (eK (.int 2))), (.val (eV 1))]))])) (sSeq (sFor (iRange3 (.val (eK (.int 1))) (.val (eOp gMul [(.val (eK (.int 2))), (.val (eV 1))])) (.val (eK (.int 2)))) (gNm 3) (sSet 2 (eOp gMul [(.val (eV 2)), (.val (eV 3))]))) (sRet (eIf (eT (eOp gGeA [(.val (eV 1)), (.val (eK (.int 0)))])) (eV 2) (eK (.int 0))))))
def f__law_pairings : FM := (runF 4 [false, false] m__law_pairings).safe
theorem ok__law_pairings (T : Top K mg) : DefOk K mg base cls 2 "_law_pairings" (top 78) ["ends", "joints"] [false, false] false f__law_pairings := defOk T.d__law_pairings T.g__law_pairings (fun _ _ _ _ _ _ us hl => match us, hl with | [_, _], _ => by kernel_rfl) fun f fd F => fn_okS (k := 1) [false, false] [] false F rfl rfl rfl sc__law_pairings rfl (by decide) fun cdv A outer s H vs E hr _ => have sc := sc__law_pairings
  (ms_cons (ms_set sc.nd rfl rfl (.inl rfl) (me_callD ⟨rfl, rfl, rfl, rfl⟩ (ok__law_choose T) hr (by omega) rfl (mc_val me_vs (mc_val (me_mul (mo_val me_int) (mo_val me_vs)) mc_nil)) rfl (by decide)))
  (ms_cons (ms_for .never rfl (mi_range3 rfl T.b_range (ma_cons (mo_val me_int) (ma_cons (mo_val (me_mul (mo_val me_int) (mo_val me_vs))) (ma_cons (mo_val me_int) ma_nil)))) (mg_name sc.nd rfl rfl (.inl rfl)) (ms_one (ms_set sc.nd rfl rfl (.inl rfl) (me_mul (mo_val me_vs) (mo_val me_vs)))))
  (ms_one (ms_ret (me_ifExp (mt_geA rfl hr.units (mo_val me_vs) (mo_val me_int)) me_vs me_int)))))
/-! _law_all_maps -/
def S__law_all_maps : Scope := by
  have e : defScope (top 79) = defScope (top 79) := rfl
  conv at e => rhs; whnf
  exact rhsOf e
def B__law_all_maps : List Stmt := by
  have e : defBody (top 79) = defBody (top 79) := rfl
  conv at e => rhs; whnf
  exact rhsOf e
theorem sc__law_all_maps : FnScope ["blocks", "found", "rows", "joints", "left", "k"] ["blocks"] S__law_all_maps := ⟨rfl, rfl, rfl, by decide +kernel, rfl, by decide +kernel, by decide +kernel⟩
def m__law_all_maps : MS → SR := (sSeq (sPar [1, 2] [(.tmp (eVal gLst [])), (.tmp (eVal gLst [(eVal gTup [(eVal gTup []), (eOp (gRg1 .tup) [(.val (eOp gMul [(.val (eK (.int 2))), (.val (eV 0))]))])])]))]) (sSeq (whileF (eT (eOp gNe [(.own 2), (.val (eVal gLst []))])) (sSeq (sAsg (ePop 2) (gTp 2 (gsCons (gNm 3) (gsCons (gNm 4) gsNil)))) (sIf (eT (eOp gEq [(.val (eV 4)), (.val (eVal gTup []))])) (sExpr (eApp 1 (eVal gTup [(eV 0), (eOp gTuple [(.val (eOp gSortA [(.val (eV 3))]))])]))) (sSeq (sExpr (eApp 2 (eVal gTup [(eV 3), (eOp gSl10 [(.val (eV 4)), (.val (eK (.int 1)))])]))) (sSetO 2 (eOp gAdd [(.own 2), (.val (eLc [5] (iRange2 (.val (eK (.int 1))) (.val (eOp gLen [(.val (eV 4))]))) (gNm 5) tYesM (eVal gTup [(eOp gAdd [(.val (eV 3)), (.val (eVal gTup [(eVal gTup [(eOp gIdx [(.val (eV 4)), (.val (eK (.int 0)))]), (eOp gIdx [(.val (eV 4)), (.val (eV 5))])])]))]), (eOp gAdd [(.val (eOp gSl11 [(.val (eV 4)), .val (chkI (eK (.int 1))), (.val (eV 5))])), (.val (eOp gSl10 [(.val (eV 4)), (.val (eOp gAdd [(.val (eV 5)), (.val (eK (.int 1)))]))]))])])))]))))) 1000) (sRet (eOp gSortA [(.own 1)]))))
def f__law_all_maps : FM := (runF 6 [false] m__law_all_maps).safe
theorem ok__law_all_maps (T : Top K mg) : DefOk K mg base cls 1 "_law_all_maps" (top 79) ["blocks"] [false] false f__law_all_maps := defOk T.d__law_all_maps T.g__law_all_maps (fun _ _ _ _ _ _ us hl => match us, hl with | [_], _ => by kernel_rfl) fun f fd F => fn_okS (k := 0) [false] [1, 2] false F rfl rfl rfl sc__law_all_maps rfl (by decide) fun cdv A outer s H vs E hr _ => have sc := sc__law_all_maps
  (ms_cons (ms_par2 rfl sc.nd rfl rfl (by decide) (.cons ⟨rfl, ioNe rfl⟩ (.cons ⟨rfl, ioNe rfl⟩ .nil)) rfl rfl rfl (mc_tmp (me_lstO mv_nil) (mc_tmp (me_lstO (mv_cons (me_tup (mv_cons (me_tup mv_nil) (mv_cons (me_tupRg1 rfl rfl T.b_tuple rfl T.b_range (mo_val (me_mul (mo_val me_int) (mo_val me_vs)))) mv_nil))) mv_nil)) mc_nil)) rfl)
  (ms_cons (ms_while 1000 .never (mt_ne rfl hr.units mo_os (mo_val (me_lst mv_nil))) (ms_cons (ms_asg (me_pop (pv 2) rfl) (mg_tup rfl rfl (mgs_cons (mg_name sc.nd rfl rfl (.inr rfl)) (mgs_cons (mg_name sc.nd rfl rfl (.inr rfl)) mgs_nil))))
  (ms_one (ms_if (mt_eq rfl hr.units (mo_val me_vs) (mo_val (me_tup mv_nil))) (ms_one (ms_expr (me_append rfl (pv 1) rfl (me_tup (mv_cons me_vs (mv_cons (me_callTy call_tuple_of opd_tuple rfl T.b_tuple boot_tuple (ma_cons (mo_val (me_sortA rfl hr.units rfl T.b_sorted (mo_val me_vs))) ma_nil)) mv_nil)))))) (ms_cons (ms_expr (me_append rfl (pv 2) rfl (me_tup (mv_cons me_vs (mv_cons (me_sl10 rfl (mo_val me_vs) (mo_val me_int)) mv_nil)))))
  (ms_one (ms_setO sc.nd rfl (ioNe rfl) rfl (.inl rfl) (me_addO rfl mo_os (mo_val (ME.fz (me_lcO (own := [("k", 5)]) rfl sc.nd (ownOut rfl) (mi_range2 rfl T.b_range (ma_cons (mo_val me_int) (ma_cons (mo_val (me_callB call_len opd_len rfl T.b_len boot_len (ma_cons (mo_val me_vs) ma_nil))) ma_nil))) (blkOk_by rfl) (fun _ _ _ _ _ => (mgc_name sc.nd rfl (by decide) rfl (.inl rfl))) (fun _ _ _ _ _ => mts_nil) (fun _ _ _ _ _ => (me_tup (mv_cons (me_add rfl (mo_val me_vs) (mo_val (me_tup (mv_cons (me_tup (mv_cons (me_idx rfl (mo_val me_vs) (mo_val me_int)) (mv_cons (me_idx rfl (mo_val me_vs) (mo_val me_vs)) mv_nil))) mv_nil)))) (mv_cons (me_add rfl (mo_val (me_sl11 rfl (mo_val me_vs) me_int (mo_val me_vs))) (mo_val (me_sl10 rfl (mo_val me_vs) (mo_val (me_add rfl (mo_val me_vs) (mo_val me_int)))))) mv_nil)))))))))))))))
  (ms_one (ms_ret (me_sortA rfl hr.units rfl T.b_sorted mo_os)))))
/-! _law_by_rows -/
def S__law_by_rows : Scope := by
  have e : defScope (top 80) = defScope (top 80) := rfl
  conv at e => rhs; whnf
  exact rhsOf e
def B__law_by_rows : List Stmt := by
  have e : defBody (top 80) = defBody (top 80) := rfl
  conv at e => rhs; whnf
  exact rhsOf e
theorem sc__law_by_rows : FnScope ["blocks", "rows"] ["blocks", "rows"] S__law_by_rows := ⟨rfl, rfl, rfl, by decide +kernel, rfl, by decide +kernel, by decide +kernel⟩
def m__law_by_rows : MS → SR := (sRet (eCall f__law_pairings [(.val (eOp gMul [(.val (eK (.int 2))), (.val (eV 0))])), (.val (eOp gSub [(.val (eV 0)), (.val (eV 1))]))]))
def f__law_by_rows : FM := (runF 2 [false, false] m__law_by_rows).safe
theorem ok__law_by_rows (T : Top K mg) : DefOk K mg base cls 3 "_law_by_rows" (top 80) ["blocks", "rows"] [false, false] false f__law_by_rows := defOk T.d__law_by_rows T.g__law_by_rows (fun _ _ _ _ _ _ us hl => match us, hl with | [_, _], _ => by kernel_rfl) fun f fd F => fn_okS (k := 2) [false, false] [] false F rfl rfl rfl sc__law_by_rows rfl (by decide) fun cdv A outer s H vs E hr _ => have sc := sc__law_by_rows
  (ms_one (ms_ret (me_callD ⟨rfl, rfl, rfl, rfl⟩ (ok__law_pairings T) hr (by omega) rfl (mc_val (me_mul (mo_val me_int) (mo_val me_vs)) (mc_val (me_sub (mo_val me_vs) (mo_val me_vs)) mc_nil)) rfl (by decide))))
/-! _law_count -/
def S__law_count : Scope := by
  have e : defScope (top 81) = defScope (top 81) := rfl
  conv at e => rhs; whnf
  exact rhsOf e
def B__law_count : List Stmt := by
  have e : defBody (top 81) = defBody (top 81) := rfl
  conv at e => rhs; whnf
  exact rhsOf e
theorem sc__law_count : FnScope ["ends", "found", "many"] ["ends"] S__law_count := ⟨rfl, rfl, rfl, by decide +kernel, rfl, by decide +kernel, by decide +kernel⟩
def m__law_count : MS → SR := (sSeq (sSetO 1 (eVal gLst [(eK (.int 1)), (eK (.int 1))])) (sSeq (sFor (iRange2 (.val (eK (.int 2))) (.val (eOp gAdd [(.val (eV 0)), (.val (eK (.int 1)))]))) (gNm 2) (sExpr (eApp 1 (eOp gAdd [(.val (eOp gIdx [(.own 1), (.val (eOp gSub [(.val (eV 2)), (.val (eK (.int 1)))]))])), (.val (eOp gMul [(.val (eOp gSub [(.val (eV 2)), (.val (eK (.int 1)))])), (.val (eOp gIdx [(.own 1), (.val (eOp gSub [(.val (eV 2)), (.val (eK (.int 2)))]))]))]))])))) (sRet (eOp gIdx [(.own 1), (.val (eV 0))]))))
def f__law_count : FM := (runF 3 [false] m__law_count).safe
theorem ok__law_count (T : Top K mg) : DefOk K mg base cls 1 "_law_count" (top 81) ["ends"] [false] false f__law_count := defOk T.d__law_count T.g__law_count (fun _ _ _ _ _ _ us hl => match us, hl with | [_], _ => by kernel_rfl) fun f fd F => fn_okS (k := 0) [false] [1] false F rfl rfl rfl sc__law_count rfl (by decide) fun cdv A outer s H vs E hr _ => have sc := sc__law_count
  (ms_cons (ms_setO sc.nd rfl (ioNe rfl) rfl (.inl rfl) (me_lstO (mv_cons me_int (mv_cons me_int mv_nil))))
  (ms_cons (ms_for .never rfl (mi_range2 rfl T.b_range (ma_cons (mo_val me_int) (ma_cons (mo_val (me_add rfl (mo_val me_vs) (mo_val me_int))) ma_nil))) (mg_name sc.nd rfl rfl (.inl rfl)) (ms_one (ms_expr (me_append rfl (pv 1) rfl (me_add rfl (mo_val (me_idx rfl mo_os (mo_val (me_sub (mo_val me_vs) (mo_val me_int))))) (mo_val (me_mul (mo_val (me_sub (mo_val me_vs) (mo_val me_int))) (mo_val (me_idx rfl mo_os (mo_val (me_sub (mo_val me_vs) (mo_val me_int))))))))))))
  (ms_one (ms_ret (me_idx rfl mo_os (mo_val me_vs))))))
/-! _law_is_told -/
def S__law_is_told : Scope := by
  have e : defScope (top 82) = defScope (top 82) := rfl
  conv at e => rhs; whnf
  exact rhsOf e
def B__law_is_told : List Stmt := by
  have e : defBody (top 82) = defBody (top 82) := rfl
  conv at e => rhs; whnf
  exact rhsOf e
theorem sc__law_is_told : FnScope ["well", "blocks", "due", "told", "turn", "rows", "own"] ["well", "blocks"] S__law_is_told := ⟨rfl, rfl, rfl, by decide +kernel, rfl, by decide +kernel, by decide +kernel⟩
def m__law_is_told : MS → SR := (sSeq (sSet 2 (eLc [5] (iRange1 (.val (eOp gAdd [(.val (eV 1)), (.val (eK (.int 1)))]))) (gNm 5) tYesM (eCall f__law_by_rows [(.val (eV 1)), (.val (eV 5))]))) (sSeq (sIf (eT (eOp gNe [(.val (eOp gSum [(.val (eV 2))])), (.val (eCall f__law_count [(.val (eOp gMul [(.val (eK (.int 2))), (.val (eV 1))]))]))])) (sRet (eK (.bl false))) sNil) (sSeq (sSet 3 (eVal gLst [(eCall f_map_count [(.val (eV 1))]), (eCallK f_map_count [] [(eV 1)] [0])])) (sSeq (sIf (tNot1 (eT (eCall (f__law_same 5) [(.val (eV 3)), (.val (eOp gMul [(.val (eVal gLst [(eOp gSum [(.val (eV 2))])])), (.val (eK (.int 2)))]))]))) (sRet (eK (.bl false))) sNil) (sSeq (sFor (iRange1 (.val (eK (.int 4)))) (gNm 4) (sSeq (sSet 5 (eCall f__law_take [(.own 0), (.val (eOp gAdd [(.val (eV 1)), (.val (eK (.int 1)))]))])) (sSeq (sSet 6 (eIf (eT (eOp gEq [(.val (eCall f__law_take [(.own 0), (.val (eK (.int 2)))])), (.val (eK (.int 0)))])) (eCall f_map_count_by [(.val (eV 1)), (.val (eV 5))]) (eCallK f_map_count_by [] [(eV 5), (eV 1)] [1, 0]))) (sIf (tNot1 (eT (eCall (f__law_same 5) [(.val (eV 6)), (.val (eOp gIdx [(.val (eV 2)), (.val (eV 5))]))]))) (sRet (eK (.bl false))) sNil)))) (sRet (eCall (f__law_same 5) [(.val (eVal gLst [(eCall f_map_count_by [(.val (eV 1)), (.val (eK (.int 0)))]), (eCall f_map_count_by [(.val (eV 1)), (.val (eV 1))])])), (.val (eVal gLst [(eOp gIdx [(.val (eV 2)), (.val (eK (.int 0)))]), (eK (.int 1))]))])))))))
def f__law_is_told : FM := (runF 7 [true, false] m__law_is_told).safe
theorem ok__law_is_told (T : Top K mg) : DefOk K mg base cls 7 "_law_is_told" (top 82) ["well", "blocks"] [true, false] false f__law_is_told := defOk T.d__law_is_told T.g__law_is_told (fun _ _ _ _ _ _ us hl => match us, hl with | [_, _], _ => by kernel_rfl) fun f fd F => fn_okS (k := 6) [true, false] [] false F rfl rfl rfl sc__law_is_told rfl (by decide) fun cdv A outer s H vs E hr _ => have sc := sc__law_is_told
  (ms_cons (ms_lcF (own := [("rows", 5)]) (ownOut rfl) rfl (ps_lcA (own := [("rows", 5)]) rfl sc.nd rfl rfl rfl (mi_range1 rfl T.b_range (ma_cons (mo_val (me_add rfl (mo_val me_vs) (mo_val me_int))) ma_nil)) (blkOk_by rfl) (fun _ _ _ _ _ => (mgc_name sc.nd rfl (by decide) rfl (.inl rfl))) (fun _ _ _ _ _ => mts_nil) (fun _ _ _ _ _ => (me_callD ⟨rfl, rfl, rfl, rfl⟩ (ok__law_by_rows T) hr (by omega) rfl (mc_val me_vs (mc_val me_vs mc_nil)) rfl (by decide)))))
  (ms_cons (ms_if (mt_ne rfl hr.units (mo_val (me_callB (cr_sum rfl) opd_sum rfl T.b_sum boot_sum (ma_cons (mo_val me_vs) ma_nil))) (mo_val (me_callD ⟨rfl, rfl, rfl, rfl⟩ (ok__law_count T) hr (by omega) rfl (mc_val (me_mul (mo_val me_int) (mo_val me_vs)) mc_nil) rfl (by decide)))) (ms_one (ms_ret me_bl)) ms_nil)
  (ms_cons (ms_set sc.nd rfl rfl (.inl rfl) (me_lst (mv_cons (me_callD ⟨rfl, rfl, rfl, rfl⟩ (ok_map_count T) hr (by omega) rfl (mc_val me_vs mc_nil) rfl (by decide)) (mv_cons (me_callDK0 (is := [0]) (ks := ["blocks"]) ⟨rfl, rfl, rfl, rfl⟩ (ok_map_count T) hr (by omega) rfl (by decide) (fun _ _ _ _ _ _ us ws h1 h2 => match us, ws, h1, h2 with | [], [_], _, _ => rfl) (mk_cons me_vs mk_nil) rfl (FM.ofLen.safe runF_len) rfl) mv_nil))))
  (ms_cons (ms_if (mt_not (mt_val (me_callD ⟨rfl, rfl, rfl, rfl⟩ (ok__law_same T 5) hr (by omega) rfl (mc_val me_vs (mc_val (me_mul (mo_val (me_lst (mv_cons (me_callB (cr_sum rfl) opd_sum rfl T.b_sum boot_sum (ma_cons (mo_val me_vs) ma_nil)) mv_nil))) (mo_val me_int)) mc_nil)) rfl (by decide)))) (ms_one (ms_ret me_bl)) ms_nil)
  (ms_cons (ms_for .never rfl (mi_range1 rfl T.b_range (ma_cons (mo_val me_int) ma_nil)) (mg_name sc.nd rfl rfl (.inl rfl)) (ms_cons (ms_set sc.nd rfl rfl (.inl rfl) (me_callD ⟨rfl, rfl, rfl, rfl⟩ (ok__law_take T) hr (by omega) rfl (mc_os (mc_val (me_add rfl (mo_val me_vs) (mo_val me_int)) mc_nil)) rfl (by decide)))
  (ms_cons (ms_set sc.nd rfl rfl (.inl rfl) (me_ifExp (mt_eq rfl hr.units (mo_val (me_callD ⟨rfl, rfl, rfl, rfl⟩ (ok__law_take T) hr (by omega) rfl (mc_os (mc_val me_int mc_nil)) rfl (by decide))) (mo_val me_int)) (me_callD ⟨rfl, rfl, rfl, rfl⟩ (ok_map_count_by T) hr (by omega) rfl (mc_val me_vs (mc_val me_vs mc_nil)) rfl (by decide)) (me_callDK0 (is := [1, 0]) (ks := ["rows", "blocks"]) ⟨rfl, rfl, rfl, rfl⟩ (ok_map_count_by T) hr (by omega) rfl (by decide) (fun _ _ _ _ _ _ us ws h1 h2 => match us, ws, h1, h2 with | [], [_, _], _, _ => rfl) (mk_cons me_vs (mk_cons me_vs mk_nil)) rfl (FM.ofLen.safe runF_len) rfl)))
  (ms_one (ms_if (mt_not (mt_val (me_callD ⟨rfl, rfl, rfl, rfl⟩ (ok__law_same T 5) hr (by omega) rfl (mc_val me_vs (mc_val (me_idx rfl (mo_val me_vs) (mo_val me_vs)) mc_nil)) rfl (by decide)))) (ms_one (ms_ret me_bl)) ms_nil)))))
  (ms_one (ms_ret (me_callD ⟨rfl, rfl, rfl, rfl⟩ (ok__law_same T 5) hr (by omega) rfl (mc_val (me_lst (mv_cons (me_callD ⟨rfl, rfl, rfl, rfl⟩ (ok_map_count_by T) hr (by omega) rfl (mc_val me_vs (mc_val me_int mc_nil)) rfl (by decide)) (mv_cons (me_callD ⟨rfl, rfl, rfl, rfl⟩ (ok_map_count_by T) hr (by omega) rfl (mc_val me_vs (mc_val me_vs mc_nil)) rfl (by decide)) mv_nil))) (mc_val (me_lst (mv_cons (me_idx rfl (mo_val me_vs) (mo_val me_int)) (mv_cons me_int mv_nil))) mc_nil)) rfl (by decide)))))))))
/-! _law_all_right -/
def S__law_all_right : Scope := by
  have e : defScope (top 83) = defScope (top 83) := rfl
  conv at e => rhs; whnf
  exact rhsOf e
def B__law_all_right : List Stmt := by
  have e : defBody (top 83) = defBody (top 83) := rfl
  conv at e => rhs; whnf
  exact rhsOf e
theorem sc__law_all_right : FnScope ["blocks", "due", "told", "rows", "chart", "some", "many", "k", "kind", "steps"] ["blocks"] S__law_all_right := ⟨rfl, rfl, rfl, by decide +kernel, rfl, by decide +kernel, by decide +kernel⟩
def m__law_all_right : MS → SR := (sSeq (sPar [1, 2] [(.val (eCall f__law_all_maps [(.val (eV 0))])), (.val (eCallK f_all_maps [] [(eV 0)] [0]))]) (sSeq (sIf (tOr2 (tNot1 (eT (eCall (f__law_same 5) [(.val (eV 2)), (.val (eOp gTuple [(.val (eV 1))]))]))) (tNot1 (eT (eCall (f__law_same 5) [(.val (eOp gLen [(.val (eV 2))])), (.val (eCall f_map_count [(.val (eV 0))]))])))) (sRet (eK (.bl false))) sNil) (sSeq (sSetO 3 (eLc [7] (iRange1 (.val (eOp gAdd [(.val (eV 0)), (.val (eK (.int 1)))]))) (gNm 7) tYesM (eK (.int 0)))) (sSeq (sFor (iSeq (eV 2)) (gNm 4) (sSeq (sSet 5 (eCall f_pieces [(.val (eV 4))])) (sSeq (sIf (tOr2 (eT (eOp (gIsB true) [(.val (eCall f_is_map [(.val (eV 4))])), (.val (eK (.bl true)))])) (tOr2 (tNot1 (eT (eCall (f__law_same 5) [(.val (eV 5)), (.val (eCall f__law_pieces [(.val (eV 4))]))]))) (tNot1 (eT (eCall (f__law_same 5) [(.val (eCall f_map_of [(.val (eV 0)), (.val (eV 5))])), (.val (eV 4))]))))) (sRet (eK (.bl false))) sNil) (sSeq (sSet 6 (eOp gLen [(.val (eLc [8, 9] (iSeq (eV 5)) (gTp 2 (gsCons (gNm 8) (gsCons (gNm 9) gsNil))) (eT (eOp gEq [(.val (eV 8)), (.val (eK (.str "row")))])) (eV 8)))])) (sAsg (eOp gAdd [(.val (eOp gIdx [(.own 3), (.val (eV 6))])), (.val (eK (.int 1)))]) (gSb 3 (eV 6))))))) (sRet (eCall (f__law_same 5) [(.val (eMv 3)), (.val (eLc [7] (iRange1 (.val (eOp gAdd [(.val (eV 0)), (.val (eK (.int 1)))]))) (gNm 7) tYesM (eCall f_map_count_by [(.val (eV 0)), (.val (eV 7))])))]))))))
def f__law_all_right : FM := (runF 10 [false] m__law_all_right).safe
theorem ok__law_all_right (T : Top K mg) : DefOk K mg base cls 10 "_law_all_right" (top 83) ["blocks"] [false] false f__law_all_right := defOk T.d__law_all_right T.g__law_all_right (fun _ _ _ _ _ _ us hl => match us, hl with | [_], _ => by kernel_rfl) fun f fd F => fn_okS (k := 9) [false] [3] false F rfl rfl rfl sc__law_all_right rfl (by decide) fun cdv A outer s H vs E hr _ => have sc := sc__law_all_right
  (ms_cons (ms_par2 rfl sc.nd rfl rfl (by decide) (.cons ⟨rfl, ioNe rfl⟩ (.cons ⟨rfl, ioNe rfl⟩ .nil)) rfl rfl rfl (mc_val (me_callD ⟨rfl, rfl, rfl, rfl⟩ (ok__law_all_maps T) hr (by omega) rfl (mc_val me_vs mc_nil) rfl (by decide)) (mc_val (me_callDK0 (is := [0]) (ks := ["blocks"]) ⟨rfl, rfl, rfl, rfl⟩ (ok_all_maps T) hr (by omega) rfl (by decide) (fun _ _ _ _ _ _ us ws h1 h2 => match us, ws, h1, h2 with | [], [_], _, _ => rfl) (mk_cons me_vs mk_nil) rfl (FM.ofLen.safe runF_len) rfl) mc_nil)) rfl)
  (ms_cons (ms_if (MW.mt (mw_or (mt_not (mt_val (me_callD ⟨rfl, rfl, rfl, rfl⟩ (ok__law_same T 5) hr (by omega) rfl (mc_val me_vs (mc_val (me_callTy call_tuple_of opd_tuple rfl T.b_tuple boot_tuple (ma_cons (mo_val me_vs) ma_nil)) mc_nil)) rfl (by decide)))) (mw_or1 (mt_not (mt_val (me_callD ⟨rfl, rfl, rfl, rfl⟩ (ok__law_same T 5) hr (by omega) rfl (mc_val (me_callB call_len opd_len rfl T.b_len boot_len (ma_cons (mo_val me_vs) ma_nil)) (mc_val (me_callD ⟨rfl, rfl, rfl, rfl⟩ (ok_map_count T) hr (by omega) rfl (mc_val me_vs mc_nil) rfl (by decide)) mc_nil)) rfl (by decide))))))) (ms_one (ms_ret me_bl)) ms_nil)
  (ms_cons (ms_lcO (own := [("k", 7)]) (ownOut rfl) rfl (ioNe rfl) (ps_lcA (own := [("k", 7)]) rfl sc.nd rfl rfl rfl (mi_range1 rfl T.b_range (ma_cons (mo_val (me_add rfl (mo_val me_vs) (mo_val me_int))) ma_nil)) (blkOk_by rfl) (fun _ _ _ _ _ => (mgc_name sc.nd rfl (by decide) rfl (.inl rfl))) (fun _ _ _ _ _ => mts_nil) (fun _ _ _ _ _ => me_int)))
  (ms_cons (ms_for .never rfl (mi_seq rfl me_vs) (mg_name sc.nd rfl rfl (.inl rfl)) (ms_cons (ms_set sc.nd rfl rfl (.inl rfl) (me_callD ⟨rfl, rfl, rfl, rfl⟩ (ok_pieces T) hr (by omega) rfl (mc_val me_vs mc_nil) rfl (by decide)))
  (ms_cons (ms_if (MW.mt (mw_or (mt_notB (mo_val (me_callD ⟨rfl, rfl, rfl, rfl⟩ (ok_is_map T) hr (by omega) rfl (mc_val me_vs mc_nil) rfl (by decide))) (mo_val me_bl)) (mw_or (mt_not (mt_val (me_callD ⟨rfl, rfl, rfl, rfl⟩ (ok__law_same T 5) hr (by omega) rfl (mc_val me_vs (mc_val (me_callD ⟨rfl, rfl, rfl, rfl⟩ (ok__law_pieces T) hr (by omega) rfl (mc_val me_vs mc_nil) rfl (by decide)) mc_nil)) rfl (by decide)))) (mw_or1 (mt_not (mt_val (me_callD ⟨rfl, rfl, rfl, rfl⟩ (ok__law_same T 5) hr (by omega) rfl (mc_val (me_callD ⟨rfl, rfl, rfl, rfl⟩ (ok_map_of T) hr (by omega) rfl (mc_val me_vs (mc_val me_vs mc_nil)) rfl (by decide)) (mc_val me_vs mc_nil)) rfl (by decide)))))))) (ms_one (ms_ret me_bl)) ms_nil)
  (ms_cons (ms_set sc.nd rfl rfl (.inl rfl) (me_callB call_len opd_len rfl T.b_len boot_len (ma_cons (mo_val (ME.fz (me_lcO (own := [("kind", 8), ("steps", 9)]) rfl sc.nd (ownOut rfl) (mi_seq rfl me_vs) (blkOk_by rfl) (fun _ _ _ _ _ => (mgc_tup rfl rfl (mgcs_cons (mgc_name sc.nd rfl (by decide) rfl (.inl rfl)) (mgcs_cons (mgc_name sc.nd rfl (by decide) rfl (.inl rfl)) mgcs_nil)))) (fun _ _ _ _ _ => (mts_one (mt_eq rfl hr.units (mo_val me_vs) (mo_val me_str)))) (fun _ _ _ _ _ => me_vs)))) ma_nil)))
  (ms_one (ms_asg (me_add rfl (mo_val (me_idx rfl mo_os (mo_val me_vs))) (mo_val me_int)) (mg_sub hr.units (pv 3) rfl me_vs)))))))
  (ms_one (ms_ret (me_callD ⟨rfl, rfl, rfl, rfl⟩ (ok__law_same T 5) hr (by omega) rfl (mc_val (me_mvs (ioNe rfl)) (mc_val (ME.fz (me_lcO (own := [("k", 7)]) rfl sc.nd (ownOut rfl) (mi_range1 rfl T.b_range (ma_cons (mo_val (me_add rfl (mo_val me_vs) (mo_val me_int))) ma_nil)) (blkOk_by rfl) (fun _ _ _ _ _ => (mgc_name sc.nd rfl (by decide) rfl (.inl rfl))) (fun _ _ _ _ _ => mts_nil) (fun _ _ _ _ _ => (me_callD ⟨rfl, rfl, rfl, rfl⟩ (ok_map_count_by T) hr (by omega) rfl (mc_val me_vs (mc_val me_vs mc_nil)) rfl (by decide))))) mc_nil)) rfl (by decide))))))))
/-! _law_right -/
def S__law_right : Scope := by
  have e : defScope (top 84) = defScope (top 84) := rfl
  conv at e => rhs; whnf
  exact rhsOf e
def B__law_right : List Stmt := by
  have e : defBody (top 84) = defBody (top 84) := rfl
  conv at e => rhs; whnf
  exact rhsOf e
theorem sc__law_right : FnScope ["well", "turn"] ["well"] S__law_right := ⟨rfl, rfl, rfl, by decide +kernel, rfl, by decide +kernel, by decide +kernel⟩
def m__law_right : MS → SR := (sSeq (sIf (tNot1 (eT (eCall f__law_all_right [(.val (eOp gAdd [(.val (eK (.int 1))), (.val (eCall f__law_take [(.own 0), (.val (eK (.int 3)))]))]))]))) (sRet (eK (.bl false))) sNil) (sRet (eAnd (eOp gAll [(.val (eLc [1] (iRange1 (.val (eK (.int 4)))) (gNm 1) tYesM (eCall f__law_is_told [(.own 0), (.val (eOp gAdd [(.val (eK (.int 1))), (.val (eCall f__law_take [(.own 0), (.val (eK (.int 40)))]))]))])))]) (eCall f__law_is_told [(.own 0), (.val (eK (.int 40)))]))))
def f__law_right : FM := (runF 2 [true] m__law_right).safe
theorem ok__law_right (T : Top K mg) : DefOk K mg base cls 11 "_law_right" (top 84) ["well"] [true] false f__law_right := defOk T.d__law_right T.g__law_right (fun _ _ _ _ _ _ us hl => match us, hl with | [_], _ => by kernel_rfl) fun f fd F => fn_okS (k := 10) [true] [] false F rfl rfl rfl sc__law_right rfl (by decide) fun cdv A outer s H vs E hr _ => have sc := sc__law_right
  (ms_cons (ms_if (mt_not (mt_val (me_callD ⟨rfl, rfl, rfl, rfl⟩ (ok__law_all_right T) hr (by omega) rfl (mc_val (me_add rfl (mo_val me_int) (mo_val (me_callD ⟨rfl, rfl, rfl, rfl⟩ (ok__law_take T) hr (by omega) rfl (mc_os (mc_val me_int mc_nil)) rfl (by decide)))) mc_nil) rfl (by decide)))) (ms_one (ms_ret me_bl)) ms_nil)
  (ms_one (ms_ret (me_and (me_callB (cr_all rfl) opd_all rfl T.b_all boot_all (ma_cons (mo_val (ME.fz (me_lcO (own := [("turn", 1)]) rfl sc.nd (ownOut rfl) (mi_range1 rfl T.b_range (ma_cons (mo_val me_int) ma_nil)) (blkOk_by rfl) (fun _ _ _ _ _ => (mgc_name sc.nd rfl (by decide) rfl (.inl rfl))) (fun _ _ _ _ _ => mts_nil) (fun _ _ _ _ _ => (me_callD ⟨rfl, rfl, rfl, rfl⟩ (ok__law_is_told T) hr (by omega) rfl (mc_os (mc_val (me_add rfl (mo_val me_int) (mo_val (me_callD ⟨rfl, rfl, rfl, rfl⟩ (ok__law_take T) hr (by omega) rfl (mc_os (mc_val me_int mc_nil)) rfl (by decide)))) mc_nil)) rfl (by decide)))))) ma_nil)) (me_one (me_callD ⟨rfl, rfl, rfl, rfl⟩ (ok__law_is_told T) hr (by omega) rfl (mc_os (mc_val me_int mc_nil)) rfl (by decide)))))))
/-! law -/
def S_law : Scope := by
  have e : defScope (top 85) = defScope (top 85) := rfl
  conv at e => rhs; whnf
  exact rhsOf e
def B_law : List Stmt := by
  have e : defBody (top 85) = defBody (top 85) := rfl
  conv at e => rhs; whnf
  exact rhsOf e
theorem sc_law : FnScope ["script", "lap"] ["script"] S_law := ⟨rfl, rfl, rfl, by decide +kernel, rfl, by decide +kernel, by decide +kernel⟩
def m_law : MS → SR := (sRet (eOp gAll [(.val (eLc [1] (iRange1 (.val (eOp gMax2 [(.val (eK (.int 2))), (.val (eOp gMin2 [(.val (eOp gLen [(.val (eV 0))])), (.val (eK (.int 4)))]))]))) (gNm 1) tYesM (eCall f__law_right [(.tmp (eCall f__law_well [(.val (eV 0)), (.val (eV 1))]))])))]))
def f_law : FM := (runF 2 [false] m_law).safe
theorem ok_law (T : Top K mg) : DefOk K mg base cls 12 "law" (top 85) ["script"] [false] false f_law := defOk T.d_law T.g_law (fun _ _ _ _ _ _ us hl => match us, hl with | [_], _ => by kernel_rfl) fun f fd F => fn_okS (k := 11) [false] [] false F rfl rfl rfl sc_law rfl (by decide) fun cdv A outer s H vs E hr _ => have sc := sc_law
  (ms_one (ms_ret (me_callB (cr_all rfl) opd_all rfl T.b_all boot_all (ma_cons (mo_val (ME.fz (me_lcO (own := [("lap", 1)]) rfl sc.nd (ownOut rfl) (mi_range1 rfl T.b_range (ma_cons (mo_val (me_callB (call_max2 rfl) opd_max2 rfl T.b_max boot_max (ma_cons (mo_val me_int) (ma_cons (mo_val (me_callB (call_min2 rfl) opd_min2 rfl T.b_min boot_min (ma_cons (mo_val (me_callB call_len opd_len rfl T.b_len boot_len (ma_cons (mo_val me_vs) ma_nil))) (ma_cons (mo_val me_int) ma_nil)))) ma_nil)))) ma_nil)) (blkOk_by rfl) (fun _ _ _ _ _ => (mgc_name sc.nd rfl (by decide) rfl (.inl rfl))) (fun _ _ _ _ _ => mts_nil) (fun _ _ _ _ _ => (me_callD ⟨rfl, rfl, rfl, rfl⟩ (ok__law_right T) hr (by omega) rfl (mc_tmp (me_callD ⟨rfl, rfl, rfl, rfl⟩ (ok__law_well T) hr (by omega) rfl (mc_val me_vs (mc_val me_vs mc_nil)) rfl (by decide)) mc_nil) rfl (by decide)))))) ma_nil))))
end G76
set_option Elab.async false
set_option linter.all false
set_option maxRecDepth 100000
set_option maxHeartbeats 0
namespace G76
open PySem PySem.Spec PyProof.Rows L2 Q
/-- a well, at most k times drawn from -/
inductive Well (k : Nat) : D → Prop
  | mk (a b c : Int) (ha : 0 ≤ a) (hb : 0 ≤ b) (hb2 : b < 2 ^ 31) (hc : 0 ≤ c) (hck : c ≤ k) : Well k (.lst [.int a, .int b, .int c])
theorem Well.mono {k j : Nat} {w : D} (h : Well k w) (hj : k ≤ j) : Well j w := by
  cases h with
  | mk a b c ha hb hb2 hc hck => exact .mk a b c ha hb hb2 hc (by omega)
theorem lg {i : Int} {k : Nat} (h0 : 0 ≤ i) (h : i < 2 ^ k) : i.natAbs.log2 ≤ k := log2_small (by
  have : (i.natAbs : Int) = i := Int.natAbs_of_nonneg h0
  have h2 : (i.natAbs : Int) < ((2 ^ k : Nat) : Int) := by rw [this]; push_cast; exact h
  exact_mod_cast h2)
theorem take_ok {k : Nat} {w : D} {m : Int} (h : Well k w) (hk : k < 2 ^ 60) (hm : 0 < m) (hm2 : m < 1000) : ∃ r w', f__law_take [w, .int m] [] = .ok (.int r) [w'] [] ∧ 0 ≤ r ∧ r < m ∧ Well (k + 1) w' := by
  cases h with
  | mk a b c ha hb hb2 hc hck =>
    by_cases h0 : 0 < a
    · refine ⟨a % m, .lst [.int (a / m), .int b, .int c], ?_, Int.emod_nonneg _ (by omega), Int.emod_lt_of_pos _ hm, .mk _ _ _ (Int.ediv_nonneg ha (by omega)) hb hb2 hc (by omega)⟩
      refine run_rt (st := ⟨[some (.lst [.int (a / m), .int b, .int c]), some (.int m), some (.int (a % m))], []⟩) rfl ?_ rfl
      have e0 : L2.ixN 3 0 = some 0 := rfl
      simp [m__law_take, h0, gDivmod_ok hm (show m < 1073741824 by omega), gSbK, e0]
    · have hb3 : 0 ≤ (b * 39373 + (c + 1) * 30323 + 11) % 2147483543 := Int.emod_nonneg _ (by omega)
      have hb4 : (b * 39373 + (c + 1) * 30323 + 11) % 2147483543 < 2147483543 := Int.emod_lt_of_pos _ (by omega)
      generalize hB : (b * 39373 + (c + 1) * 30323 + 11) % 2147483543 = B at hb3 hb4
      refine ⟨B / 128 % m, .lst [.int a, .int B, .int (c + 1)], ?_, Int.emod_nonneg _ (by omega), Int.emod_lt_of_pos _ hm, .mk _ _ _ ha hb3 (by omega) (by omega) (by omega)⟩
      refine run_rt (st := ⟨[some (.lst [.int a, .int B, .int (c + 1)]), some (.int m), none], []⟩) rfl ?_ rfl
      have e1 : L2.ixN 3 1 = some 1 := rfl
      have e2 : L2.ixN 3 2 = some 2 := rfl
      have m1 : gMul [.int b, .int 39373] = some (.int (b * 39373)) := gMul_ok (by
        have := lg hb hb2
        have : (39373 : Int).natAbs.log2 = 15 := by decide
        omega)
      have m2 : gMul [.int (c + 1), .int 30323] = some (.int ((c + 1) * 30323)) := gMul_ok (by
        have := lg (i := c + 1) (k := 61) (by omega) (by omega)
        have : (30323 : Int).natAbs.log2 = 14 := by decide
        omega)
      have d1 : gDiv [.int B, .int 128] = some (.int (B / 128)) := gDiv_ok (by decide) (by decide)
      have m3 : ∀ i : Int, gMod [.int i, .int 2147483543] = some (.int (i % 2147483543)) := fun i => gMod_ok (by decide)
      simp [m__law_take, h0, gSbK, e1, e2, m1, m2, m3, hB, d1, gMod_ok hm]
end G76
set_option Elab.async false
set_option linter.all false
set_option maxRecDepth 100000
set_option maxHeartbeats 0
namespace G76
open PySem PySem.Spec PyProof.Rows L2 Q
theorem cutD_map {α β : Type} (f : α → β) (xs : List α) (lo hi : Option Int) : Q.cutD (xs.map f) lo hi = (Q.cutD xs lo hi).map f := by
  unfold Q.cutD
  rw [List.length_map, List.map_take, List.map_drop]
theorem cutD_length {α : Type} (xs : List α) (lo hi : Option Int) : (Q.cutD xs lo hi).length ≤ xs.length := by
  unfold Q.cutD
  rw [List.length_take, List.length_drop]
  omega
theorem stir_step (i j : Int) (h0 : 0 ≤ i) (h1 : i < 2 ^ 31) : gMul [.int i, .int 44497] = some (.int (i * 44497)) := gMul_ok (by
  have := lg h0 h1
  have : (44497 : Int).natAbs.log2 = 15 := by decide
  omega)
theorem well_ok (ns : List Int) (lap : Int) (hl : ns.length ≤ 63) (h0 : 0 ≤ lap) (h1 : lap < 1000) : ∃ w, f__law_well [.raw (ns.map .int), .int lap] [] = .ok w [] [] ∧ Well 0 w := by
  have hown : ∃ own : Int, eIf (eT (eOp gLtA [(.val (eV 1)), (.val (eOp gLen [(.val (eV 0))]))])) (eOp gInt [(.val (eOp gIdx [(.val (eV 0)), (.val (eV 1))]))]) (eK (.int 0)) ⟨[some (.raw (ns.map .int)), some (.int lap), none, none, none], []⟩ = .ok (.int own) ⟨[some (.raw (ns.map .int)), some (.int lap), none, none, none], []⟩ := by
    by_cases h : lap < (ns.length : Int)
    · have h2 : lap.toNat < ns.length := by omega
      exact ⟨ns[lap.toNat], by simp [h, atI_pos h0, List.getElem?_eq_getElem h2]⟩
    · exact ⟨0, by simp [h]⟩
  obtain ⟨own, eo⟩ := hown
  let base : MS := ⟨[some (.raw (ns.map .int)), some (.int lap), some (.int own), none, none], []⟩
  have m1 : gMul [.int 6971, .int lap] = some (.int (6971 * lap)) := gMul_ok (by
    have := lg (i := lap) (k := 10) h0 (by omega)
    have : (6971 : Int).natAbs.log2 = 12 := by decide
    omega)
  have hcut : gSl01 [.raw (ns.map .int), .int 8] = some (.lst ((Q.cutD ns none (some 8)).map .int)) := by
    show gSlP none (some 8) (.raw (ns.map .int)) = _
    unfold gSlP
    dsimp only
    rw [cutD_map]
  obtain ⟨zs, hadd⟩ : ∃ zs : List Int, gAdd [.lst ((Q.cutD ns none (some 8)).map .int), .lst [.int own]] = some (.lst (zs.map .int)) := by
    refine ⟨Q.cutD ns none (some 8) ++ [own], ?_⟩
    have hc := cutD_length ns none (some 8)
    show (if ((Q.cutD ns none (some 8)).map D.int).length + [D.int own].length ≤ sizeLine then _ else _) = _
    rw [if_pos (by rw [List.length_map]; simp only [List.length_cons, List.length_nil, sizeLine]; omega)]
    simp
  have loop := forL_all (gg := gNm 4) (s := (sSet 3 (eOp gMod [(.val (eOp gInt [(.val (eOp gAdd [(.val (eOp gAdd [(.val (eOp gMul [(.val (eV 3)), (.val (eK (.int 44497)))])), (.val (eOp gMod [(.val (eOp gInt [(.val (eV 4))])), (.val (eK (.int 2147483587)))]))])), (.val (eK (.int 29)))]))])), (.val (eK (.int 2147483563)))])))
    (P := fun _ st => ∃ (stir : Int) (o : Option D), 0 ≤ stir ∧ stir < 2 ^ 31 ∧ st = ⟨[some (.raw (ns.map .int)), some (.int lap), some (.int own), some (.int stir), o], []⟩) (st := ⟨[some (.raw (ns.map .int)), some (.int lap), some (.int own), some (.int (52027 + 6971 * lap)), none], []⟩)
    zs D.int ⟨_, _, by omega, by omega, rfl⟩ (by
      rintro k x st hx ⟨stir, o, s0, s1, rfl⟩
      refine ⟨⟨[some (.raw (ns.map .int)), some (.int lap), some (.int own), some (.int ((stir * 44497 + x % 2147483587 + 29) % 2147483563)), some (.int x)], []⟩, .inl ?_, _, _, Int.emod_nonneg _ (by omega), ?_, rfl⟩
      · simp [stir_step stir 0 s0 s1, gMod_ok]
      · have := Int.emod_lt_of_pos (stir * 44497 + x % 2147483587 + 29) (show (0 : Int) < 2147483563 by decide)
        omega)
  obtain ⟨st', el, stir, o, s0, s1, rfl⟩ := loop
  have hp : gPow [.int 10, .int 18] = some (.int (10 ^ 18)) := rfl
  have last : ∃ a : Int, 0 ≤ a ∧ eIf (tOr2 (eT (eOp gLtA [(.val (eV 2)), (.val (eK (.int 0)))])) (eT (eOp gGeA [(.val (eV 2)), (.val (eOp gPow [(.val (eK (.int 10))), (.val (eK (.int 18)))]))]))) (eOp gAbs [(.val (eV 2))]) (eK (.int 0)) ⟨[some (.raw (ns.map .int)), some (.int lap), some (.int own), some (.int stir), o], []⟩ = .ok (.int a) ⟨[some (.raw (ns.map .int)), some (.int lap), some (.int own), some (.int stir), o], []⟩ := by
    by_cases h : own < 0
    · exact ⟨-own, by omega, by simp [h]⟩
    · by_cases h2 : 1000000000000000000 ≤ own
      · exact ⟨own, by omega, by simp [h, hp, h2]⟩
      · exact ⟨0, by omega, by simp [h, hp, h2]⟩
  obtain ⟨a, a0, ea⟩ := last
  refine ⟨.lst [.int a, .int stir, .int 0], ?_, .mk _ _ _ a0 s0 s1 (by decide) (by decide)⟩
  refine run_rt (st := ⟨[some (.raw (ns.map .int)), some (.int lap), some (.int own), some (.int stir), o], []⟩) rfl ?_ rfl
  show m__law_well ⟨[some (.raw (ns.map .int)), some (.int lap), none, none, none], []⟩ = _
  unfold m__law_well
  rw [sSeq_mk, sSet_mk]
  rw [eo]
  simp only [stm_ok, set_mk, seq_nx, List.set_cons_succ, List.set_cons_zero]
  rw [sSeq_mk, sSet_mk]
  simp [m1, hcut, hadd, -eIf_mk]
  rw [el, seq_nx, sRet_mk, eVal_mk, opV_cons, ea]
  simp
end G76
set_option Elab.async false
set_option linter.all false
set_option maxRecDepth 100000
set_option maxHeartbeats 0
set_option exponentiation.threshold 2000
namespace G76
open PySem PySem.Spec L2
open Q hiding C
theorem is_whole_int (v : Int) : f_is_whole [.int v] [] = .ok (.bl true) [] [] := rfl
theorem is_between_int (v lo hi : Int) : f_is_between [.int v, .int lo, .int hi] [] = .ok (.bl (decide (lo ≤ v) && decide (v ≤ hi))) [] [] := by
  refine run_rt (st := ⟨[some (.int v), some (.int lo), some (.int hi)], []⟩) rfl ?_ rfl
  by_cases h1 : lo ≤ v <;> by_cases h2 : v ≤ hi <;> simp [m_is_between, is_whole_int, h1, h2]
theorem is_up_to_int (v m : Int) : f_is_up_to [.int v, .int m] [] = .ok (.bl (decide (0 ≤ v) && decide (v ≤ m))) [] [] := by
  refine run_rt (st := ⟨[some (.int v), some (.int m)], []⟩) rfl ?_ rfl
  simp [m_is_up_to, is_between_int]
theorem mul2 (b : Int) (h : 0 ≤ b) (h2 : b ≤ 1000) : gMul [.int 2, .int b] = some (.int (2 * b)) := gMul_ok (by
  have := lg (i := b) (k := 10) h (by omega)
  have : (2 : Int).natAbs.log2 = 1 := by decide
  omega)
def Bd (k : Nat) (i : Int) : Prop := i.natAbs < 2 ^ k
theorem Bd.mono {a b : Nat} {i : Int} (h : Bd a i) (hab : a ≤ b) : Bd b i := Nat.lt_of_lt_of_le h (Nat.pow_le_pow_right (by decide) hab)
theorem Bd.mul {a b : Nat} {i j : Int} (h : Bd a i) (h2 : Bd b j) : Bd (a + b) (i * j) := by
  unfold Bd at *
  rw [Int.natAbs_mul, Nat.pow_add]
  have hb : 0 < 2 ^ b := Nat.two_pow_pos b
  rcases Nat.eq_zero_or_pos j.natAbs with z | z
  · rw [z, Nat.mul_zero]
    exact Nat.mul_pos (Nat.two_pow_pos a) hb
  · exact Nat.lt_of_lt_of_le (Nat.mul_lt_mul_of_pos_right h z) (Nat.mul_le_mul_left _ (Nat.le_of_lt h2))
theorem Bd.add {a b : Nat} {i j : Int} (h : Bd a i) (h2 : Bd b j) : Bd (max a b + 1) (i + j) := by
  have h1 := h.mono (Nat.le_max_left a b)
  have h3 := h2.mono (Nat.le_max_right a b)
  unfold Bd at *
  rw [Nat.pow_succ]
  have := Int.natAbs_add_le i j
  omega
theorem Bd.sum {a : Nat} {f : Nat → Int} : ∀ {n : Nat}, (∀ i, i < n → Bd a (f i)) → Bd (a + n) (sumTo n f)
  | 0, _ => Nat.two_pow_pos _
  | n + 1, h => by
    have ih := Bd.sum (n := n) fun i hi => h i (by omega)
    exact (ih.add (h n (by omega))).mono (by omega)
theorem Bd.nat {k n : Nat} (h : n < 2 ^ k) : Bd k (n : Int) := by
  unfold Bd
  rw [Int.natAbs_natCast]
  exact h
theorem gMul_bd {a b : Nat} {i j : Int} (h : Bd a i) (h2 : Bd b j) (hab : a + b < 1000000) : gMul [.int i, .int j] = some (.int (i * j)) := gMul_ok (by
  have h3 := log2_small h
  have h4 := log2_small h2
  omega)
theorem C_lt : ∀ n k : Nat, Q.C n k < 2 ^ (n + 1)
  | 0, 0 => by decide
  | 0, k + 1 => by rw [C_gt (by omega)]; decide
  | n + 1, 0 => by
    rw [C_zero]
    exact Nat.one_lt_two_pow (by omega)
  | n + 1, k + 1 => by
    rw [C_succ, Nat.pow_succ]
    have h1 := C_lt n k
    have h2 := C_lt n (k + 1)
    omega
theorem Bd_C {n k : Nat} : Bd (n + 1) (Q.C n k : Int) := .nat (C_lt n k)
theorem dfact_lt : ∀ n : Nat, n ≤ 120 → dfact n < 2 ^ (8 * n + 1)
  | 0, _ => by decide
  | n + 1, h => by
    rw [dfact]
    have ih := dfact_lt n (by omega)
    have e : 2 ^ (8 * (n + 1) + 1) = 2 ^ (8 * n + 1) * 256 := by
      rw [show 8 * (n + 1) + 1 = (8 * n + 1) + 8 by omega, Nat.pow_add]
    rw [e]
    exact Nat.lt_of_lt_of_le (Nat.mul_lt_mul_of_pos_right ih (by omega)) (Nat.mul_le_mul_left _ (by omega))
theorem Bd_M {e m : Nat} (h : e ≤ 100) (h2 : m ≤ 100) : Bd 902 (M e m) := by
  have h1 : Bd (e + 1) (Q.C e (2 * m) : Int) := Bd_C
  have h3 : Bd (8 * m + 1) (dfact m : Int) := .nat (dfact_lt m (by omega))
  have := h1.mul h3
  unfold M
  push_cast
  exact this.mono (by omega)
def isI (j : Int) : FR → Bool
  | .ok (.int i) [] [] => i == j
  | _ => false
theorem of_isI {j : Int} {r : FR} (h : isI j r = true) : r = .ok (.int j) [] [] := by
  unfold isI at h
  split at h
  · rename_i i
    have : i = j := by simpa using h
    rw [this]
  · cases h
theorem fact_lt : ∀ n : Nat, n ≤ 100 → fact n < 2 ^ (8 * n + 1)
  | 0, _ => by decide
  | n + 1, h => by
    rw [fact]
    have ih := fact_lt n (by omega)
    have e : 2 ^ (8 * (n + 1) + 1) = 2 ^ (8 * n + 1) * 256 := by
      rw [show 8 * (n + 1) + 1 = (8 * n + 1) + 8 by omega, Nat.pow_add]
    rw [e]
    exact Nat.lt_of_lt_of_le (Nat.mul_lt_mul_of_pos_right ih (by omega)) (Nat.mul_le_mul_left _ (by omega))
theorem Bd_fact {n : Nat} (h : n ≤ 80) : Bd 700 (fact n : Int) := (Bd.nat (fact_lt n (by omega))).mono (by omega)
theorem Bd_dfact {n : Nat} (h : n ≤ 120) : Bd 970 (dfact n : Int) := (Bd.nat (dfact_lt n h)).mono (by omega)
theorem Bd_small {i : Int} (h0 : 0 ≤ i) (h : i < 65536) : Bd 16 i := by
  unfold Bd
  omega
theorem loop1 {n : Nat} (h : n ≤ 80) : ∃ o, forL (gNm 2) (sSet 1 (eOp gMul [(.val (eV 1)), (.val (eV 2))])) ((List.range (n - 1)).map fun k => D.int (2 + (k : Nat))) ⟨[some (.int n), some (.int 1), none], []⟩ = .nx ⟨[some (.int n), some (.int (fact (n - 1 + 1))), o], []⟩ := by
  have loop := forL_all (gg := gNm 2) (s := sSet 1 (eOp gMul [(.val (eV 1)), (.val (eV 2))])) (st := ⟨[some (.int n), some (.int 1), none], []⟩)
    (P := fun k st => ∃ o, st = ⟨[some (.int n), some (.int (fact (k + 1))), o], []⟩) (List.range (n - 1)) (fun k => D.int (2 + (k : Nat))) ⟨none, rfl⟩ (by
      rintro k x st hx ⟨o, rfl⟩
      obtain ⟨h1, h2⟩ := List.getElem?_eq_some_iff.mp hx
      rw [List.length_range] at h1
      rw [List.getElem_range] at h2
      subst h2
      have m1 := gMul_bd (Bd_fact (n := k + 1) (by omega)) (Bd_small (i := 2 + (k : Int)) (by omega) (by omega)) (by decide)
      have e : (fact (k + 1) : Int) * (2 + (k : Int)) = (fact (k + 1 + 1) : Int) := by
        rw [fact.eq_2 (k + 1), Int.natCast_mul]
        congr 1
        push_cast
        omega
      rw [e] at m1
      refine ⟨⟨[some (.int n), some (.int (fact (k + 1 + 1))), some (.int (2 + (k : Int)))], []⟩, .inl ?_, _, rfl⟩
      simp [m1])
  obtain ⟨st', el, o, rfl⟩ := loop
  rw [List.length_range] at el
  exact ⟨o, el⟩
theorem factorial_ok {n : Nat} (h : n ≤ 80) : f_factorial [.int n] [] = .ok (.int (fact n)) [] [] := by
  obtain ⟨o, el⟩ := loop1 h
  have ef : fact (n - 1 + 1) = fact n := by
    cases n with
    | zero => rfl
    | succ n => rfl
  rw [ef] at el
  refine run_rt (st := ⟨[some (.int n), some (.int (fact n)), o], []⟩) rfl ?_ rfl
  have hb : -(2 ^ 62) ≤ (n : Int) + 1 ∧ (n : Int) + 1 < 2 ^ 62 := by omega
  have e2 : ((n : Int) + 1 - 2).toNat = n - 1 := by omega
  rw [← upTo_map] at el
  show m_factorial ⟨[some (.int n), none, none], []⟩ = _
  have h1 : -4611686018427387904 ≤ (n : Int) + 1 := by omega
  have h2 : (n : Int) + 1 < 4611686018427387904 := by omega
  simp [m_factorial, h1, h2, e2, el]
theorem stepD_map : ∀ (n : Nat) (lo c : Int), stepD lo c n = (List.range n).map fun k => D.int (lo + c * (k : Nat))
  | 0, _, _ => rfl
  | n + 1, lo, c => by
    rw [List.range_succ_eq_map]
    show D.int lo :: stepD (lo + c) c n = _
    rw [stepD_map n (lo + c) c, List.map_cons, List.map_map]
    congr 1
    · simp
    · refine List.map_congr_left fun k _ => ?_
      show D.int _ = D.int _
      congr 1
      push_cast
      rw [Int.mul_add]
      omega
theorem stepG_odd (m : Nat) (h : m ≤ 1000) : stepG [.int 1, .int ((2 * m : Nat) : Int), .int 2] = some ((List.range m).map fun k => D.int (1 + 2 * (k : Nat))) := by
  have hn : stepN 1 ((2 * m : Nat) : Int) 2 = Builtin.Range.rangeSize 1 ((2 * m : Nat) : Int) 2 := rfl
  have hs : Builtin.Range.small 1 ((2 * m : Nat) : Int) 2 = true := by
    unfold Builtin.Range.small
    have h0 : 0 ≤ stepN 1 ((2 * m : Nat) : Int) 2 ∧ stepN 1 ((2 * m : Nat) : Int) 2 ≤ 1000 := by
      unfold stepN
      rw [if_pos (by decide)]
      split <;> omega
    rw [← hn]
    generalize stepN 1 ((2 * m : Nat) : Int) 2 = z at h0
    simp [Builtin.Range.rangeFitsLong]
    omega
  have e : (stepN 1 ((2 * m : Nat) : Int) 2).toNat = m := by
    unfold stepN
    rw [if_pos (by decide)]
    split
    · omega
    · omega
  show (if (2 : Int) ≠ 0 ∧ (2 : Int).natAbs < 1073741824 ∧ Builtin.Range.small 1 ((2 * m : Nat) : Int) 2 = true then some (stepD 1 2 (stepN 1 ((2 * m : Nat) : Int) 2).toNat) else none) = _
  rw [if_pos ⟨by decide, by decide, hs⟩, e, stepD_map]
theorem pairings_ok {m : Nat} (h : m ≤ 80) : f_pairings [.int (2 * m : Nat)] [] = .ok (.int (dfact m)) [] [] := by
  have loop := forL_all (gg := gNm 2) (s := sSet 1 (eOp gMul [(.val (eV 1)), (.val (eV 2))])) (st := ⟨[some (.int (2 * m : Nat)), some (.int 1), none], []⟩)
    (P := fun k st => ∃ o, st = ⟨[some (.int (2 * m : Nat)), some (.int (dfact k)), o], []⟩) (List.range m) (fun k => D.int (1 + 2 * (k : Nat))) ⟨none, rfl⟩ (by
      rintro k x st hx ⟨o, rfl⟩
      obtain ⟨h1, h2⟩ := List.getElem?_eq_some_iff.mp hx
      rw [List.length_range] at h1
      rw [List.getElem_range] at h2
      subst h2
      have m1 := gMul_bd (Bd_dfact (n := k) (by omega)) (Bd_small (i := 1 + 2 * (k : Int)) (by omega) (by omega)) (by decide)
      have e : (dfact k : Int) * (1 + 2 * (k : Int)) = (dfact (k + 1) : Int) := by
        rw [dfact.eq_2 k, Int.natCast_mul]
        congr 1
        push_cast
        omega
      rw [e] at m1
      refine ⟨⟨[some (.int (2 * m : Nat)), some (.int (dfact (k + 1))), some (.int (1 + 2 * (k : Int)))], []⟩, .inl ?_, _, rfl⟩
      simp [m1])
  obtain ⟨st', el, o, rfl⟩ := loop
  rw [List.length_range] at el
  refine run_rt (st := ⟨[some (.int (2 * m : Nat)), some (.int (dfact m)), o], []⟩) rfl ?_ rfl
  have h1 : ¬ (((2 * m : Nat) : Int) % 2 = 1) := by omega
  have g1 := stepG_odd m (by omega)
  have g2 : gMod [.int ((2 * m : Nat) : Int), .int 2] = some (.int (((2 * m : Nat) : Int) % 2)) := gMod_ok (by decide)
  generalize ((2 * m : Nat) : Int) = z at *
  simp [m_pairings, g1, g2, h1, el]
theorem choices_ok {n k : Nat} (h : n ≤ 80) : f_choices [.int n, .int k] [] = .ok (.int (Q.C n k : Int)) [] [] := by
  refine run_rt (st := ⟨[some (.int n), some (.int k)], []⟩) rfl ?_ rfl
  rcases Nat.lt_or_ge n k with hk | hk
  · have h1 : ¬ ((k : Int) < 0) := by omega
    have h2 : (n : Int) < k := by omega
    simp [m_choices, h1, h2, C_gt hk]
  · have h1 : ¬ ((k : Int) < 0) := by omega
    have h2 : ¬ (n : Int) < k := by omega
    have e1 : (n : Int) - k = ((n - k : Nat) : Int) := by omega
    have m1 := gMul_bd (Bd_fact (n := k) (by omega)) (Bd_fact (n := n - k) (by omega)) (by decide)
    have d1 : gDiv [.int (fact n), .int (fact k * fact (n - k))] = some (.int (Q.C n k : Int)) := by
      have hp : 0 < (fact k : Int) * fact (n - k) := Int.mul_pos (by exact_mod_cast fact_pos k) (by exact_mod_cast fact_pos (n - k))
      have hb := (Bd_fact (n := k) (by omega)).mul (Bd_fact (n := n - k) (by omega))
      rw [gDiv_ok hp (by have := log2_small hb; omega)]
      rw [← C_div hk, Int.natCast_ediv, Int.natCast_mul]
    simp [m_choices, h1, h2, e1, factorial_ok h, factorial_ok (show k ≤ 80 by omega), factorial_ok (show n - k ≤ 80 by omega), m1, d1]
theorem mul2n {k : Nat} (h : k ≤ 1000) : gMul [.int 2, .int (k : Int)] = some (.int ((2 * k : Nat) : Int)) := by
  rw [mul2 k (by omega) (by omega)]
  push_cast
  rfl
end G76
set_option Elab.async false
set_option linter.all false
set_option maxRecDepth 100000
set_option maxHeartbeats 0
set_option exponentiation.threshold 2000
namespace G76
open PySem PySem.Spec L2
open Q hiding C
theorem sum_range (f : Nat → Int) : ∀ n : Nat, ((List.range n).map f).sum = sumTo n f
  | 0 => rfl
  | n + 1 => by
    rw [List.range_succ, List.map_append, List.sum_append, sum_range f n, sumTo_succ]
    simp
theorem sumTo_rev (f : Nat → Int) : ∀ n : Nat, sumTo (n + 1) (fun i => f (n - i)) = sumTo (n + 1) f
  | 0 => rfl
  | n + 1 => by
    rw [sumTo_left, sumTo_succ (n + 1) f, ← sumTo_rev f n]
    have e : sumTo (n + 1) (fun i => f (n + 1 - (i + 1))) = sumTo (n + 1) (fun i => f (n - i)) := sumTo_congr fun i _ => by rw [Nat.add_sub_add_right]
    rw [e, Nat.sub_zero]
    omega
theorem counts_TT (b : Nat) : sumTo (b + 1) (fun r => (Q.C (2 * b) (2 * r) : Int) * (dfact (b - r) : Int)) = TT (2 * b) := by
  rw [← sum_M (2 * b) b (by omega), ← sumTo_rev (M (2 * b)) b]
  refine sumTo_congr fun r hr => ?_
  unfold M
  have e : 2 * (b - r) = 2 * b - 2 * r := by omega
  rw [e, C_symm (show 2 * r ≤ 2 * b by omega)]
  push_cast
  rfl
theorem map_count_of_ok {b r : Nat} (hb : b ≤ 40) (hr : r ≤ b) : f_map_count_of [.int b, .int r] [] = .ok (.int ((Q.C (2 * b) (2 * r) : Int) * (dfact (b - r) : Int))) [] [] := by
  refine run_rt (st := ⟨[some (.int b), some (.int r)], []⟩) rfl ?_ rfl
  have c := choices_ok (n := 2 * b) (k := 2 * r) (by omega)
  have p := pairings_ok (m := b - r) (by omega)
  have d1 := mul2n (k := b) (by omega)
  have d2 := mul2n (k := r) (by omega)
  have e : ((2 * b : Nat) : Int) - ((2 * r : Nat) : Int) = ((2 * (b - r) : Nat) : Int) := by omega
  have m1 := gMul_bd (Bd_C (n := 2 * b) (k := 2 * r)) (Bd_dfact (n := b - r) (by omega)) (by omega)
  generalize ((2 * b : Nat) : Int) = z at *
  generalize ((2 * r : Nat) : Int) = y at *
  generalize ((2 * (b - r) : Nat) : Int) = x at *
  simp [m_map_count_of, d1, d2, e, c, p, m1]
theorem map_count_in_all_ok {b : Nat} (hb : b ≤ 40) : f_map_count_in_all [.int b] [] = .ok (.int (TT (2 * b))) [] [] := by
  refine run_rt (st := ⟨[some (.int b), none], []⟩) rfl ?_ rfl
  have h1 : -4611686018427387904 ≤ (b : Int) + 1 := by omega
  have h2 : (b : Int) + 1 < 4611686018427387904 := by omega
  have h3 : ((b : Int) + 1).toNat = b + 1 := by omega
  have e := eLc_map (st := ⟨[some (.int b), none], []⟩) (vs := [1]) (g := gNm 1) (te := eCall f_map_count_of [(.val (eV 0)), (.val (eV 1))]) (mi := iRange1 (.val (eOp gAdd [(.val (eV 0)), (.val (eK (.int 1)))])))
    (List.range (b + 1)) (fun k => D.int (0 + (k : Nat))) (fun k => ⟨[some (.int b), some (.int (0 + (k : Nat)))], []⟩) (fun r => .int ((Q.C (2 * b) (2 * r) : Int) * (dfact (b - r) : Int)))
    (by
      rw [← upTo_map]
      simp [h1, h2, h3]) (by rw [List.length_range]; omega) (fun r hr => ⟨rfl, by
        have hr : r < b + 1 := List.mem_range.mp hr
        have := map_count_of_ok (b := b) (r := r) hb (by omega)
        simp [this], rfl⟩)
  show m_map_count_in_all ⟨[some (.int b), none], []⟩ = _
  have s := gSum_map (fun r => (Q.C (2 * b) (2 * r) : Int) * (dfact (b - r) : Int)) (List.range (b + 1))
  rw [sum_range, counts_TT] at s
  rw [m_map_count_in_all, sRet_mk, eOp_mk, opN_val, e, bind_ok, opN_nil, bind_ok, bind_ok, s, ofO_some, stm_ok]
theorem map_count_ok {b : Nat} (h1 : 1 ≤ b) (hb : b ≤ 40) : f_map_count [.int b] [] = .ok (.int (TT (2 * b))) [] [] := by
  have c : f_check_blocks [.int (b : Int)] [] = .ok .non [] [] := by
    refine run_nx (st := ⟨[some (.int b)], []⟩) rfl ?_ rfl
    have h2 : (1 : Int) ≤ b := by omega
    have h3 : (b : Int) ≤ 40 := by omega
    have h4 := is_between_int b 1 40
    rw [decide_eq_true h2, decide_eq_true h3] at h4
    simp [m_check_blocks, h4]
  refine run_rt (st := ⟨[some (.int b)], []⟩) rfl ?_ rfl
  simp [m_map_count, c, map_count_in_all_ok hb]
theorem law_choose_ok {n s : Nat} (hn : n ≤ 100) (hs : s ≤ 200) : f__law_choose [.int n, .int s] [] = .ok (.int (Q.C n s : Int)) [] [] := by
  have loop := forL_range (gg := gNm 3) (s := sSet 2 (eOp gDiv [(.val (eOp gMul [(.val (eV 2)), (.val (eOp gSub [(.val (eV 0)), (.val (eV 3))]))])), (.val (eOp gAdd [(.val (eV 3)), (.val (eK (.int 1)))]))]))
    (st := ⟨[some (.int n), some (.int s), some (.int 1), none], []⟩) (n := s)
    (P := fun k st => ∃ o, st = ⟨[some (.int n), some (.int s), some (.int (Q.C n k : Int)), o], []⟩) ⟨none, by rw [C_zero]; rfl⟩ (by
      rintro k st hk ⟨o, rfl⟩
      have b1 : Bd 16 ((n : Int) - k) := by unfold Bd; omega
      have m1 := gMul_bd (Bd_C (n := n) (k := k)) b1 (by omega)
      have d1 : gDiv [.int ((Q.C n k : Int) * ((n : Int) - k)), .int ((k : Int) + 1)] = some (.int (Q.C n (k + 1) : Int)) := by
        have b2 : Bd 16 ((k : Int) + 1) := Bd_small (by omega) (by omega)
        rw [gDiv_ok (by omega) (by have := log2_small b2; omega), C_stepI, Int.mul_ediv_cancel _ (by omega)]
      refine ⟨⟨[some (.int n), some (.int s), some (.int (Q.C n (k + 1) : Int)), some (.int k)], []⟩, .inl ?_, _, rfl⟩
      simp [m1, d1])
  obtain ⟨st', el, o, rfl⟩ := loop
  refine run_rt (st := ⟨[some (.int n), some (.int s), some (.int (Q.C n s : Int)), o], []⟩) rfl ?_ rfl
  have h1 : -4611686018427387904 ≤ (s : Int) := by omega
  have h2 : (s : Int) < 4611686018427387904 := by omega
  rcases Nat.lt_or_ge n s with h | h
  · have h3 : ¬ s ≤ n := by omega
    rw [C_gt h] at el ⊢
    simp [m__law_choose, h1, h2, el, h3]
  · simp [m__law_choose, h1, h2, el, h]
theorem law_pairings_ok {e m : Nat} (he : e ≤ 90) (hm : m ≤ 90) : f__law_pairings [.int e, .int m] [] = .ok (.int (M e m)) [] [] := by
  have loop := forL_all (gg := gNm 3) (s := sSet 2 (eOp gMul [(.val (eV 2)), (.val (eV 3))])) (st := ⟨[some (.int e), some (.int m), some (.int (Q.C e (2 * m) : Int)), none], []⟩)
    (P := fun k st => ∃ o, st = ⟨[some (.int e), some (.int m), some (.int ((Q.C e (2 * m) : Int) * (dfact k : Int))), o], []⟩) (List.range m) (fun k => D.int (1 + 2 * (k : Nat))) ⟨none, by
      show _ = (⟨[_, _, some (.int ((Q.C e (2 * m) : Int) * ((1 : Nat) : Int))), _], _⟩ : MS)
      rw [Int.natCast_one, Int.mul_one]⟩ (by
      rintro k x st hx ⟨o, rfl⟩
      obtain ⟨h1, h2⟩ := List.getElem?_eq_some_iff.mp hx
      rw [List.length_range] at h1
      rw [List.getElem_range] at h2
      subst h2
      have m1 := gMul_bd ((Bd_C (n := e) (k := 2 * m)).mul (Bd_dfact (n := k) (by omega))) (Bd_small (i := 1 + 2 * (k : Int)) (by omega) (by omega)) (by omega)
      have e1 : (Q.C e (2 * m) : Int) * (dfact k : Int) * (1 + 2 * (k : Int)) = (Q.C e (2 * m) : Int) * (dfact (k + 1) : Int) := by
        rw [dfact.eq_2 k, Int.natCast_mul, Int.mul_assoc]
        congr 2
        push_cast
        omega
      rw [e1] at m1
      refine ⟨⟨[some (.int e), some (.int m), some (.int ((Q.C e (2 * m) : Int) * (dfact (k + 1) : Int))), some (.int (1 + 2 * (k : Int)))], []⟩, .inl ?_, _, rfl⟩
      simp [m1])
  obtain ⟨st', el, o, rfl⟩ := loop
  rw [List.length_range] at el
  have eM : (Q.C e (2 * m) : Int) * (dfact m : Int) = M e m := by unfold M; push_cast; rfl
  rw [eM] at el
  refine run_rt (st := ⟨[some (.int e), some (.int m), some (.int (M e m)), o], []⟩) rfl ?_ rfl
  have g1 := stepG_odd m (by omega)
  have d1 := mul2n (k := m) (by omega)
  have c1 := law_choose_ok (n := e) (s := 2 * m) (by omega) (by omega)
  have h0 : (0 : Int) ≤ (m : Int) := by omega
  generalize ((2 * m : Nat) : Int) = z at *
  simp [m__law_pairings, g1, d1, c1, el, h0]
theorem same_int (f : Nat) (a c : Int) : f__law_same (f + 1) [.int a, .int c] [] = .ok (.bl (decide (a = c))) [] [] := by
  refine run_rt (st := ⟨[some (.int a), some (.int c), none], []⟩) rfl ?_ rfl
  have i1 : ∀ x : Int, gIsi [.tup] [.int x] = some (.bl false) := fun _ => rfl
  have i2 : ∀ x : Int, gIsi [.lst] [.int x] = some (.bl false) := fun _ => rfl
  have i3 : ∀ x : Int, gIsi [.tup, .lst] [.int x] = some (.bl false) := fun _ => rfl
  have i4 : ∀ x : Int, gIsi [.bl] [.int x] = some (.bl false) := fun _ => rfl
  have i5 : ∀ x : Int, gIsi [.int] [.int x] = some (.bl true) := fun _ => rfl
  have i6 : ∀ x : Int, gIsN false [.int x] = some (.bl false) := fun _ => rfl
  simp [m__law_same, i1, i2, i3, i4, i5, i6]
theorem same_ints (f : Nat) (xs : List Int) (hl : xs.length ≤ 1000) : f__law_same (f + 2) [.lst (xs.map .int), .lst (xs.map .int)] [] = .ok (.bl true) [] [] := by
  refine run_rt (st := ⟨[some (.lst (xs.map .int)), some (.lst (xs.map .int)), none], []⟩) rfl ?_ rfl
  have i1 : ∀ x : List D, gIsi [.tup] [.lst x] = some (.bl false) := fun _ => rfl
  have i2 : ∀ x : List D, gIsi [.lst] [.lst x] = some (.bl true) := fun _ => rfl
  have i3 : ∀ x : List D, gIsi [.tup, .lst] [.lst x] = some (.bl true) := fun _ => rfl
  have h1 : -4611686018427387904 ≤ (xs.length : Int) := by omega
  have h2 : (xs.length : Int) < 4611686018427387904 := by omega
  have e := eLc_map (st := ⟨[some (.lst (xs.map .int)), some (.lst (xs.map .int)), none], []⟩) (vs := [2]) (g := gNm 2) (te := (eCall (f__law_same (f + 1)) [(.val (eOp gIdx [(.val (eV 0)), (.val (eV 2))])), (.val (eOp gIdx [(.val (eV 1)), (.val (eV 2))]))])) (mi := iRange1 (.val (eOp gLen [(.val (eV 1))])))
    (List.range xs.length) (fun k => D.int (0 + (k : Nat))) (fun k => ⟨[some (.lst (xs.map .int)), some (.lst (xs.map .int)), some (.int (0 + (k : Nat)))], []⟩) (fun _ => .bl true)
    (by
      rw [← upTo_map]
      simp [h1, h2]) (by rw [List.length_range]; omega) (fun r hr => ⟨rfl, by
        have hr : r < xs.length := List.mem_range.mp hr
        have e1 : L2.atI (xs.map D.int) (r : Int) = some (.int xs[r]) := by
          rw [atI_pos (by omega), List.getElem?_map, Int.toNat_natCast, List.getElem?_eq_getElem hr]
          rfl
        simp [e1, same_int], rfl⟩)
  have s := gAll_map (fun _ : Nat => true) (List.range xs.length)
  have s2 : ((List.range xs.length).all fun _ => true) = true := by simp
  rw [s2] at s
  show m__law_same (f__law_same (f + 1)) ⟨[some (.lst (xs.map .int)), some (.lst (xs.map .int)), none], []⟩ = _
  simp [m__law_same, i1, i2, i3, e, s]
theorem gSum_ints (xs : List Int) : gSum [.lst (xs.map .int)] = some (.int xs.sum) := by
  have := gSum_map (fun x : Int => x) xs
  rw [this]
  simp
end G76
set_option Elab.async false
set_option linter.all false
set_option maxRecDepth 100000
set_option maxHeartbeats 0
set_option exponentiation.threshold 2000
namespace G76
open PySem PySem.Spec L2
open Q hiding C
/-! ### the numbers of all maps, by ends -/
theorem absorb (n k : Nat) : ((k : Int) + 1) * (Q.C (n + 1) (k + 1) : Int) = ((n : Int) + 1) * (Q.C n k : Int) := by
  have h := C_stepI n k
  rw [C_succ, Int.natCast_add]
  generalize (Q.C n k : Int) = a at *
  generalize (Q.C n (k + 1) : Int) = c at *
  rw [Int.mul_comm, Int.add_mul, ← h, ← Int.mul_add, Int.mul_comm]
  congr 1
  omega
theorem M_rec (e k : Nat) : M (e + 2) (k + 1) = M (e + 1) (k + 1) + ((e : Int) + 1) * M e k := by
  have h := absorb e (2 * k)
  have hd : (dfact (k + 1) : Int) = (dfact k : Int) * (((2 * k : Nat) : Int) + 1) := by
    rw [dfact.eq_2 k, Int.natCast_mul]
    congr 1
  unfold M
  rw [show 2 * (k + 1) = 2 * k + 1 + 1 by omega, C_succ (e + 1) (2 * k + 1)]
  simp only [Int.natCast_mul, Int.natCast_add]
  rw [Int.add_mul, Int.add_comm]
  congr 1
  rw [hd]
  generalize (Q.C (e + 1) (2 * k + 1) : Int) = a at *
  generalize (Q.C e (2 * k) : Int) = c at *
  generalize (dfact k : Int) = d at *
  have h' : a * (((2 * k : Nat) : Int) + 1) = ((e : Int) + 1) * c := by rw [Int.mul_comm]; exact h
  rw [Int.mul_comm d, ← Int.mul_assoc, h', Int.mul_assoc]
theorem TT_rec (e : Nat) : TT (e + 2) = TT (e + 1) + ((e : Int) + 1) * TT e := by
  rw [← sum_M (e + 1) (e + 2) (by omega), ← sum_M e (e + 1) (by omega)]
  show sumTo (e + 2 + 1) (M (e + 2)) = _
  rw [sumTo_left (M (e + 2)) (e + 2), sumTo_left (M (e + 1)) (e + 2), ← sumTo_mul]
  have h0 : M (e + 2) 0 = M (e + 1) 0 := by
    unfold M
    rw [Nat.mul_zero, C_zero, C_zero]
  have h1 : sumTo (e + 2) (fun i => M (e + 2) (i + 1)) = sumTo (e + 2) (fun i => M (e + 1) (i + 1) + ((e : Int) + 1) * M e i) := sumTo_congr fun i _ => M_rec e i
  rw [h0, h1, sumTo_add, Int.add_assoc]
theorem Bd_TT {e : Nat} (h : e ≤ 82) : Bd 1000 (TT e) := by
  have : Bd (902 + (e + 1)) (TT e) := Bd.sum fun t ht => Bd_M (by omega) (by omega)
  exact this.mono (by omega)
theorem eApp_ok {i : Nat} {m : MS → Res D} {st st1 : MS} {xs ys : List D} {d : D} (h1 : st.get i = some (.lst xs)) (h2 : m st = .ok d st1) (h3 : st1.get i = some (.lst ys)) (h4 : ys.length < 16777216) : eApp i m st = .ok .non (st1.set i (.lst (ys ++ [d]))) := by
  unfold eApp
  rw [h1]
  simp only [h2, bind_ok, h3]
  rw [if_pos (by simpa [sizeLine] using h4)]
def ttL (n : Nat) : List D := (List.range n).map fun i => D.int (TT i)
theorem ttL_succ (n : Nat) : ttL (n + 1) = ttL n ++ [D.int (TT n)] := by
  unfold ttL
  rw [List.range_succ, List.map_append]
  rfl
theorem at_ttL {n i : Nat} (h : i < n) : L2.atI (ttL n) (i : Int) = some (.int (TT i)) := by
  unfold ttL
  rw [atI_pos (by omega), List.getElem?_map, Int.toNat_natCast, List.getElem?_range h]
  rfl
theorem law_count_ok {e : Nat} (h1 : 1 ≤ e) (h : e ≤ 80) : f__law_count [.int e] [] = .ok (.int (TT e)) [] [] := by
  have loop := forL_all (gg := gNm 2) (s := (sExpr (eApp 1 (eOp gAdd [(.val (eOp gIdx [(.own 1), (.val (eOp gSub [(.val (eV 2)), (.val (eK (.int 1)))]))])), (.val (eOp gMul [(.val (eOp gSub [(.val (eV 2)), (.val (eK (.int 1)))])), (.val (eOp gIdx [(.own 1), (.val (eOp gSub [(.val (eV 2)), (.val (eK (.int 2)))]))]))]))])))) (st := ⟨[some (.int e), some (.lst (ttL 2)), none], []⟩)
    (P := fun k st => ∃ o, st = ⟨[some (.int e), some (.lst (ttL (k + 2))), o], []⟩) (List.range (e - 1)) (fun k => D.int (2 + (k : Nat))) ⟨none, rfl⟩ (by
      rintro k x st hx ⟨o, rfl⟩
      obtain ⟨h3, h2⟩ := List.getElem?_eq_some_iff.mp hx
      rw [List.length_range] at h3
      rw [List.getElem_range] at h2
      subst h2
      have m1 := gMul_bd (Bd_small (i := (k : Int) + 1) (by omega) (by omega)) (Bd_TT (e := k) (by omega)) (by decide)
      have i1 : (2 : Int) + (k : Int) - 1 = ((k + 1 : Nat) : Int) := by omega
      have i2 : (2 : Int) + (k : Int) - 2 = ((k : Nat) : Int) := by omega
      have a1 := at_ttL (n := k + 2) (i := k + 1) (by omega)
      have a2 := at_ttL (n := k + 2) (i := k) (by omega)
      have hl : (ttL (k + 2)).length < 16777216 := by unfold ttL; rw [List.length_map, List.length_range]; omega
      have e1 : eOp gAdd [(.val (eOp gIdx [(.own 1), (.val (eOp gSub [(.val (eV 2)), (.val (eK (.int 1)))]))])), (.val (eOp gMul [(.val (eOp gSub [(.val (eV 2)), (.val (eK (.int 1)))])), (.val (eOp gIdx [(.own 1), (.val (eOp gSub [(.val (eV 2)), (.val (eK (.int 2)))]))]))]))] ⟨[some (.int e), some (.lst (ttL (k + 2))), some (.int (2 + (k : Nat)))], []⟩ = .ok (.int (TT (k + 2))) ⟨[some (.int e), some (.lst (ttL (k + 2))), some (.int (2 + (k : Nat)))], []⟩ := by
        rw [TT_rec]
        have i3 : ((k + 1 : Nat) : Int) = (k : Int) + 1 := by omega
        rw [i3] at i1 a1
        generalize ttL (k + 2) = L at *
        simp [i1, i2, a1, a2, m1]
      refine ⟨⟨[some (.int e), some (.lst (ttL (k + 1 + 2))), some (.int (2 + (k : Int)))], []⟩, .inl ?_, _, rfl⟩
      have e2 := eApp_ok (i := 1) rfl e1 rfl hl
      rw [← ttL_succ] at e2
      simp only [gNm_mk, stm_ok]
      show sExpr _ ⟨[some (.int e), some (.lst (ttL (k + 2))), some (.int (2 + (k : Nat)))], []⟩ = _
      rw [sExpr_mk, e2]
      rfl)
  obtain ⟨st', el, o, rfl⟩ := loop
  rw [List.length_range] at el
  have ee : e - 1 + 2 = e + 1 := by omega
  rw [ee] at el
  refine run_rt (st := ⟨[some (.int e), some (.lst (ttL (e + 1))), o], []⟩) rfl ?_ rfl
  have e2 : ((e : Int) + 1 - 2).toNat = e - 1 := by omega
  rw [← upTo_map] at el
  show m__law_count ⟨[some (.int e), none, none], []⟩ = _
  have h3 : -4611686018427387904 ≤ (e : Int) + 1 := by omega
  have h4 : (e : Int) + 1 < 4611686018427387904 := by omega
  have a1 := at_ttL (n := e + 1) (i := e) (by omega)
  have t2 : ttL 2 = [.int 1, .int 1] := rfl
  rw [t2] at el
  generalize ttL (e + 1) = L at *
  simp [m__law_count, h3, h4, e2, el, a1]
theorem M_symm {b r : Nat} (hr : r ≤ b) : (Q.C (2 * b) (2 * r) : Int) * (dfact (b - r) : Int) = M (2 * b) (b - r) := by
  unfold M
  have e : 2 * (b - r) = 2 * b - 2 * r := by omega
  rw [e, C_symm (show 2 * r ≤ 2 * b by omega)]
  push_cast
  rfl
theorem map_count_by_ok {b r : Nat} (h1 : 1 ≤ b) (hb : b ≤ 40) (hr : r ≤ b) : f_map_count_by [.int b, .int r] [] = .ok (.int (M (2 * b) (b - r))) [] [] := by
  have c : f_check_blocks [.int (b : Int)] [] = .ok .non [] [] := by
    refine run_nx (st := ⟨[some (.int b)], []⟩) rfl ?_ rfl
    have h2 : (1 : Int) ≤ b := by omega
    have h3 : (b : Int) ≤ 40 := by omega
    have h4 := is_between_int b 1 40
    rw [decide_eq_true h2, decide_eq_true h3] at h4
    simp [m_check_blocks, h4]
  refine run_rt (st := ⟨[some (.int b), some (.int r)], []⟩) rfl ?_ rfl
  have h5 := is_up_to_int r b
  rw [decide_eq_true (show (0 : Int) ≤ r by omega), decide_eq_true (show (r : Int) ≤ b by omega)] at h5
  have h6 := map_count_of_ok hb hr
  rw [M_symm hr] at h6
  simp [m_map_count_by, c, h5, h6]
theorem by_rows_ok {b r : Nat} (hb : b ≤ 40) (hr : r ≤ b) : f__law_by_rows [.int b, .int r] [] = .ok (.int (M (2 * b) (b - r))) [] [] := by
  refine run_rt (st := ⟨[some (.int b), some (.int r)], []⟩) rfl ?_ rfl
  have d := mul2n (k := b) (by omega)
  have e : (b : Int) - (r : Int) = ((b - r : Nat) : Int) := by omega
  have l := law_pairings_ok (e := 2 * b) (m := b - r) (by omega) (by omega)
  generalize ((2 * b : Nat) : Int) = z at *
  simp [m__law_by_rows, d, e, l]
end G76
set_option Elab.async false
set_option linter.all false
set_option maxRecDepth 100000
set_option maxHeartbeats 0
set_option exponentiation.threshold 2000
namespace G76
open PySem PySem.Spec L2
open Q hiding C
/-! ### the law's look at the counts -/
def dueL (b : Nat) : List Int := (List.range (b + 1)).map fun r => M (2 * b) (b - r)
theorem dueL_sum (b : Nat) : (dueL b).sum = TT (2 * b) := by
  unfold dueL
  rw [sum_range, sumTo_rev (M (2 * b)) b, sum_M (2 * b) b (by omega)]
theorem dueL_at {b r : Nat} (h : r ≤ b) : L2.atI ((dueL b).map D.int) (r : Int) = some (.int (M (2 * b) (b - r))) := by
  unfold dueL
  rw [atI_pos (by omega), List.getElem?_map, Int.toNat_natCast, List.getElem?_map, List.getElem?_range (by omega)]
  rfl
def toldBody : MS → SR := (sSeq (sSet 5 (eCall f__law_take [(.own 0), (.val (eOp gAdd [(.val (eV 1)), (.val (eK (.int 1)))]))])) (sSeq (sSet 6 (eIf (eT (eOp gEq [(.val (eCall f__law_take [(.own 0), (.val (eK (.int 2)))])), (.val (eK (.int 0)))])) (eCall f_map_count_by [(.val (eV 1)), (.val (eV 5))]) (eCallK f_map_count_by [] [(eV 5), (eV 1)] [1, 0]))) (sIf (tNot1 (eT (eCall (f__law_same 5) [(.val (eV 6)), (.val (eOp gIdx [(.val (eV 2)), (.val (eV 5))]))]))) (sRet (eK (.bl false))) sNil)))
def dueE : MS → Res D := (eLc [5] (iRange1 (.val (eOp gAdd [(.val (eV 1)), (.val (eK (.int 1)))]))) (gNm 5) tYesM (eCall f__law_by_rows [(.val (eV 1)), (.val (eV 5))]))
def T2 : MS → SR := sIf (eT (eOp gNe [(.val (eOp gSum [(.val (eV 2))])), (.val (eCall f__law_count [(.val (eOp gMul [(.val (eK (.int 2))), (.val (eV 1))]))]))])) (sRet (eK (.bl false))) sNil
def T3 : MS → SR := sSet 3 (eVal gLst [(eCall f_map_count [(.val (eV 1))]), (eCallK f_map_count [] [(eV 1)] [0])])
def T4 : MS → SR := sIf (tNot1 (eT (eCall (f__law_same 5) [(.val (eV 3)), (.val (eOp gMul [(.val (eVal gLst [(eOp gSum [(.val (eV 2))])])), (.val (eK (.int 2)))]))]))) (sRet (eK (.bl false))) sNil
def T6 : MS → SR := sRet (eCall (f__law_same 5) [(.val (eVal gLst [(eCall f_map_count_by [(.val (eV 1)), (.val (eK (.int 0)))]), (eCall f_map_count_by [(.val (eV 1)), (.val (eV 1))])])), (.val (eVal gLst [(eOp gIdx [(.val (eV 2)), (.val (eK (.int 0)))]), (eK (.int 1))]))])
theorem told_eq : m__law_is_told = sSeq (sSet 2 dueE) (sSeq T2 (sSeq T3 (sSeq T4 (sSeq (sFor (iRange1 (.val (eK (.int 4)))) (gNm 4) toldBody) T6)))) := rfl
section
variable {o2 o3 o4 o5 o6 : Option D}
theorem due_ok {b : Nat} {w : D} (hb : b ≤ 40) : dueE ⟨[some w, some (.int b), o2, o3, o4, o5, o6], []⟩ = .ok (.lst ((dueL b).map .int)) ⟨[some w, some (.int b), o2, o3, o4, o5, o6], []⟩ := by
  have h1 : -4611686018427387904 ≤ (b : Int) + 1 := by omega
  have h2 : (b : Int) + 1 < 4611686018427387904 := by omega
  have h3 : ((b : Int) + 1).toNat = b + 1 := by omega
  have e := eLc_map (st := ⟨[some w, some (.int b), o2, o3, o4, o5, o6], []⟩) (vs := [5]) (g := gNm 5) (te := (eCall f__law_by_rows [(.val (eV 1)), (.val (eV 5))])) (mi := iRange1 (.val (eOp gAdd [(.val (eV 1)), (.val (eK (.int 1)))])))
    (List.range (b + 1)) (fun k => D.int (0 + (k : Nat))) (fun k => ⟨[some w, some (.int b), o2, o3, o4, some (.int (0 + (k : Nat))), o6], []⟩) (fun r => .int (M (2 * b) (b - r)))
    (by
      rw [← upTo_map]
      simp [h1, h2, h3]) (by rw [List.length_range]; omega) (fun r hr => ⟨rfl, by
        have hr : r < b + 1 := List.mem_range.mp hr
        have l := by_rows_ok hb (show r ≤ b by omega)
        simp [l], rfl⟩)
  have e2 : ((List.range (b + 1)).map fun r => D.int (M (2 * b) (b - r))) = (dueL b).map .int := by
    unfold dueL
    rw [List.map_map]
    rfl
  rw [e2] at e
  exact e
theorem told_step {b k : Nat} {w : D} (h1 : 1 ≤ b) (hb : b ≤ 40) (hw : Well k w) (hk : k < 2 ^ 58) : ∃ w' d5 d6, toldBody ⟨[some w, some (.int b), some (.lst ((dueL b).map .int)), o3, o4, o5, o6], []⟩ = .nx ⟨[some w', some (.int b), some (.lst ((dueL b).map .int)), o3, o4, some d5, some d6], []⟩ ∧ Well (k + 2) w' := by
  obtain ⟨r, w1, et, r0, r1, hw1⟩ := take_ok (m := (b : Int) + 1) hw (by omega) (by omega) (by omega)
  obtain ⟨n, rfl⟩ : ∃ n : Nat, r = n := ⟨r.toNat, by omega⟩
  obtain ⟨z, w2, et2, z0, z1, hw2⟩ := take_ok (m := 2) hw1 (by omega) (by decide) (by decide)
  have p := map_count_by_ok (b := b) (r := n) h1 hb (by omega)
  have da := dueL_at (b := b) (r := n) (by omega)
  generalize (dueL b).map D.int = L at *
  generalize M (2 * b) (b - n) = v at *
  have s := same_int 4 v v
  rw [decide_eq_true rfl] at s
  refine ⟨w2, .int n, .int v, ?_, hw2⟩
  unfold toldBody
  by_cases hr : z = 0
  · simp [et, et2, hr, p, s, da]
  · simp [et, et2, hr, p, s, da, permBy]
end
theorem is_told_ok {b k : Nat} {w : D} (h1 : 1 ≤ b) (hb : b ≤ 40) (hw : Well k w) (hk : k < 2 ^ 57) : ∃ w', f__law_is_told [w, .int b] [] = .ok (.bl true) [w'] [] ∧ Well (k + 8) w' := by
  have loop := forL_range (gg := gNm 4) (s := toldBody) (st := ⟨[some w, some (.int b), some (.lst ((dueL b).map .int)), some (.lst [.int (TT (2 * b)), .int (TT (2 * b))]), none, none, none], []⟩) (n := 4)
    (P := fun i st => ∃ w o4 o5 o6, st = ⟨[some w, some (.int b), some (.lst ((dueL b).map .int)), some (.lst [.int (TT (2 * b)), .int (TT (2 * b))]), o4, o5, o6], []⟩ ∧ Well (k + 2 * i) w) ⟨w, _, _, _, rfl, hw⟩ (by
      rintro i st hi ⟨w, o4, o5, o6, rfl, hw⟩
      obtain ⟨w', d5, d6, e, hw'⟩ := told_step (o3 := some (.lst [.int (TT (2 * b)), .int (TT (2 * b))])) (o4 := some (.int i)) (o5 := o5) (o6 := o6) h1 hb hw (by omega)
      exact ⟨_, .inl e, w', _, _, _, rfl, hw'.mono (by omega)⟩)
  obtain ⟨st', el, w', o4, o5, o6, rfl, hw'⟩ := loop
  refine ⟨w', ?_, hw'⟩
  refine run_rt (st := ⟨[some w', some (.int b), some (.lst ((dueL b).map .int)), some (.lst [.int (TT (2 * b)), .int (TT (2 * b))]), o4, o5, o6], []⟩) rfl ?_ rfl
  show m__law_is_told ⟨[some w, some (.int b), none, none, none, none, none], []⟩ = _
  have d := due_ok (b := b) (w := w) (o2 := none) (o3 := none) (o4 := none) (o5 := none) (o6 := none) hb
  have gs := gSum_ints (dueL b)
  rw [dueL_sum] at gs
  have lc := law_count_ok (e := 2 * b) (by omega) (by omega)
  have mc := map_count_ok h1 hb
  have d1 := mul2n (k := b) (by omega)
  have s2 := same_ints 3 [TT (2 * b), TT (2 * b)] (by simp)
  have b0 := map_count_by_ok (b := b) (r := 0) h1 hb (by omega)
  have bb := map_count_by_ok (b := b) (r := b) h1 hb (by omega)
  have a0 := dueL_at (b := b) (r := 0) (by omega)
  have hM0 : M (2 * b) (b - b) = 1 := by
    rw [Nat.sub_self]
    unfold M
    rw [Nat.mul_zero, C_zero]
    rfl
  rw [hM0] at bb
  have s3 := same_ints 3 [M (2 * b) (b - 0), 1] (by simp)
  have h4 : ∀ o : List (Option D), iRange1 (.val (eK (.int 4))) ⟨o, []⟩ = .ok (upTo 0 4) ⟨o, []⟩ := fun o => by simp
  have gm : gMul [.lst [.int (TT (2 * b))], .int 2] = some (.lst [.int (TT (2 * b)), .int (TT (2 * b))]) := rfl
  simp only [List.map_cons, List.map_nil] at s2 s3
  rw [told_eq, sSeq_mk, sSet_mk, d, stm_ok]
  generalize (dueL b).map D.int = L at *
  generalize hT : TT (2 * b) = T at *
  generalize hZ : M (2 * b) (b - 0) = Z at *
  generalize ((2 * b : Nat) : Int) = z at *
  simp only [set_mk, seq_nx, List.set_cons_succ, List.set_cons_zero]
  have e2 : T2 ⟨[some w, some (.int b), some (.lst L), none, none, none, none], []⟩ = .nx ⟨[some w, some (.int b), some (.lst L), none, none, none, none], []⟩ := by
    simp [T2, gs, d1, lc]
  have e3 : T3 ⟨[some w, some (.int b), some (.lst L), none, none, none, none], []⟩ = .nx ⟨[some w, some (.int b), some (.lst L), some (.lst [.int T, .int T]), none, none, none], []⟩ := by
    simp [T3, mc, permBy]
  have e4 : T4 ⟨[some w, some (.int b), some (.lst L), some (.lst [.int T, .int T]), none, none, none], []⟩ = .nx ⟨[some w, some (.int b), some (.lst L), some (.lst [.int T, .int T]), none, none, none], []⟩ := by
    simp [T4, gs, gm, s2]
  have a0' : L2.atI L 0 = some (.int Z) := a0
  have b0' : f_map_count_by [.int b, .int 0] [] = .ok (.int Z) [] [] := b0
  have e6 : T6 ⟨[some w', some (.int b), some (.lst L), some (.lst [.int T, .int T]), o4, o5, o6], []⟩ = .rt (.bl true) ⟨[some w', some (.int b), some (.lst L), some (.lst [.int T, .int T]), o4, o5, o6], []⟩ := by
    simp [T6, b0', bb, a0', s3]
  rw [sSeq_mk, e2, seq_nx, sSeq_mk, e3, seq_nx, sSeq_mk, e4, seq_nx, sSeq_mk, sFor_mk, h4, stm_ok, el, seq_nx, e6]
/-! ### all maps of few blocks, by reckoning -/
def isTru : FR → Bool
  | .ok (.bl true) [] [] => true
  | _ => false
theorem of_isTru {r : FR} (h : isTru r = true) : r = .ok (.bl true) [] [] := by
  unfold isTru at h
  split at h
  · rfl
  · cases h
theorem right1 : isTru (f__law_all_right [.int 1] []) = true := by decide +kernel
theorem right2 : isTru (f__law_all_right [.int 2] []) = true := by decide +kernel
end G76
set_option Elab.async false
set_option linter.all false
set_option maxRecDepth 100000
set_option maxHeartbeats 0
set_option exponentiation.threshold 2000
namespace G76
open PySem PySem.Spec L2
open Q hiding C
/-! ### all maps of three blocks, some at a time -/
def mapD (b : Int) (js : List (Int × Int)) : D := .tup [.int b, .tup (js.map pd)]
def every3 : List (List (Int × Int)) := [[], [(0, 1)], [(0, 1), (2, 3)], [(0, 1), (2, 3), (4, 5)], [(0, 1), (2, 4)], [(0, 1), (2, 4), (3, 5)], [(0, 1), (2, 5)], [(0, 1), (2, 5), (3, 4)], [(0, 1), (3, 4)], [(0, 1), (3, 5)], [(0, 1), (4, 5)], [(0, 2)], [(0, 2), (1, 3)], [(0, 2), (1, 3), (4, 5)], [(0, 2), (1, 4)], [(0, 2), (1, 4), (3, 5)], [(0, 2), (1, 5)], [(0, 2), (1, 5), (3, 4)], [(0, 2), (3, 4)], [(0, 2), (3, 5)], [(0, 2), (4, 5)], [(0, 3)], [(0, 3), (1, 2)], [(0, 3), (1, 2), (4, 5)], [(0, 3), (1, 4)], [(0, 3), (1, 4), (2, 5)], [(0, 3), (1, 5)], [(0, 3), (1, 5), (2, 4)], [(0, 3), (2, 4)], [(0, 3), (2, 5)], [(0, 3), (4, 5)], [(0, 4)], [(0, 4), (1, 2)], [(0, 4), (1, 2), (3, 5)], [(0, 4), (1, 3)], [(0, 4), (1, 3), (2, 5)], [(0, 4), (1, 5)], [(0, 4), (1, 5), (2, 3)], [(0, 4), (2, 3)], [(0, 4), (2, 5)], [(0, 4), (3, 5)], [(0, 5)], [(0, 5), (1, 2)], [(0, 5), (1, 2), (3, 4)], [(0, 5), (1, 3)], [(0, 5), (1, 3), (2, 4)], [(0, 5), (1, 4)], [(0, 5), (1, 4), (2, 3)], [(0, 5), (2, 3)], [(0, 5), (2, 4)], [(0, 5), (3, 4)], [(1, 2)], [(1, 2), (3, 4)], [(1, 2), (3, 5)], [(1, 2), (4, 5)], [(1, 3)], [(1, 3), (2, 4)], [(1, 3), (2, 5)], [(1, 3), (4, 5)], [(1, 4)], [(1, 4), (2, 3)], [(1, 4), (2, 5)], [(1, 4), (3, 5)], [(1, 5)], [(1, 5), (2, 3)], [(1, 5), (2, 4)], [(1, 5), (3, 4)], [(2, 3)], [(2, 3), (4, 5)], [(2, 4)], [(2, 4), (3, 5)], [(2, 5)], [(2, 5), (3, 4)], [(3, 4)], [(3, 5)], [(4, 5)]]
def toInt : D → Option Int
  | .int i => some i
  | _ => none
def toPair : D → Option (Int × Int)
  | .tup [.int a, .int b] => some (a, b)
  | _ => none
def toPairs : List D → Option (List (Int × Int))
  | [] => some []
  | d :: ds => (toPair d).bind fun p => (toPairs ds).map (p :: ·)
def toMap : D → Option (Int × List (Int × Int))
  | .tup [.int b, .tup js] => (toPairs js).map fun l => (b, l)
  | _ => none
theorem of_toPair {d : D} {p : Int × Int} (h : toPair d = some p) : d = pd p := by
  unfold toPair at h
  split at h
  · cases h; rfl
  · cases h
theorem of_toPairs : ∀ {ds : List D} {l : List (Int × Int)}, toPairs ds = some l → ds = l.map pd
  | [], l, h => by cases h; rfl
  | d :: ds, l, h => by
    unfold toPairs at h
    cases e1 : toPair d with
    | none => rw [e1] at h; cases h
    | some p =>
      rw [e1] at h
      cases e2 : toPairs ds with
      | none => rw [e2] at h; cases h
      | some l2 =>
        rw [e2] at h
        cases h
        rw [of_toPair e1, of_toPairs e2]
        rfl
theorem of_toMap {d : D} {b : Int} {l : List (Int × Int)} (h : toMap d = some (b, l)) : d = mapD b l := by
  unfold toMap at h
  split at h
  · rename_i b' js
    cases e : toPairs js with
    | none => rw [e] at h; cases h
    | some l2 =>
      rw [e] at h
      cases h
      rw [of_toPairs e]
      rfl
  · cases h
def isMaps (b : Int) (ls : List (List (Int × Int))) : FR → Bool
  | .ok (.lst ds) [] [] => decide (ds.map toMap = ls.map fun l => some (b, l))
  | _ => false
theorem of_maps {b : Int} : ∀ {ds : List D} {ls : List (List (Int × Int))}, ds.map toMap = ls.map (fun l => some (b, l)) → ds = ls.map (mapD b)
  | [], [], _ => rfl
  | [], _ :: _, h => by cases h
  | _ :: _, [], h => by cases h
  | d :: ds, l :: ls, h => by
    simp only [List.map_cons, List.cons.injEq] at h
    rw [List.map_cons, of_toMap h.1, of_maps h.2]
theorem of_isMaps {b : Int} {ls : List (List (Int × Int))} {r : FR} (h : isMaps b ls r = true) : r = .ok (.lst (ls.map (mapD b))) [] [] := by
  unfold isMaps at h
  split at h
  · rw [of_maps (of_decide_eq_true h)]
  · cases h
def all3L : List D := every3.map (mapD 3)
def L1 : MS → SR := (sPar [1, 2] [(.val (eCall f__law_all_maps [(.val (eV 0))])), (.val (eCallK f_all_maps [] [(eV 0)] [0]))])
def L2s : MS → SR := (sIf (tOr2 (tNot1 (eT (eCall (f__law_same 5) [(.val (eV 2)), (.val (eOp gTuple [(.val (eV 1))]))]))) (tNot1 (eT (eCall (f__law_same 5) [(.val (eOp gLen [(.val (eV 2))])), (.val (eCall f_map_count [(.val (eV 0))]))])))) (sRet (eK (.bl false))) sNil)
def L3 : MS → SR := (sSetO 3 (eLc [7] (iRange1 (.val (eOp gAdd [(.val (eV 0)), (.val (eK (.int 1)))]))) (gNm 7) tYesM (eK (.int 0))))
def lapB : MS → SR := (sSeq (sSet 5 (eCall f_pieces [(.val (eV 4))])) (sSeq (sIf (tOr2 (eT (eOp (gIsB true) [(.val (eCall f_is_map [(.val (eV 4))])), (.val (eK (.bl true)))])) (tOr2 (tNot1 (eT (eCall (f__law_same 5) [(.val (eV 5)), (.val (eCall f__law_pieces [(.val (eV 4))]))]))) (tNot1 (eT (eCall (f__law_same 5) [(.val (eCall f_map_of [(.val (eV 0)), (.val (eV 5))])), (.val (eV 4))]))))) (sRet (eK (.bl false))) sNil) (sSeq (sSet 6 (eOp gLen [(.val (eLc [8, 9] (iSeq (eV 5)) (gTp 2 (gsCons (gNm 8) (gsCons (gNm 9) gsNil))) (eT (eOp gEq [(.val (eV 8)), (.val (eK (.str "row")))])) (eV 8)))])) (sAsg (eOp gAdd [(.val (eOp gIdx [(.own 3), (.val (eV 6))])), (.val (eK (.int 1)))]) (gSb 3 (eV 6))))))
def L5 : MS → SR := (sRet (eCall (f__law_same 5) [(.val (eMv 3)), (.val (eLc [7] (iRange1 (.val (eOp gAdd [(.val (eV 0)), (.val (eK (.int 1)))]))) (gNm 7) tYesM (eCall f_map_count_by [(.val (eV 0)), (.val (eV 7))])))]))
theorem all_right_eq : m__law_all_right = sSeq L1 (sSeq L2s (sSeq L3 (sSeq (sFor (iSeq (eV 2)) (gNm 4) lapB) L5))) := rfl
def isMapsT (b : Int) (ls : List (List (Int × Int))) : FR → Bool
  | .ok (.tup ds) [] [] => decide (ds.map toMap = ls.map fun l => some (b, l))
  | _ => false
theorem of_isMapsT {b : Int} {ls : List (List (Int × Int))} {r : FR} (h : isMapsT b ls r = true) : r = .ok (.tup (ls.map (mapD b))) [] [] := by
  unfold isMapsT at h
  split at h
  · rw [of_maps (of_decide_eq_true h)]
  · cases h
theorem due3 : isMaps 3 every3 (f__law_all_maps [.int 3] []) = true := by decide +kernel
theorem told3 : isMapsT 3 every3 (f_all_maps [.int 3] []) = true := by decide +kernel
theorem same3 : isTru (f__law_same 5 [.tup all3L, .tup all3L] []) = true := by decide +kernel
theorem len3 : all3L.length = 76 := by decide +kernel
theorem count3 : isI 76 (f_map_count [.int 3] []) = true := by decide +kernel
def rowsD (a b c d : Int) : D := .lst [.int a, .int b, .int c, .int d]
def s10 (o0 o1 o2 o3 o4 o5 o6 o7 o8 o9 : Option D) : MS := ⟨[o0, o1, o2, o3, o4, o5, o6, o7, o8, o9], []⟩
def chk (a b c d : Int) : SR → Bool
  | .nx ⟨[some (.int 3), _, _, some (.lst [.int a2, .int b2, .int c2, .int d2]), _, _, _, _, _, _], []⟩ => a == a2 && b == b2 && c == c2 && d == d2
  | _ => false
theorem of_chk {a b c d : Int} {r : SR} (h : chk a b c d r = true) : ∃ o1 o2 o4 o5 o6 o7 o8 o9, r = .nx (s10 (some (.int 3)) o1 o2 (some (rowsD a b c d)) o4 o5 o6 o7 o8 o9) := by
  unfold chk at h
  split at h
  · simp only [Bool.and_eq_true, beq_iff_eq] at h
    obtain ⟨⟨⟨rfl, rfl⟩, rfl⟩, rfl⟩ := h
    exact ⟨_, _, _, _, _, _, _, _, rfl⟩
  · cases h
def lap (c : D) (st : MS) : SR := (gNm 4 c st).stm fun _ st1 => lapB st1
theorem lap0 (o1 o2 o4 o5 o6 o7 o8 o9 : Option D) : chk 0 0 0 1 (lap (.tup [.int 3, .tup []]) (s10 (some (.int 3)) o1 o2 (some (rowsD 0 0 0 0)) o4 o5 o6 o7 o8 o9)) = true := by kernel_rfl
theorem lap1 (o1 o2 o4 o5 o6 o7 o8 o9 : Option D) : chk 0 0 1 1 (lap (.tup [.int 3, .tup [.tup [.int 0, .int 1]]]) (s10 (some (.int 3)) o1 o2 (some (rowsD 0 0 0 1)) o4 o5 o6 o7 o8 o9)) = true := by kernel_rfl
theorem lap2 (o1 o2 o4 o5 o6 o7 o8 o9 : Option D) : chk 0 1 1 1 (lap (.tup [.int 3, .tup [.tup [.int 0, .int 1], .tup [.int 2, .int 3]]]) (s10 (some (.int 3)) o1 o2 (some (rowsD 0 0 1 1)) o4 o5 o6 o7 o8 o9)) = true := by kernel_rfl
theorem lap3 (o1 o2 o4 o5 o6 o7 o8 o9 : Option D) : chk 1 1 1 1 (lap (.tup [.int 3, .tup [.tup [.int 0, .int 1], .tup [.int 2, .int 3], .tup [.int 4, .int 5]]]) (s10 (some (.int 3)) o1 o2 (some (rowsD 0 1 1 1)) o4 o5 o6 o7 o8 o9)) = true := by kernel_rfl
theorem lap4 (o1 o2 o4 o5 o6 o7 o8 o9 : Option D) : chk 1 2 1 1 (lap (.tup [.int 3, .tup [.tup [.int 0, .int 1], .tup [.int 2, .int 4]]]) (s10 (some (.int 3)) o1 o2 (some (rowsD 1 1 1 1)) o4 o5 o6 o7 o8 o9)) = true := by kernel_rfl
theorem lap5 (o1 o2 o4 o5 o6 o7 o8 o9 : Option D) : chk 2 2 1 1 (lap (.tup [.int 3, .tup [.tup [.int 0, .int 1], .tup [.int 2, .int 4], .tup [.int 3, .int 5]]]) (s10 (some (.int 3)) o1 o2 (some (rowsD 1 2 1 1)) o4 o5 o6 o7 o8 o9)) = true := by kernel_rfl
theorem lap6 (o1 o2 o4 o5 o6 o7 o8 o9 : Option D) : chk 2 3 1 1 (lap (.tup [.int 3, .tup [.tup [.int 0, .int 1], .tup [.int 2, .int 5]]]) (s10 (some (.int 3)) o1 o2 (some (rowsD 2 2 1 1)) o4 o5 o6 o7 o8 o9)) = true := by kernel_rfl
theorem lap7 (o1 o2 o4 o5 o6 o7 o8 o9 : Option D) : chk 3 3 1 1 (lap (.tup [.int 3, .tup [.tup [.int 0, .int 1], .tup [.int 2, .int 5], .tup [.int 3, .int 4]]]) (s10 (some (.int 3)) o1 o2 (some (rowsD 2 3 1 1)) o4 o5 o6 o7 o8 o9)) = true := by kernel_rfl
theorem lap8 (o1 o2 o4 o5 o6 o7 o8 o9 : Option D) : chk 3 4 1 1 (lap (.tup [.int 3, .tup [.tup [.int 0, .int 1], .tup [.int 3, .int 4]]]) (s10 (some (.int 3)) o1 o2 (some (rowsD 3 3 1 1)) o4 o5 o6 o7 o8 o9)) = true := by kernel_rfl
theorem lap9 (o1 o2 o4 o5 o6 o7 o8 o9 : Option D) : chk 3 5 1 1 (lap (.tup [.int 3, .tup [.tup [.int 0, .int 1], .tup [.int 3, .int 5]]]) (s10 (some (.int 3)) o1 o2 (some (rowsD 3 4 1 1)) o4 o5 o6 o7 o8 o9)) = true := by kernel_rfl
theorem lap10 (o1 o2 o4 o5 o6 o7 o8 o9 : Option D) : chk 3 6 1 1 (lap (.tup [.int 3, .tup [.tup [.int 0, .int 1], .tup [.int 4, .int 5]]]) (s10 (some (.int 3)) o1 o2 (some (rowsD 3 5 1 1)) o4 o5 o6 o7 o8 o9)) = true := by kernel_rfl
theorem lap11 (o1 o2 o4 o5 o6 o7 o8 o9 : Option D) : chk 3 6 2 1 (lap (.tup [.int 3, .tup [.tup [.int 0, .int 2]]]) (s10 (some (.int 3)) o1 o2 (some (rowsD 3 6 1 1)) o4 o5 o6 o7 o8 o9)) = true := by kernel_rfl
theorem lap12 (o1 o2 o4 o5 o6 o7 o8 o9 : Option D) : chk 3 7 2 1 (lap (.tup [.int 3, .tup [.tup [.int 0, .int 2], .tup [.int 1, .int 3]]]) (s10 (some (.int 3)) o1 o2 (some (rowsD 3 6 2 1)) o4 o5 o6 o7 o8 o9)) = true := by kernel_rfl
theorem lap13 (o1 o2 o4 o5 o6 o7 o8 o9 : Option D) : chk 4 7 2 1 (lap (.tup [.int 3, .tup [.tup [.int 0, .int 2], .tup [.int 1, .int 3], .tup [.int 4, .int 5]]]) (s10 (some (.int 3)) o1 o2 (some (rowsD 3 7 2 1)) o4 o5 o6 o7 o8 o9)) = true := by kernel_rfl
theorem lap14 (o1 o2 o4 o5 o6 o7 o8 o9 : Option D) : chk 4 8 2 1 (lap (.tup [.int 3, .tup [.tup [.int 0, .int 2], .tup [.int 1, .int 4]]]) (s10 (some (.int 3)) o1 o2 (some (rowsD 4 7 2 1)) o4 o5 o6 o7 o8 o9)) = true := by kernel_rfl
theorem lap15 (o1 o2 o4 o5 o6 o7 o8 o9 : Option D) : chk 5 8 2 1 (lap (.tup [.int 3, .tup [.tup [.int 0, .int 2], .tup [.int 1, .int 4], .tup [.int 3, .int 5]]]) (s10 (some (.int 3)) o1 o2 (some (rowsD 4 8 2 1)) o4 o5 o6 o7 o8 o9)) = true := by kernel_rfl
theorem lap16 (o1 o2 o4 o5 o6 o7 o8 o9 : Option D) : chk 5 9 2 1 (lap (.tup [.int 3, .tup [.tup [.int 0, .int 2], .tup [.int 1, .int 5]]]) (s10 (some (.int 3)) o1 o2 (some (rowsD 5 8 2 1)) o4 o5 o6 o7 o8 o9)) = true := by kernel_rfl
theorem lap17 (o1 o2 o4 o5 o6 o7 o8 o9 : Option D) : chk 6 9 2 1 (lap (.tup [.int 3, .tup [.tup [.int 0, .int 2], .tup [.int 1, .int 5], .tup [.int 3, .int 4]]]) (s10 (some (.int 3)) o1 o2 (some (rowsD 5 9 2 1)) o4 o5 o6 o7 o8 o9)) = true := by kernel_rfl
theorem lap18 (o1 o2 o4 o5 o6 o7 o8 o9 : Option D) : chk 6 10 2 1 (lap (.tup [.int 3, .tup [.tup [.int 0, .int 2], .tup [.int 3, .int 4]]]) (s10 (some (.int 3)) o1 o2 (some (rowsD 6 9 2 1)) o4 o5 o6 o7 o8 o9)) = true := by kernel_rfl
theorem lap19 (o1 o2 o4 o5 o6 o7 o8 o9 : Option D) : chk 6 11 2 1 (lap (.tup [.int 3, .tup [.tup [.int 0, .int 2], .tup [.int 3, .int 5]]]) (s10 (some (.int 3)) o1 o2 (some (rowsD 6 10 2 1)) o4 o5 o6 o7 o8 o9)) = true := by kernel_rfl
theorem lap20 (o1 o2 o4 o5 o6 o7 o8 o9 : Option D) : chk 6 12 2 1 (lap (.tup [.int 3, .tup [.tup [.int 0, .int 2], .tup [.int 4, .int 5]]]) (s10 (some (.int 3)) o1 o2 (some (rowsD 6 11 2 1)) o4 o5 o6 o7 o8 o9)) = true := by kernel_rfl
theorem lap21 (o1 o2 o4 o5 o6 o7 o8 o9 : Option D) : chk 6 12 3 1 (lap (.tup [.int 3, .tup [.tup [.int 0, .int 3]]]) (s10 (some (.int 3)) o1 o2 (some (rowsD 6 12 2 1)) o4 o5 o6 o7 o8 o9)) = true := by kernel_rfl
theorem lap22 (o1 o2 o4 o5 o6 o7 o8 o9 : Option D) : chk 6 13 3 1 (lap (.tup [.int 3, .tup [.tup [.int 0, .int 3], .tup [.int 1, .int 2]]]) (s10 (some (.int 3)) o1 o2 (some (rowsD 6 12 3 1)) o4 o5 o6 o7 o8 o9)) = true := by kernel_rfl
theorem lap23 (o1 o2 o4 o5 o6 o7 o8 o9 : Option D) : chk 7 13 3 1 (lap (.tup [.int 3, .tup [.tup [.int 0, .int 3], .tup [.int 1, .int 2], .tup [.int 4, .int 5]]]) (s10 (some (.int 3)) o1 o2 (some (rowsD 6 13 3 1)) o4 o5 o6 o7 o8 o9)) = true := by kernel_rfl
theorem lap24 (o1 o2 o4 o5 o6 o7 o8 o9 : Option D) : chk 7 14 3 1 (lap (.tup [.int 3, .tup [.tup [.int 0, .int 3], .tup [.int 1, .int 4]]]) (s10 (some (.int 3)) o1 o2 (some (rowsD 7 13 3 1)) o4 o5 o6 o7 o8 o9)) = true := by kernel_rfl
theorem lap25 (o1 o2 o4 o5 o6 o7 o8 o9 : Option D) : chk 8 14 3 1 (lap (.tup [.int 3, .tup [.tup [.int 0, .int 3], .tup [.int 1, .int 4], .tup [.int 2, .int 5]]]) (s10 (some (.int 3)) o1 o2 (some (rowsD 7 14 3 1)) o4 o5 o6 o7 o8 o9)) = true := by kernel_rfl
theorem lap26 (o1 o2 o4 o5 o6 o7 o8 o9 : Option D) : chk 8 15 3 1 (lap (.tup [.int 3, .tup [.tup [.int 0, .int 3], .tup [.int 1, .int 5]]]) (s10 (some (.int 3)) o1 o2 (some (rowsD 8 14 3 1)) o4 o5 o6 o7 o8 o9)) = true := by kernel_rfl
theorem lap27 (o1 o2 o4 o5 o6 o7 o8 o9 : Option D) : chk 9 15 3 1 (lap (.tup [.int 3, .tup [.tup [.int 0, .int 3], .tup [.int 1, .int 5], .tup [.int 2, .int 4]]]) (s10 (some (.int 3)) o1 o2 (some (rowsD 8 15 3 1)) o4 o5 o6 o7 o8 o9)) = true := by kernel_rfl
theorem lap28 (o1 o2 o4 o5 o6 o7 o8 o9 : Option D) : chk 9 16 3 1 (lap (.tup [.int 3, .tup [.tup [.int 0, .int 3], .tup [.int 2, .int 4]]]) (s10 (some (.int 3)) o1 o2 (some (rowsD 9 15 3 1)) o4 o5 o6 o7 o8 o9)) = true := by kernel_rfl
theorem lap29 (o1 o2 o4 o5 o6 o7 o8 o9 : Option D) : chk 9 17 3 1 (lap (.tup [.int 3, .tup [.tup [.int 0, .int 3], .tup [.int 2, .int 5]]]) (s10 (some (.int 3)) o1 o2 (some (rowsD 9 16 3 1)) o4 o5 o6 o7 o8 o9)) = true := by kernel_rfl
theorem lap30 (o1 o2 o4 o5 o6 o7 o8 o9 : Option D) : chk 9 18 3 1 (lap (.tup [.int 3, .tup [.tup [.int 0, .int 3], .tup [.int 4, .int 5]]]) (s10 (some (.int 3)) o1 o2 (some (rowsD 9 17 3 1)) o4 o5 o6 o7 o8 o9)) = true := by kernel_rfl
theorem lap31 (o1 o2 o4 o5 o6 o7 o8 o9 : Option D) : chk 9 18 4 1 (lap (.tup [.int 3, .tup [.tup [.int 0, .int 4]]]) (s10 (some (.int 3)) o1 o2 (some (rowsD 9 18 3 1)) o4 o5 o6 o7 o8 o9)) = true := by kernel_rfl
theorem lap32 (o1 o2 o4 o5 o6 o7 o8 o9 : Option D) : chk 9 19 4 1 (lap (.tup [.int 3, .tup [.tup [.int 0, .int 4], .tup [.int 1, .int 2]]]) (s10 (some (.int 3)) o1 o2 (some (rowsD 9 18 4 1)) o4 o5 o6 o7 o8 o9)) = true := by kernel_rfl
theorem lap33 (o1 o2 o4 o5 o6 o7 o8 o9 : Option D) : chk 10 19 4 1 (lap (.tup [.int 3, .tup [.tup [.int 0, .int 4], .tup [.int 1, .int 2], .tup [.int 3, .int 5]]]) (s10 (some (.int 3)) o1 o2 (some (rowsD 9 19 4 1)) o4 o5 o6 o7 o8 o9)) = true := by kernel_rfl
theorem lap34 (o1 o2 o4 o5 o6 o7 o8 o9 : Option D) : chk 10 20 4 1 (lap (.tup [.int 3, .tup [.tup [.int 0, .int 4], .tup [.int 1, .int 3]]]) (s10 (some (.int 3)) o1 o2 (some (rowsD 10 19 4 1)) o4 o5 o6 o7 o8 o9)) = true := by kernel_rfl
theorem lap35 (o1 o2 o4 o5 o6 o7 o8 o9 : Option D) : chk 11 20 4 1 (lap (.tup [.int 3, .tup [.tup [.int 0, .int 4], .tup [.int 1, .int 3], .tup [.int 2, .int 5]]]) (s10 (some (.int 3)) o1 o2 (some (rowsD 10 20 4 1)) o4 o5 o6 o7 o8 o9)) = true := by kernel_rfl
theorem lap36 (o1 o2 o4 o5 o6 o7 o8 o9 : Option D) : chk 11 21 4 1 (lap (.tup [.int 3, .tup [.tup [.int 0, .int 4], .tup [.int 1, .int 5]]]) (s10 (some (.int 3)) o1 o2 (some (rowsD 11 20 4 1)) o4 o5 o6 o7 o8 o9)) = true := by kernel_rfl
theorem lap37 (o1 o2 o4 o5 o6 o7 o8 o9 : Option D) : chk 12 21 4 1 (lap (.tup [.int 3, .tup [.tup [.int 0, .int 4], .tup [.int 1, .int 5], .tup [.int 2, .int 3]]]) (s10 (some (.int 3)) o1 o2 (some (rowsD 11 21 4 1)) o4 o5 o6 o7 o8 o9)) = true := by kernel_rfl
theorem lap38 (o1 o2 o4 o5 o6 o7 o8 o9 : Option D) : chk 12 22 4 1 (lap (.tup [.int 3, .tup [.tup [.int 0, .int 4], .tup [.int 2, .int 3]]]) (s10 (some (.int 3)) o1 o2 (some (rowsD 12 21 4 1)) o4 o5 o6 o7 o8 o9)) = true := by kernel_rfl
theorem lap39 (o1 o2 o4 o5 o6 o7 o8 o9 : Option D) : chk 12 23 4 1 (lap (.tup [.int 3, .tup [.tup [.int 0, .int 4], .tup [.int 2, .int 5]]]) (s10 (some (.int 3)) o1 o2 (some (rowsD 12 22 4 1)) o4 o5 o6 o7 o8 o9)) = true := by kernel_rfl
theorem lap40 (o1 o2 o4 o5 o6 o7 o8 o9 : Option D) : chk 12 24 4 1 (lap (.tup [.int 3, .tup [.tup [.int 0, .int 4], .tup [.int 3, .int 5]]]) (s10 (some (.int 3)) o1 o2 (some (rowsD 12 23 4 1)) o4 o5 o6 o7 o8 o9)) = true := by kernel_rfl
theorem lap41 (o1 o2 o4 o5 o6 o7 o8 o9 : Option D) : chk 12 24 5 1 (lap (.tup [.int 3, .tup [.tup [.int 0, .int 5]]]) (s10 (some (.int 3)) o1 o2 (some (rowsD 12 24 4 1)) o4 o5 o6 o7 o8 o9)) = true := by kernel_rfl
theorem lap42 (o1 o2 o4 o5 o6 o7 o8 o9 : Option D) : chk 12 25 5 1 (lap (.tup [.int 3, .tup [.tup [.int 0, .int 5], .tup [.int 1, .int 2]]]) (s10 (some (.int 3)) o1 o2 (some (rowsD 12 24 5 1)) o4 o5 o6 o7 o8 o9)) = true := by kernel_rfl
theorem lap43 (o1 o2 o4 o5 o6 o7 o8 o9 : Option D) : chk 13 25 5 1 (lap (.tup [.int 3, .tup [.tup [.int 0, .int 5], .tup [.int 1, .int 2], .tup [.int 3, .int 4]]]) (s10 (some (.int 3)) o1 o2 (some (rowsD 12 25 5 1)) o4 o5 o6 o7 o8 o9)) = true := by kernel_rfl
theorem lap44 (o1 o2 o4 o5 o6 o7 o8 o9 : Option D) : chk 13 26 5 1 (lap (.tup [.int 3, .tup [.tup [.int 0, .int 5], .tup [.int 1, .int 3]]]) (s10 (some (.int 3)) o1 o2 (some (rowsD 13 25 5 1)) o4 o5 o6 o7 o8 o9)) = true := by kernel_rfl
theorem lap45 (o1 o2 o4 o5 o6 o7 o8 o9 : Option D) : chk 14 26 5 1 (lap (.tup [.int 3, .tup [.tup [.int 0, .int 5], .tup [.int 1, .int 3], .tup [.int 2, .int 4]]]) (s10 (some (.int 3)) o1 o2 (some (rowsD 13 26 5 1)) o4 o5 o6 o7 o8 o9)) = true := by kernel_rfl
theorem lap46 (o1 o2 o4 o5 o6 o7 o8 o9 : Option D) : chk 14 27 5 1 (lap (.tup [.int 3, .tup [.tup [.int 0, .int 5], .tup [.int 1, .int 4]]]) (s10 (some (.int 3)) o1 o2 (some (rowsD 14 26 5 1)) o4 o5 o6 o7 o8 o9)) = true := by kernel_rfl
theorem lap47 (o1 o2 o4 o5 o6 o7 o8 o9 : Option D) : chk 15 27 5 1 (lap (.tup [.int 3, .tup [.tup [.int 0, .int 5], .tup [.int 1, .int 4], .tup [.int 2, .int 3]]]) (s10 (some (.int 3)) o1 o2 (some (rowsD 14 27 5 1)) o4 o5 o6 o7 o8 o9)) = true := by kernel_rfl
theorem lap48 (o1 o2 o4 o5 o6 o7 o8 o9 : Option D) : chk 15 28 5 1 (lap (.tup [.int 3, .tup [.tup [.int 0, .int 5], .tup [.int 2, .int 3]]]) (s10 (some (.int 3)) o1 o2 (some (rowsD 15 27 5 1)) o4 o5 o6 o7 o8 o9)) = true := by kernel_rfl
theorem lap49 (o1 o2 o4 o5 o6 o7 o8 o9 : Option D) : chk 15 29 5 1 (lap (.tup [.int 3, .tup [.tup [.int 0, .int 5], .tup [.int 2, .int 4]]]) (s10 (some (.int 3)) o1 o2 (some (rowsD 15 28 5 1)) o4 o5 o6 o7 o8 o9)) = true := by kernel_rfl
theorem lap50 (o1 o2 o4 o5 o6 o7 o8 o9 : Option D) : chk 15 30 5 1 (lap (.tup [.int 3, .tup [.tup [.int 0, .int 5], .tup [.int 3, .int 4]]]) (s10 (some (.int 3)) o1 o2 (some (rowsD 15 29 5 1)) o4 o5 o6 o7 o8 o9)) = true := by kernel_rfl
theorem lap51 (o1 o2 o4 o5 o6 o7 o8 o9 : Option D) : chk 15 30 6 1 (lap (.tup [.int 3, .tup [.tup [.int 1, .int 2]]]) (s10 (some (.int 3)) o1 o2 (some (rowsD 15 30 5 1)) o4 o5 o6 o7 o8 o9)) = true := by kernel_rfl
theorem lap52 (o1 o2 o4 o5 o6 o7 o8 o9 : Option D) : chk 15 31 6 1 (lap (.tup [.int 3, .tup [.tup [.int 1, .int 2], .tup [.int 3, .int 4]]]) (s10 (some (.int 3)) o1 o2 (some (rowsD 15 30 6 1)) o4 o5 o6 o7 o8 o9)) = true := by kernel_rfl
theorem lap53 (o1 o2 o4 o5 o6 o7 o8 o9 : Option D) : chk 15 32 6 1 (lap (.tup [.int 3, .tup [.tup [.int 1, .int 2], .tup [.int 3, .int 5]]]) (s10 (some (.int 3)) o1 o2 (some (rowsD 15 31 6 1)) o4 o5 o6 o7 o8 o9)) = true := by kernel_rfl
theorem lap54 (o1 o2 o4 o5 o6 o7 o8 o9 : Option D) : chk 15 33 6 1 (lap (.tup [.int 3, .tup [.tup [.int 1, .int 2], .tup [.int 4, .int 5]]]) (s10 (some (.int 3)) o1 o2 (some (rowsD 15 32 6 1)) o4 o5 o6 o7 o8 o9)) = true := by kernel_rfl
theorem lap55 (o1 o2 o4 o5 o6 o7 o8 o9 : Option D) : chk 15 33 7 1 (lap (.tup [.int 3, .tup [.tup [.int 1, .int 3]]]) (s10 (some (.int 3)) o1 o2 (some (rowsD 15 33 6 1)) o4 o5 o6 o7 o8 o9)) = true := by kernel_rfl
theorem lap56 (o1 o2 o4 o5 o6 o7 o8 o9 : Option D) : chk 15 34 7 1 (lap (.tup [.int 3, .tup [.tup [.int 1, .int 3], .tup [.int 2, .int 4]]]) (s10 (some (.int 3)) o1 o2 (some (rowsD 15 33 7 1)) o4 o5 o6 o7 o8 o9)) = true := by kernel_rfl
theorem lap57 (o1 o2 o4 o5 o6 o7 o8 o9 : Option D) : chk 15 35 7 1 (lap (.tup [.int 3, .tup [.tup [.int 1, .int 3], .tup [.int 2, .int 5]]]) (s10 (some (.int 3)) o1 o2 (some (rowsD 15 34 7 1)) o4 o5 o6 o7 o8 o9)) = true := by kernel_rfl
theorem lap58 (o1 o2 o4 o5 o6 o7 o8 o9 : Option D) : chk 15 36 7 1 (lap (.tup [.int 3, .tup [.tup [.int 1, .int 3], .tup [.int 4, .int 5]]]) (s10 (some (.int 3)) o1 o2 (some (rowsD 15 35 7 1)) o4 o5 o6 o7 o8 o9)) = true := by kernel_rfl
theorem lap59 (o1 o2 o4 o5 o6 o7 o8 o9 : Option D) : chk 15 36 8 1 (lap (.tup [.int 3, .tup [.tup [.int 1, .int 4]]]) (s10 (some (.int 3)) o1 o2 (some (rowsD 15 36 7 1)) o4 o5 o6 o7 o8 o9)) = true := by kernel_rfl
theorem lap60 (o1 o2 o4 o5 o6 o7 o8 o9 : Option D) : chk 15 37 8 1 (lap (.tup [.int 3, .tup [.tup [.int 1, .int 4], .tup [.int 2, .int 3]]]) (s10 (some (.int 3)) o1 o2 (some (rowsD 15 36 8 1)) o4 o5 o6 o7 o8 o9)) = true := by kernel_rfl
theorem lap61 (o1 o2 o4 o5 o6 o7 o8 o9 : Option D) : chk 15 38 8 1 (lap (.tup [.int 3, .tup [.tup [.int 1, .int 4], .tup [.int 2, .int 5]]]) (s10 (some (.int 3)) o1 o2 (some (rowsD 15 37 8 1)) o4 o5 o6 o7 o8 o9)) = true := by kernel_rfl
theorem lap62 (o1 o2 o4 o5 o6 o7 o8 o9 : Option D) : chk 15 39 8 1 (lap (.tup [.int 3, .tup [.tup [.int 1, .int 4], .tup [.int 3, .int 5]]]) (s10 (some (.int 3)) o1 o2 (some (rowsD 15 38 8 1)) o4 o5 o6 o7 o8 o9)) = true := by kernel_rfl
theorem lap63 (o1 o2 o4 o5 o6 o7 o8 o9 : Option D) : chk 15 39 9 1 (lap (.tup [.int 3, .tup [.tup [.int 1, .int 5]]]) (s10 (some (.int 3)) o1 o2 (some (rowsD 15 39 8 1)) o4 o5 o6 o7 o8 o9)) = true := by kernel_rfl
theorem lap64 (o1 o2 o4 o5 o6 o7 o8 o9 : Option D) : chk 15 40 9 1 (lap (.tup [.int 3, .tup [.tup [.int 1, .int 5], .tup [.int 2, .int 3]]]) (s10 (some (.int 3)) o1 o2 (some (rowsD 15 39 9 1)) o4 o5 o6 o7 o8 o9)) = true := by kernel_rfl
theorem lap65 (o1 o2 o4 o5 o6 o7 o8 o9 : Option D) : chk 15 41 9 1 (lap (.tup [.int 3, .tup [.tup [.int 1, .int 5], .tup [.int 2, .int 4]]]) (s10 (some (.int 3)) o1 o2 (some (rowsD 15 40 9 1)) o4 o5 o6 o7 o8 o9)) = true := by kernel_rfl
theorem lap66 (o1 o2 o4 o5 o6 o7 o8 o9 : Option D) : chk 15 42 9 1 (lap (.tup [.int 3, .tup [.tup [.int 1, .int 5], .tup [.int 3, .int 4]]]) (s10 (some (.int 3)) o1 o2 (some (rowsD 15 41 9 1)) o4 o5 o6 o7 o8 o9)) = true := by kernel_rfl
theorem lap67 (o1 o2 o4 o5 o6 o7 o8 o9 : Option D) : chk 15 42 10 1 (lap (.tup [.int 3, .tup [.tup [.int 2, .int 3]]]) (s10 (some (.int 3)) o1 o2 (some (rowsD 15 42 9 1)) o4 o5 o6 o7 o8 o9)) = true := by kernel_rfl
theorem lap68 (o1 o2 o4 o5 o6 o7 o8 o9 : Option D) : chk 15 43 10 1 (lap (.tup [.int 3, .tup [.tup [.int 2, .int 3], .tup [.int 4, .int 5]]]) (s10 (some (.int 3)) o1 o2 (some (rowsD 15 42 10 1)) o4 o5 o6 o7 o8 o9)) = true := by kernel_rfl
theorem lap69 (o1 o2 o4 o5 o6 o7 o8 o9 : Option D) : chk 15 43 11 1 (lap (.tup [.int 3, .tup [.tup [.int 2, .int 4]]]) (s10 (some (.int 3)) o1 o2 (some (rowsD 15 43 10 1)) o4 o5 o6 o7 o8 o9)) = true := by kernel_rfl
theorem lap70 (o1 o2 o4 o5 o6 o7 o8 o9 : Option D) : chk 15 44 11 1 (lap (.tup [.int 3, .tup [.tup [.int 2, .int 4], .tup [.int 3, .int 5]]]) (s10 (some (.int 3)) o1 o2 (some (rowsD 15 43 11 1)) o4 o5 o6 o7 o8 o9)) = true := by kernel_rfl
theorem lap71 (o1 o2 o4 o5 o6 o7 o8 o9 : Option D) : chk 15 44 12 1 (lap (.tup [.int 3, .tup [.tup [.int 2, .int 5]]]) (s10 (some (.int 3)) o1 o2 (some (rowsD 15 44 11 1)) o4 o5 o6 o7 o8 o9)) = true := by kernel_rfl
theorem lap72 (o1 o2 o4 o5 o6 o7 o8 o9 : Option D) : chk 15 45 12 1 (lap (.tup [.int 3, .tup [.tup [.int 2, .int 5], .tup [.int 3, .int 4]]]) (s10 (some (.int 3)) o1 o2 (some (rowsD 15 44 12 1)) o4 o5 o6 o7 o8 o9)) = true := by kernel_rfl
theorem lap73 (o1 o2 o4 o5 o6 o7 o8 o9 : Option D) : chk 15 45 13 1 (lap (.tup [.int 3, .tup [.tup [.int 3, .int 4]]]) (s10 (some (.int 3)) o1 o2 (some (rowsD 15 45 12 1)) o4 o5 o6 o7 o8 o9)) = true := by kernel_rfl
theorem lap74 (o1 o2 o4 o5 o6 o7 o8 o9 : Option D) : chk 15 45 14 1 (lap (.tup [.int 3, .tup [.tup [.int 3, .int 5]]]) (s10 (some (.int 3)) o1 o2 (some (rowsD 15 45 13 1)) o4 o5 o6 o7 o8 o9)) = true := by kernel_rfl
theorem lap75 (o1 o2 o4 o5 o6 o7 o8 o9 : Option D) : chk 15 45 15 1 (lap (.tup [.int 3, .tup [.tup [.int 4, .int 5]]]) (s10 (some (.int 3)) o1 o2 (some (rowsD 15 45 14 1)) o4 o5 o6 o7 o8 o9)) = true := by kernel_rfl
theorem all3L_eq : all3L = [.tup [.int 3, .tup []], .tup [.int 3, .tup [.tup [.int 0, .int 1]]], .tup [.int 3, .tup [.tup [.int 0, .int 1], .tup [.int 2, .int 3]]], .tup [.int 3, .tup [.tup [.int 0, .int 1], .tup [.int 2, .int 3], .tup [.int 4, .int 5]]], .tup [.int 3, .tup [.tup [.int 0, .int 1], .tup [.int 2, .int 4]]], .tup [.int 3, .tup [.tup [.int 0, .int 1], .tup [.int 2, .int 4], .tup [.int 3, .int 5]]], .tup [.int 3, .tup [.tup [.int 0, .int 1], .tup [.int 2, .int 5]]], .tup [.int 3, .tup [.tup [.int 0, .int 1], .tup [.int 2, .int 5], .tup [.int 3, .int 4]]], .tup [.int 3, .tup [.tup [.int 0, .int 1], .tup [.int 3, .int 4]]], .tup [.int 3, .tup [.tup [.int 0, .int 1], .tup [.int 3, .int 5]]], .tup [.int 3, .tup [.tup [.int 0, .int 1], .tup [.int 4, .int 5]]], .tup [.int 3, .tup [.tup [.int 0, .int 2]]], .tup [.int 3, .tup [.tup [.int 0, .int 2], .tup [.int 1, .int 3]]], .tup [.int 3, .tup [.tup [.int 0, .int 2], .tup [.int 1, .int 3], .tup [.int 4, .int 5]]], .tup [.int 3, .tup [.tup [.int 0, .int 2], .tup [.int 1, .int 4]]], .tup [.int 3, .tup [.tup [.int 0, .int 2], .tup [.int 1, .int 4], .tup [.int 3, .int 5]]], .tup [.int 3, .tup [.tup [.int 0, .int 2], .tup [.int 1, .int 5]]], .tup [.int 3, .tup [.tup [.int 0, .int 2], .tup [.int 1, .int 5], .tup [.int 3, .int 4]]], .tup [.int 3, .tup [.tup [.int 0, .int 2], .tup [.int 3, .int 4]]], .tup [.int 3, .tup [.tup [.int 0, .int 2], .tup [.int 3, .int 5]]], .tup [.int 3, .tup [.tup [.int 0, .int 2], .tup [.int 4, .int 5]]], .tup [.int 3, .tup [.tup [.int 0, .int 3]]], .tup [.int 3, .tup [.tup [.int 0, .int 3], .tup [.int 1, .int 2]]], .tup [.int 3, .tup [.tup [.int 0, .int 3], .tup [.int 1, .int 2], .tup [.int 4, .int 5]]], .tup [.int 3, .tup [.tup [.int 0, .int 3], .tup [.int 1, .int 4]]], .tup [.int 3, .tup [.tup [.int 0, .int 3], .tup [.int 1, .int 4], .tup [.int 2, .int 5]]], .tup [.int 3, .tup [.tup [.int 0, .int 3], .tup [.int 1, .int 5]]], .tup [.int 3, .tup [.tup [.int 0, .int 3], .tup [.int 1, .int 5], .tup [.int 2, .int 4]]], .tup [.int 3, .tup [.tup [.int 0, .int 3], .tup [.int 2, .int 4]]], .tup [.int 3, .tup [.tup [.int 0, .int 3], .tup [.int 2, .int 5]]], .tup [.int 3, .tup [.tup [.int 0, .int 3], .tup [.int 4, .int 5]]], .tup [.int 3, .tup [.tup [.int 0, .int 4]]], .tup [.int 3, .tup [.tup [.int 0, .int 4], .tup [.int 1, .int 2]]], .tup [.int 3, .tup [.tup [.int 0, .int 4], .tup [.int 1, .int 2], .tup [.int 3, .int 5]]], .tup [.int 3, .tup [.tup [.int 0, .int 4], .tup [.int 1, .int 3]]], .tup [.int 3, .tup [.tup [.int 0, .int 4], .tup [.int 1, .int 3], .tup [.int 2, .int 5]]], .tup [.int 3, .tup [.tup [.int 0, .int 4], .tup [.int 1, .int 5]]], .tup [.int 3, .tup [.tup [.int 0, .int 4], .tup [.int 1, .int 5], .tup [.int 2, .int 3]]], .tup [.int 3, .tup [.tup [.int 0, .int 4], .tup [.int 2, .int 3]]], .tup [.int 3, .tup [.tup [.int 0, .int 4], .tup [.int 2, .int 5]]], .tup [.int 3, .tup [.tup [.int 0, .int 4], .tup [.int 3, .int 5]]], .tup [.int 3, .tup [.tup [.int 0, .int 5]]], .tup [.int 3, .tup [.tup [.int 0, .int 5], .tup [.int 1, .int 2]]], .tup [.int 3, .tup [.tup [.int 0, .int 5], .tup [.int 1, .int 2], .tup [.int 3, .int 4]]], .tup [.int 3, .tup [.tup [.int 0, .int 5], .tup [.int 1, .int 3]]], .tup [.int 3, .tup [.tup [.int 0, .int 5], .tup [.int 1, .int 3], .tup [.int 2, .int 4]]], .tup [.int 3, .tup [.tup [.int 0, .int 5], .tup [.int 1, .int 4]]], .tup [.int 3, .tup [.tup [.int 0, .int 5], .tup [.int 1, .int 4], .tup [.int 2, .int 3]]], .tup [.int 3, .tup [.tup [.int 0, .int 5], .tup [.int 2, .int 3]]], .tup [.int 3, .tup [.tup [.int 0, .int 5], .tup [.int 2, .int 4]]], .tup [.int 3, .tup [.tup [.int 0, .int 5], .tup [.int 3, .int 4]]], .tup [.int 3, .tup [.tup [.int 1, .int 2]]], .tup [.int 3, .tup [.tup [.int 1, .int 2], .tup [.int 3, .int 4]]], .tup [.int 3, .tup [.tup [.int 1, .int 2], .tup [.int 3, .int 5]]], .tup [.int 3, .tup [.tup [.int 1, .int 2], .tup [.int 4, .int 5]]], .tup [.int 3, .tup [.tup [.int 1, .int 3]]], .tup [.int 3, .tup [.tup [.int 1, .int 3], .tup [.int 2, .int 4]]], .tup [.int 3, .tup [.tup [.int 1, .int 3], .tup [.int 2, .int 5]]], .tup [.int 3, .tup [.tup [.int 1, .int 3], .tup [.int 4, .int 5]]], .tup [.int 3, .tup [.tup [.int 1, .int 4]]], .tup [.int 3, .tup [.tup [.int 1, .int 4], .tup [.int 2, .int 3]]], .tup [.int 3, .tup [.tup [.int 1, .int 4], .tup [.int 2, .int 5]]], .tup [.int 3, .tup [.tup [.int 1, .int 4], .tup [.int 3, .int 5]]], .tup [.int 3, .tup [.tup [.int 1, .int 5]]], .tup [.int 3, .tup [.tup [.int 1, .int 5], .tup [.int 2, .int 3]]], .tup [.int 3, .tup [.tup [.int 1, .int 5], .tup [.int 2, .int 4]]], .tup [.int 3, .tup [.tup [.int 1, .int 5], .tup [.int 3, .int 4]]], .tup [.int 3, .tup [.tup [.int 2, .int 3]]], .tup [.int 3, .tup [.tup [.int 2, .int 3], .tup [.int 4, .int 5]]], .tup [.int 3, .tup [.tup [.int 2, .int 4]]], .tup [.int 3, .tup [.tup [.int 2, .int 4], .tup [.int 3, .int 5]]], .tup [.int 3, .tup [.tup [.int 2, .int 5]]], .tup [.int 3, .tup [.tup [.int 2, .int 5], .tup [.int 3, .int 4]]], .tup [.int 3, .tup [.tup [.int 3, .int 4]]], .tup [.int 3, .tup [.tup [.int 3, .int 5]]], .tup [.int 3, .tup [.tup [.int 4, .int 5]]]] := rfl
theorem laps (o1 o2 o4 o5 o6 o7 o8 o9 : Option D) : ∃ p1 p2 p4 p5 p6 p7 p8 p9, forL (gNm 4) lapB all3L (s10 (some (.int 3)) o1 o2 (some (rowsD 0 0 0 0)) o4 o5 o6 o7 o8 o9) = .nx (s10 (some (.int 3)) p1 p2 (some (rowsD 15 45 15 1)) p4 p5 p6 p7 p8 p9) := by
  rw [all3L_eq]
  obtain ⟨o1, o2, o4, o5, o6, o7, o8, o9, e⟩ := of_chk (lap0 o1 o2 o4 o5 o6 o7 o8 o9)
  rw [forL_go (.inl e)]
  clear e
  obtain ⟨o1, o2, o4, o5, o6, o7, o8, o9, e⟩ := of_chk (lap1 o1 o2 o4 o5 o6 o7 o8 o9)
  rw [forL_go (.inl e)]
  clear e
  obtain ⟨o1, o2, o4, o5, o6, o7, o8, o9, e⟩ := of_chk (lap2 o1 o2 o4 o5 o6 o7 o8 o9)
  rw [forL_go (.inl e)]
  clear e
  obtain ⟨o1, o2, o4, o5, o6, o7, o8, o9, e⟩ := of_chk (lap3 o1 o2 o4 o5 o6 o7 o8 o9)
  rw [forL_go (.inl e)]
  clear e
  obtain ⟨o1, o2, o4, o5, o6, o7, o8, o9, e⟩ := of_chk (lap4 o1 o2 o4 o5 o6 o7 o8 o9)
  rw [forL_go (.inl e)]
  clear e
  obtain ⟨o1, o2, o4, o5, o6, o7, o8, o9, e⟩ := of_chk (lap5 o1 o2 o4 o5 o6 o7 o8 o9)
  rw [forL_go (.inl e)]
  clear e
  obtain ⟨o1, o2, o4, o5, o6, o7, o8, o9, e⟩ := of_chk (lap6 o1 o2 o4 o5 o6 o7 o8 o9)
  rw [forL_go (.inl e)]
  clear e
  obtain ⟨o1, o2, o4, o5, o6, o7, o8, o9, e⟩ := of_chk (lap7 o1 o2 o4 o5 o6 o7 o8 o9)
  rw [forL_go (.inl e)]
  clear e
  obtain ⟨o1, o2, o4, o5, o6, o7, o8, o9, e⟩ := of_chk (lap8 o1 o2 o4 o5 o6 o7 o8 o9)
  rw [forL_go (.inl e)]
  clear e
  obtain ⟨o1, o2, o4, o5, o6, o7, o8, o9, e⟩ := of_chk (lap9 o1 o2 o4 o5 o6 o7 o8 o9)
  rw [forL_go (.inl e)]
  clear e
  obtain ⟨o1, o2, o4, o5, o6, o7, o8, o9, e⟩ := of_chk (lap10 o1 o2 o4 o5 o6 o7 o8 o9)
  rw [forL_go (.inl e)]
  clear e
  obtain ⟨o1, o2, o4, o5, o6, o7, o8, o9, e⟩ := of_chk (lap11 o1 o2 o4 o5 o6 o7 o8 o9)
  rw [forL_go (.inl e)]
  clear e
  obtain ⟨o1, o2, o4, o5, o6, o7, o8, o9, e⟩ := of_chk (lap12 o1 o2 o4 o5 o6 o7 o8 o9)
  rw [forL_go (.inl e)]
  clear e
  obtain ⟨o1, o2, o4, o5, o6, o7, o8, o9, e⟩ := of_chk (lap13 o1 o2 o4 o5 o6 o7 o8 o9)
  rw [forL_go (.inl e)]
  clear e
  obtain ⟨o1, o2, o4, o5, o6, o7, o8, o9, e⟩ := of_chk (lap14 o1 o2 o4 o5 o6 o7 o8 o9)
  rw [forL_go (.inl e)]
  clear e
  obtain ⟨o1, o2, o4, o5, o6, o7, o8, o9, e⟩ := of_chk (lap15 o1 o2 o4 o5 o6 o7 o8 o9)
  rw [forL_go (.inl e)]
  clear e
  obtain ⟨o1, o2, o4, o5, o6, o7, o8, o9, e⟩ := of_chk (lap16 o1 o2 o4 o5 o6 o7 o8 o9)
  rw [forL_go (.inl e)]
  clear e
  obtain ⟨o1, o2, o4, o5, o6, o7, o8, o9, e⟩ := of_chk (lap17 o1 o2 o4 o5 o6 o7 o8 o9)
  rw [forL_go (.inl e)]
  clear e
  obtain ⟨o1, o2, o4, o5, o6, o7, o8, o9, e⟩ := of_chk (lap18 o1 o2 o4 o5 o6 o7 o8 o9)
  rw [forL_go (.inl e)]
  clear e
  obtain ⟨o1, o2, o4, o5, o6, o7, o8, o9, e⟩ := of_chk (lap19 o1 o2 o4 o5 o6 o7 o8 o9)
  rw [forL_go (.inl e)]
  clear e
  obtain ⟨o1, o2, o4, o5, o6, o7, o8, o9, e⟩ := of_chk (lap20 o1 o2 o4 o5 o6 o7 o8 o9)
  rw [forL_go (.inl e)]
  clear e
  obtain ⟨o1, o2, o4, o5, o6, o7, o8, o9, e⟩ := of_chk (lap21 o1 o2 o4 o5 o6 o7 o8 o9)
  rw [forL_go (.inl e)]
  clear e
  obtain ⟨o1, o2, o4, o5, o6, o7, o8, o9, e⟩ := of_chk (lap22 o1 o2 o4 o5 o6 o7 o8 o9)
  rw [forL_go (.inl e)]
  clear e
  obtain ⟨o1, o2, o4, o5, o6, o7, o8, o9, e⟩ := of_chk (lap23 o1 o2 o4 o5 o6 o7 o8 o9)
  rw [forL_go (.inl e)]
  clear e
  obtain ⟨o1, o2, o4, o5, o6, o7, o8, o9, e⟩ := of_chk (lap24 o1 o2 o4 o5 o6 o7 o8 o9)
  rw [forL_go (.inl e)]
  clear e
  obtain ⟨o1, o2, o4, o5, o6, o7, o8, o9, e⟩ := of_chk (lap25 o1 o2 o4 o5 o6 o7 o8 o9)
  rw [forL_go (.inl e)]
  clear e
  obtain ⟨o1, o2, o4, o5, o6, o7, o8, o9, e⟩ := of_chk (lap26 o1 o2 o4 o5 o6 o7 o8 o9)
  rw [forL_go (.inl e)]
  clear e
  obtain ⟨o1, o2, o4, o5, o6, o7, o8, o9, e⟩ := of_chk (lap27 o1 o2 o4 o5 o6 o7 o8 o9)
  rw [forL_go (.inl e)]
  clear e
  obtain ⟨o1, o2, o4, o5, o6, o7, o8, o9, e⟩ := of_chk (lap28 o1 o2 o4 o5 o6 o7 o8 o9)
  rw [forL_go (.inl e)]
  clear e
  obtain ⟨o1, o2, o4, o5, o6, o7, o8, o9, e⟩ := of_chk (lap29 o1 o2 o4 o5 o6 o7 o8 o9)
  rw [forL_go (.inl e)]
  clear e
  obtain ⟨o1, o2, o4, o5, o6, o7, o8, o9, e⟩ := of_chk (lap30 o1 o2 o4 o5 o6 o7 o8 o9)
  rw [forL_go (.inl e)]
  clear e
  obtain ⟨o1, o2, o4, o5, o6, o7, o8, o9, e⟩ := of_chk (lap31 o1 o2 o4 o5 o6 o7 o8 o9)
  rw [forL_go (.inl e)]
  clear e
  obtain ⟨o1, o2, o4, o5, o6, o7, o8, o9, e⟩ := of_chk (lap32 o1 o2 o4 o5 o6 o7 o8 o9)
  rw [forL_go (.inl e)]
  clear e
  obtain ⟨o1, o2, o4, o5, o6, o7, o8, o9, e⟩ := of_chk (lap33 o1 o2 o4 o5 o6 o7 o8 o9)
  rw [forL_go (.inl e)]
  clear e
  obtain ⟨o1, o2, o4, o5, o6, o7, o8, o9, e⟩ := of_chk (lap34 o1 o2 o4 o5 o6 o7 o8 o9)
  rw [forL_go (.inl e)]
  clear e
  obtain ⟨o1, o2, o4, o5, o6, o7, o8, o9, e⟩ := of_chk (lap35 o1 o2 o4 o5 o6 o7 o8 o9)
  rw [forL_go (.inl e)]
  clear e
  obtain ⟨o1, o2, o4, o5, o6, o7, o8, o9, e⟩ := of_chk (lap36 o1 o2 o4 o5 o6 o7 o8 o9)
  rw [forL_go (.inl e)]
  clear e
  obtain ⟨o1, o2, o4, o5, o6, o7, o8, o9, e⟩ := of_chk (lap37 o1 o2 o4 o5 o6 o7 o8 o9)
  rw [forL_go (.inl e)]
  clear e
  obtain ⟨o1, o2, o4, o5, o6, o7, o8, o9, e⟩ := of_chk (lap38 o1 o2 o4 o5 o6 o7 o8 o9)
  rw [forL_go (.inl e)]
  clear e
  obtain ⟨o1, o2, o4, o5, o6, o7, o8, o9, e⟩ := of_chk (lap39 o1 o2 o4 o5 o6 o7 o8 o9)
  rw [forL_go (.inl e)]
  clear e
  obtain ⟨o1, o2, o4, o5, o6, o7, o8, o9, e⟩ := of_chk (lap40 o1 o2 o4 o5 o6 o7 o8 o9)
  rw [forL_go (.inl e)]
  clear e
  obtain ⟨o1, o2, o4, o5, o6, o7, o8, o9, e⟩ := of_chk (lap41 o1 o2 o4 o5 o6 o7 o8 o9)
  rw [forL_go (.inl e)]
  clear e
  obtain ⟨o1, o2, o4, o5, o6, o7, o8, o9, e⟩ := of_chk (lap42 o1 o2 o4 o5 o6 o7 o8 o9)
  rw [forL_go (.inl e)]
  clear e
  obtain ⟨o1, o2, o4, o5, o6, o7, o8, o9, e⟩ := of_chk (lap43 o1 o2 o4 o5 o6 o7 o8 o9)
  rw [forL_go (.inl e)]
  clear e
  obtain ⟨o1, o2, o4, o5, o6, o7, o8, o9, e⟩ := of_chk (lap44 o1 o2 o4 o5 o6 o7 o8 o9)
  rw [forL_go (.inl e)]
  clear e
  obtain ⟨o1, o2, o4, o5, o6, o7, o8, o9, e⟩ := of_chk (lap45 o1 o2 o4 o5 o6 o7 o8 o9)
  rw [forL_go (.inl e)]
  clear e
  obtain ⟨o1, o2, o4, o5, o6, o7, o8, o9, e⟩ := of_chk (lap46 o1 o2 o4 o5 o6 o7 o8 o9)
  rw [forL_go (.inl e)]
  clear e
  obtain ⟨o1, o2, o4, o5, o6, o7, o8, o9, e⟩ := of_chk (lap47 o1 o2 o4 o5 o6 o7 o8 o9)
  rw [forL_go (.inl e)]
  clear e
  obtain ⟨o1, o2, o4, o5, o6, o7, o8, o9, e⟩ := of_chk (lap48 o1 o2 o4 o5 o6 o7 o8 o9)
  rw [forL_go (.inl e)]
  clear e
  obtain ⟨o1, o2, o4, o5, o6, o7, o8, o9, e⟩ := of_chk (lap49 o1 o2 o4 o5 o6 o7 o8 o9)
  rw [forL_go (.inl e)]
  clear e
  obtain ⟨o1, o2, o4, o5, o6, o7, o8, o9, e⟩ := of_chk (lap50 o1 o2 o4 o5 o6 o7 o8 o9)
  rw [forL_go (.inl e)]
  clear e
  obtain ⟨o1, o2, o4, o5, o6, o7, o8, o9, e⟩ := of_chk (lap51 o1 o2 o4 o5 o6 o7 o8 o9)
  rw [forL_go (.inl e)]
  clear e
  obtain ⟨o1, o2, o4, o5, o6, o7, o8, o9, e⟩ := of_chk (lap52 o1 o2 o4 o5 o6 o7 o8 o9)
  rw [forL_go (.inl e)]
  clear e
  obtain ⟨o1, o2, o4, o5, o6, o7, o8, o9, e⟩ := of_chk (lap53 o1 o2 o4 o5 o6 o7 o8 o9)
  rw [forL_go (.inl e)]
  clear e
  obtain ⟨o1, o2, o4, o5, o6, o7, o8, o9, e⟩ := of_chk (lap54 o1 o2 o4 o5 o6 o7 o8 o9)
  rw [forL_go (.inl e)]
  clear e
  obtain ⟨o1, o2, o4, o5, o6, o7, o8, o9, e⟩ := of_chk (lap55 o1 o2 o4 o5 o6 o7 o8 o9)
  rw [forL_go (.inl e)]
  clear e
  obtain ⟨o1, o2, o4, o5, o6, o7, o8, o9, e⟩ := of_chk (lap56 o1 o2 o4 o5 o6 o7 o8 o9)
  rw [forL_go (.inl e)]
  clear e
  obtain ⟨o1, o2, o4, o5, o6, o7, o8, o9, e⟩ := of_chk (lap57 o1 o2 o4 o5 o6 o7 o8 o9)
  rw [forL_go (.inl e)]
  clear e
  obtain ⟨o1, o2, o4, o5, o6, o7, o8, o9, e⟩ := of_chk (lap58 o1 o2 o4 o5 o6 o7 o8 o9)
  rw [forL_go (.inl e)]
  clear e
  obtain ⟨o1, o2, o4, o5, o6, o7, o8, o9, e⟩ := of_chk (lap59 o1 o2 o4 o5 o6 o7 o8 o9)
  rw [forL_go (.inl e)]
  clear e
  obtain ⟨o1, o2, o4, o5, o6, o7, o8, o9, e⟩ := of_chk (lap60 o1 o2 o4 o5 o6 o7 o8 o9)
  rw [forL_go (.inl e)]
  clear e
  obtain ⟨o1, o2, o4, o5, o6, o7, o8, o9, e⟩ := of_chk (lap61 o1 o2 o4 o5 o6 o7 o8 o9)
  rw [forL_go (.inl e)]
  clear e
  obtain ⟨o1, o2, o4, o5, o6, o7, o8, o9, e⟩ := of_chk (lap62 o1 o2 o4 o5 o6 o7 o8 o9)
  rw [forL_go (.inl e)]
  clear e
  obtain ⟨o1, o2, o4, o5, o6, o7, o8, o9, e⟩ := of_chk (lap63 o1 o2 o4 o5 o6 o7 o8 o9)
  rw [forL_go (.inl e)]
  clear e
  obtain ⟨o1, o2, o4, o5, o6, o7, o8, o9, e⟩ := of_chk (lap64 o1 o2 o4 o5 o6 o7 o8 o9)
  rw [forL_go (.inl e)]
  clear e
  obtain ⟨o1, o2, o4, o5, o6, o7, o8, o9, e⟩ := of_chk (lap65 o1 o2 o4 o5 o6 o7 o8 o9)
  rw [forL_go (.inl e)]
  clear e
  obtain ⟨o1, o2, o4, o5, o6, o7, o8, o9, e⟩ := of_chk (lap66 o1 o2 o4 o5 o6 o7 o8 o9)
  rw [forL_go (.inl e)]
  clear e
  obtain ⟨o1, o2, o4, o5, o6, o7, o8, o9, e⟩ := of_chk (lap67 o1 o2 o4 o5 o6 o7 o8 o9)
  rw [forL_go (.inl e)]
  clear e
  obtain ⟨o1, o2, o4, o5, o6, o7, o8, o9, e⟩ := of_chk (lap68 o1 o2 o4 o5 o6 o7 o8 o9)
  rw [forL_go (.inl e)]
  clear e
  obtain ⟨o1, o2, o4, o5, o6, o7, o8, o9, e⟩ := of_chk (lap69 o1 o2 o4 o5 o6 o7 o8 o9)
  rw [forL_go (.inl e)]
  clear e
  obtain ⟨o1, o2, o4, o5, o6, o7, o8, o9, e⟩ := of_chk (lap70 o1 o2 o4 o5 o6 o7 o8 o9)
  rw [forL_go (.inl e)]
  clear e
  obtain ⟨o1, o2, o4, o5, o6, o7, o8, o9, e⟩ := of_chk (lap71 o1 o2 o4 o5 o6 o7 o8 o9)
  rw [forL_go (.inl e)]
  clear e
  obtain ⟨o1, o2, o4, o5, o6, o7, o8, o9, e⟩ := of_chk (lap72 o1 o2 o4 o5 o6 o7 o8 o9)
  rw [forL_go (.inl e)]
  clear e
  obtain ⟨o1, o2, o4, o5, o6, o7, o8, o9, e⟩ := of_chk (lap73 o1 o2 o4 o5 o6 o7 o8 o9)
  rw [forL_go (.inl e)]
  clear e
  obtain ⟨o1, o2, o4, o5, o6, o7, o8, o9, e⟩ := of_chk (lap74 o1 o2 o4 o5 o6 o7 o8 o9)
  rw [forL_go (.inl e)]
  clear e
  obtain ⟨o1, o2, o4, o5, o6, o7, o8, o9, e⟩ := of_chk (lap75 o1 o2 o4 o5 o6 o7 o8 o9)
  rw [forL_go (.inl e)]
  clear e
  exact ⟨o1, o2, o4, o5, o6, o7, o8, o9, rfl⟩
def chk5 : SR → Bool
  | .rt (.bl true) ⟨[_, _, _, _, _, _, _, _, _, _], []⟩ => true
  | _ => false
theorem of_chk5 {r : SR} (h : chk5 r = true) : ∃ p0 p1 p2 p3 p4 p5 p6 p7 p8 p9, r = .rt (.bl true) (s10 p0 p1 p2 p3 p4 p5 p6 p7 p8 p9) := by
  unfold chk5 at h
  split at h
  · exact ⟨_, _, _, _, _, _, _, _, _, _, rfl⟩
  · cases h
theorem end5 (o1 o2 o4 o5 o6 o7 o8 o9 : Option D) : chk5 (L5 (s10 (some (.int 3)) o1 o2 (some (rowsD 15 45 15 1)) o4 o5 o6 o7 o8 o9)) = true := by kernel_rfl
theorem zero3 (o1 o2 : Option D) : L3 (s10 (some (.int 3)) o1 o2 none none none none none none none) = .nx (s10 (some (.int 3)) o1 o2 (some (rowsD 0 0 0 0)) none none none none none none) := by kernel_rfl
theorem right3_ok : f__law_all_right [.int 3] [] = .ok (.bl true) [] [] := by
  obtain ⟨p1, p2, p4, p5, p6, p7, p8, p9, el⟩ := laps (some (.lst all3L)) (some (.tup all3L)) none none none none none none
  obtain ⟨q0, q1, q2, q3, q4, q5, q6, q7, q8, q9, e5⟩ := of_chk5 (end5 p1 p2 p4 p5 p6 p7 p8 p9)
  refine run_rt (st := s10 q0 q1 q2 q3 q4 q5 q6 q7 q8 q9) rfl ?_ rfl
  show m__law_all_right (s10 (some (.int 3)) none none none none none none none none none) = _
  have d := of_isMaps due3
  have td := of_isMapsT told3
  have s := of_isTru same3
  have c := of_isI count3
  have s2 := same_int 4 76 76
  rw [decide_eq_true rfl] at s2
  have hd : every3.map (mapD 3) = all3L := rfl
  rw [hd] at d td
  have e1 : L1 (s10 (some (.int 3)) none none none none none none none none none) = .nx (s10 (some (.int 3)) (some (.lst all3L)) (some (.tup all3L)) none none none none none none none) := by
    simp [L1, s10, d, td, permBy]
  have hl := len3
  have e2 : L2s (s10 (some (.int 3)) (some (.lst all3L)) (some (.tup all3L)) none none none none none none none) = .nx (s10 (some (.int 3)) (some (.lst all3L)) (some (.tup all3L)) none none none none none none none) := by
    have gt : gTuple [.lst all3L] = some (.tup all3L) := rfl
    have gl : gLen [.tup all3L] = some (.int 76) := by rw [gLen_tup, hl]; rfl
    generalize all3L = L at *
    simp [L2s, s10, gt, gl, s, s2, c, -gLen_tup]
  have hs : iSeq (eV 2) (s10 (some (.int 3)) (some (.lst all3L)) (some (.tup all3L)) (some (rowsD 0 0 0 0)) none none none none none none) = .ok all3L (s10 (some (.int 3)) (some (.lst all3L)) (some (.tup all3L)) (some (rowsD 0 0 0 0)) none none none none none none) := rfl
  rw [all_right_eq, sSeq_mk, e1, seq_nx, sSeq_mk, e2, seq_nx, sSeq_mk, zero3, seq_nx, sSeq_mk, sFor_mk, hs, stm_ok, el, seq_nx, e5]
theorem all_right_ok {b : Nat} (h1 : 1 ≤ b) (h3 : b ≤ 3) : f__law_all_right [.int b] [] = .ok (.bl true) [] [] := by
  have : b = 1 ∨ b = 2 ∨ b = 3 := by omega
  rcases this with rfl | rfl | rfl
  · exact of_isTru right1
  · exact of_isTru right2
  · exact right3_ok
end G76
set_option Elab.async false
set_option linter.all false
set_option maxRecDepth 100000
set_option maxHeartbeats 0
set_option exponentiation.threshold 2000
namespace G76
open PySem PySem.Spec L2
open Q hiding C
def tellE : MS → Res D := (eLc [1] (iRange1 (.val (eK (.int 4)))) (gNm 1) tYesM (eCall f__law_is_told [(.own 0), (.val (eOp gAdd [(.val (eK (.int 1))), (.val (eCall f__law_take [(.own 0), (.val (eK (.int 40)))]))]))]))
def R1 : MS → SR := sIf (tNot1 (eT (eCall f__law_all_right [(.val (eOp gAdd [(.val (eK (.int 1))), (.val (eCall f__law_take [(.own 0), (.val (eK (.int 3)))]))]))]))) (sRet (eK (.bl false))) sNil
theorem right_eq : m__law_right = sSeq R1 (sRet (eAnd (eOp gAll [(.val tellE)]) (eCall f__law_is_told [(.own 0), (.val (eK (.int 40)))]))) := rfl
def tellT : MS → Res D := (eCall f__law_is_told [(.own 0), (.val (eOp gAdd [(.val (eK (.int 1))), (.val (eCall f__law_take [(.own 0), (.val (eK (.int 40)))]))]))])
theorem tell_turn {k : Nat} {w : D} {x : Option D} (hw : Well k w) (hk : k < 2 ^ 50) : ∃ w', tellT ⟨[some w, x], []⟩ = .ok (.bl true) ⟨[some w', x], []⟩ ∧ Well (k + 10) w' := by
  obtain ⟨r, w1, et, r0, r1, hw1⟩ := take_ok (m := 40) hw (by omega) (by decide) (by decide)
  obtain ⟨n, rfl⟩ : ∃ n : Nat, r = n := ⟨r.toNat, by omega⟩
  obtain ⟨b, hb⟩ : ∃ b : Nat, b = 1 + n := ⟨_, rfl⟩
  have h1n : (1 : Int) + (n : Int) = (b : Int) := by omega
  obtain ⟨w2, e2, hw2⟩ := is_told_ok (b := b) (by omega) (by omega) hw1 (by omega)
  exact ⟨w2, by simp [tellT, et, h1n, e2], hw2.mono (by omega)⟩
theorem tell_ok {k : Nat} {w : D} (hw : Well k w) (hk : k < 2 ^ 49) : ∃ w', tellE ⟨[some w, none], []⟩ = .ok (.lst [.bl true, .bl true, .bl true, .bl true]) ⟨[some w', none], []⟩ ∧ Well (k + 40) w' := by
  have r4 : iRange1 (.val (eK (.int 4))) ⟨[some w, none], []⟩ = .ok [.int 0, .int 1, .int 2, .int 3] ⟨[some w, none], []⟩ := by
    have h : iRange1 (.val (eK (.int 4))) ⟨[some w, none], []⟩ = .ok (upTo 0 4) ⟨[some w, none], []⟩ := by simp
    exact h
  obtain ⟨w1, e1, hw1⟩ := tell_turn (x := some (.int 0)) hw (by omega)
  obtain ⟨w2, e2, hw2⟩ := tell_turn (x := some (.int 1)) hw1 (by omega)
  obtain ⟨w3, e3, hw3⟩ := tell_turn (x := some (.int 2)) hw2 (by omega)
  obtain ⟨w4, e4, hw4⟩ := tell_turn (x := some (.int 3)) hw3 (by omega)
  refine ⟨w4, ?_, hw4⟩
  have g : ∀ (i : Int) (w : D) (o : Option D), gNm 1 (.int i) (MS.wipe ⟨[some w, o], []⟩ [1]) = .ok () ⟨[some w, some (.int i)], []⟩ := fun _ _ _ => rfl
  have y : ∀ st, tYesM st = .ok true st := fun _ => rfl
  show eLc [1] (iRange1 (.val (eK (.int 4)))) (gNm 1) tYesM tellT _ = _
  unfold eLc
  rw [r4, bind_ok, if_pos (by simp [sizeLine])]
  rw [lcL_cons, g, safe_ok, bind_ok, y, safe_ok, bind_ok, if_pos rfl, e1, safe_ok, bind_ok]
  rw [lcL_cons, g, safe_ok, bind_ok, y, safe_ok, bind_ok, if_pos rfl, e2, safe_ok, bind_ok]
  rw [lcL_cons, g, safe_ok, bind_ok, y, safe_ok, bind_ok, if_pos rfl, e3, safe_ok, bind_ok]
  rw [lcL_cons, g, safe_ok, bind_ok, y, safe_ok, bind_ok, if_pos rfl, e4, safe_ok, bind_ok, lcL_nil]
  rfl
theorem right_ok {w : D} (hw : Well 0 w) : ∃ w', f__law_right [w] [] = .ok (.bl true) [w'] [] := by
  obtain ⟨r, w1, et, r0, r1, hw1⟩ := take_ok (m := 3) hw (by omega) (by decide) (by decide)
  obtain ⟨n, rfl⟩ : ∃ n : Nat, r = n := ⟨r.toNat, by omega⟩
  obtain ⟨b, hb⟩ : ∃ b : Nat, b = 1 + n := ⟨_, rfl⟩
  have h1n : (1 : Int) + (n : Int) = (b : Int) := by omega
  have ar := all_right_ok (b := b) (by omega) (by omega)
  obtain ⟨w2, e2, hw2⟩ := tell_ok hw1 (by omega)
  obtain ⟨w3, e3, hw3⟩ := is_told_ok (b := 40) (by omega) (by omega) hw2 (by omega)
  have e3' : f__law_is_told [w2, .int 40] [] = .ok (.bl true) [w3] [] := e3
  refine ⟨w3, ?_⟩
  refine run_rt (st := ⟨[some w3, none], []⟩) rfl ?_ rfl
  show m__law_right ⟨[some w, none], []⟩ = _
  have a1 : R1 ⟨[some w, none], []⟩ = .nx ⟨[some w1, none], []⟩ := by
    simp [R1, et, h1n, ar]
  have ga : gAll [.lst [.bl true, .bl true, .bl true, .bl true]] = some (.bl true) := rfl
  rw [right_eq, sSeq_mk, a1, seq_nx]
  simp [e2, ga, e3']
theorem law_ok (ns : List Int) (hl : ns.length ≤ 63) : f_law [.raw (ns.map .int)] [] = .ok (.bl true) [] [] := by
  refine run_rt (st := ⟨[some (.raw (ns.map .int)), none], []⟩) rfl ?_ rfl
  obtain ⟨N, hN, hN2⟩ : ∃ N : Nat, N ≤ 63 ∧ iRange1 (.val (eOp gMax2 [(.val (eK (.int 2))), (.val (eOp gMin2 [(.val (eOp gLen [(.val (eV 0))])), (.val (eK (.int 4)))]))])) ⟨[some (.raw (ns.map .int)), none], []⟩ = .ok ((List.range N).map fun k => D.int (0 + (k : Nat))) ⟨[some (.raw (ns.map .int)), none], []⟩ := by
    have hz : ∃ z : Int, 0 ≤ z ∧ z ≤ 63 ∧ (if (if (4 : Int) < (ns.length : Int) then 4 else (ns.length : Int)) > 2 then (if (4 : Int) < (ns.length : Int) then 4 else (ns.length : Int)) else 2) = z := ⟨_, by split <;> split <;> omega, by split <;> split <;> omega, rfl⟩
    obtain ⟨z, z0, z1, ez⟩ := hz
    refine ⟨z.toNat, by omega, ?_⟩
    have h1 : -4611686018427387904 ≤ z := by omega
    have h2 : z < 4611686018427387904 := by omega
    rw [← upTo_map]
    simp only [iRange1_mk, opN_val, opN_nil, eOp_mk, eK_mk, eV_mk, bind_ok, List.getElem?_cons_zero, Option.bind_some, id, ofO_some, gLen_raw, gMin2_int, gMax2_int, List.length_map, ez]
    rw [if_pos ⟨by omega, by omega⟩]
  have e := eLc_map (st := ⟨[some (.raw (ns.map .int)), none], []⟩) (vs := [1]) (g := gNm 1) (te := (eCall f__law_right [(.tmp (eCall f__law_well [(.val (eV 0)), (.val (eV 1))]))]))
    (List.range N) (fun k => D.int (0 + (k : Nat))) (fun k => ⟨[some (.raw (ns.map .int)), some (.int (0 + (k : Nat)))], []⟩) (fun _ => .bl true) hN2 (by rw [List.length_range]; omega) (fun k hk => ⟨rfl, by
      have hk := List.mem_range.mp hk
      obtain ⟨w, ew, hw⟩ := well_ok ns (0 + (k : Int)) hl (by omega) (by omega)
      obtain ⟨w', er⟩ := right_ok hw
      cases hw with
      | mk a b c ha hb hb2 hc hck =>
        simp only [eCall_mk, opC_tmp, opC_val, opC_nil, eV_mk, bind_ok, List.getElem?_cons_zero, List.getElem?_cons_succ, Option.bind_some, id, ofO_some, ew, res_ok, setOuts_val, setOuts_nil, isoK_lst, er, setOuts_tmp], rfl⟩)
  show m_law ⟨[some (.raw (ns.map .int)), none], []⟩ = _
  have s := gAll_map (fun _ : Nat => true) (List.range N)
  have s2 : ((List.range N).all fun _ => true) = true := by simp
  rw [s2] at s
  rw [m_law, sRet_mk, eOp_mk, opN_val, e, bind_ok, opN_nil, bind_ok, bind_ok, s, ofO_some, stm_ok]
end G76
set_option Elab.async false
set_option linter.all false
set_option maxRecDepth 100000
set_option maxHeartbeats 0
namespace JG76
open PySem PySem.Spec PyProof.Rows L2
abbrev top := @G76.top
def d_is_whole : He.DefD := ⟨("is_whole", none), "is_whole", "is_whole", defArgs (top 7), defBody (top 7), defScope (top 7), [], []⟩
def d_is_between : He.DefD := ⟨("is_between", none), "is_between", "is_between", defArgs (top 8), defBody (top 8), defScope (top 8), [], []⟩
def d_is_up_to : He.DefD := ⟨("is_up_to", none), "is_up_to", "is_up_to", defArgs (top 9), defBody (top 9), defScope (top 9), [], []⟩
def d_is_named : He.DefD := ⟨("is_named", none), "is_named", "is_named", defArgs (top 10), defBody (top 10), defScope (top 10), [], []⟩
def d_is_tuple_up_to : He.DefD := ⟨("is_tuple_up_to", none), "is_tuple_up_to", "is_tuple_up_to", defArgs (top 11), defBody (top 11), defScope (top 11), [], []⟩
def d_is_tuple_of : He.DefD := ⟨("is_tuple_of", none), "is_tuple_of", "is_tuple_of", defArgs (top 12), defBody (top 12), defScope (top 12), [], []⟩
def d_is_pair : He.DefD := ⟨("is_pair", none), "is_pair", "is_pair", defArgs (top 13), defBody (top 13), defScope (top 13), [], []⟩
def d_are_rising : He.DefD := ⟨("are_rising", none), "are_rising", "are_rising", defArgs (top 14), defBody (top 14), defScope (top 14), [], []⟩
def d_are_unlike : He.DefD := ⟨("are_unlike", none), "are_unlike", "are_unlike", defArgs (top 15), defBody (top 15), defScope (top 15), [], []⟩
def d_is_end_of : He.DefD := ⟨("is_end_of", none), "is_end_of", "is_end_of", defArgs (top 18), defBody (top 18), defScope (top 18), [], []⟩
def d_is_joint_of : He.DefD := ⟨("is_joint_of", none), "is_joint_of", "is_joint_of", defArgs (top 19), defBody (top 19), defScope (top 19), [], []⟩
def d_ends_in : He.DefD := ⟨("ends_in", none), "ends_in", "ends_in", defArgs (top 20), defBody (top 20), defScope (top 20), [], []⟩
def d_are_joints_of : He.DefD := ⟨("are_joints_of", none), "are_joints_of", "are_joints_of", defArgs (top 21), defBody (top 21), defScope (top 21), [], []⟩
def d_is_any_map : He.DefD := ⟨("is_any_map", none), "is_any_map", "is_any_map", defArgs (top 22), defBody (top 22), defScope (top 22), [], []⟩
def d_check_blocks : He.DefD := ⟨("check_blocks", none), "check_blocks", "check_blocks", defArgs (top 23), defBody (top 23), defScope (top 23), [], []⟩
def d_check_chart : He.DefD := ⟨("check_chart", none), "check_chart", "check_chart", defArgs (top 24), defBody (top 24), defScope (top 24), [], []⟩
def d_factorial : He.DefD := ⟨("factorial", none), "factorial", "factorial", defArgs (top 26), defBody (top 26), defScope (top 26), [], []⟩
def d_choices : He.DefD := ⟨("choices", none), "choices", "choices", defArgs (top 27), defBody (top 27), defScope (top 27), [], []⟩
def d_pairings : He.DefD := ⟨("pairings", none), "pairings", "pairings", defArgs (top 28), defBody (top 28), defScope (top 28), [], []⟩
def d_blocks_of : He.DefD := ⟨("blocks_of", none), "blocks_of", "blocks_of", defArgs (top 30), defBody (top 30), defScope (top 30), [], []⟩
def d_joints_of : He.DefD := ⟨("joints_of", none), "joints_of", "joints_of", defArgs (top 31), defBody (top 31), defScope (top 31), [], []⟩
def d_mate_of : He.DefD := ⟨("mate_of", none), "mate_of", "mate_of", defArgs (top 32), defBody (top 32), defScope (top 32), [], []⟩
def d_joint_of : He.DefD := ⟨("joint_of", none), "joint_of", "joint_of", defArgs (top 33), defBody (top 33), defScope (top 33), [], []⟩
def d_made_map : He.DefD := ⟨("made_map", none), "made_map", "made_map", defArgs (top 34), defBody (top 34), defScope (top 34), [], []⟩
def d_partners_of : He.DefD := ⟨("partners_of", none), "partners_of", "partners_of", defArgs (top 35), defBody (top 35), defScope (top 35), [], []⟩
def d_free_by : He.DefD := ⟨("free_by", none), "free_by", "free_by", defArgs (top 36), defBody (top 36), defScope (top 36), [], []⟩
def d_map_count_of : He.DefD := ⟨("map_count_of", none), "map_count_of", "map_count_of", defArgs (top 38), defBody (top 38), defScope (top 38), [], []⟩
def d_map_count_in_all : He.DefD := ⟨("map_count_in_all", none), "map_count_in_all", "map_count_in_all", defArgs (top 39), defBody (top 39), defScope (top 39), [], []⟩
def d_free_behind : He.DefD := ⟨("free_behind", none), "free_behind", "free_behind", defArgs (top 40), defBody (top 40), defScope (top 40), [], []⟩
def d_grown_at : He.DefD := ⟨("grown_at", none), "grown_at", "grown_at", defArgs (top 41), defBody (top 41), defScope (top 41), [], []⟩
def d_all_maps_by : He.DefD := ⟨("all_maps_by", none), "all_maps_by", "all_maps_by", defArgs (top 42), defBody (top 42), defScope (top 42), [], []⟩
def d_map_count : He.DefD := ⟨("map_count", none), "map_count", "map_count", defArgs (top 45), defBody (top 45), defScope (top 45), [], []⟩
def d_map_count_by : He.DefD := ⟨("map_count_by", none), "map_count_by", "map_count_by", defArgs (top 46), defBody (top 46), defScope (top 46), [], []⟩
def d_all_maps : He.DefD := ⟨("all_maps", none), "all_maps", "all_maps", defArgs (top 47), defBody (top 47), defScope (top 47), [], []⟩
def d_is_map : He.DefD := ⟨("is_map", none), "is_map", "is_map", defArgs (top 49), defBody (top 49), defScope (top 49), [], []⟩
def d_walk_from : He.DefD := ⟨("walk_from", none), "walk_from", "walk_from", defArgs (top 53), defBody (top 53), defScope (top 53), [], []⟩
def d_turned_round : He.DefD := ⟨("turned_round", none), "turned_round", "turned_round", defArgs (top 54), defBody (top 54), defScope (top 54), [], []⟩
def d_row_reading : He.DefD := ⟨("row_reading", none), "row_reading", "row_reading", defArgs (top 55), defBody (top 55), defScope (top 55), [], []⟩
def d_turns_of : He.DefD := ⟨("turns_of", none), "turns_of", "turns_of", defArgs (top 56), defBody (top 56), defScope (top 56), [], []⟩
def d_ring_reading : He.DefD := ⟨("ring_reading", none), "ring_reading", "ring_reading", defArgs (top 57), defBody (top 57), defScope (top 57), [], []⟩
def d_rows_by : He.DefD := ⟨("rows_by", none), "rows_by", "rows_by", defArgs (top 58), defBody (top 58), defScope (top 58), [], []⟩
def d_rings_by : He.DefD := ⟨("rings_by", none), "rings_by", "rings_by", defArgs (top 59), defBody (top 59), defScope (top 59), [], []⟩
def d_pieces_by : He.DefD := ⟨("pieces_by", none), "pieces_by", "pieces_by", defArgs (top 60), defBody (top 60), defScope (top 60), [], []⟩
def d_joints_of_steps : He.DefD := ⟨("joints_of_steps", none), "joints_of_steps", "joints_of_steps", defArgs (top 61), defBody (top 61), defScope (top 61), [], []⟩
def d_map_by : He.DefD := ⟨("map_by", none), "map_by", "map_by", defArgs (top 62), defBody (top 62), defScope (top 62), [], []⟩
def d_is_piece_in : He.DefD := ⟨("is_piece_in", none), "is_piece_in", "is_piece_in", defArgs (top 64), defBody (top 64), defScope (top 64), [], []⟩
def d_enters_anew : He.DefD := ⟨("enters_anew", none), "enters_anew", "enters_anew", defArgs (top 65), defBody (top 65), defScope (top 65), [], []⟩
def d_wrong_in_pieces : He.DefD := ⟨("wrong_in_pieces", none), "wrong_in_pieces", "wrong_in_pieces", defArgs (top 66), defBody (top 66), defScope (top 66), [], []⟩
def d_pieces : He.DefD := ⟨("pieces", none), "pieces", "pieces", defArgs (top 67), defBody (top 67), defScope (top 67), [], []⟩
def d_map_of : He.DefD := ⟨("map_of", none), "map_of", "map_of", defArgs (top 68), defBody (top 68), defScope (top 68), [], []⟩
def d__law_well : He.DefD := ⟨("_law_well", none), "_law_well", "_law_well", defArgs (top 70), defBody (top 70), defScope (top 70), [], []⟩
def d__law_take : He.DefD := ⟨("_law_take", none), "_law_take", "_law_take", defArgs (top 71), defBody (top 71), defScope (top 71), [], []⟩
def d__law_same : He.DefD := ⟨("_law_same", none), "_law_same", "_law_same", defArgs (top 72), defBody (top 72), defScope (top 72), [], []⟩
def d__law_mate : He.DefD := ⟨("_law_mate", none), "_law_mate", "_law_mate", defArgs (top 73), defBody (top 73), defScope (top 73), [], []⟩
def d__law_partners : He.DefD := ⟨("_law_partners", none), "_law_partners", "_law_partners", defArgs (top 74), defBody (top 74), defScope (top 74), [], []⟩
def d__law_reading : He.DefD := ⟨("_law_reading", none), "_law_reading", "_law_reading", defArgs (top 75), defBody (top 75), defScope (top 75), [], []⟩
def d__law_pieces : He.DefD := ⟨("_law_pieces", none), "_law_pieces", "_law_pieces", defArgs (top 76), defBody (top 76), defScope (top 76), [], []⟩
def d__law_choose : He.DefD := ⟨("_law_choose", none), "_law_choose", "_law_choose", defArgs (top 77), defBody (top 77), defScope (top 77), [], []⟩
def d__law_pairings : He.DefD := ⟨("_law_pairings", none), "_law_pairings", "_law_pairings", defArgs (top 78), defBody (top 78), defScope (top 78), [], []⟩
def d__law_all_maps : He.DefD := ⟨("_law_all_maps", none), "_law_all_maps", "_law_all_maps", defArgs (top 79), defBody (top 79), defScope (top 79), [], []⟩
def d__law_by_rows : He.DefD := ⟨("_law_by_rows", none), "_law_by_rows", "_law_by_rows", defArgs (top 80), defBody (top 80), defScope (top 80), [], []⟩
def d__law_count : He.DefD := ⟨("_law_count", none), "_law_count", "_law_count", defArgs (top 81), defBody (top 81), defScope (top 81), [], []⟩
def d__law_is_told : He.DefD := ⟨("_law_is_told", none), "_law_is_told", "_law_is_told", defArgs (top 82), defBody (top 82), defScope (top 82), [], []⟩
def d__law_all_right : He.DefD := ⟨("_law_all_right", none), "_law_all_right", "_law_all_right", defArgs (top 83), defBody (top 83), defScope (top 83), [], []⟩
def d__law_right : He.DefD := ⟨("_law_right", none), "_law_right", "_law_right", defArgs (top 84), defBody (top 84), defScope (top 84), [], []⟩
def d_law : He.DefD := ⟨("law", none), "law", "law", defArgs (top 85), defBody (top 85), defScope (top 85), [], []⟩
def fn0 : List He.DefD := [d_is_whole, d_is_between, d_is_up_to, d_is_named, d_is_tuple_up_to, d_is_tuple_of, d_is_pair, d_are_rising, d_are_unlike, d_is_end_of, d_is_joint_of, d_ends_in, d_are_joints_of, d_is_any_map, d_check_blocks, d_check_chart, d_factorial, d_choices, d_pairings, d_blocks_of]
def fn1 : List He.DefD := [d_joints_of, d_mate_of, d_joint_of, d_made_map, d_partners_of, d_free_by, d_map_count_of, d_map_count_in_all, d_free_behind, d_grown_at, d_all_maps_by, d_map_count, d_map_count_by, d_all_maps, d_is_map, d_walk_from, d_turned_round, d_row_reading, d_turns_of, d_ring_reading]
def fn2 : List He.DefD := [d_rows_by, d_rings_by, d_pieces_by, d_joints_of_steps, d_map_by, d_is_piece_in, d_enters_anew, d_wrong_in_pieces, d_pieces, d_map_of, d__law_well, d__law_take, d__law_same, d__law_mate, d__law_partners, d__law_reading, d__law_pieces, d__law_choose, d__law_pairings, d__law_all_maps]
def fn3 : List He.DefD := [d__law_by_rows, d__law_count, d__law_is_told, d__law_all_right, d__law_right, d_law]
def fn : List He.DefD := fn0 ++ fn1 ++ fn2 ++ fn3
def fa0 : List He.Fa := [.glo "is_whole", .glo "is_between", .glo "is_up_to", .glo "is_named", .glo "is_tuple_up_to", .glo "is_tuple_of", .glo "is_pair", .glo "are_rising", .glo "are_unlike", .glo "is_end_of", .glo "is_joint_of", .glo "ends_in", .glo "are_joints_of", .glo "is_any_map", .glo "check_blocks", .glo "check_chart", .glo "factorial", .glo "choices", .glo "pairings", .glo "blocks_of"]
def fa1 : List He.Fa := [.glo "joints_of", .glo "mate_of", .glo "joint_of", .glo "made_map", .glo "partners_of", .glo "free_by", .glo "map_count_of", .glo "map_count_in_all", .glo "free_behind", .glo "grown_at", .glo "all_maps_by", .glo "map_count", .glo "map_count_by", .glo "all_maps", .glo "is_map", .glo "walk_from", .glo "turned_round", .glo "row_reading", .glo "turns_of", .glo "ring_reading"]
def fa2 : List He.Fa := [.glo "rows_by", .glo "rings_by", .glo "pieces_by", .glo "joints_of_steps", .glo "map_by", .glo "is_piece_in", .glo "enters_anew", .glo "wrong_in_pieces", .glo "pieces", .glo "map_of", .glo "_law_well", .glo "_law_take", .glo "_law_same", .glo "_law_mate", .glo "_law_partners", .glo "_law_reading", .glo "_law_pieces", .glo "_law_choose", .glo "_law_pairings", .glo "_law_all_maps"]
def fa3 : List He.Fa := [.glo "_law_by_rows", .glo "_law_count", .glo "_law_is_told", .glo "_law_all_right", .glo "_law_right", .glo "law", .free "abs", .free "all", .free "any", .free "bool", .free "dict", .free "divmod", .free "enumerate", .free "int", .free "isinstance", .free "len", .free "list", .free "max", .free "min", .free "range"]
def fa4 : List He.Fa := [.free "reversed", .free "sorted", .free "str", .free "sum", .free "tuple", .free "zip", .int "MOST_BLOCKS" 40, .int "MOST_LISTED" 3, .str "ROW" "row", .str "RING" "ring"]
def fa : List He.Fa := fa0 ++ fa1 ++ fa2 ++ fa3 ++ fa4
def loose0 : List PySem.Str := ["JointError", "InvalidNumber", "InvalidMap", "InvalidPieces", "TooMany", "is_whole", "is_between", "is_up_to", "is_named", "is_tuple_up_to", "is_tuple_of", "is_pair", "are_rising", "are_unlike", "MOST_BLOCKS", "is_end_of", "is_joint_of", "ends_in", "are_joints_of", "is_any_map"]
def loose1 : List PySem.Str := ["check_blocks", "check_chart", "factorial", "choices", "pairings", "blocks_of", "joints_of", "mate_of", "joint_of", "made_map", "partners_of", "free_by", "map_count_of", "map_count_in_all", "free_behind", "grown_at", "all_maps_by", "MOST_LISTED", "map_count", "map_count_by"]
def loose2 : List PySem.Str := ["all_maps", "is_map", "ROW", "RING", "walk_from", "turned_round", "row_reading", "turns_of", "ring_reading", "rows_by", "rings_by", "pieces_by", "joints_of_steps", "map_by", "is_piece_in", "enters_anew", "wrong_in_pieces", "pieces", "map_of", "_law_well"]
def loose3 : List PySem.Str := ["_law_take", "_law_same", "_law_mate", "_law_partners", "_law_reading", "_law_pieces", "_law_choose", "_law_pairings", "_law_all_maps", "_law_by_rows", "_law_count", "_law_is_told", "_law_all_right", "_law_right"]
def loose : List PySem.Str := loose0 ++ loose1 ++ loose2 ++ loose3
abbrev R : PySem.W.OpenRow := PySem.W.OpenLaw.row PySem.Challenge.rw_jointmaps_k76_whole_map_counts
abbrev hk : PySem.W.Hook := He.hookD 4 fa fn
def ob (s : PySem.W.SharedT) : He.AlD := He.obsDG 4 fa fn (HandSHeadRun.getT s)
theorem ob_eq (s : PySem.W.SharedT) : ob s = hk.obs s.abs := He.obsDG_eq (HandSHeadRun.getT_eq s)
theorem run (w : World) : HandSHeadRun.RunEq R (PySem.W.view R.prog [85]) hk ob 6000 loose w := by
  intro os
  kernel_rfl
theorem top_of {K : PySem.W.Frag} {P : Program} {w : World} {h : Heap} {mg : PySem.Str → Option Value} (X : K.In h) (G : h.Ns mainGlobals mg) (c : He.SaysD fa fn K) : G76.Top ⟨K, P, w⟩ mg where
  d_is_whole := c.def_ 0 (d := d_is_whole) rfl
  g_is_whole := He.glo_ok X G (c.fact 0 (f := .glo "is_whole") rfl)
  d_is_between := c.def_ 1 (d := d_is_between) rfl
  g_is_between := He.glo_ok X G (c.fact 1 (f := .glo "is_between") rfl)
  d_is_up_to := c.def_ 2 (d := d_is_up_to) rfl
  g_is_up_to := He.glo_ok X G (c.fact 2 (f := .glo "is_up_to") rfl)
  d_is_named := c.def_ 3 (d := d_is_named) rfl
  g_is_named := He.glo_ok X G (c.fact 3 (f := .glo "is_named") rfl)
  d_is_tuple_up_to := c.def_ 4 (d := d_is_tuple_up_to) rfl
  g_is_tuple_up_to := He.glo_ok X G (c.fact 4 (f := .glo "is_tuple_up_to") rfl)
  d_is_tuple_of := c.def_ 5 (d := d_is_tuple_of) rfl
  g_is_tuple_of := He.glo_ok X G (c.fact 5 (f := .glo "is_tuple_of") rfl)
  d_is_pair := c.def_ 6 (d := d_is_pair) rfl
  g_is_pair := He.glo_ok X G (c.fact 6 (f := .glo "is_pair") rfl)
  d_are_rising := c.def_ 7 (d := d_are_rising) rfl
  g_are_rising := He.glo_ok X G (c.fact 7 (f := .glo "are_rising") rfl)
  d_are_unlike := c.def_ 8 (d := d_are_unlike) rfl
  g_are_unlike := He.glo_ok X G (c.fact 8 (f := .glo "are_unlike") rfl)
  d_is_end_of := c.def_ 9 (d := d_is_end_of) rfl
  g_is_end_of := He.glo_ok X G (c.fact 9 (f := .glo "is_end_of") rfl)
  d_is_joint_of := c.def_ 10 (d := d_is_joint_of) rfl
  g_is_joint_of := He.glo_ok X G (c.fact 10 (f := .glo "is_joint_of") rfl)
  d_ends_in := c.def_ 11 (d := d_ends_in) rfl
  g_ends_in := He.glo_ok X G (c.fact 11 (f := .glo "ends_in") rfl)
  d_are_joints_of := c.def_ 12 (d := d_are_joints_of) rfl
  g_are_joints_of := He.glo_ok X G (c.fact 12 (f := .glo "are_joints_of") rfl)
  d_is_any_map := c.def_ 13 (d := d_is_any_map) rfl
  g_is_any_map := He.glo_ok X G (c.fact 13 (f := .glo "is_any_map") rfl)
  d_check_blocks := c.def_ 14 (d := d_check_blocks) rfl
  g_check_blocks := He.glo_ok X G (c.fact 14 (f := .glo "check_blocks") rfl)
  d_check_chart := c.def_ 15 (d := d_check_chart) rfl
  g_check_chart := He.glo_ok X G (c.fact 15 (f := .glo "check_chart") rfl)
  d_factorial := c.def_ 16 (d := d_factorial) rfl
  g_factorial := He.glo_ok X G (c.fact 16 (f := .glo "factorial") rfl)
  d_choices := c.def_ 17 (d := d_choices) rfl
  g_choices := He.glo_ok X G (c.fact 17 (f := .glo "choices") rfl)
  d_pairings := c.def_ 18 (d := d_pairings) rfl
  g_pairings := He.glo_ok X G (c.fact 18 (f := .glo "pairings") rfl)
  d_blocks_of := c.def_ 19 (d := d_blocks_of) rfl
  g_blocks_of := He.glo_ok X G (c.fact 19 (f := .glo "blocks_of") rfl)
  d_joints_of := c.def_ 20 (d := d_joints_of) rfl
  g_joints_of := He.glo_ok X G (c.fact 20 (f := .glo "joints_of") rfl)
  d_mate_of := c.def_ 21 (d := d_mate_of) rfl
  g_mate_of := He.glo_ok X G (c.fact 21 (f := .glo "mate_of") rfl)
  d_joint_of := c.def_ 22 (d := d_joint_of) rfl
  g_joint_of := He.glo_ok X G (c.fact 22 (f := .glo "joint_of") rfl)
  d_made_map := c.def_ 23 (d := d_made_map) rfl
  g_made_map := He.glo_ok X G (c.fact 23 (f := .glo "made_map") rfl)
  d_partners_of := c.def_ 24 (d := d_partners_of) rfl
  g_partners_of := He.glo_ok X G (c.fact 24 (f := .glo "partners_of") rfl)
  d_free_by := c.def_ 25 (d := d_free_by) rfl
  g_free_by := He.glo_ok X G (c.fact 25 (f := .glo "free_by") rfl)
  d_map_count_of := c.def_ 26 (d := d_map_count_of) rfl
  g_map_count_of := He.glo_ok X G (c.fact 26 (f := .glo "map_count_of") rfl)
  d_map_count_in_all := c.def_ 27 (d := d_map_count_in_all) rfl
  g_map_count_in_all := He.glo_ok X G (c.fact 27 (f := .glo "map_count_in_all") rfl)
  d_free_behind := c.def_ 28 (d := d_free_behind) rfl
  g_free_behind := He.glo_ok X G (c.fact 28 (f := .glo "free_behind") rfl)
  d_grown_at := c.def_ 29 (d := d_grown_at) rfl
  g_grown_at := He.glo_ok X G (c.fact 29 (f := .glo "grown_at") rfl)
  d_all_maps_by := c.def_ 30 (d := d_all_maps_by) rfl
  g_all_maps_by := He.glo_ok X G (c.fact 30 (f := .glo "all_maps_by") rfl)
  d_map_count := c.def_ 31 (d := d_map_count) rfl
  g_map_count := He.glo_ok X G (c.fact 31 (f := .glo "map_count") rfl)
  d_map_count_by := c.def_ 32 (d := d_map_count_by) rfl
  g_map_count_by := He.glo_ok X G (c.fact 32 (f := .glo "map_count_by") rfl)
  d_all_maps := c.def_ 33 (d := d_all_maps) rfl
  g_all_maps := He.glo_ok X G (c.fact 33 (f := .glo "all_maps") rfl)
  d_is_map := c.def_ 34 (d := d_is_map) rfl
  g_is_map := He.glo_ok X G (c.fact 34 (f := .glo "is_map") rfl)
  d_walk_from := c.def_ 35 (d := d_walk_from) rfl
  g_walk_from := He.glo_ok X G (c.fact 35 (f := .glo "walk_from") rfl)
  d_turned_round := c.def_ 36 (d := d_turned_round) rfl
  g_turned_round := He.glo_ok X G (c.fact 36 (f := .glo "turned_round") rfl)
  d_row_reading := c.def_ 37 (d := d_row_reading) rfl
  g_row_reading := He.glo_ok X G (c.fact 37 (f := .glo "row_reading") rfl)
  d_turns_of := c.def_ 38 (d := d_turns_of) rfl
  g_turns_of := He.glo_ok X G (c.fact 38 (f := .glo "turns_of") rfl)
  d_ring_reading := c.def_ 39 (d := d_ring_reading) rfl
  g_ring_reading := He.glo_ok X G (c.fact 39 (f := .glo "ring_reading") rfl)
  d_rows_by := c.def_ 40 (d := d_rows_by) rfl
  g_rows_by := He.glo_ok X G (c.fact 40 (f := .glo "rows_by") rfl)
  d_rings_by := c.def_ 41 (d := d_rings_by) rfl
  g_rings_by := He.glo_ok X G (c.fact 41 (f := .glo "rings_by") rfl)
  d_pieces_by := c.def_ 42 (d := d_pieces_by) rfl
  g_pieces_by := He.glo_ok X G (c.fact 42 (f := .glo "pieces_by") rfl)
  d_joints_of_steps := c.def_ 43 (d := d_joints_of_steps) rfl
  g_joints_of_steps := He.glo_ok X G (c.fact 43 (f := .glo "joints_of_steps") rfl)
  d_map_by := c.def_ 44 (d := d_map_by) rfl
  g_map_by := He.glo_ok X G (c.fact 44 (f := .glo "map_by") rfl)
  d_is_piece_in := c.def_ 45 (d := d_is_piece_in) rfl
  g_is_piece_in := He.glo_ok X G (c.fact 45 (f := .glo "is_piece_in") rfl)
  d_enters_anew := c.def_ 46 (d := d_enters_anew) rfl
  g_enters_anew := He.glo_ok X G (c.fact 46 (f := .glo "enters_anew") rfl)
  d_wrong_in_pieces := c.def_ 47 (d := d_wrong_in_pieces) rfl
  g_wrong_in_pieces := He.glo_ok X G (c.fact 47 (f := .glo "wrong_in_pieces") rfl)
  d_pieces := c.def_ 48 (d := d_pieces) rfl
  g_pieces := He.glo_ok X G (c.fact 48 (f := .glo "pieces") rfl)
  d_map_of := c.def_ 49 (d := d_map_of) rfl
  g_map_of := He.glo_ok X G (c.fact 49 (f := .glo "map_of") rfl)
  d__law_well := c.def_ 50 (d := d__law_well) rfl
  g__law_well := He.glo_ok X G (c.fact 50 (f := .glo "_law_well") rfl)
  d__law_take := c.def_ 51 (d := d__law_take) rfl
  g__law_take := He.glo_ok X G (c.fact 51 (f := .glo "_law_take") rfl)
  d__law_same := c.def_ 52 (d := d__law_same) rfl
  g__law_same := He.glo_ok X G (c.fact 52 (f := .glo "_law_same") rfl)
  d__law_mate := c.def_ 53 (d := d__law_mate) rfl
  g__law_mate := He.glo_ok X G (c.fact 53 (f := .glo "_law_mate") rfl)
  d__law_partners := c.def_ 54 (d := d__law_partners) rfl
  g__law_partners := He.glo_ok X G (c.fact 54 (f := .glo "_law_partners") rfl)
  d__law_reading := c.def_ 55 (d := d__law_reading) rfl
  g__law_reading := He.glo_ok X G (c.fact 55 (f := .glo "_law_reading") rfl)
  d__law_pieces := c.def_ 56 (d := d__law_pieces) rfl
  g__law_pieces := He.glo_ok X G (c.fact 56 (f := .glo "_law_pieces") rfl)
  d__law_choose := c.def_ 57 (d := d__law_choose) rfl
  g__law_choose := He.glo_ok X G (c.fact 57 (f := .glo "_law_choose") rfl)
  d__law_pairings := c.def_ 58 (d := d__law_pairings) rfl
  g__law_pairings := He.glo_ok X G (c.fact 58 (f := .glo "_law_pairings") rfl)
  d__law_all_maps := c.def_ 59 (d := d__law_all_maps) rfl
  g__law_all_maps := He.glo_ok X G (c.fact 59 (f := .glo "_law_all_maps") rfl)
  d__law_by_rows := c.def_ 60 (d := d__law_by_rows) rfl
  g__law_by_rows := He.glo_ok X G (c.fact 60 (f := .glo "_law_by_rows") rfl)
  d__law_count := c.def_ 61 (d := d__law_count) rfl
  g__law_count := He.glo_ok X G (c.fact 61 (f := .glo "_law_count") rfl)
  d__law_is_told := c.def_ 62 (d := d__law_is_told) rfl
  g__law_is_told := He.glo_ok X G (c.fact 62 (f := .glo "_law_is_told") rfl)
  d__law_all_right := c.def_ 63 (d := d__law_all_right) rfl
  g__law_all_right := He.glo_ok X G (c.fact 63 (f := .glo "_law_all_right") rfl)
  d__law_right := c.def_ 64 (d := d__law_right) rfl
  g__law_right := He.glo_ok X G (c.fact 64 (f := .glo "_law_right") rfl)
  d_law := c.def_ 65 (d := d_law) rfl
  g_law := He.glo_ok X G (c.fact 65 (f := .glo "law") rfl)
  b_abs := He.free_ok X G (c.fact 66 (f := .free "abs") rfl)
  b_all := He.free_ok X G (c.fact 67 (f := .free "all") rfl)
  b_any := He.free_ok X G (c.fact 68 (f := .free "any") rfl)
  b_bool := He.free_ok X G (c.fact 69 (f := .free "bool") rfl)
  b_dict := He.free_ok X G (c.fact 70 (f := .free "dict") rfl)
  b_divmod := He.free_ok X G (c.fact 71 (f := .free "divmod") rfl)
  b_enumerate := He.free_ok X G (c.fact 72 (f := .free "enumerate") rfl)
  b_int := He.free_ok X G (c.fact 73 (f := .free "int") rfl)
  b_isinstance := He.free_ok X G (c.fact 74 (f := .free "isinstance") rfl)
  b_len := He.free_ok X G (c.fact 75 (f := .free "len") rfl)
  b_list := He.free_ok X G (c.fact 76 (f := .free "list") rfl)
  b_max := He.free_ok X G (c.fact 77 (f := .free "max") rfl)
  b_min := He.free_ok X G (c.fact 78 (f := .free "min") rfl)
  b_range := He.free_ok X G (c.fact 79 (f := .free "range") rfl)
  b_reversed := He.free_ok X G (c.fact 80 (f := .free "reversed") rfl)
  b_sorted := He.free_ok X G (c.fact 81 (f := .free "sorted") rfl)
  b_str := He.free_ok X G (c.fact 82 (f := .free "str") rfl)
  b_sum := He.free_ok X G (c.fact 83 (f := .free "sum") rfl)
  b_tuple := He.free_ok X G (c.fact 84 (f := .free "tuple") rfl)
  b_zip := He.free_ok X G (c.fact 85 (f := .free "zip") rfl)
  c_MOST_BLOCKS := He.int_ok X G (c.fact 86 (f := .int "MOST_BLOCKS" 40) rfl)
  c_MOST_LISTED := He.int_ok X G (c.fact 87 (f := .int "MOST_LISTED" 3) rfl)
  c_ROW := He.str_ok X G (c.fact 88 (f := .str "ROW" "row") rfl)
  c_RING := He.str_ok X G (c.fact 89 (f := .str "RING" "ring") rfl)
theorem fun_inj {K : PySem.W.Frag} {x qual : PySem.Str} {st : Stmt} {f : Addr} {fd fd' : FuncData} (a : L2.Fun K x qual st f fd) (b : L2.Fun K x qual st f fd') : fd = fd' := by
  obtain ⟨_, _, _, _, _, _, _, _, _, _, e1, _⟩ := a.ex
  obtain ⟨_, _, _, _, _, _, _, _, _, _, e2, _⟩ := b.ex
  rw [e1] at e2
  cases e2
  rfl
theorem facts {P : Program} {w : World} {K : PySem.W.Frag} {h : Heap} {mg : PySem.Str → Option Value} {f : Addr} (X : K.In h) (G : h.Ns mainGlobals mg) (hfa : mg ("law" : PySem.Str) = some (.ref f)) (c : He.SaysD fa fn K) :
    ∃ fd : FuncData, (∀ (s : Shared) (v : Value), BindsTo s fd ⟨[v], []⟩ [("script", v)]) ∧ ∀ base : Heap, K.In base → base.Ns mainGlobals mg → FnOk P w K mg base CX0 12 f fd ["script"] (Q.spF ⟨K, P, w⟩ (fun _ => none) [false] false G76.f_law) := by
  have T : G76.Top ⟨K, P, w⟩ mg := top_of X G c
  obtain ⟨fd, F⟩ := c.def_ 65 (d := d_law) rfl
  have e := hfa.symm.trans T.g_law
  cases e
  refine ⟨fd, fun s v => FunD.bindsA (ps := ["script"]) F (fun _ _ _ _ _ _ us hl => match us, hl with | [_], _ => by kernel_rfl) s [v] rfl, fun base _ _ => ?_⟩
  obtain ⟨f2, fd2, a, b, c2, d, e⟩ := (G76.ok_law (base := base) (cls := fun _ => none) T).ex
  rw [T.g_law] at a
  cases a
  have F2 : L2.Fun K "law" "law" (top 85) (He.ga K "law") fd := He5.fun_of F
  cases fun_inj d F2
  exact e
end JG76
open PySem PySem.W PySem.Calls PyProof.Rows
theorem row_of_G76 (law : ∀ ns : List Int, ns.length ≤ 63 → ∃ sto, G76.f_law [.raw (ns.map .int)] [] = .ok (.bl true) [] sto) : PySem.Challenge.rw_jointmaps_k76_whole_map_counts.Holds := by
  w_on; o_law
  refine HandSHeadRun.head_any (r := OpenLaw.row PySem.Challenge.rw_jointmaps_k76_whole_map_counts) (q := view (OpenLaw.row PySem.Challenge.rw_jointmaps_k76_whole_map_counts).prog [85]) (H := JG76.hk) (ob := JG76.ob) (M := 6000) (loose := JG76.loose) (d := HandSHeadRun.topDef (OpenLaw.row PySem.Challenge.rw_jointmaps_k76_whole_map_counts).prog 85) (kwd := []) JG76.ob_eq
    (by kernel_rfl) (fun s => by kernel_rfl) JG76.run (by kernel_rfl) (by kernel_rfl) (by kernel_rfl) (by rfl) (by first | assumption | decide +kernel) (by decide +kernel) ⟨rfl, rfl, rfl, rfl, rfl, by decide +kernel⟩ ?hw ?hc
  case hw => w_witness2
  case hc =>
    refine L2.walk_ofE (l := PySem.Challenge.rw_jointmaps_k76_whole_map_counts) (n := 63) (k := 12) (x := "script") (CX := L2.CX0) rfl (by decide) (by kernel_rfl) ⟨rfl, by decide, by decide⟩ ?F (fun _ _ _ _ z => z)
    intro w mg fa h Y G hmg0
    obtain ⟨K, KX, c⟩ := Y
    have hmg : mg ("law" : PySem.Str) = some (.ref fa) := by
      have e : (HandSHeadRun.topDef (OpenLaw.row PySem.Challenge.rw_jointmaps_k76_whole_map_counts).prog 85).name = ("law" : PySem.Str) := by kernel_rfl
      rw [← e]
      exact hmg0
    obtain ⟨fd, hb, hF⟩ := JG76.facts (P := (PySem.Challenge.rw_jointmaps_k76_whole_map_counts).prog) (w := w) KX G hmg c
    refine ⟨K, fd, _, KX, hb, fun H a ns hl hO hS => ?_, hF⟩
    obtain ⟨sto, e⟩ := law ns hl
    exact Q.law_sp hO hS e
set_option Elab.async false
set_option maxRecDepth 100000 in
set_option maxHeartbeats 0 in
theorem PySem.Challenge.cw_jointmaps_k76_whole_map_counts_holds : PySem.Challenge.rw_jointmaps_k76_whole_map_counts.Holds := by
  exact row_of_G76 fun ns hl => ⟨[], G76.law_ok ns hl⟩
