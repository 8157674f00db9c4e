import PyProof.Rows.All
import HandS.ForMost
import HandS.Exc
import HandS.TryOnly
import HandS.CallSlots
import HandS.IsInst
import HandS.Deep
import HandS.TupAny
import HandS.TupMul
import HandS.Strs
import HandS.Conv
import HandS.Zip
import HandS.SortInts
import HandS.SortOrd
import HandS.Flow
import HandS.Style
import HandS.Wide
import HandS.ExcInit
import HandS.DictTup
import HandS.DictComp
import HandS.WrittenGet
import HandS.SortKw
import KE.KDictKeyed
import KE.KDictWalk
import KE.KDictCopyH
import HandS.TupLen
import PyProof.EnumMake
import KE.GoesMore
import HandS.Iter
import PyProof.MinMaxWalk
import PyProof.WalksMore
import KE.LtData
import KE.SortData
import KE.KDictSum
import HandS.ExcField
import KE.KIsAll
import KE.KTryMore
import KE.KExcIs
import HandS.Defaults
import HandS.Words
import KE.KDictOf
import HandS.SetFor
import HandS.HeadHook1
import HandS.HeadHook2
import HandS.Head0
import HandS.Head1
import HandS.Head2
import HandS.HeadEnd
import HandS.HeadHook3
import PySem.Challenge.RW_allsomeno_k50_refusals_of_comparing
set_option Elab.async false
set_option linter.all false
set_option maxRecDepth 100000
set_option maxHeartbeats 0
namespace Mi
open PySem PySem.Spec PyProof.Rows L2

/-- abstract data -/
inductive D where
  | non | bl (b : Bool) | int (i : Int) | str (s : Str) | tup (l : List D) | lst (l : List D)
  | dik (ks us : List D) | dit (ks us : List D) | obj (n : Nat)
deriving Inhabited

/-- abstract shared objects -/
inductive Ob where
  | lst (l : List D) | ins (c : Nat) (fs : List (Str × D))
deriving Inhabited

inductive Sl where
  | none | val (d : D) | own (d : D) | bor (d : D)
deriving Inhabited

abbrev Sg := L2.St
structure AE where
  sl : List Sl
  st : List Ob

/-- results -/
inductive R (α : Type) where
  | ok (a : α) (e : AE) | exc (c : Nat) (fs : List D) (e : AE) | bad

def R.bind {α β : Type} (r : R α) (f : α → AE → R β) : R β := match r with
  | .ok a e => f a e
  | .exc c fs e => .exc c fs e
  | .bad => .bad

/-! ### keys -/
def keyD : D → Option Key
  | .int i => some (.inl i)
  | .str s => some (.inr s)
  | _ => none
mutual
def nkD : D → Option NestedKey
  | .non => some .none
  | .bl b => some (.num (if b = true then 1 else 0))
  | .int i => some (.num i)
  | .str s => some (.text s)
  | .tup l => (nksD l).map .tup
  | _ => none
def nksD : List D → Option (List NestedKey)
  | [] => some []
  | d :: ds => (nkD d).bind fun k => (nksD ds).map fun ks => k :: ks
end

section
variable (P : Program) (w : World) (K : PySem.W.Frag)
def KTup (a : Addr) (xs : List V) : Prop :=
  ∃ (o : Obj) (its : Array Value) (n : Nat), K.lookup a = some o ∧ o.cls = .type "tuple" ∧ o.data = .seq its n ∧ its.size ≤ sizeLine ∧ Vals xs its.toList
def TupAt (H : Hp) (N : Addr → Prop) (a : Addr) (xs : List V) : Prop := (Rd H a (.tup xs) ∧ ¬ N a) ∨ KTup K a xs
def LstAt (H : Hp) (N : Addr → Prop) (a : Addr) (xs : List V) : Prop := Rd H a (.lst xs) ∧ ¬ N a
theorem TupAt.sq {K : PySem.W.Frag} {H : Hp} {N : Addr → Prop} {a : Addr} {xs : List V} (h : TupAt K H N a xs) : SqT K H a xs := by
  rcases h with ⟨h, _⟩ | h
  · exact .inl h
  · exact .inr h
theorem LstAt.sq {K : PySem.W.Frag} {H : Hp} {N : Addr → Prop} {a : Addr} {xs : List V} (h : LstAt H N a xs) : SqL K H a xs := .inl h.1
def rawAt (a : Addr) (o : Obj) : Heap → Prop := fun h => h.get? a = some o
/-- the object of a dict with tuple keys -/
def DitRaw (a : Addr) (o : Obj) (xs : List (NestedKey × Addr × Value)) : Prop :=
  o.ExactDict ∧ (∃ es ep, o.data = .dict es ep ∧ es.toList = xs.map (entryOfKey (nestedKind P w))) ∧ (xs.map (·.1)).Nodup ∧ xs.length ≤ sizeLine ∧ (a == sysModules) = false ∧ ∀ x ∈ xs, x.1.depth ≤ 8

/-- a text of the model's -/
def okS (s : Str) : Prop := PyData.strOk s = true ∧ s.length ≤ sizeLine
mutual
/-- v stands for d; N: what may be written; sh: the shared objects -/
def RV (H : Hp) (N : Addr → Prop) (sh : List Addr) : D → V → Prop
  | .non, v => v = .non
  | .bl b, v => v = .bl b
  | .int i, v => v = .int i
  | .str s, v => v = .str s ∧ okS s
  | .tup l, v => ∃ a vs, v = .ref a ∧ TupAt K H N a vs ∧ RVs H N sh l vs
  | .lst l, v => ∃ a vs, v = .ref a ∧ LstAt H N a vs ∧ RVs H N sh l vs
  | .dik ks us, v => ∃ (a : Addr) (kk : List Key) (vs : List V), v = .ref a ∧ Rd H a (.dK (kk.zip vs)) ∧ ¬ N a ∧ ks.map keyD = kk.map some ∧ kk.Nodup ∧ kk.length = vs.length ∧ RVs H N sh us vs
  | .dit ks us, v => ∃ (a : Addr) (o : Obj) (xs : List (NestedKey × Addr × Value)) (vs : List V), v = .ref a ∧ Rd H a (.ext (rawAt a o)) ∧ ¬ N a ∧ DitRaw P w a o xs ∧ ks.map nkD = xs.map (fun x => some x.1) ∧
      RVs H N sh ks (xs.map fun x => V.ref x.2.1) ∧ Vals vs (xs.map fun x => x.2.2) ∧ RVs H N sh us vs
  | .obj n, v => ∃ a, v = .ref a ∧ sh[n]? = some a
def RVs (H : Hp) (N : Addr → Prop) (sh : List Addr) : List D → List V → Prop
  | [], vs => vs = []
  | d :: ds, vs => ∃ v r, vs = v :: r ∧ RV H N sh d v ∧ RVs H N sh ds r
end

/-- an owned list or dict at a -/
def OwnAt (H : Hp) (N : Addr → Prop) (sh : List Addr) : D → Addr → Prop
  | .lst l, a => ∃ vs, H a = some (.lst vs) ∧ RVs P w K H N sh l vs
  | .dik ks us, a => ∃ (kk : List Key) (vs : List V), H a = some (.dK (kk.zip vs)) ∧ ks.map keyD = kk.map some ∧ kk.Nodup ∧ kk.length = vs.length ∧ RVs P w K H N sh us vs
  | .dit ks us, a => ∃ (o : Obj) (xs : List (NestedKey × Addr × Value)) (vs : List V), H a = some (.ext (rawAt a o)) ∧ DitRaw P w a o xs ∧ ks.map nkD = xs.map (fun x => some x.1) ∧
      RVs P w K H N sh ks (xs.map fun x => V.ref x.2.1) ∧ Vals vs (xs.map fun x => x.2.2) ∧ RVs P w K H N sh us vs
  | _, _ => False
/-- .. or one that is being walked -/
def BorAt (H : Hp) (N : Addr → Prop) (sh : List Addr) : D → Addr → Prop
  | .lst l, a => ∃ vs, Rd H a (.lst vs) ∧ RVs P w K H N sh l vs
  | .dik ks us, a => ∃ (kk : List Key) (vs : List V), Rd H a (.dK (kk.zip vs)) ∧ ks.map keyD = kk.map some ∧ kk.Nodup ∧ kk.length = vs.length ∧ RVs P w K H N sh us vs
  | .dit ks us, a => ∃ (o : Obj) (xs : List (NestedKey × Addr × Value)) (vs : List V), Rd H a (.ext (rawAt a o)) ∧ DitRaw P w a o xs ∧ ks.map nkD = xs.map (fun x => some x.1) ∧
      RVs P w K H N sh ks (xs.map fun x => V.ref x.2.1) ∧ Vals vs (xs.map fun x => x.2.2) ∧ RVs P w K H N sh us vs
  | _, _ => False
/-- a shared object at a -/
def ObAt (cl : Nat → Option Addr) (H : Hp) (N : Addr → Prop) (sh : List Addr) : Ob → Addr → Prop
  | .lst l, a => ∃ vs, H a = some (.lst vs) ∧ RVs P w K H N sh l vs
  | .ins c fs, a => ∃ (C dx : Addr) (vs : List V), cl c = some C ∧ H a = some (.ins C dx ((fs.map (·.1)).zip vs)) ∧ RVs P w K H N sh (fs.map (·.2)) vs
end

/-! ### what an evaluation keeps -/
/-- what is owned; what is lent, by its slot -/
structure Ow where
  o : Addr → Prop
  b : Nat → Addr → Prop
instance : CoeFun Ow (fun _ => Addr → Prop) := ⟨Ow.o⟩
structure Kp (M O O' : Ow) (sh sh' : List Addr) (N N' : Addr → Prop) (H H' : Hp) : Prop where
  keep : ∀ a o, H a = some o → a ∉ sh → ¬ M a → H' a = some o
  shn : ∀ a o, H a = some o → a ∉ sh → a ∉ sh'
  av : ∀ a o, H a = some o → ¬ N a → ¬ N' a
  own : ∀ a o, H a = some o → ¬ O a → ¬ O' a
  pre : sh <+: sh'
  there : ∀ a o, H a = some o → ∃ o', H' a = some o'
  bo : ∀ i a, O.b i a → O'.b i a
  st : ∀ a o, H a = some o → N a → ¬ O a → N' a
  mt : ∀ a o, H a = some o → ¬ O a → (∀ i, ¬ O.b i a) → ∀ i, ¬ O'.b i a
def none1 : Ow := ⟨fun _ => False, fun _ _ => False⟩
section
variable {M O O' O'' : Ow} {sh sh' sh'' : List Addr} {N N' N'' : Addr → Prop} {H H' H'' : Hp}
theorem Kp.refl : Kp M O O sh sh N N H H := ⟨fun _ _ h _ _ => h, fun _ _ _ h => h, fun _ _ _ h => h, fun _ _ _ h => h, List.prefix_rfl, fun _ o h => ⟨o, h⟩, fun _ _ h => h, fun _ _ _ n _ => n, fun _ _ _ _ h => h⟩
theorem Kp.weak {M' : Ow} (f : Kp M O O' sh sh' N N' H H') (h : ∀ a, M a → M' a) : Kp M' O O' sh sh' N N' H H' :=
  ⟨fun a o e n m => f.keep a o e n fun z => m (h a z), f.shn, f.av, f.own, f.pre, f.there, f.bo, f.st, f.mt⟩
theorem Kp.dom (f : Kp none1 O O' sh sh' N N' H H') {a : Addr} {o : HO} (e : H a = some o) (hs : a ∉ sh) : H' a = some o := f.keep a o e hs id
end
end Mi

namespace Mi
open PySem PySem.Spec PyProof.Rows L2

section
variable {P : Program} {w : World} {K : PySem.W.Frag} {H H' : Hp} {N N' : Addr → Prop} {sh sh' : List Addr}
mutual
theorem RV.mono' (hk : ∀ a u, Rd H a u → ¬ N a → Rd H' a u ∧ ¬ N' a) (hs : ∀ (n : Nat) (a : Addr), sh[n]? = some a → sh'[n]? = some a) : ∀ (d : D) (v : V), RV P w K H N sh d v → RV P w K H' N' sh' d v
  | .non, v, h => by simp only [RV] at h ⊢; exact h
  | .bl b, v, h => by simp only [RV] at h ⊢; exact h
  | .int i, v, h => by simp only [RV] at h ⊢; exact h
  | .str s, v, h => by simp only [RV] at h ⊢; exact h
  | .tup l, v, h => by
    simp only [RV] at h ⊢
    obtain ⟨a, vs, e, t, r⟩ := h
    refine ⟨a, vs, e, ?_, RVs.mono' hk hs l vs r⟩
    rcases t with ⟨t, n⟩ | t
    · exact .inl (hk a _ t n)
    · exact .inr t
  | .lst l, v, h => by
    simp only [RV] at h ⊢
    obtain ⟨a, vs, e, t, r⟩ := h
    exact ⟨a, vs, e, hk a _ t.1 t.2, RVs.mono' hk hs l vs r⟩
  | .dik ks us, v, h => by
    simp only [RV] at h ⊢
    obtain ⟨a, kk, vs, e, t, n, h1, h2, h3, r⟩ := h
    exact ⟨a, kk, vs, e, (hk a _ t n).1, (hk a _ t n).2, h1, h2, h3, RVs.mono' hk hs us vs r⟩
  | .dit ks us, v, h => by
    simp only [RV] at h ⊢
    obtain ⟨a, o, xs, vs, e, t, n, h1, h2, rk, h3, r⟩ := h
    exact ⟨a, o, xs, vs, e, (hk a _ t n).1, (hk a _ t n).2, h1, h2, RVs.mono' hk hs ks _ rk, h3, RVs.mono' hk hs us vs r⟩
  | .obj n, v, h => by
    simp only [RV] at h ⊢
    obtain ⟨a, e, t⟩ := h
    exact ⟨a, e, hs n a t⟩
theorem RVs.mono' (hk : ∀ a u, Rd H a u → ¬ N a → Rd H' a u ∧ ¬ N' a) (hs : ∀ (n : Nat) (a : Addr), sh[n]? = some a → sh'[n]? = some a) : ∀ (l : List D) (vs : List V), RVs P w K H N sh l vs → RVs P w K H' N' sh' l vs
  | [], vs, h => by simp only [RVs] at h ⊢; exact h
  | d :: ds, vs, h => by
    simp only [RVs] at h ⊢
    obtain ⟨v, r, e, h1, h2⟩ := h
    exact ⟨v, r, e, RV.mono' hk hs d v h1, RVs.mono' hk hs ds r h2⟩
end
theorem Rd.dom' {a : Addr} {u : HO} (h : Rd H a u) : ∃ o, H a = some o := by
  rcases h with h | ⟨o, h⟩
  · exact ⟨_, h⟩
  · exact ⟨_, h⟩
theorem Kp.rd {M O O' : Ow} (f : Kp M O O' sh sh' N N' H H') (hM : ∀ a, M a → N a) (hS : ∀ a ∈ sh, N a) : ∀ a u, Rd H a u → ¬ N a → Rd H' a u ∧ ¬ N' a := fun a u h n => by
  obtain ⟨o, e⟩ := Rd.dom' h
  refine ⟨?_, f.av a o e n⟩
  have k := f.keep a o e (fun z => n (hS a z)) (fun z => n (hM a z))
  rcases h with h | ⟨q, h⟩
  · rw [h] at e; cases e; exact .inl k
  · rw [h] at e; cases e; exact .inr ⟨_, k⟩
theorem pre_get {n : Nat} {a : Addr} (h : sh <+: sh') (e : sh[n]? = some a) : sh'[n]? = some a := by
  obtain ⟨t, rfl⟩ := h
  rw [List.getElem?_append_left (List.getElem?_eq_some_iff.mp e).1]; exact e
theorem RV.mono {M O O' : Ow} {d : D} {v : V} (h : RV P w K H N sh d v) (f : Kp M O O' sh sh' N N' H H') (hM : ∀ a, M a → N a) (hS : ∀ a ∈ sh, N a) : RV P w K H' N' sh' d v :=
  RV.mono' (f.rd hM hS) (fun n a e => pre_get f.pre e) d v h
theorem RVs.mono {M O O' : Ow} {l : List D} {vs : List V} (h : RVs P w K H N sh l vs) (f : Kp M O O' sh sh' N N' H H') (hM : ∀ a, M a → N a) (hS : ∀ a ∈ sh, N a) : RVs P w K H' N' sh' l vs :=
  RVs.mono' (f.rd hM hS) (fun n a e => pre_get f.pre e) l vs h

/-! ### lists of values -/
theorem RVs.nil_iff {vs : List V} : RVs P w K H N sh [] vs ↔ vs = [] := by simp only [RVs]
theorem RVs.nil : RVs P w K H N sh [] [] := by simp only [RVs]
theorem RVs.cons {d : D} {ds : List D} {v : V} {vs : List V} (h : RV P w K H N sh d v) (t : RVs P w K H N sh ds vs) : RVs P w K H N sh (d :: ds) (v :: vs) := by
  simp only [RVs]; exact ⟨v, vs, rfl, h, t⟩
theorem RVs.inv {d : D} {ds : List D} {vs : List V} (h : RVs P w K H N sh (d :: ds) vs) : ∃ v r, vs = v :: r ∧ RV P w K H N sh d v ∧ RVs P w K H N sh ds r := by
  simp only [RVs] at h; exact h
theorem RVs.length : ∀ {l : List D} {vs : List V}, RVs P w K H N sh l vs → l.length = vs.length
  | [], vs, h => by rw [RVs.nil_iff.mp h]; rfl
  | d :: ds, vs, h => by
    obtain ⟨v, r, rfl, _, t⟩ := h.inv
    simp [RVs.length t]
theorem RVs.get : ∀ {l : List D} {vs : List V} {i : Nat} {d : D}, RVs P w K H N sh l vs → l[i]? = some d → ∃ v, vs[i]? = some v ∧ RV P w K H N sh d v
  | [], _, _, _, _, e => by simp at e
  | d :: ds, vs, 0, d', h, e => by
    obtain ⟨v, r, rfl, hv, _⟩ := h.inv
    simp at e; subst e; exact ⟨v, rfl, hv⟩
  | d :: ds, vs, i + 1, d', h, e => by
    obtain ⟨v, r, rfl, _, t⟩ := h.inv
    obtain ⟨u, h1, h2⟩ := RVs.get (i := i) t (by simpa using e)
    exact ⟨u, by simpa using h1, h2⟩
theorem RVs.getV {l : List D} {vs : List V} {i : Nat} {v : V} (h : RVs P w K H N sh l vs) (e : vs[i]? = some v) : ∃ d, l[i]? = some d ∧ RV P w K H N sh d v := by
  have hi : i < l.length := by rw [h.length]; exact (List.getElem?_eq_some_iff.mp e).1
  obtain ⟨u, h1, h2⟩ := h.get (List.getElem?_eq_getElem hi)
  rw [e] at h1; cases h1
  exact ⟨_, List.getElem?_eq_getElem hi, h2⟩
theorem RVs.append : ∀ {l m : List D} {vs us : List V}, RVs P w K H N sh l vs → RVs P w K H N sh m us → RVs P w K H N sh (l ++ m) (vs ++ us)
  | [], _, _, _, h, t => by rw [RVs.nil_iff.mp h]; exact t
  | d :: ds, _, _, _, h, t => by
    obtain ⟨v, r, rfl, hv, h2⟩ := h.inv
    exact .cons hv (RVs.append h2 t)
theorem RVs.take : ∀ {l : List D} {vs : List V} (n : Nat), RVs P w K H N sh l vs → RVs P w K H N sh (l.take n) (vs.take n)
  | l, vs, 0, _ => by simp only [List.take_zero]; exact .nil
  | [], vs, n + 1, h => by rw [RVs.nil_iff.mp h]; exact .nil
  | d :: ds, vs, n + 1, h => by
    obtain ⟨v, r, rfl, hv, t⟩ := h.inv
    exact .cons hv (RVs.take n t)
theorem RVs.drop : ∀ {l : List D} {vs : List V} (n : Nat), RVs P w K H N sh l vs → RVs P w K H N sh (l.drop n) (vs.drop n)
  | l, vs, 0, h => h
  | [], vs, n + 1, h => by rw [RVs.nil_iff.mp h]; exact .nil
  | d :: ds, vs, n + 1, h => by
    obtain ⟨v, r, rfl, hv, t⟩ := h.inv
    exact RVs.drop n t
theorem RVs.set {d : D} {v : V} (hd : RV P w K H N sh d v) : ∀ {l : List D} {vs : List V} (n : Nat), RVs P w K H N sh l vs → RVs P w K H N sh (l.set n d) (vs.set n v)
  | [], vs, n, h => by rw [RVs.nil_iff.mp h]; simp only [List.set_nil]; exact .nil
  | x :: ds, vs, 0, h => by
    obtain ⟨v, r, rfl, hv, t⟩ := h.inv
    exact .cons hd t
  | x :: ds, vs, n + 1, h => by
    obtain ⟨v, r, rfl, hv, t⟩ := h.inv
    exact .cons hv (RVs.set hd n t)
theorem RVs.eraseIdx : ∀ {l : List D} {vs : List V} (n : Nat), RVs P w K H N sh l vs → RVs P w K H N sh (l.eraseIdx n) (vs.eraseIdx n)
  | [], vs, n, h => by rw [RVs.nil_iff.mp h]; simp only [List.eraseIdx_nil]; exact .nil
  | x :: ds, vs, 0, h => by
    obtain ⟨v, r, rfl, hv, t⟩ := h.inv
    exact t
  | x :: ds, vs, n + 1, h => by
    obtain ⟨v, r, rfl, hv, t⟩ := h.inv
    exact .cons hv (RVs.eraseIdx n t)
theorem RVs.reverse : ∀ {l : List D} {vs : List V}, RVs P w K H N sh l vs → RVs P w K H N sh l.reverse vs.reverse
  | [], vs, h => by rw [RVs.nil_iff.mp h]; exact .nil
  | d :: ds, vs, h => by
    obtain ⟨v, r, rfl, hv, t⟩ := h.inv
    rw [List.reverse_cons, List.reverse_cons]
    exact (RVs.reverse t).append (.cons hv .nil)
theorem RVs.rep {l : List D} {vs : List V} (h : RVs P w K H N sh l vs) : ∀ n : Nat, RVs P w K H N sh (List.replicate n l).flatten (List.replicate n vs).flatten
  | 0 => by simp only [List.replicate_zero, List.flatten_nil]; exact .nil
  | n + 1 => by
    rw [List.replicate_succ, List.replicate_succ, List.flatten_cons, List.flatten_cons]
    exact h.append (RVs.rep h n)
theorem RVs.cut {l : List D} {vs : List V} (h : RVs P w K H N sh l vs) (n m : Nat) : RVs P w K H N sh ((l.drop n).take m) ((vs.drop n).take m) := (h.drop n).take m
/-- by places -/
theorem RVs.of_get : ∀ {l : List D} {vs : List V}, l.length = vs.length → (∀ (i : Nat) (d : D) (v : V), l[i]? = some d → vs[i]? = some v → RV P w K H N sh d v) → RVs P w K H N sh l vs
  | [], [], _, _ => .nil
  | [], _ :: _, h, _ => by simp at h
  | _ :: _, [], h, _ => by simp at h
  | d :: ds, v :: vs, h, g => .cons (g 0 d v rfl rfl) (RVs.of_get (by simpa using h) fun i d' v' h1 h2 => g (i + 1) d' v' (by simpa using h1) (by simpa using h2))
end

/-! ### the state -/
section
variable (P : Program) (w : World) (K : PySem.W.Frag) (cl : Nat → Option Addr)
def OwnS (ρ : AE) (σ : Sg) : Ow := ⟨fun a => ∃ (i : Nat) (d : D), ρ.sl[i]? = some (.own d) ∧ σ[i]? = some (some (.ref a)), fun i a => ∃ d : D, ρ.sl[i]? = some (.bor d) ∧ σ[i]? = some (some (.ref a))⟩
def mutS : Sl → Bool
  | .own _ | .bor _ => true
  | _ => false
structure Rp (sh : List Addr) (N : Addr → Prop) (ρ : AE) (σ : Sg) (H : Hp) : Prop where
  len : ρ.sl.length = σ.length
  val : ∀ (i : Nat) (d : D), ρ.sl[i]? = some (.val d) → ∃ v, σ[i]? = some (some v) ∧ RV P w K H N sh d v
  own : ∀ (i : Nat) (d : D), ρ.sl[i]? = some (.own d) → ∃ a, σ[i]? = some (some (.ref a)) ∧ N a ∧ a ∉ sh ∧ OwnAt P w K H N sh d a
  bor : ∀ (i : Nat) (d : D), ρ.sl[i]? = some (.bor d) → ∃ a, σ[i]? = some (some (.ref a)) ∧ N a ∧ a ∉ sh ∧ OwnAt P w K H N sh d a
  dis : ∀ (i j : Nat) (d e : Sl) (a : Addr), ρ.sl[i]? = some d → ρ.sl[j]? = some e → mutS d = true → mutS e = true → σ[i]? = some (some (.ref a)) → σ[j]? = some (some (.ref a)) → i = j
  dom : ∀ a, N a → ∃ o, H a = some o
  nd : sh.Nodup
  shN : ∀ a ∈ sh, N a
  shl : sh.length = ρ.st.length
  obs : ∀ (n : Nat) ob a, ρ.st[n]? = some ob → sh[n]? = some a → ObAt P w K cl H N sh ob a
end
section
variable {P : Program} {w : World} {K : PySem.W.Frag} {cl : Nat → Option Addr} {sh sh' : List Addr} {N N' : Addr → Prop} {ρ ρ' : AE} {σ σ' : Sg} {H H' : Hp}
theorem Rp.ownN (r : Rp P w K cl sh N ρ σ H) : ∀ a, OwnS ρ σ a → N a := fun a ⟨i, d, h1, h2⟩ => by
  obtain ⟨b, e, n, _⟩ := r.own i d h1
  rw [h2] at e; cases e; exact n
theorem Rp.ownSh (r : Rp P w K cl sh N ρ σ H) : ∀ a, OwnS ρ σ a → a ∉ sh := fun a ⟨i, d, h1, h2⟩ => by
  obtain ⟨b, e, _, n, _⟩ := r.own i d h1
  rw [h2] at e; cases e; exact n
theorem OwnAt.bor {d : D} {a : Addr} (h : OwnAt P w K H N sh d a) : BorAt P w K H N sh d a := by
  cases d with
  | lst l => obtain ⟨vs, e, r⟩ := h; exact ⟨vs, .inl e, r⟩
  | dik ks us => obtain ⟨kk, vs, e, r⟩ := h; exact ⟨kk, vs, .inl e, r⟩
  | dit ks us => obtain ⟨o, xs, vs, e, r⟩ := h; exact ⟨o, xs, vs, .inl e, r⟩
  | _ => exact h.elim
theorem OwnAt.dom {d : D} {a : Addr} (h : OwnAt P w K H N sh d a) : ∃ o, H a = some o := by
  cases d with
  | lst l => obtain ⟨vs, e, r⟩ := h; exact ⟨_, e⟩
  | dik ks us => obtain ⟨kk, vs, e, r⟩ := h; exact ⟨_, e⟩
  | dit ks us => obtain ⟨o, xs, vs, e, r⟩ := h; exact ⟨_, e⟩
  | _ => exact h.elim
theorem BorAt.dom {d : D} {a : Addr} (h : BorAt P w K H N sh d a) : ∃ o, H a = some o := by
  cases d with
  | lst l => obtain ⟨vs, e, r⟩ := h; exact Rd.dom' e
  | dik ks us => obtain ⟨kk, vs, e, r⟩ := h; exact Rd.dom' e
  | dit ks us => obtain ⟨o, xs, vs, e, r⟩ := h; exact Rd.dom' e
  | _ => exact h.elim
/-- what a borrowed thing is, once it may be shared -/
theorem BorAt.rv {d : D} {a : Addr} (h : BorAt P w K H N sh d a) (n : ¬ N a) : RV P w K H N sh d (.ref a) := by
  cases d with
  | lst l => obtain ⟨vs, e, r⟩ := h; simp only [RV]; exact ⟨a, vs, rfl, ⟨e, n⟩, r⟩
  | dik ks us => obtain ⟨kk, vs, e, h1, h2, h3, r⟩ := h; simp only [RV]; exact ⟨a, kk, vs, rfl, e, n, h1, h2, h3, r⟩
  | dit ks us => obtain ⟨o, xs, vs, e, h1, h2, h3, h4, r⟩ := h; simp only [RV]; exact ⟨a, o, xs, vs, rfl, e, n, h1, h2, h3, h4, r⟩
  | _ => exact h.elim
theorem OwnAt.mono (hk : ∀ a u, Rd H a u → ¬ N a → Rd H' a u ∧ ¬ N' a) (hs : ∀ (n : Nat) (a : Addr), sh[n]? = some a → sh'[n]? = some a) {d : D} {a : Addr} (ha : ∀ o, H a = some o → H' a = some o) (h : OwnAt P w K H N sh d a) : OwnAt P w K H' N' sh' d a := by
  cases d with
  | lst l => obtain ⟨vs, e, r⟩ := h; exact ⟨vs, ha _ e, RVs.mono' hk hs _ _ r⟩
  | dik ks us => obtain ⟨kk, vs, e, h1, h2, h3, r⟩ := h; exact ⟨kk, vs, ha _ e, h1, h2, h3, RVs.mono' hk hs _ _ r⟩
  | dit ks us => obtain ⟨o, xs, vs, e, h1, h2, rk, h3, r⟩ := h; exact ⟨o, xs, vs, ha _ e, h1, h2, RVs.mono' hk hs _ _ rk, h3, RVs.mono' hk hs _ _ r⟩
  | _ => exact h.elim
theorem BorAt.mono (hk : ∀ a u, Rd H a u → ¬ N a → Rd H' a u ∧ ¬ N' a) (hs : ∀ (n : Nat) (a : Addr), sh[n]? = some a → sh'[n]? = some a) {d : D} {a : Addr} (ha : ∀ o, Rd H a o → Rd H' a o) (h : BorAt P w K H N sh d a) : BorAt P w K H' N' sh' d a := by
  cases d with
  | lst l => obtain ⟨vs, e, r⟩ := h; exact ⟨vs, ha _ e, RVs.mono' hk hs _ _ r⟩
  | dik ks us => obtain ⟨kk, vs, e, h1, h2, h3, r⟩ := h; exact ⟨kk, vs, ha _ e, h1, h2, h3, RVs.mono' hk hs _ _ r⟩
  | dit ks us => obtain ⟨o, xs, vs, e, h1, h2, rk, h3, r⟩ := h; exact ⟨o, xs, vs, ha _ e, h1, h2, RVs.mono' hk hs _ _ rk, h3, RVs.mono' hk hs _ _ r⟩
  | _ => exact h.elim
theorem ObAt.mono (hk : ∀ a u, Rd H a u → ¬ N a → Rd H' a u ∧ ¬ N' a) (hs : ∀ (n : Nat) (a : Addr), sh[n]? = some a → sh'[n]? = some a) {b : Ob} {a : Addr} (ha : ∀ o, H a = some o → H' a = some o) (h : ObAt P w K cl H N sh b a) : ObAt P w K cl H' N' sh' b a := by
  cases b with
  | lst l => obtain ⟨vs, e, r⟩ := h; exact ⟨vs, ha _ e, RVs.mono' hk hs _ _ r⟩
  | ins c fs => obtain ⟨C, dx, vs, e1, e, r⟩ := h; exact ⟨C, dx, vs, e1, ha _ e, RVs.mono' hk hs _ _ r⟩
/-- the heap grows; new addresses may be taken into N -/
theorem Rp.grow (r : Rp P w K cl sh N ρ σ H) (hk : ∀ a o, H a = some o → H' a = some o) (hN : ∀ a, N a → N' a) (hn : ∀ a, N' a → N a ∨ H a = none) (hd : ∀ a, N' a → ∃ o, H' a = some o) : Rp P w K cl sh N' ρ σ H' := by
  have rd : ∀ a u, Rd H a u → Rd H' a u := fun a u h => by
    rcases h with h | ⟨o, h⟩
    · exact .inl (hk a _ h)
    · exact .inr ⟨o, hk a _ h⟩
  have hk' : ∀ a u, Rd H a u → ¬ N a → Rd H' a u ∧ ¬ N' a := fun a u h n => ⟨rd a u h, fun z => by
    obtain ⟨o, e⟩ := Rd.dom' h
    rcases hn a z with q | q
    · exact n q
    · rw [q] at e; cases e⟩
  have hs : ∀ (n : Nat) (a : Addr), sh[n]? = some a → sh[n]? = some a := fun _ _ e => e
  refine ⟨r.len, fun i d e => ?_, fun i d e => ?_, fun i d e => ?_, r.dis, hd, r.nd, fun a h => hN a (r.shN a h), r.shl, fun n ob a e1 e2 => ?_⟩
  · obtain ⟨v, h1, h2⟩ := r.val i d e
    exact ⟨v, h1, RV.mono' hk' hs d v h2⟩
  · obtain ⟨a, h1, h2, h3, h4⟩ := r.own i d e
    exact ⟨a, h1, hN a h2, h3, OwnAt.mono hk' hs (hk a) h4⟩
  · obtain ⟨a, h1, h2, h3, h4⟩ := r.bor i d e
    exact ⟨a, h1, hN a h2, h3, OwnAt.mono hk' hs (hk a) h4⟩
  · exact ObAt.mono hk' hs (hk a) (r.obs n ob a e1 e2)
end
end Mi

namespace Mi
open PySem PySem.Spec PyProof.Rows L2

theorem Kp.trans {O O' O'' : Ow} {sh sh' sh'' : List Addr} {N N' N'' : Addr → Prop} {H H' H'' : Hp} (f : Kp none1 O O' sh sh' N N' H H') (g : Kp none1 O' O'' sh' sh'' N' N'' H' H'') : Kp none1 O O'' sh sh'' N N'' H H'' where
  keep := fun a o e n m => g.keep a o (f.keep a o e n m) (f.shn a o e n) m
  shn := fun a o e n => g.shn a o (f.keep a o e n id) (f.shn a o e n)
  av := fun a o e n => let ⟨o', e'⟩ := f.there a o e; g.av a o' e' (f.av a o e n)
  own := fun a o e n => let ⟨o', e'⟩ := f.there a o e; g.own a o' e' (f.own a o e n)
  pre := f.pre.trans g.pre
  there := fun a o e => let ⟨o', e'⟩ := f.there a o e; g.there a o' e'
  bo := fun i a h => g.bo i a (f.bo i a h)
  st := fun a o e n no => let ⟨o', e'⟩ := f.there a o e; g.st a o' e' (f.st a o e n no) (f.own a o e no)
  mt := fun a o e no h => let ⟨o', e'⟩ := f.there a o e; g.mt a o' e' (f.own a o e no) (f.mt a o e no h)

/-- the law's context -/
structure Cg where
  P : Program
  w : World
  K : PySem.W.Frag
  cl : Nat → Option Addr
  fl : Nat → List Str
abbrev Rel (α β : Type) := Hp → (Addr → Prop) → List Addr → α → β → Prop
section
variable (G : Cg)
abbrev Cg.rp (sh : List Addr) (N : Addr → Prop) (ρ : AE) (σ : Sg) (H : Hp) : Prop := Rp G.P G.w G.K G.cl sh N ρ σ H
/-- a value -/
abbrev Cg.rv : Rel D V := RV G.P G.w G.K
abbrev Cg.rvs : Rel (List D) (List V) := RVs G.P G.w G.K
/-- a value, or a borrowed list or dict -/
def Cg.rb : Rel D V := fun H N sh d v => G.rv H N sh d v ∨ ∃ a, v = .ref a ∧ a ∉ sh ∧ BorAt G.P G.w G.K H N sh d a
/-- a new list or dict, nobody else's -/
def Cg.rf (H : Hp) (N : Addr → Prop) (sh : List Addr) (d : D) (a : Addr) : Prop := ¬ N a ∧ a ∉ sh ∧ OwnAt G.P G.w G.K H (fun b => N b ∨ b = a) sh d a
def rl : Rel Bool Bool := fun _ _ _ a b => a = b
/-- an exception -/
def Cg.xr (H : Hp) (N : Addr → Prop) (sh : List Addr) (c : Nat) (fs : List D) (cls : Value) (dx : Option Addr) : Prop :=
  ∃ C d vs, G.cl c = some C ∧ cls = .ref C ∧ dx = some d ∧ H d = some (.xd ((G.fl c).zip vs)) ∧ ¬ N d ∧ G.rvs H N sh fs vs ∧ (G.fl c).length = vs.length
variable {α β γ δ : Type}
def Post (W : WX) (rel : Rel α β) (sh : List Addr) (N : Addr → Prop) (ρ : AE) (σ : Sg) (H : Hp) (r : R α) (Q : β → Hp → Prop) : Prop := match r with
  | .ok d ρ' => ∀ sh' N' v H', G.rp sh' N' ρ' σ H' → Kp none1 (OwnS ρ σ) (OwnS ρ' σ) sh sh' N N' H H' → rel H' N' sh' d v → Q v H'
  | .exc c fs ρ' => ∀ cls dx sh' N' H', G.rp sh' N' ρ' σ H' → Kp none1 (OwnS ρ σ) (OwnS ρ' σ) sh sh' N N' H H' → G.xr H' N' sh' c fs cls dx → W cls dx σ H'
  | .bad => False
/-- .. whose value is a new list or dict -/
def PostF (W : WX) (sh : List Addr) (N : Addr → Prop) (ρ : AE) (σ : Sg) (H : Hp) (r : R D) (Q : VK) : Prop := match r with
  | .ok d ρ' => ∀ sh' N' a H', G.rp sh' N' ρ' σ H' → Kp none1 (OwnS ρ σ) (OwnS ρ' σ) sh sh' N N' H H' → H a = none → G.rp sh' (fun b => N' b ∨ b = a) ρ' σ H' → G.rf H' N' sh' d a → Q (.ref a) H'
  | .exc c fs ρ' => ∀ cls dx sh' N' H', G.rp sh' N' ρ' σ H' → Kp none1 (OwnS ρ σ) (OwnS ρ' σ) sh sh' N N' H H' → G.xr H' N' sh' c fs cls dx → W cls dx σ H'
  | .bad => False
def tEvF (W : WX) (r : AE → R D) : TE := fun σ H Q => ∃ sh N ρ, G.rp sh N ρ σ H ∧ PostF G W sh N ρ σ H (r ρ) Q
/-- the reading of a computation -/
def tEv (W : WX) (rel : Rel α β) (r : AE → R α) : Sg → Hp → (β → Hp → Prop) → Prop := fun σ H Q => ∃ sh N ρ, G.rp sh N ρ σ H ∧ Post G W rel sh N ρ σ H (r ρ) Q
end

section
variable {G : Cg} {W : WX} {α β γ δ : Type} {rel : Rel α β} {rel2 : Rel γ δ} {sh : List Addr} {N : Addr → Prop} {ρ : AE} {σ : Sg} {H : Hp}
theorem Post.bind {r : R α} {f : α → AE → R γ} {Q : δ → Hp → Prop} {T : β → Hp → Prop} (p : Post G W rel2 sh N ρ σ H (r.bind f) Q) (rp : G.rp sh N ρ σ H)
    (k : ∀ d ρ1 sh1 N1 x H1, r = .ok d ρ1 → G.rp sh1 N1 ρ1 σ H1 → Kp none1 (OwnS ρ σ) (OwnS ρ1 σ) sh sh1 N N1 H H1 → rel H1 N1 sh1 d x → Post G W rel2 sh1 N1 ρ1 σ H1 (f d ρ1) Q → T x H1) : Post G W rel sh N ρ σ H r T := by
  cases r with
  | ok d ρ1 =>
    intro sh1 N1 x H1 rp1 kp1 hr
    refine k d ρ1 sh1 N1 x H1 rfl rp1 kp1 hr ?_
    have p' : Post G W rel2 sh N ρ σ H (f d ρ1) Q := p
    revert p'
    cases f d ρ1 with
    | ok e ρ2 => exact fun p' sh2 N2 y H2 rp2 kp2 hy => p' sh2 N2 y H2 rp2 (kp1.trans kp2) hy
    | exc c fs ρ2 => exact fun p' cls dx sh2 N2 H2 rp2 kp2 hy => p' cls dx sh2 N2 H2 rp2 (kp1.trans kp2) hy
    | bad => exact fun p' => p'
  | exc c fs ρ1 => exact p
  | bad => exact p
theorem Post.bindF {r : R α} {f : α → AE → R D} {Q : VK} {T : β → Hp → Prop} (p : PostF G W sh N ρ σ H (r.bind f) Q) (rp : G.rp sh N ρ σ H)
    (k : ∀ d ρ1 sh1 N1 x H1, r = .ok d ρ1 → G.rp sh1 N1 ρ1 σ H1 → Kp none1 (OwnS ρ σ) (OwnS ρ1 σ) sh sh1 N N1 H H1 → rel H1 N1 sh1 d x → PostF G W sh1 N1 ρ1 σ H1 (f d ρ1) Q → T x H1) : Post G W rel sh N ρ σ H r T := by
  cases r with
  | ok d ρ1 =>
    intro sh1 N1 x H1 rp1 kp1 hr
    refine k d ρ1 sh1 N1 x H1 rfl rp1 kp1 hr ?_
    have p' : PostF G W sh N ρ σ H (f d ρ1) Q := p
    revert p'
    cases f d ρ1 with
    | ok e ρ2 => exact fun p' sh2 N2 y H2 rp2 kp2 hn ry hy => p' sh2 N2 y H2 rp2 (kp1.trans kp2) (by
        cases q : H y with
        | none => rfl
        | some o => obtain ⟨o', e'⟩ := kp1.there y o q; rw [hn] at e'; cases e') ry hy
    | exc c fs ρ2 => exact fun p' cls dx sh2 N2 H2 rp2 kp2 hy => p' cls dx sh2 N2 H2 rp2 (kp1.trans kp2) hy
    | bad => exact fun p' => p'
  | exc c fs ρ1 => exact p
  | bad => exact p
theorem tEv.runF {r : AE → R α} {f : α → AE → R D} {Q : VK} {T : β → Hp → Prop} (rp : G.rp sh N ρ σ H) (p : PostF G W sh N ρ σ H ((r ρ).bind f) Q)
    (k : ∀ d ρ1 sh1 N1 x H1, r ρ = .ok d ρ1 → G.rp sh1 N1 ρ1 σ H1 → Kp none1 (OwnS ρ σ) (OwnS ρ1 σ) sh sh1 N N1 H H1 → rel H1 N1 sh1 d x → PostF G W sh1 N1 ρ1 σ H1 (f d ρ1) Q → T x H1) : tEv G W rel r σ H T :=
  ⟨sh, N, ρ, rp, Post.bindF p rp k⟩
theorem PostF.ret' {d : D} {Q : VK} (p : PostF G W sh N ρ σ H (.ok d ρ) Q) (rp : G.rp sh N ρ σ H) {a : Addr} {H' : Hp} (hk : ∀ a o, H a = some o → H' a = some o) (hn : H a = none) (h : G.rf H' N sh d a) : Q (.ref a) H' := by
  refine p sh N a H' (rp.grow hk (fun _ h => h) (fun _ h => .inl h) fun a n => ?_) ⟨fun a o e _ _ => hk a o e, fun _ _ _ h => h, fun _ _ _ h => h, fun _ _ _ h => h, List.prefix_rfl, fun a o e => ⟨o, hk a o e⟩, fun _ _ z => z, fun _ _ _ n _ => n, fun _ _ _ _ z => z⟩ hn (rp.grow hk (fun _ h => .inl h) (fun b z => z.imp id fun (e : b = a) => by rw [e]; exact hn) fun b z => ?_) h
  · obtain ⟨o, e⟩ := rp.dom a n
    exact ⟨o, hk a o e⟩
  · rcases z with z | rfl
    · obtain ⟨o, e⟩ := rp.dom b z
      exact ⟨o, hk b o e⟩
    · exact h.2.2.dom
/-- the last step: nothing more is evaluated -/
theorem Post.ret {d : α} {Q : β → Hp → Prop} (p : Post G W rel sh N ρ σ H (.ok d ρ) Q) (rp : G.rp sh N ρ σ H) {v : β} (h : rel H N sh d v) : Q v H := p sh N v H rp .refl h
/-- .. with a grown heap -/
theorem Post.ret' {d : α} {Q : β → Hp → Prop} (p : Post G W rel sh N ρ σ H (.ok d ρ) Q) (rp : G.rp sh N ρ σ H) {v : β} {H' : Hp} (hk : ∀ a o, H a = some o → H' a = some o) (h : rel H' N sh d v) : Q v H' := by
  refine p sh N v H' (rp.grow hk (fun _ h => h) (fun _ h => .inl h) fun a n => ?_) ⟨fun a o e _ _ => hk a o e, fun _ _ _ h => h, fun _ _ _ h => h, fun _ _ _ h => h, List.prefix_rfl, fun a o e => ⟨o, hk a o e⟩, fun _ _ z => z, fun _ _ _ n _ => n, fun _ _ _ _ z => z⟩ h
  obtain ⟨o, e⟩ := rp.dom a n
  exact ⟨o, hk a o e⟩
theorem Post.weak {rel' : Rel α β} {r : R α} {Q : β → Hp → Prop} (p : Post G W rel sh N ρ σ H r Q) (h : ∀ H N sh d v, rel' H N sh d v → rel H N sh d v) : Post G W rel' sh N ρ σ H r Q := by
  cases r with
  | ok d ρ1 => exact fun sh1 N1 x H1 rp1 kp1 hr => p sh1 N1 x H1 rp1 kp1 (h _ _ _ _ _ hr)
  | exc c fs ρ1 => exact p
  | bad => exact p
theorem tEv.weak {rel' : Rel α β} {r : AE → R α} {Q : β → Hp → Prop} (h : ∀ H N sh d v, rel' H N sh d v → rel H N sh d v) (t : tEv G W rel r σ H Q) : tEv G W rel' r σ H Q := by
  obtain ⟨sh, N, ρ, rp, p⟩ := t
  exact ⟨sh, N, ρ, rp, p.weak h⟩
theorem tEvF.v {r : AE → R D} {Q : VK} (t : tEv G W G.rv r σ H Q) : tEvF G W r σ H Q := by
  obtain ⟨sh, N, ρ, rp, p⟩ := t
  refine ⟨sh, N, ρ, rp, ?_⟩
  revert p
  cases r ρ with
  | ok d ρ1 => exact fun p sh1 N1 a H1 rp1 kp1 hn _ hr => p sh1 N1 (.ref a) H1 rp1 kp1 (by
      obtain ⟨n, ns, h⟩ := hr
      exact BorAt.rv (BorAt.mono (fun b u r hb => ⟨r, fun z => hb (.inl z)⟩) (fun _ _ e => e) (fun _ z => z) h.bor) n)
  | exc c fs ρ1 => exact fun p => p
  | bad => exact fun p => p
theorem tEv.run {r : AE → R α} {f : α → AE → R γ} {Q : δ → Hp → Prop} {T : β → Hp → Prop} (rp : G.rp sh N ρ σ H) (p : Post G W rel2 sh N ρ σ H ((r ρ).bind f) Q)
    (k : ∀ d ρ1 sh1 N1 x H1, r ρ = .ok d ρ1 → G.rp sh1 N1 ρ1 σ H1 → Kp none1 (OwnS ρ σ) (OwnS ρ1 σ) sh sh1 N N1 H H1 → rel H1 N1 sh1 d x → Post G W rel2 sh1 N1 ρ1 σ H1 (f d ρ1) Q → T x H1) : tEv G W rel r σ H T :=
  ⟨sh, N, ρ, rp, p.bind rp k⟩
theorem Cg.rb_of {d : D} {v : V} (h : G.rv H N sh d v) : G.rb H N sh d v := .inl h
/-- a borrowed value stays through an expression -/
theorem Cg.rb_mono {O O' : Ow} {sh' : List Addr} {N' : Addr → Prop} {H' : Hp} {d : D} {v : V} (h : G.rb H N sh d v) (k : Kp none1 O O' sh sh' N N' H H') (hS : ∀ a ∈ sh, N a) : G.rb H' N' sh' d v := by
  rcases h with h | ⟨a, e, n, h⟩
  · exact .inl (RV.mono h k (fun _ z => z.elim) hS)
  · obtain ⟨o, ho⟩ := h.dom
    refine .inr ⟨a, e, k.shn a o ho n, BorAt.mono (k.rd (fun _ z => z.elim) hS) (fun n a e => pre_get k.pre e) (fun u hu => ?_) h⟩
    rcases hu with hu | ⟨q, hu⟩
    · exact .inl (k.keep a _ hu n id)
    · exact .inr ⟨q, k.keep a _ hu n id⟩
theorem Cg.rv_mono {O O' : Ow} {sh' : List Addr} {N' : Addr → Prop} {H' : Hp} {d : D} {v : V} (h : G.rv H N sh d v) (k : Kp none1 O O' sh sh' N N' H H') (hS : ∀ a ∈ sh, N a) : G.rv H' N' sh' d v := RV.mono h k (fun _ z => z.elim) hS
/-- a new thing, given away -/
theorem Cg.rf_rv {d : D} {a : Addr} (h : G.rf H N sh d a) : G.rv H N sh d (.ref a) := by
  obtain ⟨n, ns, h⟩ := h
  refine BorAt.rv (BorAt.mono (fun b u r hb => ⟨r, fun z => hb (.inl z)⟩) (fun _ _ e => e) (fun _ z => z) h.bor) n
end

/-! ### readings, weakened -/
theorem PE.imp {X : Cx} {e : Expr} {t t' : TE} (h : PE X e t) (i : ∀ σ H Q, t' σ H Q → t σ H Q) : PE X e t' := ⟨fun pins s σ H Q I q => h.run pins s σ H Q I (i σ H Q q)⟩
theorem PT.imp {X : Cx} {e : Expr} {t t' : TT} (h : PT X e t) (i : ∀ σ H Q, t' σ H Q → t σ H Q) : PT X e t' := ⟨fun pins s σ H Q I q => h.run pins s σ H Q I (i σ H Q q)⟩
theorem PW.imp {X : Cx} {e : Expr} {t t' : TT} (h : PW X e t) (i : ∀ σ H Q, t' σ H Q → t σ H Q) : PW X e t' := ⟨fun wh pins s σ H Q I q => h.run wh pins s σ H Q I (i σ H Q q)⟩
theorem PA.imp {X : Cx} {es : List Expr} {t t' : TA} (h : PA X es t) (i : ∀ σ H Q, t' σ H Q → t σ H Q) : PA X es t' := ⟨fun pos pins s σ H Q I q => h.run pos pins s σ H Q I (i σ H Q q)⟩
theorem PS.imp {X : Cx} {st : Stmt} {t t' : TS} (h : PS X st t) (i : ∀ D σ H, t' D σ H → t D σ H) : PS X st t' := ⟨fun pins s σ H D I q => h.run pins s σ H D I (i D σ H q)⟩
theorem PSs.imp {X : Cx} {st : List Stmt} {t t' : TS} (h : PSs X st t) (i : ∀ D σ H, t' D σ H → t D σ H) : PSs X st t' := ⟨fun pins s σ H D I q => h.run pins s σ H D I (i D σ H q)⟩

/-! ### what an operation on values gives -/
section
variable (G : Cg)
/-- of values x (borrowed perhaps) the value d comes -/
def rA1 (f : D → Option D) : V → Hp → VK → Prop := fun x H Q => ∃ sh N dx d, (∀ a, N a → ∃ o, H a = some o) ∧ G.rb H N sh dx x ∧ f dx = some d ∧ ∀ v H', (∀ a o, H a = some o → H' a = some o) → G.rv H' N sh d v → Q v H'
def rA2 (f : D → D → Option D) : R2 := fun x y H Q => ∃ sh N dx dy d, (∀ a, N a → ∃ o, H a = some o) ∧ G.rb H N sh dx x ∧ G.rb H N sh dy y ∧ f dx dy = some d ∧ ∀ v H', (∀ a o, H a = some o → H' a = some o) → G.rv H' N sh d v → Q v H'
inductive Rbs (H : Hp) (N : Addr → Prop) (sh : List Addr) : List D → List V → Prop
  | nil : Rbs H N sh [] []
  | cons {d ds v vs} : G.rb H N sh d v → Rbs H N sh ds vs → Rbs H N sh (d :: ds) (v :: vs)
abbrev Cg.rbs : Rel (List D) (List V) := Rbs G
def rAn (f : List D → Option D) : List V → Hp → VK → Prop := fun xs H Q => ∃ sh N ds d, (∀ a, N a → ∃ o, H a = some o) ∧ Rbs G H N sh ds xs ∧ f ds = some d ∧ ∀ v H', (∀ a o, H a = some o → H' a = some o) → G.rv H' N sh d v → Q v H'
/-- .. a new list or dict -/
def rF2 (f : D → D → Option D) : R2 := fun x y H Q => ∃ sh N dx dy d, (∀ a, N a → ∃ o, H a = some o) ∧ (∀ a ∈ sh, N a) ∧ G.rb H N sh dx x ∧ G.rb H N sh dy y ∧ f dx dy = some d ∧ ∀ a H', (∀ a o, H a = some o → H' a = some o) → H a = none → G.rf H' N sh d a → Q (.ref a) H'
def rFn (f : List D → Option D) : List V → Hp → VK → Prop := fun xs H Q => ∃ sh N ds d, (∀ a, N a → ∃ o, H a = some o) ∧ (∀ a ∈ sh, N a) ∧ Rbs G H N sh ds xs ∧ f ds = some d ∧ ∀ a H', (∀ a o, H a = some o → H' a = some o) → H a = none → G.rf H' N sh d a → Q (.ref a) H'
end

/-! ### computations -/
def ofO {α : Type} (o : Option α) (ρ : AE) : R α := match o with
  | some d => .ok d ρ
  | none => .bad
def rOp1 (f : D → Option D) (ra : AE → R D) : AE → R D := fun ρ => (ra ρ).bind fun x ρ1 => ofO (f x) ρ1
def rOp2 (f : D → D → Option D) (ra rb : AE → R D) : AE → R D := fun ρ => (ra ρ).bind fun x ρ1 => (rb ρ1).bind fun y ρ2 => ofO (f x y) ρ2
def rNil : AE → R (List D) := fun ρ => .ok [] ρ
def rCons (ra : AE → R D) (rs : AE → R (List D)) : AE → R (List D) := fun ρ => (ra ρ).bind fun x ρ1 => (rs ρ1).bind fun xs ρ2 => .ok (x :: xs) ρ2
def rOpn (f : List D → Option D) (rs : AE → R (List D)) : AE → R D := fun ρ => (rs ρ).bind fun xs ρ1 => ofO (f xs) ρ1

section
variable {G : Cg} {W : WX} {X : Cx} {a b e : Expr} {es : List Expr} {pos : Pos} {ra rb : AE → R D} {rs : AE → R (List D)} {f : D → D → Option D} {g : D → Option D} {gn : List D → Option D}
variable {sh : List Addr} {N : Addr → Prop} {ρ : AE} {σ : Sg} {H : Hp}
theorem post_ofO {o : Option D} {Q : VK} (p : Post G W G.rv sh N ρ σ H (ofO o ρ) Q) (rp : G.rp sh N ρ σ H) : ∃ d, o = some d ∧ ∀ v H', (∀ a o, H a = some o → H' a = some o) → G.rv H' N sh d v → Q v H' := by
  cases o with
  | none => exact p.elim
  | some d => exact ⟨d, rfl, fun v H' hk h => Post.ret' p rp hk h⟩
theorem post_ofF {o : Option D} {Q : VK} (p : PostF G W sh N ρ σ H (ofO o ρ) Q) (rp : G.rp sh N ρ σ H) : ∃ d, o = some d ∧ ∀ a H', (∀ a o, H a = some o → H' a = some o) → H a = none → G.rf H' N sh d a → Q (.ref a) H' := by
  cases o with
  | none => exact p.elim
  | some d => exact ⟨d, rfl, fun v H' hk hn h => PostF.ret' p rp hk hn h⟩
theorem read2 {Q : VK} (t : tEv G W G.rv (rOp2 f ra rb) σ H Q) : tOp (rA2 G f) (tEv G W G.rb ra) (tEv G W G.rb rb) σ H Q := by
  obtain ⟨sh, N, ρ, rp, p⟩ := t
  refine tEv.run rp p fun dx ρ1 sh1 N1 x H1 _ rp1 k1 hx p1 => tEv.run rp1 p1 fun dy ρ2 sh2 N2 y H2 _ rp2 k2 hy p2 => ?_
  obtain ⟨d, e, q⟩ := post_ofO p2 rp2
  exact ⟨sh2, N2, dx, dy, d, rp2.dom, Cg.rb_mono hx k2 rp1.shN, hy, e, q⟩
theorem readF2 {Q : VK} (t : tEvF G W (rOp2 f ra rb) σ H Q) : tOp (rF2 G f) (tEv G W G.rb ra) (tEv G W G.rb rb) σ H Q := by
  obtain ⟨sh, N, ρ, rp, p⟩ := t
  refine tEv.runF rp p fun dx ρ1 sh1 N1 x H1 _ rp1 k1 hx p1 => tEv.runF rp1 p1 fun dy ρ2 sh2 N2 y H2 _ rp2 k2 hy p2 => ?_
  obtain ⟨d, e, q⟩ := post_ofF p2 rp2
  exact ⟨sh2, N2, dx, dy, d, rp2.dom, rp2.shN, Cg.rb_mono hx k2 rp1.shN, hy, e, q⟩
theorem read1 {Q : VK} (t : tEv G W G.rv (rOp1 g ra) σ H Q) : tUn (rA1 G g) (tEv G W G.rb ra) σ H Q := by
  obtain ⟨sh, N, ρ, rp, p⟩ := t
  refine tEv.run rp p fun dx ρ1 sh1 N1 x H1 _ rp1 k1 hx p1 => ?_
  obtain ⟨d, e, q⟩ := post_ofO p1 rp1
  exact ⟨sh1, N1, dx, d, rp1.dom, hx, e, q⟩
theorem readn {Q : VK} (t : tEv G W G.rv (rOpn gn rs) σ H Q) : tCB (rAn G gn) (tEv G W G.rbs rs) σ H Q := by
  obtain ⟨sh, N, ρ, rp, p⟩ := t
  refine tEv.run rp p fun ds ρ1 sh1 N1 x H1 _ rp1 k1 hx p1 => ?_
  obtain ⟨d, e, q⟩ := post_ofO p1 rp1
  exact ⟨sh1, N1, ds, d, rp1.dom, hx, e, q⟩
theorem readFn {Q : VK} (t : tEvF G W (rOpn gn rs) σ H Q) : tCB (rFn G gn) (tEv G W G.rbs rs) σ H Q := by
  obtain ⟨sh, N, ρ, rp, p⟩ := t
  refine tEv.runF rp p fun ds ρ1 sh1 N1 x H1 _ rp1 k1 hx p1 => ?_
  obtain ⟨d, e, q⟩ := post_ofF p1 rp1
  exact ⟨sh1, N1, ds, d, rp1.dom, rp1.shN, hx, e, q⟩

theorem Rbs.mono {O O' : Ow} {sh' : List Addr} {N' : Addr → Prop} {H' : Hp} (k : Kp none1 O O' sh sh' N N' H H') (hS : ∀ a ∈ sh, N a) : ∀ {ds : List D} {vs : List V}, Rbs G H N sh ds vs → Rbs G H' N' sh' ds vs
  | _, _, .nil => .nil
  | _, _, .cons h t => .cons (Cg.rb_mono h k hS) (Rbs.mono k hS t)
theorem Rbs.of_rvs : ∀ {ds : List D} {vs : List V}, G.rvs H N sh ds vs → Rbs G H N sh ds vs
  | [], vs, h => by rw [RVs.nil_iff.mp h]; exact .nil
  | d :: ds, vs, h => by
    obtain ⟨v, r, rfl, h1, h2⟩ := RVs.inv h
    exact .cons (.inl h1) (Rbs.of_rvs h2)
/-- argument lists, whose items may be borrowed -/
theorem pa_nilB : PA X [] (tEv G W G.rbs rNil) := PA.imp pa_nil fun σ H Q t => by
  obtain ⟨sh, N, ρ, rp, p⟩ := t
  exact Post.ret p rp .nil
theorem pa_consB (ha : PE X e (tEv G W G.rb ra)) (hr : PA X es (tEv G W G.rbs rs)) (hs : starEach (e :: es) X.env = (false, eval e X.env) :: starEach es X.env) : PA X (e :: es) (tEv G W G.rbs (rCons ra rs)) :=
  PA.imp (pa_cons ha hr hs) fun σ H Q t => by
    obtain ⟨sh, N, ρ, rp, p⟩ := t
    refine tEv.run rp p fun dx ρ1 sh1 N1 x H1 _ rp1 k1 hx p1 => tEv.run rp1 p1 fun dy ρ2 sh2 N2 y H2 _ rp2 k2 hy p2 => ?_
    exact Post.ret p2 rp2 (.cons (Cg.rb_mono hx k2 rp1.shN) hy)
/-- .. may not -/
theorem pa_nilV : PA X [] (tEv G W G.rvs rNil) := PA.imp pa_nil fun σ H Q t => by
  obtain ⟨sh, N, ρ, rp, p⟩ := t
  exact Post.ret p rp .nil
theorem pa_consV (ha : PE X e (tEv G W G.rv ra)) (hr : PA X es (tEv G W G.rvs rs)) (hs : starEach (e :: es) X.env = (false, eval e X.env) :: starEach es X.env) : PA X (e :: es) (tEv G W G.rvs (rCons ra rs)) :=
  PA.imp (pa_cons ha hr hs) fun σ H Q t => by
    obtain ⟨sh, N, ρ, rp, p⟩ := t
    refine tEv.run rp p fun dx ρ1 sh1 N1 x H1 _ rp1 k1 hx p1 => tEv.run rp1 p1 fun dy ρ2 sh2 N2 y H2 _ rp2 k2 hy p2 => ?_
    exact Post.ret p2 rp2 (.cons (Cg.rv_mono hx k2 rp1.shN) hy)
end
end Mi

namespace Mi
open PySem PySem.Spec PyProof.Rows L2

/-! ### syntax -/
def isStar : Expr → Bool | .Starred .. => true | _ => false
theorem star_of {e : Expr} {es : List Expr} {env : PySem.Env} (h : isStar e = false) : starEach (e :: es) env = (false, eval e env) :: starEach es env := by
  cases e <;> first | rfl | (simp [isStar] at h)

/-! ### names -/
def rVar (i : Nat) : AE → R D := fun ρ => match ρ.sl[i]? with
  | some (.val d) => .ok d ρ
  | some (.own d) => .ok d { ρ with sl := ρ.sl.set i (.val d) }
  | _ => .bad
def rVarB (i : Nat) : AE → R D := fun ρ => match ρ.sl[i]? with
  | some (.val d) => .ok d ρ
  | some (.own d) => .ok d ρ
  | some (.bor d) => .ok d ρ
  | _ => .bad
def rC (d : D) : AE → R D := fun ρ => .ok d ρ
def flatD : D → Bool
  | .non | .bl _ | .int _ => true
  | _ => false

section
variable {G : Cg} {W : WX} {X : Cx} {a b c e : Expr} {es : List Expr} {pos : Pos} {ra rb rc : AE → R D} {rs : AE → R (List D)}
variable {sh : List Addr} {N : Addr → Prop} {ρ : AE} {σ : Sg} {H : Hp}
theorem Rp.borrow {i : Nat} {d : D} (rp : G.rp sh N ρ σ H) (h : ρ.sl[i]? = some (.val d) ∨ ρ.sl[i]? = some (.own d) ∨ ρ.sl[i]? = some (.bor d)) : ∃ v, σ[i]? = some (some v) ∧ G.rb H N sh d v := by
  rcases h with h | h | h
  · obtain ⟨v, h1, h2⟩ := rp.val i d h
    exact ⟨v, h1, .inl h2⟩
  · obtain ⟨a, h1, h2, h3, h4⟩ := rp.own i d h
    exact ⟨_, h1, .inr ⟨a, rfl, h3, h4.bor⟩⟩
  · obtain ⟨a, h1, h2, h3, h4⟩ := rp.bor i d h
    exact ⟨_, h1, .inr ⟨a, rfl, h3, h4.bor⟩⟩
theorem pe_varB {i : Nat} {x : Str} (hN : X.N[i]? = some x) (hv : Vis X.env.scope x) (hd : (x == ("__debug__" : Str)) = false) (hcd : (x == ("__classdict__" : Str)) = false) : PE X (.Name x pos) (tEv G W G.rb (rVarB i)) :=
  PE.imp (pe_var hN hv hd hcd) fun σ H Q t => by
    obtain ⟨sh, N, ρ, rp, p⟩ := t
    have key : ∀ d, (ρ.sl[i]? = some (.val d) ∨ ρ.sl[i]? = some (.own d) ∨ ρ.sl[i]? = some (.bor d)) → rVarB i ρ = .ok d ρ → tVar i σ H Q := fun d h e => by
      obtain ⟨v, h1, h2⟩ := Rp.borrow rp h
      rw [e] at p
      exact ⟨v, h1, Post.ret p rp h2⟩
    cases q : ρ.sl[i]? with
    | none => rw [rVarB, q] at p; exact p.elim
    | some s =>
      cases s with
      | none => rw [rVarB, q] at p; exact p.elim
      | val d => exact key d (.inl q) (by rw [rVarB, q])
      | own d => exact key d (.inr (.inl q)) (by rw [rVarB, q])
      | bor d => exact key d (.inr (.inr q)) (by rw [rVarB, q])
/-- an owned thing is given away -/
theorem Rp.escape {i : Nat} {d : D} {a : Addr} (rp : G.rp sh N ρ σ H) (h : ρ.sl[i]? = some (.own d)) (hs : σ[i]? = some (some (.ref a))) :
    G.rp sh (fun b => N b ∧ b ≠ a) { ρ with sl := ρ.sl.set i (.val d) } σ H ∧ Kp none1 (OwnS ρ σ) (OwnS { ρ with sl := ρ.sl.set i (.val d) } σ) sh sh N (fun b => N b ∧ b ≠ a) H H ∧ G.rv H (fun b => N b ∧ b ≠ a) sh d (.ref a) := by
  obtain ⟨a', h1, h2, h3, h4⟩ := rp.own i d h
  rw [hs] at h1; cases h1
  have hi : i < ρ.sl.length := (List.getElem?_eq_some_iff.mp h).1
  have hk : ∀ b u, Rd H b u → ¬ N b → Rd H b u ∧ ¬ (N b ∧ b ≠ a) := fun b u r n => ⟨r, fun z => n z.1⟩
  have hsame : ∀ (n : Nat) (b : Addr), sh[n]? = some b → sh[n]? = some b := fun _ _ e => e
  have hrv : G.rv H (fun b => N b ∧ b ≠ a) sh d (.ref a) := BorAt.rv (BorAt.mono hk hsame (fun _ z => z) h4.bor) fun z => z.2 rfl
  have get : ∀ (j : Nat) s, j ≠ i → (ρ.sl.set i (.val d))[j]? = some s → ρ.sl[j]? = some s := fun j s hj e => by rw [List.getElem?_set_ne (Ne.symm hj)] at e; exact e
  have oo : ∀ b, OwnS { ρ with sl := ρ.sl.set i (.val d) } σ b → OwnS ρ σ b := fun b ⟨j, e, g1, g2⟩ => by
    by_cases hj : j = i
    · subst hj
      rw [List.getElem?_set_self hi] at g1; cases g1
    · exact ⟨j, e, get j _ hj g1, g2⟩
  refine ⟨⟨by simpa using rp.len, fun j e g => ?_, fun j e g => ?_, fun j e g => ?_, fun j k e f b g1 g2 g3 g4 g5 g6 => ?_, fun b z => rp.dom b z.1, rp.nd, fun b hb => ⟨rp.shN b hb, fun z => h3 (z ▸ hb)⟩, rp.shl, fun n ob b e1 e2 => ?_⟩,
    ⟨fun _ _ e _ _ => e, fun _ _ _ n => n, fun _ _ _ n z => n z.1, fun b _ _ n z => n (oo b z), List.prefix_rfl, fun _ o e => ⟨o, e⟩, fun j b ⟨e, g1, g2⟩ => ⟨e, by
      have hj : i ≠ j := fun z => by subst z; rw [h] at g1; cases g1
      show (ρ.sl.set i (.val d))[j]? = _
      rw [List.getElem?_set_ne hj]; exact g1, g2⟩, fun b _ _ n no => ⟨n, fun z => no (z ▸ ⟨i, d, h, hs⟩)⟩, fun b _ _ _ hb j ⟨e, g1, g2⟩ => by
      by_cases hj : j = i
      · subst hj
        have g1' : (ρ.sl.set j (.val d))[j]? = some (.bor e) := g1
        rw [List.getElem?_set_self hi] at g1'; cases g1'
      · exact hb j ⟨e, get j _ hj g1, g2⟩⟩, hrv⟩
  · by_cases hj : j = i
    · subst hj
      have g' : (ρ.sl.set j (.val d))[j]? = some (.val e) := g
      rw [List.getElem?_set_self hi] at g'; cases g'
      exact ⟨_, hs, hrv⟩
    · obtain ⟨v, q1, q2⟩ := rp.val j e (get j _ hj g)
      exact ⟨v, q1, RV.mono' hk hsame _ _ q2⟩
  · by_cases hj : j = i
    · subst hj
      have g' : (ρ.sl.set j (.val d))[j]? = some (.own e) := g
      rw [List.getElem?_set_self hi] at g'; cases g'
    · obtain ⟨b, q1, q2, q3, q4⟩ := rp.own j e (get j _ hj g)
      exact ⟨b, q1, ⟨q2, fun z => hj (rp.dis j i _ _ a (get j _ hj g) h rfl rfl (z ▸ q1) hs)⟩, q3, OwnAt.mono hk hsame (fun _ z => z) q4⟩
  · by_cases hj : j = i
    · subst hj
      have g' : (ρ.sl.set j (.val d))[j]? = some (.bor e) := g
      rw [List.getElem?_set_self hi] at g'; cases g'
    · obtain ⟨b, q1, q2, q3, q4⟩ := rp.bor j e (get j _ hj g)
      exact ⟨b, q1, ⟨q2, fun z => hj (rp.dis j i _ _ a (get j _ hj g) h rfl rfl (z ▸ q1) hs)⟩, q3, OwnAt.mono hk hsame (fun _ z => z) q4⟩
  · have n1 : ∀ (j : Nat) (e : Sl), (ρ.sl.set i (.val d))[j]? = some e → mutS e = true → ρ.sl[j]? = some e := fun j e g m => by
      by_cases hj : j = i
      · subst hj
        rw [List.getElem?_set_self hi] at g; cases g; cases m
      · exact get j _ hj g
    exact rp.dis j k e f b (n1 j e g1 g3) (n1 k f g2 g4) g3 g4 g5 g6
  · exact ObAt.mono hk hsame (fun _ z => z) (rp.obs n ob b e1 e2)
theorem pe_varV {i : Nat} {x : Str} (hN : X.N[i]? = some x) (hv : Vis X.env.scope x) (hd : (x == ("__debug__" : Str)) = false) (hcd : (x == ("__classdict__" : Str)) = false) : PE X (.Name x pos) (tEv G W G.rv (rVar i)) :=
  PE.imp (pe_var hN hv hd hcd) fun σ H Q t => by
    obtain ⟨sh, N, ρ, rp, p⟩ := t
    cases q : ρ.sl[i]? with
    | none => rw [rVar, q] at p; exact p.elim
    | some s =>
      cases s with
      | none => rw [rVar, q] at p; exact p.elim
      | val d =>
        obtain ⟨v, h1, h2⟩ := rp.val i d q
        rw [rVar, q] at p
        exact ⟨v, h1, Post.ret p rp h2⟩
      | own d =>
        obtain ⟨a, h1, _⟩ := rp.own i d q
        obtain ⟨r1, r2, r3⟩ := rp.escape q h1
        rw [rVar, q] at p
        exact ⟨_, h1, p sh _ _ H r1 r2 r3⟩
      | bor d => rw [rVar, q] at p; exact p.elim
theorem peB {r : AE → R D} (h : PE X e (tEv G W G.rv r)) : PE X e (tEv G W G.rb r) := PE.imp h fun _ _ _ t => tEv.weak (fun _ _ _ _ _ => Cg.rb_of) t
theorem peV {r : AE → R D} (h : PE X e (tEvF G W r)) : PE X e (tEv G W G.rv r) := PE.imp h fun _ _ _ t => tEvF.v t

/-! ### constants -/
theorem pe_cst {d : D} {v : V} (h : PE X e (tC v)) (hv : ∀ H N sh, G.rv H N sh d v) : PE X e (tEv G W G.rv (rC d)) := PE.imp h fun σ H Q t => by
  obtain ⟨sh, N, ρ, rp, p⟩ := t
  exact Post.ret p rp (hv _ _ _)
theorem pe_intV {i : Int} {j : Nat} : PE X (.Constant (.int i) j pos) (tEv G W G.rv (rC (.int i))) := pe_cst pe_int fun _ _ _ => by simp only [Cg.rv, RV]
theorem pe_blV {i : Bool} {j : Nat} : PE X (.Constant (.bool i) j pos) (tEv G W G.rv (rC (.bl i))) := pe_cst pe_bl fun _ _ _ => by simp only [Cg.rv, RV]
theorem pe_nonV {j : Nat} : PE X (.Constant .none j pos) (tEv G W G.rv (rC .non)) := pe_cst pe_non fun _ _ _ => by simp only [Cg.rv, RV]
theorem pe_strV {s : Str} {j : Nat} (h : okS s) : PE X (.Constant (.str s) j pos) (tEv G W G.rv (rC (.str s))) := pe_cst pe_str fun _ _ _ => by rw [Cg.rv, RV]; exact ⟨rfl, h⟩

/-! ### operators, comparisons -/
theorem pe_op2 {op : Operator} {f : D → D → Option D} (ho : OpR X (binaryOp op) (rA2 G f)) (ha : PE X a (tEv G W G.rb ra)) (hb : PE X b (tEv G W G.rb rb)) : PE X (.BinOp a op b pos) (tEv G W G.rv (rOp2 f ra rb)) :=
  PE.imp (pe_op ho ha hb) fun _ _ _ t => read2 t
theorem pe_opF {op : Operator} {f : D → D → Option D} (ho : OpR X (binaryOp op) (rF2 G f)) (ha : PE X a (tEv G W G.rb ra)) (hb : PE X b (tEv G W G.rb rb)) : PE X (.BinOp a op b pos) (tEvF G W (rOp2 f ra rb)) :=
  PE.imp (pe_op ho ha hb) fun _ _ _ t => readF2 t
theorem pe_op1 {op : UnaryOp} {f : D → Option D} (ho : UnR X (unaryOp op) (rA1 G f)) (ha : PE X a (tEv G W G.rb ra)) : PE X (.UnaryOp op a pos) (tEv G W G.rv (rOp1 f ra)) :=
  PE.imp (pe_un ho ha) fun _ _ _ t => read1 t
theorem pe_cmp2 {op : CmpOp} {f : D → D → Option D} (ho : OpR X (compareOp op) (rA2 G f)) (ha : PE X a (tEv G W G.rb ra)) (hb : PE X b (tEv G W G.rb rb)) (hm : behindInMarks op b = false) : PE X (.Compare a [op] [b] pos) (tEv G W G.rv (rOp2 f ra rb)) :=
  PE.imp (pe_cmpR ho ha hb hm) fun _ _ _ t => read2 t
/-- a test: the value's truth -/
def dTru : D → Option Bool
  | .non => some false
  | .bl b => some b
  | .int i => some (i != 0)
  | .str s => some ((s.length : Int) != 0)
  | .tup l => some (!l.isEmpty)
  | .lst l => some (!l.isEmpty)
  | _ => none
def dBl : D → Option Bool
  | .bl b => some b
  | _ => none
def rTv (f : D → Option Bool) (ra : AE → R D) : AE → R Bool := fun ρ => (ra ρ).bind fun d ρ1 => match f d with
  | some b => .ok b ρ1
  | none => .bad
theorem tru_rb {d : D} {v : V} {k : Bool} (h : G.rb H N sh d v) (e : dTru d = some k) : TruV G.K v H k := by
  rcases h with h | ⟨a, rfl, n, h⟩
  · cases d with
    | non => simp only [Cg.rv, RV] at h; subst h; cases e; rfl
    | bl b => simp only [Cg.rv, RV] at h; subst h; cases e; rfl
    | int i => simp only [Cg.rv, RV] at h; subst h; cases e; rfl
    | str s => simp only [Cg.rv, RV] at h; obtain ⟨rfl, h⟩ := h; cases e; exact ⟨h.2, rfl⟩
    | tup l =>
      simp only [Cg.rv, RV] at h; obtain ⟨a, vs, rfl, t, r⟩ := h; cases e
      refine .inr (.inl ⟨vs, t.sq, ?_⟩)
      have := RVs.length r
      cases l <;> cases vs <;> simp_all
    | lst l =>
      simp only [Cg.rv, RV] at h; obtain ⟨a, vs, rfl, t, r⟩ := h; cases e
      refine .inl ⟨vs, t.sq, ?_⟩
      have := RVs.length r
      cases l <;> cases vs <;> simp_all
    | _ => cases e
  · cases d with
    | lst l =>
      obtain ⟨vs, t, r⟩ := h; cases e
      refine .inl ⟨vs, .inl t, ?_⟩
      have := RVs.length r
      cases l <;> cases vs <;> simp_all
    | tup l => exact h.elim
    | non => exact h.elim
    | bl _ => exact h.elim
    | int _ => exact h.elim
    | str _ => exact h.elim
    | _ => cases e
theorem pt_tru (hK : X.K = G.K) (ha : PE X a (tEv G W G.rb ra)) (he : ∀ whole, isTrue a X.env whole = (do let v ← whole; standAt a.pos; holding [v] (truthy v))) : PT X a (tEv G W rl (rTv dTru ra)) :=
  PT.imp (pt_truth ha he) fun σ H Q t => by
    obtain ⟨sh, N, ρ, rp, p⟩ := t
    refine tEv.run rp p fun d ρ1 sh1 N1 x H1 _ rp1 k1 hx p1 => ?_
    cases q : dTru d with
    | none => rw [q] at p1; exact p1.elim
    | some k =>
      rw [q] at p1
      exact ⟨k, by rw [hK]; exact tru_rb hx q, Post.ret p1 rp1 rfl⟩
theorem pt_cmp2 {op : CmpOp} {f : D → D → Option D} (ho : OpR X (compareOp op) (rA2 G f)) (ha : PE X a (tEv G W G.rb ra)) (hb : PE X b (tEv G W G.rb rb)) (hm : behindInMarks op b = false) : PT X (.Compare a [op] [b] pos) (tEv G W rl (rTv dBl (rOp2 f ra rb))) :=
  PT.imp (pt_cmpR ho ha hb hm) fun σ H Q t => by
    refine read2 ?_
    obtain ⟨sh, N, ρ, rp, p⟩ := t
    refine tEv.run rp p fun d ρ1 sh1 N1 x H1 _ rp1 k1 hx p1 => ?_
    cases d with
    | bl k => simp only [Cg.rv, RV] at hx; exact ⟨k, hx, Post.ret p1 rp1 rfl⟩
    | _ => exact p1.elim

/-! ### and, or, not; if else -/
def tAnd' (ta tb : AE → R Bool) : AE → R Bool := fun ρ => (ta ρ).bind fun c ρ1 => if c = true then tb ρ1 else .ok false ρ1
def tOr' (ta tb : AE → R Bool) : AE → R Bool := fun ρ => (ta ρ).bind fun c ρ1 => if c = true then .ok true ρ1 else tb ρ1
def tNot' (ta : AE → R Bool) : AE → R Bool := fun ρ => (ta ρ).bind fun c ρ1 => .ok (!c) ρ1
variable {ta tb : AE → R Bool} {rest : List Expr}
theorem pt_notA (ha : PT X a (tEv G W rl ta)) : PT X (.UnaryOp .Not a pos) (tEv G W rl (tNot' ta)) := PT.imp (pt_not ha) fun σ H Q t => by
  obtain ⟨sh, N, ρ, rp, p⟩ := t
  refine tEv.run rp p fun d ρ1 sh1 N1 x H1 _ rp1 k1 hx p1 => ?_
  cases hx
  exact Post.ret p1 rp1 rfl
theorem readAnd {Q : Bool → Hp → Prop} (t : tEv G W rl (tAnd' ta tb) σ H Q) : tAnd (tEv G W rl ta) (tEv G W rl tb) σ H Q := by
  obtain ⟨sh, N, ρ, rp, p⟩ := t
  refine tEv.run rp p fun d ρ1 sh1 N1 x H1 _ rp1 k1 hx p1 => ?_
  cases hx
  cases d with
  | true => exact ⟨_, _, _, rp1, p1⟩
  | false => exact Post.ret p1 rp1 rfl
theorem readOr {Q : Bool → Hp → Prop} (t : tEv G W rl (tOr' ta tb) σ H Q) : tOr (tEv G W rl ta) (tEv G W rl tb) σ H Q := by
  obtain ⟨sh, N, ρ, rp, p⟩ := t
  refine tEv.run rp p fun d ρ1 sh1 N1 x H1 _ rp1 k1 hx p1 => ?_
  cases hx
  cases d with
  | true => exact Post.ret p1 rp1 rfl
  | false => exact ⟨_, _, _, rp1, p1⟩
theorem pw_andA (ha : PT X a (tEv G W rl ta)) (hb : PW X (.BoolOp .And (b :: rest) pos) (tEv G W rl tb)) : PW X (.BoolOp .And (a :: b :: rest) pos) (tEv G W rl (tAnd' ta tb)) := PW.imp (pw_and ha hb) fun _ _ _ => readAnd
theorem pw_orA (ha : PT X a (tEv G W rl ta)) (hb : PW X (.BoolOp .Or (b :: rest) pos) (tEv G W rl tb)) : PW X (.BoolOp .Or (a :: b :: rest) pos) (tEv G W rl (tOr' ta tb)) := PW.imp (pw_or ha hb) fun _ _ _ => readOr
/-- as values: x and y is x where x is false -/
def rAnd (ra rb : AE → R D) : AE → R D := fun ρ => (ra ρ).bind fun d ρ1 => match dTru d with
  | some true => rb ρ1
  | some false => .ok d ρ1
  | none => .bad
def rOr (ra rb : AE → R D) : AE → R D := fun ρ => (ra ρ).bind fun d ρ1 => match dTru d with
  | some true => .ok d ρ1
  | some false => rb ρ1
  | none => .bad
def rNotV (ra : AE → R D) : AE → R D := fun ρ => (ra ρ).bind fun d ρ1 => match dTru d with
  | some k => .ok (.bl (!k)) ρ1
  | none => .bad
theorem pe_andA (hK : X.K = G.K) (ha : PE X a (tEv G W G.rv ra)) (hb : PE X (.BoolOp .And (b :: rest) pos) (tEv G W G.rv rb)) : PE X (.BoolOp .And (a :: b :: rest) pos) (tEv G W G.rv (rAnd ra rb)) :=
  PE.imp (pe_andT ha hb) fun σ H Q t => by
    obtain ⟨sh, N, ρ, rp, p⟩ := t
    refine tEv.run rp p fun d ρ1 sh1 N1 x H1 _ rp1 k1 hx p1 => ?_
    cases q : dTru d with
    | none => rw [q] at p1; exact p1.elim
    | some k =>
      rw [q] at p1
      refine ⟨k, by rw [hK]; exact tru_rb (.inl hx) q, ?_⟩
      cases k with
      | true => exact ⟨_, _, _, rp1, p1⟩
      | false => exact Post.ret p1 rp1 hx
theorem pe_orA (hK : X.K = G.K) (ha : PE X a (tEv G W G.rv ra)) (hb : PE X (.BoolOp .Or (b :: rest) pos) (tEv G W G.rv rb)) : PE X (.BoolOp .Or (a :: b :: rest) pos) (tEv G W G.rv (rOr ra rb)) :=
  PE.imp (pe_orT ha hb) fun σ H Q t => by
    obtain ⟨sh, N, ρ, rp, p⟩ := t
    refine tEv.run rp p fun d ρ1 sh1 N1 x H1 _ rp1 k1 hx p1 => ?_
    cases q : dTru d with
    | none => rw [q] at p1; exact p1.elim
    | some k =>
      rw [q] at p1
      refine ⟨k, by rw [hK]; exact tru_rb (.inl hx) q, ?_⟩
      cases k with
      | true => exact Post.ret p1 rp1 hx
      | false => exact ⟨_, _, _, rp1, p1⟩
theorem pe_notA (hK : X.K = G.K) (ha : PE X a (tEv G W G.rb ra)) : PE X (.UnaryOp .Not a pos) (tEv G W G.rv (rNotV ra)) :=
  PE.imp (pe_notT ha) fun σ H Q t => by
    obtain ⟨sh, N, ρ, rp, p⟩ := t
    refine tEv.run rp p fun d ρ1 sh1 N1 x H1 _ rp1 k1 hx p1 => ?_
    cases q : dTru d with
    | none => rw [q] at p1; exact p1.elim
    | some k =>
      rw [q] at p1
      exact ⟨k, by rw [hK]; exact tru_rb hx q, Post.ret p1 rp1 (by simp only [Cg.rv, RV])⟩
def rIte (t : AE → R Bool) (ra rb : AE → R D) : AE → R D := fun ρ => (t ρ).bind fun c ρ1 => if c = true then ra ρ1 else rb ρ1
theorem pe_iteA (hc : PT X c (tEv G W rl ta)) (ha : PE X a (tEv G W G.rv ra)) (hb : PE X b (tEv G W G.rv rb)) : PE X (.IfExp c a b pos) (tEv G W G.rv (rIte ta ra rb)) :=
  PE.imp (pe_ifExp hc ha hb) fun σ H Q t => by
    obtain ⟨sh, N, ρ, rp, p⟩ := t
    refine tEv.run rp p fun d ρ1 sh1 N1 x H1 _ rp1 k1 hx p1 => ?_
    cases hx
    cases d with
    | true => exact ⟨_, _, _, rp1, p1⟩
    | false => exact ⟨_, _, _, rp1, p1⟩

/-! ### displays -/
/-- the longest display, slice, sum of lists -/
def many : Nat := 1000000
theorem many_le {n : Nat} (h : n ≤ many) : n ≤ sizeLine := Nat.le_trans h (by rw [sizeLine_eq]; decide)
def rTup (rs : AE → R (List D)) : AE → R D := fun ρ => (rs ρ).bind fun l ρ1 => if l.length ≤ many then .ok (.tup l) ρ1 else .bad
def rLst (rs : AE → R (List D)) : AE → R D := fun ρ => (rs ρ).bind fun l ρ1 => if l.length ≤ many then .ok (.lst l) ρ1 else .bad
theorem nofree (rp : G.rp sh N ρ σ H) {p : Addr} (h : H p = none) : ¬ N p := fun z => by
  obtain ⟨o, e⟩ := rp.dom p z
  rw [h] at e; cases e
theorem grows {p : Addr} {o : HO} (h : H p = none) : ∀ a u, H a = some u → upd H p o a = some u := fun a u e => by rw [upd_ne (ne_of_none e h)]; exact e
theorem rdgrows {p : Addr} {o : HO} (h : H p = none) : ∀ a u, Rd H a u → Rd (upd H p o) a u := fun a u e => by
  rcases e with e | ⟨q, e⟩
  · exact .inl (grows h _ _ e)
  · exact .inr ⟨q, grows h _ _ e⟩
theorem rvs_grow {p : Addr} {o : HO} {l : List D} {vs : List V} (h : H p = none) (r : G.rvs H N sh l vs) : G.rvs (upd H p o) N sh l vs := RVs.mono' (fun a u e n => ⟨rdgrows h a u e, n⟩) (fun _ _ e => e) _ _ r
theorem rvs_grow' {p : Addr} {o : HO} {l : List D} {vs : List V} (h : H p = none) (r : G.rvs H N sh l vs) : G.rvs (upd H p o) (fun b => N b ∨ b = p) sh l vs :=
  RVs.mono' (fun a u e n => ⟨rdgrows h a u e, fun z => z.elim n fun q => by subst q; obtain ⟨o', e'⟩ := Rd.dom' e; rw [h] at e'; cases e'⟩) (fun _ _ e => e) _ _ r
theorem rv_grow {p : Addr} {o : HO} {d : D} {v : V} (h : H p = none) (r : G.rv H N sh d v) : G.rv (upd H p o) N sh d v := RV.mono' (fun a u e n => ⟨rdgrows h a u e, n⟩) (fun _ _ e => e) _ _ r
theorem rv_newtup {p : Addr} {l : List D} {vs : List V} (h : H p = none) (n : ¬ N p) (r : G.rvs H N sh l vs) : G.rv (upd H p (.tup vs)) N sh (.tup l) (.ref p) := by
  simp only [Cg.rv, RV]
  exact ⟨p, vs, rfl, .inl ⟨.inl upd_same, n⟩, rvs_grow h r⟩
theorem rf_newlst {p : Addr} {l : List D} {vs : List V} (h : H p = none) (n : ¬ N p) (ns : p ∉ sh) (r : G.rvs H N sh l vs) : G.rf (upd H p (.lst vs)) N sh (.lst l) p :=
  ⟨n, ns, vs, upd_same, rvs_grow' h r⟩
theorem pe_tupA {k : Nat} (h : PA X es (tEv G W G.rvs rs)) : PE X (.Tuple es k pos) (tEv G W G.rv (rTup rs)) := PE.imp (pe_tup h) fun σ H Q t => by
  obtain ⟨sh, N, ρ, rp, p⟩ := t
  refine tEv.run rp p fun d ρ1 sh1 N1 x H1 _ rp1 k1 hx p1 => ?_
  by_cases hl : d.length ≤ many
  · rw [if_pos hl] at p1
    exact ⟨by rw [← RVs.length hx]; exact many_le hl, fun q hq => Post.ret' p1 rp1 (grows hq) (rv_newtup hq (nofree rp1 hq) hx)⟩
  · rw [if_neg hl] at p1; exact p1.elim
theorem pe_lstA (h : PA X es (tEv G W G.rvs rs)) : PE X (.List es pos) (tEvF G W (rLst rs)) := PE.imp (pe_lst h) fun σ H Q t => by
  obtain ⟨sh, N, ρ, rp, p⟩ := t
  refine tEv.runF rp p fun d ρ1 sh1 N1 x H1 _ rp1 k1 hx p1 => ?_
  by_cases hl : d.length ≤ many
  · rw [if_pos hl] at p1
    exact ⟨by rw [← RVs.length hx]; exact many_le hl, fun q hq => PostF.ret' p1 rp1 (grows hq) hq (rf_newlst hq (nofree rp1 hq) (fun z => nofree rp1 hq (rp1.shN _ z)) hx)⟩
  · rw [if_neg hl] at p1; exact p1.elim
end
end Mi

namespace Mi
open PySem PySem.Spec PyProof.Rows L2

section
variable {G : Cg} {X : Cx} {sh : List Addr} {N : Addr → Prop} {H : Hp} {v : V} {pins : List (Addr × Obj)} {σ : Sg} {s : Shared}
theorem rb_non (h : G.rb H N sh .non v) : v = .non := by
  rcases h with h | ⟨a, rfl, _, h⟩
  · simpa only [Cg.rv, RV] using h
  · exact h.elim
theorem rb_bl {b : Bool} (h : G.rb H N sh (.bl b) v) : v = .bl b := by
  rcases h with h | ⟨a, rfl, _, h⟩
  · simpa only [Cg.rv, RV] using h
  · exact h.elim
theorem rb_int {i : Int} (h : G.rb H N sh (.int i) v) : v = .int i := by
  rcases h with h | ⟨a, rfl, _, h⟩
  · simpa only [Cg.rv, RV] using h
  · exact h.elim
theorem rb_str {z : Str} (h : G.rb H N sh (.str z) v) : v = .str z ∧ okS z := by
  rcases h with h | ⟨a, rfl, _, h⟩
  · simpa only [Cg.rv, RV] using h
  · exact h.elim
theorem rb_tup {l : List D} (h : G.rb H N sh (.tup l) v) : ∃ a vs, v = .ref a ∧ TupAt G.K H N a vs ∧ G.rvs H N sh l vs := by
  rcases h with h | ⟨a, rfl, _, h⟩
  · simpa only [Cg.rv, RV] using h
  · exact h.elim
theorem rb_lst {l : List D} (h : G.rb H N sh (.lst l) v) : ∃ a vs, v = .ref a ∧ Rd H a (.lst vs) ∧ G.rvs H N sh l vs := by
  rcases h with h | ⟨a, rfl, _, h⟩
  · simp only [Cg.rv, RV] at h
    obtain ⟨a, vs, e, t, r⟩ := h
    exact ⟨a, vs, e, t.1, r⟩
  · obtain ⟨vs, e, r⟩ := h
    exact ⟨a, vs, rfl, e, r⟩
theorem rv_int {i : Int} : G.rv H N sh (.int i) (.int i) := by simp only [Cg.rv, RV]
theorem rv_bl {i : Bool} : G.rv H N sh (.bl i) (.bl i) := by simp only [Cg.rv, RV]
theorem rv_non : G.rv H N sh .non .non := by simp only [Cg.rv, RV]
theorem rv_str {z : Str} (h : okS z) : G.rv H N sh (.str z) (.str z) := by rw [Cg.rv, RV]; exact ⟨rfl, h⟩
theorem rv_tup {l : List D} {a : Addr} {vs : List V} (t : TupAt G.K H N a vs) (r : G.rvs H N sh l vs) : G.rv H N sh (.tup l) (.ref a) := by rw [Cg.rv, RV]; exact ⟨a, vs, rfl, t, r⟩
/-- a list that is read -/
theorem lstR {a : Addr} {xs : List V} (I : Inv X pins σ H s) (h : Rd H a (.lst xs)) : xs.length ≤ sizeLine ∧ ∃ (its : List Value) (n : Nat), Vals xs its ∧ xs.length = its.length ∧ s.heap.get? a = some { cls := .type "list", data := .seq its.toArray n } := by
  obtain ⟨z, its, n, r, e⟩ := h.ok I.hok
  exact ⟨z, its, n, r, r.length, e⟩

/-! ### arithmetic -/
def dSub : D → D → Option D
  | .int i, .int j => some (.int (i - j))
  | _, _ => none
/-- the greatest factor -/
def big : Int := 2 ^ 64
def dMul : D → D → Option D
  | .int i, .int j => if (-big < i ∧ i < big) ∨ (-big < j ∧ j < big) then some (.int (i * j)) else none
  | _, _ => none
def dFdiv : D → D → Option D
  | .int i, .int j => if 0 < j ∧ j < 1073741824 then some (.int (i / j)) else none
  | _, _ => none
def dMod : D → D → Option D
  | .int i, .int j => if 0 < j then some (.int (i % j)) else none
  | _, _ => none
def dPow : D → D → Option D
  | .int i, .int j => if 0 ≤ j ∧ j ≤ 1000 ∧ i.natAbs < 1000000 then some (.int (i ^ j.toNat)) else none
  | _, _ => none
def dShl : D → D → Option D
  | .int i, .int j => if 0 ≤ j ∧ j ≤ 1000 ∧ i.natAbs < 1000000 then some (.int (i * 2 ^ j.toNat)) else none
  | _, _ => none
def dBand : D → D → Option D
  | .int i, .int j => some (.int (Builtin.bitAnd i j))
  | _, _ => none
def dNeg : D → Option D
  | .int i => some (.int (-i))
  | _ => none
theorem op_ints {f : Value → Value → Sem Value} {C : Int → Int → Prop} {g : Int → Int → V} {F : D → D → Option D} (ho : OpR X f (rI C g))
    (hF : ∀ dx dy d, F dx dy = some d → ∃ i j k, dx = .int i ∧ dy = .int j ∧ d = .int k ∧ g i j = .int k ∧ C i j) : OpR X f (rA2 G F) := by
  intro pins s σ H x y v u Q I rx ry h
  obtain ⟨sh, N, dx, dy, d, _, hx, hy, e, q⟩ := h
  obtain ⟨i, j, k, rfl, rfl, rfl, eg, c⟩ := hF _ _ _ e
  refine ho pins s σ H x y v u Q I rx ry ⟨i, j, rb_int hx, rb_int hy, c, ?_⟩
  rw [eg]
  exact q _ H (fun _ _ z => z) rv_int
theorem op_ints0 {f : Value → Value → Sem Value} {g : Int → Int → V} {F : D → D → Option D} (ho : OpR X f (rI0 g))
    (hF : ∀ dx dy d, F dx dy = some d → ∃ i j k, dx = .int i ∧ dy = .int j ∧ d = .int k ∧ g i j = .int k) : OpR X f (rA2 G F) := by
  intro pins s σ H x y v u Q I rx ry h
  obtain ⟨sh, N, dx, dy, d, _, hx, hy, e, q⟩ := h
  obtain ⟨i, j, k, rfl, rfl, rfl, eg⟩ := hF _ _ _ e
  refine ho pins s σ H x y v u Q I rx ry ⟨i, j, rb_int hx, rb_int hy, ?_⟩
  rw [eg]
  exact q _ H (fun _ _ z => z) rv_int
theorem oA_sub : OpR X (binaryOp .Sub) (rA2 G dSub) := op_ints0 op_sub fun dx dy d e => by
  cases dx <;> cases dy <;> first | (cases e; exact ⟨_, _, _, rfl, rfl, rfl, rfl⟩) | cases e
theorem ite_some {α : Type} {c : Prop} [Decidable c] {a b : α} (h : (if c then some a else none) = some b) : c ∧ a = b := by
  by_cases hc : c
  · rw [if_pos hc] at h; exact ⟨hc, Option.some.inj h⟩
  · rw [if_neg hc] at h; cases h
theorem oA_mul : OpR X (binaryOp .Mult) (rA2 G dMul) := op_ints op_mul fun dx dy d e => by
  cases dx <;> cases dy <;> first | (obtain ⟨c, rfl⟩ := ite_some e; exact ⟨_, _, _, rfl, rfl, rfl, rfl, c⟩) | cases e
theorem oA_fdiv : OpR X (binaryOp .FloorDiv) (rA2 G dFdiv) := op_ints op_fdiv fun dx dy d e => by
  cases dx <;> cases dy <;> first | (obtain ⟨c, rfl⟩ := ite_some e; exact ⟨_, _, _, rfl, rfl, rfl, rfl, c⟩) | cases e
theorem oA_mod : OpR X (binaryOp .Mod) (rA2 G dMod) := op_ints op_mod fun dx dy d e => by
  cases dx <;> cases dy <;> first | (obtain ⟨c, rfl⟩ := ite_some e; exact ⟨_, _, _, rfl, rfl, rfl, rfl, c⟩) | cases e
theorem oA_pow : OpR X (binaryOp .Pow) (rA2 G dPow) := op_ints op_pow fun dx dy d e => by
  cases dx <;> cases dy <;> first | (obtain ⟨c, rfl⟩ := ite_some e; exact ⟨_, _, _, rfl, rfl, rfl, rfl, c.1, by omega, by have := c.2.2; omega⟩) | cases e
theorem oA_shl : OpR X (binaryOp .LShift) (rA2 G dShl) := op_ints op_shl fun dx dy d e => by
  cases dx <;> cases dy <;> first | (obtain ⟨c, rfl⟩ := ite_some e; exact ⟨_, _, _, rfl, rfl, rfl, rfl, c.1, by omega, by have := c.2.2; omega⟩) | cases e
theorem oA_band : OpR X (binaryOp .BitAnd) (rA2 G dBand) := op_ints0 op_and fun dx dy d e => by
  cases dx <;> cases dy <;> first | (cases e; exact ⟨_, _, _, rfl, rfl, rfl, rfl⟩) | cases e
theorem uA_neg : UnR X (unaryOp .USub) (rA1 G dNeg) := by
  intro pins s σ H x v Q I rx h
  obtain ⟨sh, N, dx, d, _, hx, e, q⟩ := h
  cases dx with
  | int i => cases e; exact un_neg pins s σ H x v Q I rx ⟨i, rb_int hx, q _ H (fun _ _ z => z) rv_int⟩
  | _ => cases e

/-! ### + and * of sequences -/
theorem okS_app {a b : Str} (ha : okS a) (hb : okS b) (h : a.length + b.length ≤ sizeLine) : okS (a ++ b) := by
  obtain ⟨a1, a2⟩ := ha
  obtain ⟨b1, b2⟩ := hb
  have e : (a ++ b).cps = a.cps ++ b.cps := rfl
  refine ⟨?_, ?_⟩
  · unfold PyData.strOk at *
    rw [e, Array.all_append, a1, b1]; rfl
  · show (a ++ b).cps.size ≤ _
    rw [e, Array.size_append]; exact h
def dAdd : D → D → Option D
  | .int i, .int j => some (.int (i + j))
  | .str a, .str b => if a.length + b.length ≤ many then some (.str (a ++ b)) else none
  | .tup a, .tup b => if a.length + b.length ≤ many then some (.tup (a ++ b)) else none
  | .lst a, .lst b => if a.length + b.length ≤ many then some (.lst (a ++ b)) else none
  | _, _ => none
def dAddL : D → D → Option D
  | .lst a, .lst b => if a.length + b.length ≤ many then some (.lst (a ++ b)) else none
  | _, _ => none
theorem rv_nil_tup {a : Addr} (t : TupAt G.K H N a []) : G.rv H N sh (.tup []) (.ref a) := rv_tup t RVs.nil
theorem oF_addL : OpR X (binaryOp .Add) (rF2 G dAddL) := by
  intro pins s σ H x y v u Q I rx ry h
  obtain ⟨sh, N, dx, dy, d, hN, hS, hx, hy, e, q⟩ := h
  cases dx with
  | lst l =>
    cases dy with
    | lst m =>
      obtain ⟨c, rfl⟩ := ite_some e
      obtain ⟨a, xs, rfl, ha, r1⟩ := rb_lst hx
      obtain ⟨b, zs, rfl, hb, r2⟩ := rb_lst hy
      cases rx
      cases ry
      obtain ⟨z, its, n, r, hl, e⟩ := lstR I ha
      obtain ⟨z2, its2, n2, r', hl2, e2⟩ := lstR I hb
      have c' : xs.length + zs.length ≤ sizeLine := by rw [← RVs.length r1, ← RVs.length r2]; exact many_le c
      refine PySem.P.add_list e e2 ?_ (by rw [List.size_toArray, List.size_toArray]; omega)
      have ea : its.toArray ++ its2.toArray = (its ++ its2).toArray := by simp
      rw [ea]
      have hf := I.fresh
      have n1 : ¬ N s.heap.objs.size := fun z => by obtain ⟨o, e⟩ := hN _ z; rw [hf] at e; cases e
      exact ⟨.ref _, _, I.lnew (t' := s.toks) (r.append r') (by rw [List.length_append]; omega), rfl, q _ _ (grows hf) hf (rf_newlst hf n1 (fun z => n1 (hS _ z)) (RVs.append r1 r2))⟩
    | _ => cases e
  | _ => cases dy <;> cases e
theorem oA_add (hK : X.K = G.K) : OpR X (binaryOp .Add) (rA2 G dAdd) := by
  intro pins s σ H x y v u Q I rx ry h
  obtain ⟨sh, N, dx, dy, d, hN, hx, hy, e, q⟩ := h
  cases dx with
  | int i =>
    cases dy with
    | int j => cases e; exact op_add pins s σ H x y v u Q I rx ry ⟨i, j, rb_int hx, rb_int hy, q _ H (fun _ _ z => z) rv_int⟩
    | _ => cases e
  | str a =>
    cases dy with
    | str b =>
      obtain ⟨c, rfl⟩ := ite_some e
      obtain ⟨rfl, oa⟩ := rb_str hx
      obtain ⟨rfl, ob⟩ := rb_str hy
      exact op_add_str pins s σ H _ _ v u Q I rx ry ⟨a, b, rfl, rfl, many_le c, q _ H (fun _ _ z => z) (rv_str (okS_app oa ob (many_le c)))⟩
    | _ => cases e
  | tup l =>
    cases dy with
    | tup m =>
      obtain ⟨c, rfl⟩ := ite_some e
      obtain ⟨a, xs, rfl, ha, r1⟩ := rb_tup hx
      obtain ⟨b, zs, rfl, hb, r2⟩ := rb_tup hy
      have c' : xs.length + zs.length ≤ sizeLine := by rw [← RVs.length r1, ← RVs.length r2]; exact many_le c
      refine op_catA pins s σ H _ _ v u Q I rx ry ⟨a, b, xs, zs, rfl, rfl, hK ▸ ha.sq, hK ▸ hb.sq, c', fun e => ?_, fun _ e => ?_, fun _ _ p hp => ?_⟩
      · subst e
        have : l = [] := List.eq_nil_of_length_eq_zero (RVs.length r1)
        subst this
        exact q _ H (fun _ _ z => z) (rv_tup hb r2)
      · subst e
        have : m = [] := List.eq_nil_of_length_eq_zero (RVs.length r2)
        subst this
        rw [List.append_nil] at q
        exact q _ H (fun _ _ z => z) (rv_tup ha r1)
      · exact q _ _ (grows hp) (rv_newtup hp (fun z => by obtain ⟨o, e⟩ := hN _ z; rw [hp] at e; cases e) (RVs.append r1 r2))
    | _ => cases e
  | lst l =>
    cases dy with
    | lst m =>
      obtain ⟨c, rfl⟩ := ite_some e
      obtain ⟨a, xs, rfl, ha, r1⟩ := rb_lst hx
      obtain ⟨b, zs, rfl, hb, r2⟩ := rb_lst hy
      cases rx
      cases ry
      obtain ⟨z, its, n, r, hl, e⟩ := lstR I ha
      obtain ⟨z2, its2, n2, r', hl2, e2⟩ := lstR I hb
      have c' : xs.length + zs.length ≤ sizeLine := by rw [← RVs.length r1, ← RVs.length r2]; exact many_le c
      refine PySem.P.add_list e e2 ?_ (by rw [List.size_toArray, List.size_toArray]; omega)
      have ea : its.toArray ++ its2.toArray = (its ++ its2).toArray := by simp
      rw [ea]
      have hf := I.fresh
      have n1 : ¬ N s.heap.objs.size := fun z => by obtain ⟨o, e⟩ := hN _ z; rw [hf] at e; cases e
      refine ⟨.ref _, _, I.lnew (t' := s.toks) (r.append r') (by rw [List.length_append]; omega), rfl, q _ _ (grows hf) ?_⟩
      rw [Cg.rv, RV]
      exact ⟨_, _, rfl, ⟨.inl upd_same, n1⟩, rvs_grow hf (RVs.append r1 r2)⟩
    | _ => cases e
  | _ => cases dy <;> cases e
end
/-! ### dicts whose keys are tuples -/
section
variable {G : Cg} {W : WX} {X : Cx} {pins : List (Addr × Obj)} {s : Shared} {σ : Sg} {sh : List Addr} {N : Addr → Prop} {H : Hp}
mutual
theorem nk_is (hK : X.K = G.K) (I : Inv X pins σ H s) : ∀ (d : D) (κ : NestedKey) (v : V) (u : Value), nkD d = some κ → G.rv H N sh d v → RelV v u → PySem.NestedIs s.heap κ u
  | .non, κ, v, u, e, r, q => by
    have r : v = .non := by simpa only [RV] using r
    subst r; cases q; simp only [nkD] at e; cases e; exact .none
  | .bl b, κ, v, u, e, r, q => by
    have r : v = .bl b := by simpa only [RV] using r
    subst r; cases q; simp only [nkD] at e; cases e; exact .bool rfl
  | .int i, κ, v, u, e, r, q => by
    have r : v = .int i := by simpa only [RV] using r
    subst r; obtain ⟨t, rfl⟩ := q; simp only [nkD] at e; cases e; exact .int _ _
  | .str x, κ, v, u, e, r, q => by
    have r : v = .str x ∧ okS x := by simpa only [RV] using r
    obtain ⟨r, _⟩ := r
    subst r; obtain ⟨t, rfl⟩ := q; simp only [nkD] at e; cases e; exact .text _ _
  | .tup l, κ, v, u, e, r, q => by
    have r : ∃ a vs, v = .ref a ∧ TupAt G.K H N a vs ∧ G.rvs H N sh l vs := by simpa only [RV] using r
    obtain ⟨a, vs, rfl, t, rr⟩ := r
    cases q
    obtain ⟨its, rv, ⟨o, ho, hc, n, hd⟩, hs⟩ := I.tuple (show SqT X.K H a vs from hK ▸ t.sq)
    simp only [nkD] at e
    obtain ⟨ks, ek, rfl⟩ := Option.map_eq_some_iff.mp e
    exact .tup ho hc hd (by simpa using nks_is hK I l ks vs its ek rr rv)
  | .lst _, _, _, _, e, _, _ => by simp [nkD] at e
  | .dik _ _, _, _, _, e, _, _ => by simp [nkD] at e
  | .dit _ _, _, _, _, e, _, _ => by simp [nkD] at e
  | .obj _, _, _, _, e, _, _ => by simp [nkD] at e
theorem nks_is (hK : X.K = G.K) (I : Inv X pins σ H s) : ∀ (l : List D) (ks : List NestedKey) (vs : List V) (us : List Value), nksD l = some ks → G.rvs H N sh l vs → Vals vs us → PySem.NestedAll s.heap ks us
  | [], ks, vs, us, e, r, q => by
    have r : vs = [] := by simpa only [RVs] using r
    subst r; cases q; simp only [nksD] at e; cases e; exact .nil
  | d :: ds, ks, vs, us, e, r, q => by
    have r : ∃ v w, vs = v :: w ∧ G.rv H N sh d v ∧ G.rvs H N sh ds w := by simpa only [RVs] using r
    obtain ⟨v, w, rfl, r1, r2⟩ := r
    cases q with
    | cons q1 q2 =>
      simp only [nksD] at e
      obtain ⟨k, e1, e⟩ := Option.bind_eq_some_iff.mp e
      obtain ⟨kk, e2, rfl⟩ := Option.map_eq_some_iff.mp e
      exact .cons (nk_is hK I d k v _ e1 r1 q1) (nks_is hK I ds kk w _ e2 r2 q2)
end
/-- a read dict with tuple keys, as the kit has it -/
theorem dit_of (hK : X.K = G.K) (hP : X.prog = G.P) (hW : X.w = G.w) (I : Inv X pins σ H s) {a : Addr} {o : Obj} {xs : List (NestedKey × Addr × Value)} {ks : List D} (e : Rd H a (.ext (rawAt a o))) (dr : DitRaw G.P G.w a o xs) (ek : ks.map nkD = xs.map fun x => some x.1) (rk : G.rvs H N sh ks (xs.map fun x => V.ref x.2.1)) :
    s.heap.DictOfH (nestedKind X.prog X.w) a xs := by
  obtain ⟨oe, ⟨es, ep, od, oes⟩, nd, hz, sm, dp⟩ := dr
  have ho : s.heap.get? a = some o := (e.ok I.hok).1
  refine ⟨o, es, ep, ho, oe, od, by rw [hP, hW]; exact oes, fun x hx => ⟨?_, dp x hx⟩, nd⟩
  obtain ⟨j, hj⟩ := List.getElem?_of_mem hx
  have h1 : (xs.map fun x => some x.1)[j]? = some (some x.1) := by rw [List.getElem?_map, hj]; rfl
  rw [← ek, List.getElem?_map] at h1
  obtain ⟨d, hd, hn⟩ := Option.map_eq_some_iff.mp h1
  have h2 : (xs.map fun x => V.ref x.2.1)[j]? = some (V.ref x.2.1) := by rw [List.getElem?_map, hj]; rfl
  obtain ⟨v, hv, rv⟩ := RVs.get rk hd
  rw [h2] at hv; cases hv
  exact nk_is hK I d x.1 _ _ hn rv rfl
def hasK (ks : List D) (κ : NestedKey) : Bool := ks.any fun k => decide (nkD k = some κ)
theorem hasK_eq {ks : List D} {xs : List (NestedKey × Addr × Value)} (ek : ks.map nkD = xs.map fun x => some x.1) (κ : NestedKey) : hasK ks κ = (valueAt (pairsH xs) κ).isSome := by
  rw [valueAt_pairsH, Option.isSome_map, ← any_pairsH]
  have : hasK ks κ = (ks.map nkD).any fun z => decide (z = some κ) := by simp [hasK, List.any_map, Function.comp_def]
  rw [this, ek]
  simp [pairsH, List.any_map, Function.comp_def]
/-- a key that is a tuple -/
def keyN : D → Option NestedKey
  | .tup l => (nkD (.tup l)).bind fun κ => if κ.depth ≤ 8 then some κ else none
  | _ => none
theorem rb_dit {ks us : List D} {v : V} (h : G.rb H N sh (.dit ks us) v) : ∃ (a : Addr) (o : Obj) (xs : List (NestedKey × Addr × Value)) (vs : List V), v = .ref a ∧ Rd H a (.ext (rawAt a o)) ∧ DitRaw G.P G.w a o xs ∧ ks.map nkD = xs.map (fun x => some x.1) ∧
    G.rvs H N sh ks (xs.map fun x => V.ref x.2.1) ∧ Vals vs (xs.map fun x => x.2.2) ∧ G.rvs H N sh us vs := by
  rcases h with h | ⟨a, rfl, _, h⟩
  · have h : ∃ (a : Addr) (o : Obj) (xs : List (NestedKey × Addr × Value)) (vs : List V), v = .ref a ∧ Rd H a (.ext (rawAt a o)) ∧ ¬ N a ∧ DitRaw G.P G.w a o xs ∧ ks.map nkD = xs.map (fun x => some x.1) ∧ G.rvs H N sh ks (xs.map fun x => V.ref x.2.1) ∧ Vals vs (xs.map fun x => x.2.2) ∧ G.rvs H N sh us vs := by simpa only [RV] using h
    obtain ⟨a, o, xs, vs, r, e, _, z⟩ := h
    exact ⟨a, o, xs, vs, r, e, z⟩
  · obtain ⟨o, xs, vs, e, z⟩ := h
    exact ⟨a, o, xs, vs, rfl, e, z⟩
theorem keyN_is (hK : X.K = G.K) (I : Inv X pins σ H s) {d : D} {κ : NestedKey} {v : V} {u : Value} (e : keyN d = some κ) (r : G.rb H N sh d v) (q : RelV v u) : ∃ a, u = .ref a ∧ (nestedKind X.prog X.w).is s.heap κ a := by
  cases d with
  | tup l =>
    obtain ⟨κ', e1, e2⟩ := Option.bind_eq_some_iff.mp (show (nkD (.tup l)).bind _ = _ from e)
    obtain ⟨hd, rfl⟩ := ite_some e2
    obtain ⟨a, vs, rfl, _, _⟩ := rb_tup r
    have r' : G.rv H N sh (.tup l) (.ref a) := by
      rcases r with r | ⟨_, _, _, h⟩
      · exact r
      · exact h.elim
    cases q
    exact ⟨a, rfl, nk_is hK I _ _ _ _ e1 r' rfl, hd⟩
  | _ => cases e
/-- what stands at a key -/
def lookK : List D → List D → NestedKey → Option D
  | k :: ks, u :: us, κ => if nkD k = some κ then some u else lookK ks us κ
  | _, _, _ => none
theorem lookK_at : ∀ {ks us : List D} {xs : List (NestedKey × Addr × Value)} {vs : List V} {κ : NestedKey} {d : D}, ks.map nkD = xs.map (fun x => some x.1) → Vals vs (xs.map fun x => x.2.2) → G.rvs H N sh us vs → lookK ks us κ = some d →
    ∃ (p : Addr × Value) (v : V), atKey xs κ = some p ∧ RelV v p.2 ∧ G.rv H N sh d v
  | [], _, _, _, _, _, _, _, _, e => by simp [lookK] at e
  | k :: ks, [], _, _, _, _, _, _, _, e => by simp [lookK] at e
  | k :: ks, u :: us, [], _, _, _, ek, _, _, e => by simp at ek
  | k :: ks, u :: us, x :: xs, vs, κ, d, ek, rv, ru, e => by
    obtain ⟨v, ws, rfl, r1, r2⟩ := RVs.inv ru
    simp only [List.map_cons, List.cons.injEq] at ek
    cases rv with
    | cons q1 q2 =>
      simp only [lookK] at e
      by_cases h : nkD k = some κ
      · rw [if_pos h] at e; cases e
        refine ⟨x.2, v, ?_, q1, r1⟩
        have : x.1 = κ := by rw [ek.1] at h; exact Option.some.inj h
        simp [atKey, this]
      · rw [if_neg h] at e
        obtain ⟨p, v', a1, a2, a3⟩ := lookK_at ek.2 q2 r2 e
        refine ⟨p, v', ?_, a2, a3⟩
        have : ¬ x.1 = κ := fun z => h (by rw [ek.1, z])
        rw [atKey, List.find?_cons, decide_eq_false this]
        exact a1
theorem vals_refs : ∀ (as : List Addr), Vals (as.map V.ref) (as.map Value.ref)
  | [] => .nil
  | a :: as => .cons rfl (vals_refs as)
/-- the keys of a dict, one after the other -/
theorem dit_raw (hK : X.K = G.K) (I : Inv X pins σ H s) {a : Addr} {o : Obj} {xs : List (NestedKey × Addr × Value)} (e : Rd H a (.ext (rawAt a o))) (dr : DitRaw G.P G.w a o xs) :
    ∃ es ep, s.heap.DictRaw a es ep ∧ es.size = xs.length ∧ ∀ j (hj : j < es.size), ∃ x, xs[j]? = some x ∧ es[j].key = .ref x.2.1 ∧ es[j].val = x.2.2 := by
  obtain ⟨oe, ⟨es, ep, od, oes⟩, nd, hz, sm, dp⟩ := dr
  have ho : s.heap.get? a = some o := (e.ok I.hok).1
  have hs : es.size = xs.length := by rw [← Array.length_toList, oes, List.length_map]
  refine ⟨es, ep, ⟨o, ho, oe, od⟩, hs, fun j hj => ?_⟩
  have hx : j < xs.length := by omega
  refine ⟨xs[j], List.getElem?_eq_getElem hx, ?_⟩
  have h1 : es.toList[j]? = (xs[j]?).map (entryOfKey (nestedKind G.P G.w)) := by rw [oes, List.getElem?_map]
  rw [List.getElem?_eq_getElem hx, Array.getElem?_toList, Array.getElem?_eq_getElem hj] at h1
  have h2 := Option.some.inj h1
  rw [h2]
  exact ⟨rfl, rfl⟩
theorem rb_dik {ks us : List D} {v : V} (h : G.rb H N sh (.dik ks us) v) : ∃ (a : Addr) (kk : List Key) (vs : List V), v = .ref a ∧ Rd H a (.dK (kk.zip vs)) ∧ ks.map keyD = kk.map some ∧ kk.Nodup ∧ kk.length = vs.length ∧ G.rvs H N sh us vs := by
  rcases h with h | ⟨a, rfl, _, h⟩
  · have h : ∃ (a : Addr) (kk : List Key) (vs : List V), v = .ref a ∧ Rd H a (.dK (kk.zip vs)) ∧ ¬ N a ∧ ks.map keyD = kk.map some ∧ kk.Nodup ∧ kk.length = vs.length ∧ G.rvs H N sh us vs := by simpa only [RV] using h
    obtain ⟨a, kk, vs, r, e, _, z⟩ := h
    exact ⟨a, kk, vs, r, e, z⟩
  · obtain ⟨kk, vs, e, z⟩ := h
    exact ⟨a, kk, vs, rfl, e, z⟩
theorem keyD_is {d : D} {k : Key} {v : V} (e : keyD d = some k) (r : G.rb H N sh d v) : v = kV k := by
  cases d with
  | int i => cases e; exact rb_int r
  | str x => cases e; exact (rb_str r).1
  | _ => cases e
def hasI (ks : List D) (k : Key) : Bool := ks.any fun x => decide (keyD x = some k)
theorem hasI_eq : ∀ {ks : List D} {kk : List Key} {vs : List V} (k : Key), ks.map keyD = kk.map some → kk.length = vs.length → hasI ks k = (valV (kk.zip vs) k).isSome
  | [], [], vs, k, _, _ => rfl
  | [], _ :: _, _, _, e, _ => by simp at e
  | _ :: _, [], _, _, e, _ => by simp at e
  | _ :: _, _ :: _, [], _, _, l => by simp at l
  | d :: ks, q :: kk, v :: vs, k, e, l => by
    simp only [List.map_cons, List.cons.injEq] at e
    have ih := hasI_eq (vs := vs) k e.2 (by simpa using l)
    rw [List.zip_cons_cons]
    by_cases h : q = k
    · rw [valV_pos h]
      simp [hasI, e.1, h]
    · have h2 : hasI (d :: ks) k = hasI ks k := by simp [hasI, e.1, h]
      rw [h2, ih]
      simp [valV, List.find?_cons, h]
def lookI : List D → List D → Key → Option D
  | k :: ks, u :: us, q => if keyD k = some q then some u else lookI ks us q
  | _, _, _ => none
theorem lookI_at : ∀ {ks us : List D} {kk : List Key} {vs : List V} {k : Key} {d : D}, ks.map keyD = kk.map some → kk.length = vs.length → G.rvs H N sh us vs → lookI ks us k = some d → ∃ v, valV (kk.zip vs) k = some v ∧ G.rv H N sh d v
  | [], _, _, _, _, _, _, _, _, e => by simp [lookI] at e
  | _ :: _, [], _, _, _, _, _, _, _, e => by simp [lookI] at e
  | _ :: _, _ :: _, [], _, _, _, e, _, _, _ => by simp at e
  | _ :: _, _ :: _, _ :: _, [], _, _, _, l, _, _ => by simp at l
  | x :: ks, u :: us, q :: kk, v :: vs, k, d, e, l, r, h => by
    obtain ⟨v', ws, e2, r1, r2⟩ := RVs.inv r
    cases e2
    simp only [List.map_cons, List.cons.injEq] at e
    rw [List.zip_cons_cons]
    simp only [lookI] at h
    by_cases hq : q = k
    · rw [if_pos (by rw [e.1, hq])] at h; cases h
      exact ⟨v, valV_pos hq, r1⟩
    · rw [if_neg (by rw [e.1]; exact fun z => hq (Option.some.inj z))] at h
      obtain ⟨w, w1, w2⟩ := lookI_at e.2 (by simpa using l) r2 h
      refine ⟨w, ?_, w2⟩
      rw [← w1]; simp [valV, List.find?_cons, hq]
end
end Mi

namespace Mi
open PySem PySem.Spec PyProof.Rows L2

mutual
/-- data as the library's -/
def toPy : D → PyData
  | .non => .none
  | .bl b => .bool b
  | .int i => .int i
  | .str s => .str s
  | .tup l => .tuple (toPys l)
  | .lst l => .list (toPys l)
  | _ => .none
def toPys : List D → List PyData
  | [] => []
  | d :: ds => toPy d :: toPys ds
end
mutual
/-- no dict, no shared object within -/
def pur : D → Bool
  | .non | .bl _ | .int _ | .str _ => true
  | .tup l => purs l
  | .lst l => purs l
  | .dik _ _ | .dit _ _ | .obj _ => false
def purs : List D → Bool
  | [] => true
  | d :: ds => pur d && purs ds
end
mutual
def dep : D → Nat
  | .tup l => deps l + 1
  | .lst l => deps l + 1
  | .non | .bl _ | .int _ | .str _ | .dik _ _ | .dit _ _ | .obj _ => 0
def deps : List D → Nat
  | [] => 0
  | d :: ds => max (dep d) (deps ds)
end
mutual
/-- Python's == -/
def eqD : D → D → Bool
  | .non, .non => true
  | .bl a, .bl b => a == b
  | .bl a, .int j => (if a then 1 else 0) == j
  | .int i, .bl b => i == (if b then 1 else 0)
  | .int i, .int j => i == j
  | .str x, .str y => x == y
  | .lst xs, .lst ys => eqDs xs ys
  | .tup xs, .tup ys => eqDs xs ys
  | _, _ => false
def eqDs : List D → List D → Bool
  | [], [] => true
  | x :: xs, y :: ys => eqD x y && eqDs xs ys
  | _, _ => false
end
mutual
theorem eqv_py : ∀ (d e : D), pur d = true → pur e = true → PyData.eqv (toPy d) (toPy e) = eqD d e
  | .non, e, _, h => by cases e <;> simp_all [toPy, eqD, PyData.eqv, pur]
  | .bl b, e, _, h => by cases e <;> simp_all [toPy, eqD, PyData.eqv, pur]
  | .int b, e, _, h => by cases e <;> simp_all [toPy, eqD, PyData.eqv, pur]
  | .str b, e, _, h => by cases e <;> simp_all [toPy, eqD, PyData.eqv, pur]
  | .tup l, e, hd, h => by
    cases e with
    | tup m =>
      simp only [pur] at hd h
      simp only [toPy, PyData.eqv, eqD]
      exact eqvs_py l m hd h
    | _ => simp_all [toPy, eqD, PyData.eqv, pur]
  | .lst l, e, hd, h => by
    cases e with
    | lst m =>
      simp only [pur] at hd h
      simp only [toPy, PyData.eqv, eqD]
      exact eqvs_py l m hd h
    | _ => simp_all [toPy, eqD, PyData.eqv, pur]
  | .dik _ _, _, h, _ => by simp [pur] at h
  | .dit _ _, _, h, _ => by simp [pur] at h
  | .obj _, _, h, _ => by simp [pur] at h
theorem eqvs_py : ∀ (d e : List D), purs d = true → purs e = true → PyData.eqvAll (toPys d) (toPys e) = eqDs d e
  | [], [], _, _ => by simp only [toPys, PyData.eqvAll, eqDs]
  | [], _ :: _, _, _ => by simp only [toPys, PyData.eqvAll, eqDs]
  | _ :: _, [], _, _ => by simp only [toPys, PyData.eqvAll, eqDs]
  | x :: xs, y :: ys, h, k => by
    simp only [purs, Bool.and_eq_true] at h k
    simp only [toPys, PyData.eqvAll, eqDs]
    rw [eqv_py x y h.1 k.1, eqvs_py xs ys h.2 k.2]
end
mutual
theorem dep_py : ∀ d : D, pur d = true → (toPy d).depth = dep d
  | .non, _ => rfl
  | .bl _, _ => rfl
  | .int _, _ => rfl
  | .str _, _ => rfl
  | .tup l, h => by simp only [pur] at h; simp only [toPy, PyData.depth, dep]; rw [deps_py l h]
  | .lst l, h => by simp only [pur] at h; simp only [toPy, PyData.depth, dep]; rw [deps_py l h]
  | .dik _ _, h => by simp [pur] at h
  | .dit _ _, h => by simp [pur] at h
  | .obj _, h => by simp [pur] at h
theorem deps_py : ∀ d : List D, purs d = true → PyData.depthAll (toPys d) = deps d
  | [], _ => by simp only [toPys, PyData.depthAll, deps]
  | x :: xs, h => by
    simp only [purs, Bool.and_eq_true] at h
    simp only [toPys, PyData.depthAll, deps]
    rw [dep_py x h.1, deps_py xs h.2]
end
section
variable {G : Cg} {X : Cx} {sh : List Addr} {N : Addr → Prop} {H : Hp} {pins : List (Addr × Obj)} {σ : Sg} {s : Shared}
mutual
theorem rv_dp : ∀ (d : D) (v : V), pur d = true → G.rv H N sh d v → Dp G.K H v (toPy d) ∧ (toPy d).canLay0 = true
  | .non, v, _, h => by rw [rb_non (.inl h)]; exact ⟨.non, by simp only [toPy, PyData.canLay0]⟩
  | .bl _, v, _, h => by rw [rb_bl (.inl h)]; exact ⟨.bl _, by simp only [toPy, PyData.canLay0]⟩
  | .int _, v, _, h => by rw [rb_int (.inl h)]; exact ⟨.int _, by simp only [toPy, PyData.canLay0]⟩
  | .str _, v, _, h => by
    obtain ⟨rfl, o⟩ := rb_str (.inl h)
    exact ⟨.str _, by simp only [toPy, PyData.canLay0]; exact o.1⟩
  | .tup l, v, p, h => by
    simp only [pur] at p
    rw [Cg.rv, RV] at h
    obtain ⟨a, vs, rfl, t, r⟩ := h
    obtain ⟨h1, h2⟩ := rvs_dp l vs p r
    exact ⟨.tup t.sq h1, by simp only [toPy, PyData.canLay0]; exact h2⟩
  | .lst l, v, p, h => by
    simp only [pur] at p
    rw [Cg.rv, RV] at h
    obtain ⟨a, vs, rfl, t, r⟩ := h
    obtain ⟨h1, h2⟩ := rvs_dp l vs p r
    exact ⟨.lst t.sq h1, by simp only [toPy, PyData.canLay0]; exact h2⟩
  | .dik _ _, _, h, _ => by simp [pur] at h
  | .dit _ _, _, h, _ => by simp [pur] at h
  | .obj _, _, h, _ => by simp [pur] at h
theorem rvs_dp : ∀ (l : List D) (vs : List V), purs l = true → G.rvs H N sh l vs → DpAll G.K H vs (toPys l) ∧ PyData.canLayAll0 (toPys l) = true
  | [], vs, _, h => by rw [RVs.nil_iff.mp h]; exact ⟨by simp only [toPys]; exact .nil, by simp only [toPys, PyData.canLayAll0]⟩
  | d :: ds, vs, p, h => by
    simp only [purs, Bool.and_eq_true] at p
    obtain ⟨v, r, rfl, h1, h2⟩ := RVs.inv h
    obtain ⟨a1, a2⟩ := rv_dp d v p.1 h1
    obtain ⟨b1, b2⟩ := rvs_dp ds r p.2 h2
    exact ⟨by simp only [toPys]; exact .cons a1 b1, by simp only [toPys, PyData.canLayAll0]; rw [a2, b2]; rfl⟩
end
theorem rb_dp {d : D} {v : V} (p : pur d = true) (h : G.rb H N sh d v) : Dp G.K H v (toPy d) ∧ (toPy d).canLay0 = true := by
  rcases h with h | ⟨a, rfl, n, h⟩
  · exact rv_dp d v p h
  · cases d with
    | lst l =>
      simp only [pur] at p
      obtain ⟨vs, t, r⟩ := h
      obtain ⟨h1, h2⟩ := rvs_dp l vs p r
      exact ⟨.lst (.inl t) h1, by simp only [toPy, PyData.canLay0]; exact h2⟩
    | dik _ _ => simp [pur] at p
    | dit _ _ => simp [pur] at p
    | _ => exact h.elim

/-! ### == and in -/
def near (d e : D) : Bool := pur d && (pur e && decide (min (dep d) (dep e) ≤ 64))
def dEq (d e : D) : Option D := if near d e = true then some (.bl (eqD d e)) else none
def dNe (d e : D) : Option D := if near d e = true then some (.bl (!eqD d e)) else none
theorem near_iff {d e : D} : near d e = true ↔ pur d = true ∧ pur e = true ∧ min (dep d) (dep e) ≤ 64 := by
  unfold near
  rw [Bool.and_eq_true, Bool.and_eq_true, decide_eq_true_eq]
theorem oA_eq (hK : X.K = G.K) (hu : X.A.units + 66 < cLine) : OpR X (compareOp .Eq) (rA2 G dEq) := by
  intro pins s σ H x y v u Q I rx ry h
  obtain ⟨sh, N, dx, dy, d, hN, hx, hy, e, q⟩ := h
  obtain ⟨c, rfl⟩ := ite_some e
  obtain ⟨p1, p2, hd⟩ := near_iff.mp c
  obtain ⟨d1, l1⟩ := rb_dp p1 hx
  obtain ⟨d2, l2⟩ := rb_dp p2 hy
  obtain ⟨as, r1⟩ := Dp.reads I _ x v (hK ▸ d1) rx
  obtain ⟨bs, r2⟩ := Dp.reads I _ y u (hK ▸ d2) ry
  refine SeqAt.compareEq_reads r1 r2 l1 l2 (by rw [dep_py _ p1, dep_py _ p2]; omega) ?_
  rw [eqv_py _ _ p1 p2]
  exact ⟨.bl _, H, I, rfl, q _ H (fun _ _ z => z) rv_bl⟩
theorem oA_ne (hK : X.K = G.K) (hu : X.A.units + 66 < cLine) : OpR X (compareOp .NotEq) (rA2 G dNe) := by
  intro pins s σ H x y v u Q I rx ry h
  obtain ⟨sh, N, dx, dy, d, hN, hx, hy, e, q⟩ := h
  obtain ⟨c, rfl⟩ := ite_some e
  obtain ⟨p1, p2, hd⟩ := near_iff.mp c
  obtain ⟨d1, l1⟩ := rb_dp p1 hx
  obtain ⟨d2, l2⟩ := rb_dp p2 hy
  obtain ⟨as, r1⟩ := Dp.reads I _ x v (hK ▸ d1) rx
  obtain ⟨bs, r2⟩ := Dp.reads I _ y u (hK ▸ d2) ry
  refine SeqAt.compareNe_reads r1 r2 l1 l2 (by rw [dep_py _ p1, dep_py _ p2]; omega) ?_
  rw [eqv_py _ _ p1 p2]
  exact ⟨.bl _, H, I, rfl, q _ H (fun _ _ z => z) rv_bl⟩
/-- x is in items -/
def inD (x : D) (l : List D) : Bool := l.any fun y => eqD y x
theorem any_py {x : D} (hx : pur x = true) : ∀ l : List D, purs l = true → ((toPys l).any fun y => PyData.eqv y (toPy x)) = inD x l
  | [], _ => by simp only [toPys]; rfl
  | d :: ds, h => by
    simp only [purs, Bool.and_eq_true] at h
    simp only [toPys, List.any_cons, inD]
    rw [eqv_py d x h.1 hx, any_py hx ds h.2]
    rfl
def nearIn (x : D) (l : List D) : Bool := pur x && (purs l && decide (min (deps l) (dep x) ≤ 64))
theorem nearIn_iff {d : D} {l : List D} : nearIn d l = true ↔ pur d = true ∧ purs l = true ∧ min (deps l) (dep d) ≤ 64 := by
  unfold nearIn
  rw [Bool.and_eq_true, Bool.and_eq_true, decide_eq_true_eq]
/-- s in t, of texts -/
def strIn (a b : Str) : Bool := !(Builtin.Str.occurrences b a 0 b.length 1).isEmpty
/-- dicts: by their keys -/
def inKeys (k : D) (ks : List D) : Bool := match keyD k with
  | some q => ks.any fun j => decide (keyD j = some q)
  | none => false
def dIn : D → D → Option D
  | x, .lst l => if nearIn x l = true then some (.bl (inD x l)) else none
  | x, .tup l => if nearIn x l = true then some (.bl (inD x l)) else none
  | .str a, .str b => some (.bl (strIn a b))
  | x, .dit ks _ => (keyN x).map fun κ => .bl (hasK ks κ)
  | x, .dik ks _ => (keyD x).map fun k => .bl (hasI ks k)
  | _, _ => none
def dNotIn : D → D → Option D
  | x, .lst l => if nearIn x l = true then some (.bl (!inD x l)) else none
  | x, .tup l => if nearIn x l = true then some (.bl (!inD x l)) else none
  | .str a, .str b => some (.bl (!strIn a b))
  | x, .dit ks _ => (keyN x).map fun κ => .bl (!hasK ks κ)
  | x, .dik ks _ => (keyD x).map fun k => .bl (!hasI ks k)
  | _, _ => none
theorem oA_in (hK : X.K = G.K) (hP : X.prog = G.P) (hW : X.w = G.w) (hu : X.A.units + 66 < cLine) : OpR X (compareOp .In) (rA2 G dIn) := by
  intro pins s σ H x y v u Q I rx ry h
  obtain ⟨sh, N, dx, dy, d, hN, hx, hy, e, q⟩ := h
  cases dy with
  | dik ks us =>
    obtain ⟨k, e1, rfl⟩ := Option.map_eq_some_iff.mp (show (keyD dx).map (fun q => D.bl (hasI ks q)) = some d by cases dx <;> exact e)
    obtain rfl := keyD_is e1 hx
    obtain ⟨a, kk, vs, rfl, er, ek, nd, hl, ru⟩ := rb_dik hy
    cases ry
    refine d_in (by omega) I (.inl ⟨_, k, er, rfl, rfl⟩) rx fun s' I' => ?_
    rw [← hasI_eq k ek hl]
    exact ⟨.bl _, H, I', rfl, q _ H (fun _ _ z => z) rv_bl⟩
  | dit ks us =>
    obtain ⟨κ, e1, rfl⟩ := Option.map_eq_some_iff.mp (show (keyN dx).map (fun κ => D.bl (hasK ks κ)) = some d by cases dx <;> exact e)
    obtain ⟨b, rfl, hk⟩ := keyN_is hK I e1 hx rx
    obtain ⟨a, o, xs, vs, rfl, er, dr, ek, rk, _⟩ := rb_dit hy
    cases ry
    refine in_keyed (show X.A.in1.units + 8 < cLine by have : X.A.in1.units = X.A.units + 1 := rfl; omega) hk dr.2.2.2.2.1 ⟨xs, dit_of hK hP hW I er dr ek rk, rfl⟩ ?_
    rw [← hasK_eq ek]
    exact ⟨.bl _, H, I.tok _, rfl, q _ H (fun _ _ z => z) rv_bl⟩
  | lst l =>
    obtain ⟨c, rfl⟩ := ite_some (show (if nearIn dx l = true then some (D.bl (inD dx l)) else none) = some d by cases dx <;> exact e)
    obtain ⟨p1, p2, hd⟩ := nearIn_iff.mp c
    obtain ⟨d1, l1⟩ := rb_dp p1 hx
    obtain ⟨d2, l2⟩ := rb_dp (d := .lst l) (by simp only [pur]; exact p2) hy
    obtain ⟨as, r1⟩ := Dp.reads I _ x v (hK ▸ d1) rx
    obtain ⟨bs, r2⟩ := Dp.reads I _ y u (hK ▸ d2) ry
    simp only [toPy, PyData.canLay0] at r2 l2
    refine SeqAt.in_list_reads r2 r1 l2 l1 (by rw [dep_py _ p1, deps_py _ p2]; omega) ?_
    rw [any_py p1 _ p2]
    exact ⟨.bl _, H, I, rfl, q _ H (fun _ _ z => z) rv_bl⟩
  | tup l =>
    obtain ⟨c, rfl⟩ := ite_some (show (if nearIn dx l = true then some (D.bl (inD dx l)) else none) = some d by cases dx <;> exact e)
    obtain ⟨p1, p2, hd⟩ := nearIn_iff.mp c
    obtain ⟨d1, l1⟩ := rb_dp p1 hx
    obtain ⟨d2, l2⟩ := rb_dp (d := .tup l) (by simp only [pur]; exact p2) hy
    obtain ⟨as, r1⟩ := Dp.reads I _ x v (hK ▸ d1) rx
    obtain ⟨bs, r2⟩ := Dp.reads I _ y u (hK ▸ d2) ry
    simp only [toPy, PyData.canLay0] at r2 l2
    refine SeqAt.in_tuple_reads r2 r1 l2 l1 (by rw [dep_py _ p1, deps_py _ p2]; omega) ?_
    rw [any_py p1 _ p2]
    exact ⟨.bl _, H, I, rfl, q _ H (fun _ _ z => z) rv_bl⟩
  | str b =>
    cases dx with
    | str a =>
      cases e
      obtain ⟨rfl, _⟩ := rb_str hx
      obtain ⟨rfl, _⟩ := rb_str hy
      exact op_in_str pins s σ H _ _ v u Q I rx ry ⟨a, b, rfl, rfl, q _ H (fun _ _ z => z) rv_bl⟩
    | _ => cases e
  | _ => cases dx <;> cases e
theorem oA_notIn (hK : X.K = G.K) (hP : X.prog = G.P) (hW : X.w = G.w) (hu : X.A.units + 66 < cLine) : OpR X (compareOp .NotIn) (rA2 G dNotIn) := by
  intro pins s σ H x y v u Q I rx ry h
  obtain ⟨sh, N, dx, dy, d, hN, hx, hy, e, q⟩ := h
  cases dy with
  | dik ks us =>
    obtain ⟨k, e1, rfl⟩ := Option.map_eq_some_iff.mp (show (keyD dx).map (fun q => D.bl (!hasI ks q)) = some d by cases dx <;> exact e)
    obtain rfl := keyD_is e1 hx
    obtain ⟨a, kk, vs, rfl, er, ek, nd, hl, ru⟩ := rb_dik hy
    cases ry
    refine d_notIn (by omega) I (.inl ⟨_, k, er, rfl, rfl⟩) rx fun s' I' => ?_
    rw [← hasI_eq k ek hl]
    exact ⟨.bl _, H, I', rfl, q _ H (fun _ _ z => z) rv_bl⟩
  | dit ks us =>
    obtain ⟨κ, e1, rfl⟩ := Option.map_eq_some_iff.mp (show (keyN dx).map (fun κ => D.bl (!hasK ks κ)) = some d by cases dx <;> exact e)
    obtain ⟨b, rfl, hk⟩ := keyN_is hK I e1 hx rx
    obtain ⟨a, o, xs, vs, rfl, er, dr, ek, rk, _⟩ := rb_dit hy
    cases ry
    refine notIn_keyed (show X.A.in1.units + 8 < cLine by have : X.A.in1.units = X.A.units + 1 := rfl; omega) hk dr.2.2.2.2.1 ⟨xs, dit_of hK hP hW I er dr ek rk, rfl⟩ ?_
    rw [← hasK_eq ek]
    exact ⟨.bl _, H, I.tok _, rfl, q _ H (fun _ _ z => z) rv_bl⟩
  | lst l =>
    obtain ⟨c, rfl⟩ := ite_some (show (if nearIn dx l = true then some (D.bl (!inD dx l)) else none) = some d by cases dx <;> exact e)
    obtain ⟨p1, p2, hd⟩ := nearIn_iff.mp c
    obtain ⟨d1, l1⟩ := rb_dp p1 hx
    obtain ⟨d2, l2⟩ := rb_dp (d := .lst l) (by simp only [pur]; exact p2) hy
    obtain ⟨as, r1⟩ := Dp.reads I _ x v (hK ▸ d1) rx
    obtain ⟨bs, r2⟩ := Dp.reads I _ y u (hK ▸ d2) ry
    simp only [toPy, PyData.canLay0] at r2 l2
    refine SeqAt.notIn_list_reads r2 r1 l2 l1 (by rw [dep_py _ p1, deps_py _ p2]; omega) ?_
    rw [any_py p1 _ p2]
    exact ⟨.bl _, H, I, rfl, q _ H (fun _ _ z => z) rv_bl⟩
  | tup l =>
    obtain ⟨c, rfl⟩ := ite_some (show (if nearIn dx l = true then some (D.bl (!inD dx l)) else none) = some d by cases dx <;> exact e)
    obtain ⟨p1, p2, hd⟩ := nearIn_iff.mp c
    obtain ⟨d1, l1⟩ := rb_dp p1 hx
    obtain ⟨d2, l2⟩ := rb_dp (d := .tup l) (by simp only [pur]; exact p2) hy
    obtain ⟨as, r1⟩ := Dp.reads I _ x v (hK ▸ d1) rx
    obtain ⟨bs, r2⟩ := Dp.reads I _ y u (hK ▸ d2) ry
    simp only [toPy, PyData.canLay0] at r2 l2
    refine SeqAt.notIn_tuple_reads r2 r1 l2 l1 (by rw [dep_py _ p1, deps_py _ p2]; omega) ?_
    rw [any_py p1 _ p2]
    exact ⟨.bl _, H, I, rfl, q _ H (fun _ _ z => z) rv_bl⟩
  | str b =>
    cases dx with
    | str a =>
      cases e
      obtain ⟨rfl, _⟩ := rb_str hx
      obtain ⟨rfl, _⟩ := rb_str hy
      exact op_notin_str pins s σ H _ _ v u Q I rx ry ⟨a, b, rfl, rfl, q _ H (fun _ _ z => z) rv_bl⟩
    | _ => cases e
  | _ => cases dx <;> cases e

/-! ### is, order -/
def dIs : D → D → Option D
  | d, .non => some (.bl (match d with | .non => true | _ => false))
  | .bl a, .bl b => some (.bl (decide (a = b)))
  | _, _ => none
def dIsNot : D → D → Option D
  | d, .non => some (.bl (match d with | .non => false | _ => true))
  | .bl a, .bl b => some (.bl (!decide (a = b)))
  | _, _ => none
theorem rb_notnon {d : D} {v : V} (h : G.rb H N sh d v) (n : d ≠ .non) : v ≠ .non := by
  rintro rfl
  rcases h with h | ⟨a, e, _⟩
  · cases d <;> simp [Cg.rv, RV] at h n
  · cases e
theorem oA_is : OpR X (compareOp .Is) (rA2 G dIs) := by
  intro pins s σ H x y v u Q I rx ry h
  obtain ⟨sh, N, dx, dy, d, hN, hx, hy, e, q⟩ := h
  cases dy with
  | non =>
    refine op_isN pins s σ H x y v u Q I rx ry ⟨rb_non hy, ?_⟩
    cases dx with
    | non => cases e; rw [rb_non hx]; exact q _ H (fun _ _ z => z) rv_bl
    | _ => cases e; rw [decide_eq_false (rb_notnon hx (by simp))]; exact q _ H (fun _ _ z => z) rv_bl
  | bl b =>
    cases dx with
    | bl a =>
      cases e
      exact op_isBl pins s σ H x y v u Q I rx ry ⟨a, b, rb_bl hx, rb_bl hy, q _ H (fun _ _ z => z) rv_bl⟩
    | _ => cases e
  | _ => cases dx <;> cases e
theorem oA_isNot : OpR X (compareOp .IsNot) (rA2 G dIsNot) := by
  intro pins s σ H x y v u Q I rx ry h
  obtain ⟨sh, N, dx, dy, d, hN, hx, hy, e, q⟩ := h
  cases dy with
  | non =>
    refine op_notN pins s σ H x y v u Q I rx ry ⟨rb_non hy, ?_⟩
    cases dx with
    | non => cases e; rw [rb_non hx]; exact q _ H (fun _ _ z => z) rv_bl
    | _ => cases e; rw [decide_eq_false (rb_notnon hx (by simp))]; exact q _ H (fun _ _ z => z) rv_bl
  | bl b =>
    cases dx with
    | bl a =>
      cases e
      exact op_notBl pins s σ H x y v u Q I rx ry ⟨a, b, rb_bl hx, rb_bl hy, q _ H (fun _ _ z => z) rv_bl⟩
    | _ => cases e
  | _ => cases dx <;> cases e
end
end Mi

namespace Mi
open PySem PySem.Spec PyProof.Rows L2

section
variable {G : Cg} {W : WX} {X : Cx} {sh : List Addr} {N : Addr → Prop} {H : Hp} {pins : List (Addr × Obj)} {σ : Sg} {s : Shared} {ρ : AE}
/-! ### order of whole numbers -/
def dLt : D → D → Option D
  | .int i, .int j => some (.bl (decide (i < j)))
  | _, _ => none
def dLe : D → D → Option D
  | .int i, .int j => some (.bl (decide (i ≤ j)))
  | _, _ => none
def dGt : D → D → Option D
  | .int i, .int j => some (.bl (decide (j < i)))
  | _, _ => none
def dGe : D → D → Option D
  | .int i, .int j => some (.bl (decide (j ≤ i)))
  | _, _ => none
theorem op_ordB {f : Value → Value → Sem Value} {g : Int → Int → Bool} {F : D → D → Option D} (ho : OpR X f (rI0 fun i j => .bl (g i j)))
    (hF : ∀ dx dy d, F dx dy = some d → ∃ i j, dx = .int i ∧ dy = .int j ∧ d = .bl (g i j)) : OpR X f (rA2 G F) := by
  intro pins s σ H x y v u Q I rx ry h
  obtain ⟨sh, N, dx, dy, d, _, hx, hy, e, q⟩ := h
  obtain ⟨i, j, rfl, rfl, rfl⟩ := hF _ _ _ e
  exact ho pins s σ H x y v u Q I rx ry ⟨i, j, rb_int hx, rb_int hy, q _ H (fun _ _ z => z) rv_bl⟩
theorem int2 {F : Int → Int → D} {dx dy d : D} (h : (match dx, dy with | .int i, .int j => some (F i j) | _, _ => none) = some d) : ∃ i j, dx = .int i ∧ dy = .int j ∧ d = F i j := by
  split at h
  · cases h; exact ⟨_, _, rfl, rfl, rfl⟩
  · cases h
theorem oA_lt : OpR X (compareOp .Lt) (rA2 G dLt) := op_ordB op_lt fun _ _ _ e => int2 (F := fun i j => .bl (decide (i < j))) e
theorem oA_le : OpR X (compareOp .LtE) (rA2 G dLe) := op_ordB op_le fun _ _ _ e => int2 (F := fun i j => .bl (decide (i ≤ j))) e
theorem oA_gt : OpR X (compareOp .Gt) (rA2 G dGt) := op_ordB op_gt fun _ _ _ e => int2 (F := fun i j => .bl (decide (j < i))) e
theorem oA_ge : OpR X (compareOp .GtE) (rA2 G dGe) := op_ordB op_ge fun _ _ _ e => int2 (F := fun i j => .bl (decide (j ≤ i))) e

/-! ### items -/
theorem atI_map {α β : Type} {l : List α} {vs : List β} (h : l.length = vs.length) (i : Int) {d : α} (e : atI l i = some d) : ∃ j : Nat, l[j]? = some d ∧ ∀ v : β, vs[j]? = some v → atI vs i = some v := by
  unfold atI at e ⊢
  rw [← h]
  cases q : ixN l.length i with
  | none => rw [q] at e; cases e
  | some j => rw [q] at e; exact ⟨j, e, fun v hv => hv⟩
def chr1 (c : Nat) : Str := ⟨#[c]⟩
def dIx : D → D → Option D
  | .tup l, .int i => atI l i
  | .lst l, .int i => atI l i
  | .str z, .int i => (atI z.cps.toList i).map fun c => .str ⟨#[c]⟩
  | .dit ks us, k => (keyN k).bind fun κ => lookK ks us κ
  | .dik ks us, k => (keyD k).bind fun q => lookI ks us q
  | _, _ => none
theorem okS_chr {z : Str} (h : okS z) {i : Int} {c : Nat} (e : atI z.cps.toList i = some c) : okS ⟨#[c]⟩ := by
  obtain ⟨h1, h2⟩ := h
  obtain ⟨j, _, h3, _⟩ := atI_get e
  have hm : c ∈ z.cps := by
    have := List.mem_of_getElem? h3
    simpa using this
  unfold PyData.strOk at h1
  rw [Array.all_eq_true_iff_forall_mem] at h1
  have hc := h1 c hm
  refine ⟨?_, ?_⟩
  · unfold PyData.strOk
    simpa using hc
  · show 1 ≤ sizeLine
    rw [sizeLine_eq]; decide
theorem iA (hK : X.K = G.K) (hP : X.prog = G.P) (hW : X.w = G.w) (hu : X.A.units + 66 < cLine) : IxR X (rA2 G dIx) := by
  intro value slice pins s σ H x y v u Q I rx ry h hs
  obtain ⟨sh, N, dx, dy, d, hN, hx, hy, e, q⟩ := h
  cases dx with
  | dik ks us =>
    obtain ⟨c, e1, e2⟩ := Option.bind_eq_some_iff.mp (show (keyD dy).bind (fun c => lookI ks us c) = some d from e)
    obtain ⟨a, kk, vs, rfl, er, ek, nd, hl, ru⟩ := rb_dik hx
    cases rx
    obtain ⟨v', a1, a2⟩ := lookI_at ek hl ru e2
    obtain rfl := keyD_is e1 hy
    obtain ⟨z, hd, ws, rel, dd⟩ := dk_rd I.hok er
    obtain ⟨w', hw, rw'⟩ := RelO.some_of (v := v') (o := valueAt ws c) (by rw [← a1]; exact rel.val c)
    exact subscriptTail_builtinR (x := w') dd.typeIs F.slot_dict_getitem.lookup (wpAny_getItem_of (kV_is ry) dd.mapOf hw ⟨rfl, v', H, I.tok _, rw', q _ H (fun _ _ z => z) a2⟩) hs
  | dit ks us =>
    obtain ⟨κ, e1, e2⟩ := Option.bind_eq_some_iff.mp (show (keyN dy).bind (fun κ => lookK ks us κ) = some d from e)
    obtain ⟨b, rfl, hk⟩ := keyN_is hK I e1 hy ry
    obtain ⟨a, o, xs, vs, rfl, er, dr, ek, rk, rv, ru⟩ := rb_dit hx
    cases rx
    obtain ⟨p, v', a1, a2, a3⟩ := lookK_at ek rv ru e2
    have hm := dit_of hK hP hW I er dr ek rk
    exact subscriptTail_builtinR (x := p.2) hm.typeIs F.slot_dict_getitem.lookup (wpAny_getItem_heap (show X.A.in1.units + 8 < cLine by have : X.A.in1.units = X.A.units + 1 := rfl; omega) hk hm a1 ⟨rfl, v', H, I.tok _, a2, q _ H (fun _ _ z => z) a3⟩) hs
  | tup l =>
    cases dy with
    | int i =>
      obtain ⟨a, vs, rfl, t, r⟩ := rb_tup hx
      obtain ⟨j, e1, e2⟩ := atI_map (RVs.length r) i e
      obtain ⟨w, e3, rw'⟩ := RVs.get r e1
      exact ix_tup value slice pins s σ H _ y v u Q I rx ry ⟨a, vs, i, w, rfl, rb_int hy, hK ▸ t.sq, e2 w e3, q _ H (fun _ _ z => z) rw'⟩ hs
    | _ => cases e
  | lst l =>
    cases dy with
    | int i =>
      obtain ⟨a, vs, rfl, t, r⟩ := rb_lst hx
      obtain ⟨j, e1, e2⟩ := atI_map (RVs.length r) i e
      obtain ⟨w, e3, rw'⟩ := RVs.get r e1
      exact ix_list value slice pins s σ H _ y v u Q I rx ry ⟨a, vs, i, w, rfl, rb_int hy, .inl t, e2 w e3, q _ H (fun _ _ z => z) rw'⟩ hs
    | _ => cases e
  | str z =>
    cases dy with
    | int i =>
      obtain ⟨rfl, o⟩ := rb_str hx
      cases qc : atI z.cps.toList i with
      | none => simp only [dIx, qc] at e; cases e
      | some c =>
        simp only [dIx, qc, Option.map_some] at e; cases e
        exact ix_str value slice pins s σ H _ y v u Q I rx ry ⟨z, i, c, rfl, rb_int hy, o.2, qc, q _ H (fun _ _ z => z) (rv_str (okS_chr o qc))⟩ hs
    | _ => cases e
  | _ => cases dy <;> cases e
variable {a b e : Expr} {es : List Expr} {pos p2 : Pos} {ra rb : AE → R D} {rs : AE → R (List D)}
theorem pe_ixA (hK : X.K = G.K) (hP : X.prog = G.P) (hW : X.w = G.w) (hu : X.A.units + 66 < cLine) (ha : PE X a (tEv G W G.rb ra)) (hb : PE X b (tEv G W G.rb rb)) (hs : PlainIx b) : PE X (.Subscript a b pos) (tEv G W G.rv (rOp2 dIx ra rb)) := PE.imp (pe_ix (iA hK hP hW hu) ha hb hs) fun _ _ _ t => read2 t

/-! ### slices -/
def cutD (l : List D) (lo hi : Option Int) : List D := (l.drop (HT.sIx l.length 0 lo)).take (HT.sIx l.length l.length hi - HT.sIx l.length 0 lo)
def dSl : D → Option Int → Option Int → Option D
  | .tup l, lo, hi => some (.tup (cutD l lo hi))
  | .lst l, lo, hi => some (.lst (cutD l lo hi))
  | .str z, lo, hi => some (.str (cutS z lo hi))
  | _, _, _ => none
def dPart : D → Option Int
  | .int i => some i
  | _ => none
/-- a part of a slice -/
def rNoP : AE → R (Option Int) := fun ρ => .ok none ρ
def rP (ra : AE → R D) : AE → R (Option Int) := fun ρ => (ra ρ).bind fun d ρ1 => match d with
  | .int i => .ok (some i) ρ1
  | _ => .bad
def rlp : Rel (Option Int) (Option Int) := fun _ _ _ a b => a = b
theorem po_noneA : PO X none (tEv G W rlp rNoP) := ⟨fun pins s σ H Q I t => po_none.run pins s σ H Q I (by
  obtain ⟨sh, N, ρ, rp, p⟩ := t
  exact Post.ret p rp rfl)⟩
theorem po_someA (h : PE X e (tEv G W G.rv ra)) : PO X (some e) (tEv G W rlp (rP ra)) := ⟨fun pins s σ H Q I t => (po_some h).run pins s σ H Q I (by
  obtain ⟨sh, N, ρ, rp, p⟩ := t
  refine tEv.run rp p fun d ρ1 sh1 N1 x H1 _ rp1 k1 hx p1 => ?_
  cases d with
  | int i => exact ⟨i, rb_int (.inl hx), Post.ret p1 rp1 rfl⟩
  | _ => exact p1.elim)⟩
def rSl (f : D → Option Int → Option Int → Option D) (ra : AE → R D) (rl rh : AE → R (Option Int)) : AE → R D := fun ρ => (ra ρ).bind fun x ρ1 => (rl ρ1).bind fun l ρ2 => (rh ρ2).bind fun h ρ3 => ofO (f x l h) ρ3
def rAsl (G : Cg) (f : D → Option Int → Option Int → Option D) : V → Option Int → Option Int → Hp → VK → Prop := fun x lo hi H Q => ∃ sh N dx d, (∀ a, N a → ∃ o, H a = some o) ∧ G.rb H N sh dx x ∧ f dx lo hi = some d ∧ ∀ v H', (∀ a o, H a = some o → H' a = some o) → G.rv H' N sh d v → Q v H'
theorem readSl {f : D → Option Int → Option Int → Option D} {rlo rhi : AE → R (Option Int)} {Q : VK} (t : tEv G W G.rv (rSl f ra rlo rhi) σ H Q) : tSl (rAsl G f) (tEv G W G.rb ra) (tEv G W rlp rlo) (tEv G W rlp rhi) σ H Q := by
  obtain ⟨sh, N, ρ, rp, p⟩ := t
  refine tEv.run rp p fun dx ρ1 sh1 N1 x H1 _ rp1 k1 hx p1 => tEv.run rp1 p1 fun dl ρ2 sh2 N2 l H2 _ rp2 k2 hl p2 => tEv.run rp2 p2 fun dh ρ3 sh3 N3 h H3 _ rp3 k3 hh p3 => ?_
  cases hl
  cases hh
  obtain ⟨d, e, q⟩ := post_ofO p3 rp3
  exact ⟨sh3, N3, dx, d, rp3.dom, Cg.rb_mono (Cg.rb_mono hx k2 rp1.shN) k3 rp2.shN, e, q⟩
theorem cut_rvs {l : List D} {vs : List V} (r : G.rvs H N sh l vs) (lo hi : Option Int) : G.rvs H N sh (cutD l lo hi) (cutV vs lo hi) := by
  unfold cutD cutV
  rw [RVs.length r]
  exact RVs.cut r _ _
theorem okS_cut {z : Str} (h : okS z) (lo hi : Option Int) : okS (cutS z lo hi) := by
  obtain ⟨h1, h2⟩ := h
  refine ⟨?_, ?_⟩
  · unfold PyData.strOk at *
    rw [Array.all_eq_true_iff_forall_mem] at *
    intro x hx
    refine h1 x ?_
    unfold cutS at hx
    simp only [List.mem_toArray] at hx
    exact Array.mem_toList_iff.mp (List.mem_of_mem_drop (List.mem_of_mem_take hx))
  · show (cutS z lo hi).cps.size ≤ _
    unfold cutS
    simp only [List.size_toArray, List.length_take, List.length_drop]
    have : z.cps.toList.length = z.length := by simp [Str.length]
    omega
theorem slA (hK : X.K = G.K) : SlR X (rAsl G dSl) := by
  intro pins s σ H x v vl vu lo hi sl Q I rx hs pl pu h
  obtain ⟨sh, N, dx, d, hN, hx, e, q⟩ := h
  cases dx with
  | tup l =>
    cases e
    obtain ⟨a, vs, rfl, t, r⟩ := rb_tup hx
    have cr := cut_rvs r lo hi
    refine sl_tupA pins s σ H _ v vl vu lo hi sl Q I rx hs pl pu ⟨a, vs, rfl, hK ▸ t.sq, fun hw => ?_, fun hw p hp => ?_⟩
    · have e1 : cutV vs lo hi = vs := by
        unfold cutV
        rw [hw.1, hw.2]; simp
      rw [e1] at cr
      exact q _ H (fun _ _ z => z) (rv_tup t cr)
    · exact q _ _ (grows hp) (rv_newtup hp (fun z => by obtain ⟨o, e⟩ := hN _ z; rw [hp] at e; cases e) cr)
  | lst l =>
    cases e
    obtain ⟨a, vs, rfl, t, r⟩ := rb_lst hx
    have cr := cut_rvs r lo hi
    refine sl_list pins s σ H _ v vl vu lo hi sl Q I rx hs pl pu ⟨a, vs, rfl, .inl t, fun p hp => ?_⟩
    refine q _ _ (grows hp) ?_
    rw [Cg.rv, RV]
    exact ⟨_, _, rfl, ⟨.inl upd_same, fun z => by obtain ⟨o, e⟩ := hN _ z; rw [hp] at e; cases e⟩, rvs_grow hp cr⟩
  | str z =>
    cases e
    obtain ⟨rfl, o⟩ := rb_str hx
    exact sl_str pins s σ H _ v vl vu lo hi sl Q I rx hs pl pu ⟨z, rfl, o.2, q _ H (fun _ _ z => z) (rv_str (okS_cut o lo hi))⟩
  | _ => cases e
theorem pe_slA {lo hi : Option Expr} {rlo rhi : AE → R (Option Int)} (hK : X.K = G.K) (ha : PE X a (tEv G W G.rb ra)) (hl : PO X lo (tEv G W rlp rlo)) (hh : PO X hi (tEv G W rlp rhi)) : PE X (.Subscript a (.Slice lo hi none p2) pos) (tEv G W G.rv (rSl dSl ra rlo rhi)) :=
  PE.imp (pe_slice (slA hK) ha hl hh) fun _ _ _ t => readSl t

/-! ### built-in functions -/
def dLen : List D → Option D
  | [.tup l] => some (.int l.length)
  | [.lst l] => some (.int l.length)
  | [.str z] => some (.int z.length)
  | [.dit ks _] => some (.int ks.length)
  | [.dik ks _] => some (.int ks.length)
  | _ => none
theorem rbs1 {d : D} {xs : List V} (h : Rbs G H N sh [d] xs) : ∃ x, xs = [x] ∧ G.rb H N sh d x := by
  cases h with
  | cons h t => cases t; exact ⟨_, rfl, h⟩
theorem rbs2 {d e : D} {xs : List V} (h : Rbs G H N sh [d, e] xs) : ∃ x y, xs = [x, y] ∧ G.rb H N sh d x ∧ G.rb H N sh e y := by
  cases h with
  | cons h t =>
    obtain ⟨y, rfl, hy⟩ := rbs1 t
    exact ⟨_, _, rfl, h, hy⟩
theorem cA_len (hK : X.K = G.K) (hP : X.prog = G.P) (hW : X.w = G.w) : CallR X (.builtin "len") (rAn G dLen) := by
  intro pins s σ H xs us Q I r h
  obtain ⟨sh, N, ds, d, hN, hxs, e, q⟩ := h
  match ds, e with
  | [.dik ks us'], e =>
    cases e
    obtain ⟨x, rfl, hx⟩ := rbs1 hxs
    obtain ⟨a, kk, vs, rfl, er, ek, nd, hl, ru⟩ := rb_dik hx
    obtain ⟨u, rfl, ru'⟩ := vals1 r
    cases ru'
    have hz : (kk.zip vs).length = ks.length := by
      have := congrArg List.length ek
      rw [List.length_zip, ← hl, Nat.min_self]; simpa using this.symm
    refine d_len I er fun t s' I' => ?_
    rw [hz]
    exact ⟨.int _, H, I', ⟨_, rfl⟩, q _ H (fun _ _ z => z) rv_int⟩
  | [.dit ks us'], e =>
    cases e
    obtain ⟨x, rfl, hx⟩ := rbs1 hxs
    obtain ⟨a, o, ys, vs, rfl, er, dr, ek, rk, _⟩ := rb_dit hx
    obtain ⟨u, rfl, ru⟩ := vals1 r
    cases ru
    have hl : ks.length = ys.length := by have := congrArg List.length ek; simpa using this
    refine call_len_dictH dr.2.2.2.2.1 (dit_of hK hP hW I er dr ek rk) (by have := dr.2.2.2.1; have := line63; omega) ?_
    rw [← hl]
    exact ⟨.int _, H, I.tok _, ⟨_, rfl⟩, q _ H (fun _ _ z => z) rv_int⟩
  | [.tup l], e =>
    cases e
    obtain ⟨x, rfl, hx⟩ := rbs1 hxs
    obtain ⟨a, vs, rfl, t, rr⟩ := rb_tup hx
    exact call_len_seq pins s σ H _ us Q I r ⟨a, vs, rfl, .inr (hK ▸ t.sq), q _ H (fun _ _ z => z) (by rw [RVs.length rr]; exact rv_int)⟩
  | [.lst l], e =>
    cases e
    obtain ⟨x, rfl, hx⟩ := rbs1 hxs
    obtain ⟨a, vs, rfl, t, rr⟩ := rb_lst hx
    exact call_len_seq pins s σ H _ us Q I r ⟨a, vs, rfl, .inl (.inl t), q _ H (fun _ _ z => z) (by rw [RVs.length rr]; exact rv_int)⟩
  | [.str z], e =>
    cases e
    obtain ⟨x, rfl, hx⟩ := rbs1 hxs
    obtain ⟨rfl, o⟩ := rb_str hx
    exact call_len pins s σ H _ us Q I r ⟨_, z.length, rfl, ⟨o.2, rfl⟩, q _ H (fun _ _ z => z) rv_int⟩
def dAbs : List D → Option D
  | [.int i] => some (.int (if i < 0 then -i else i))
  | _ => none
theorem cA_abs : CallR X (.builtin "abs") (rAn G dAbs) := by
  intro pins s σ H xs us Q I r h
  obtain ⟨sh, N, ds, d, hN, hxs, e, q⟩ := h
  match ds, e with
  | [.int i], e =>
    cases e
    obtain ⟨x, rfl, hx⟩ := rbs1 hxs
    exact call_abs pins s σ H _ us Q I r ⟨i, by rw [rb_int hx], q _ H (fun _ _ z => z) rv_int⟩
def dInt : List D → Option D
  | [.int i] => some (.int i)
  | [.bl k] => some (.int (if k then 1 else 0))
  | _ => none
theorem cA_int : CallR X (.type "int") (rAn G dInt) := by
  intro pins s σ H xs us Q I r h
  obtain ⟨sh, N, ds, d, hN, hxs, e, q⟩ := h
  match ds, e with
  | [.int i], e =>
    cases e
    obtain ⟨x, rfl, hx⟩ := rbs1 hxs
    exact call_int1 pins s σ H _ us Q I r (.inl ⟨i, by rw [rb_int hx], q _ H (fun _ _ z => z) rv_int⟩)
  | [.bl i], e =>
    cases e
    obtain ⟨x, rfl, hx⟩ := rbs1 hxs
    exact call_int1 pins s σ H _ us Q I r (.inr ⟨i, by rw [rb_bl hx], q _ H (fun _ _ z => z) rv_int⟩)
def dMax2 : List D → Option D
  | [.int i, .int j] => some (.int (if j > i then j else i))
  | _ => none
def dMin2 : List D → Option D
  | [.int i, .int j] => some (.int (if j < i then j else i))
  | _ => none
theorem cA_max2 (hc : X.calm = true) : CallR X (.builtin "max") (rAn G dMax2) := by
  intro pins s σ H xs us Q I r h
  obtain ⟨sh, N, ds, d, hN, hxs, e, q⟩ := h
  match ds, e with
  | [.int i, .int j], e =>
    cases e
    obtain ⟨x, y, rfl, hx, hy⟩ := rbs2 hxs
    exact call_max2 hc pins s σ H _ us Q I r ⟨i, j, by rw [rb_int hx, rb_int hy], q _ H (fun _ _ z => z) rv_int⟩
theorem cA_min2 (hc : X.calm = true) : CallR X (.builtin "min") (rAn G dMin2) := by
  intro pins s σ H xs us Q I r h
  obtain ⟨sh, N, ds, d, hN, hxs, e, q⟩ := h
  match ds, e with
  | [.int i, .int j], e =>
    cases e
    obtain ⟨x, y, rfl, hx, hy⟩ := rbs2 hxs
    exact call_min2 hc pins s σ H _ us Q I r ⟨i, j, by rw [rb_int hx, rb_int hy], q _ H (fun _ _ z => z) rv_int⟩
/-- all bools; all whole numbers -/
def blsD : List D → Option (List Bool)
  | [] => some []
  | .bl b :: r => (blsD r).map (b :: ·)
  | _ => none
def intsD : List D → Option (List Int)
  | [] => some []
  | .int b :: r => (intsD r).map (b :: ·)
  | _ => none
theorem bls_rvs : ∀ {l : List D} {bs : List Bool} {vs : List V}, blsD l = some bs → G.rvs H N sh l vs → vs = bs.map V.bl
  | [], _, _, e, r => by cases e; rw [RVs.nil_iff.mp r]; rfl
  | d :: ds, bs, vs, e, r => by
    obtain ⟨v, t, rfl, h1, h2⟩ := RVs.inv r
    cases d with
    | bl b =>
      simp only [blsD] at e
      cases q : blsD ds with
      | none => rw [q] at e; cases e
      | some cs =>
        rw [q] at e; cases e
        rw [bls_rvs q h2, rb_bl (.inl h1)]; rfl
    | _ => cases e
theorem ints_rvs : ∀ {l : List D} {bs : List Int} {vs : List V}, intsD l = some bs → G.rvs H N sh l vs → vs = bs.map V.int
  | [], _, _, e, r => by cases e; rw [RVs.nil_iff.mp r]; rfl
  | d :: ds, bs, vs, e, r => by
    obtain ⟨v, t, rfl, h1, h2⟩ := RVs.inv r
    cases d with
    | int b =>
      simp only [intsD] at e
      cases q : intsD ds with
      | none => rw [q] at e; cases e
      | some cs =>
        rw [q] at e; cases e
        rw [ints_rvs q h2, rb_int (.inl h1)]; rfl
    | _ => cases e
def dAll : List D → Option D
  | [.lst l] => (blsD l).map fun bs => .bl (bs.all id)
  | _ => none
def dAny : List D → Option D
  | [.lst l] => (blsD l).map fun bs => .bl (bs.any id)
  | _ => none
def dSum : List D → Option D
  | [.lst l] => (intsD l).map fun bs => .int bs.sum
  | _ => none
theorem map_some {α β : Type} {o : Option α} {f : α → β} {b : β} (h : o.map f = some b) : ∃ a, o = some a ∧ f a = b := by
  cases o with
  | none => cases h
  | some a => exact ⟨a, rfl, Option.some.inj h⟩
theorem cA_all (hc : X.calm = true) : CallR X (.builtin "all") (rAn G dAll) := by
  intro pins s σ H xs us Q I r h
  obtain ⟨sh, N, ds, d, hN, hxs, e, q⟩ := h
  match ds, e with
  | [.lst l], e =>
    obtain ⟨bs, e1, rfl⟩ := map_some e
    obtain ⟨x, rfl, hx⟩ := rbs1 hxs
    obtain ⟨a, vs, rfl, t, rr⟩ := rb_lst hx
    obtain rfl := bls_rvs e1 rr
    exact cr_all hc pins s σ H _ us Q I r ⟨a, bs, rfl, .inl t, q _ H (fun _ _ z => z) rv_bl⟩
theorem cA_any (hc : X.calm = true) : CallR X (.builtin "any") (rAn G dAny) := by
  intro pins s σ H xs us Q I r h
  obtain ⟨sh, N, ds, d, hN, hxs, e, q⟩ := h
  match ds, e with
  | [.lst l], e =>
    obtain ⟨bs, e1, rfl⟩ := map_some e
    obtain ⟨x, rfl, hx⟩ := rbs1 hxs
    obtain ⟨a, vs, rfl, t, rr⟩ := rb_lst hx
    obtain rfl := bls_rvs e1 rr
    exact cr_any hc pins s σ H _ us Q I r ⟨a, bs, rfl, .inl t, q _ H (fun _ _ z => z) rv_bl⟩
theorem cA_sum (hc : X.calm = true) : CallR X (.builtin "sum") (rAn G dSum) := by
  intro pins s σ H xs us Q I r h
  obtain ⟨sh, N, ds, d, hN, hxs, e, q⟩ := h
  match ds, e with
  | [.lst l], e =>
    obtain ⟨bs, e1, rfl⟩ := map_some e
    obtain ⟨x, rfl, hx⟩ := rbs1 hxs
    obtain ⟨a, vs, rfl, t, rr⟩ := rb_lst hx
    obtain rfl := ints_rvs e1 rr
    exact cr_sum hc pins s σ H _ us Q I r ⟨a, bs, rfl, .inl t, q _ H (fun _ _ z => z) rv_int⟩
/-- the greatest of a list of whole numbers -/
def maxI : List Int → Option Int
  | [] => none
  | x :: r => some (r.foldl max x)
theorem foldmax_ge : ∀ (r : List Int) (x : Int), x ≤ r.foldl max x ∧ (∀ y ∈ r, y ≤ r.foldl max x) ∧ (r.foldl max x = x ∨ r.foldl max x ∈ r)
  | [], x => ⟨Int.le_refl _, by simp, .inl rfl⟩
  | y :: r, x => by
    obtain ⟨h1, h2, h3⟩ := foldmax_ge r (max x y)
    simp only [List.foldl_cons]
    refine ⟨by omega, fun z hz => ?_, ?_⟩
    · rcases List.mem_cons.mp hz with rfl | hz
      · omega
      · exact h2 z hz
    · rcases h3 with h3 | h3
      · rw [h3]
        by_cases h : x ≤ y
        · exact .inr (by rw [Int.max_eq_right h]; exact List.mem_cons_self)
        · exact .inl (by rw [Int.max_eq_left (by omega)])
      · exact .inr (List.mem_cons_of_mem _ h3)
def dMax1 : List D → Option D
  | [.lst l] => (intsD l).bind fun bs => (maxI bs).map .int
  | _ => none
theorem cA_max1 (hc : X.calm = true) : CallR X (.builtin "max") (rAn G dMax1) := by
  intro pins s σ H xs us Q I r h
  obtain ⟨sh, N, ds, d, hN, hxs, e, q⟩ := h
  match ds, e with
  | [.lst l], e =>
    cases q1 : intsD l with
    | none => simp only [dMax1, q1] at e; cases e
    | some bs =>
      simp only [dMax1, q1] at e
      obtain ⟨m, em, rfl⟩ := map_some (show (maxI bs).map D.int = some d from e)
      obtain ⟨x, rfl, hx⟩ := rbs1 hxs
      obtain ⟨a, vs, rfl, t, rr⟩ := rb_lst hx
      obtain rfl := ints_rvs q1 rr
      cases bs with
      | nil => cases em
      | cons b bs =>
        have e3 : bs.foldl max b = m := Option.some.inj em
        obtain ⟨g1, g2, g3⟩ := foldmax_ge bs b
        rw [e3] at g1 g2 g3
        refine cr_max hc pins s σ H _ us Q I r ⟨a, b :: bs, rfl, .inl t, by simp, fun m' hm hle => ?_⟩
        have h1 : m ≤ m' := hle m (by rcases g3 with rfl | g3; exact List.mem_cons_self; exact List.mem_cons_of_mem _ g3)
        have h2 : m' ≤ m := by
          rcases List.mem_cons.mp hm with rfl | hm
          · exact g1
          · exact g2 _ hm
        obtain rfl : m = m' := by omega
        exact q _ H (fun _ _ z => z) rv_int
def isIntD : D → Bool
  | .int _ => true
  | _ => false
/-- the keys of a dict, all whole numbers -/
theorem ints_keys : ∀ {ks : List D} {kk : List Key}, ks.all isIntD = true → ks.map keyD = kk.map some → G.rvs H N sh ks (kk.map kV)
  | [], [], _, _ => RVs.nil
  | [], _ :: _, _, e => by simp at e
  | _ :: _, [], _, e => by simp at e
  | d :: ks, k :: kk, h, e => by
    simp only [List.all_cons, Bool.and_eq_true] at h
    simp only [List.map_cons, List.cons.injEq] at e
    cases d with
    | int i =>
      have : k = .inl i := (Option.some.inj e.1).symm
      subst this
      exact RVs.cons (rv_int (i := i)) (ints_keys h.2 e.2)
    | _ => cases h.1
theorem vals_keys {P : Program} {w : World} {kk : List Key} {vs : List V} {ws : List (Key × Value)} {acc : Array Value} (rk : KV (kk.zip vs) ws) (hl : kk.length = vs.length) (h : ItemsOf (fun i v => ∃ k x, ws[i]? = some (k, x) ∧ (mixKind P w).is k v = true) acc ws.length) : Vals (kk.map kV) acc.toList := by
  have e1 : ws.map (·.1) = kk := by rw [← KV.keys rk, List.map_fst_zip (Nat.le_of_eq hl)]
  have el : acc.toList.length = acc.size := by simp
  refine vals_of_at (by rw [List.length_map, el, h.1, ← e1, List.length_map]) fun j x u h1 h2 => ?_
  obtain ⟨k, y, hky, hi⟩ := h.2 j u (by rw [← Array.getElem?_toList]; exact h2)
  have e2 : (kk.map kV)[j]? = some (kV k) := by rw [← e1, List.map_map, List.getElem?_map, hky]; rfl
  rw [e2] at h1
  cases h1
  exact keyIs_rel hi
/-- tuple(x); list(x) a new list -/
def dTuple : List D → Option D
  | [.tup l] => some (.tup l)
  | [.lst l] => some (.tup l)
  | _ => none
def dList : List D → Option D
  | [.tup l] => some (.lst l)
  | [.lst l] => some (.lst l)
  | [.dit ks _] => some (.lst ks)
  | [.dik ks _] => if ks.all isIntD = true then some (.lst ks) else none
  | _ => none
theorem nN (hN : ∀ a, N a → ∃ o, H a = some o) {p : Addr} (hp : H p = none) : ¬ N p := fun z => by obtain ⟨o, e⟩ := hN _ z; rw [hp] at e; cases e
theorem cA_tuple (hK : X.K = G.K) : CallR X (.type "tuple") (rAn G dTuple) := by
  intro pins s σ H xs us Q I r h
  obtain ⟨sh, N, ds, d, hN, hxs, e, q⟩ := h
  match ds, e with
  | [.tup l], e =>
    cases e
    obtain ⟨x, rfl, hx⟩ := rbs1 hxs
    obtain ⟨a, vs, rfl, t, rr⟩ := rb_tup hx
    exact call_tuple_of pins s σ H _ us Q I r ⟨a, vs, rfl, .inr ⟨hK ▸ t.sq, q _ H (fun _ _ z => z) (rv_tup t rr)⟩⟩
  | [.lst l], e =>
    cases e
    obtain ⟨x, rfl, hx⟩ := rbs1 hxs
    obtain ⟨a, vs, rfl, t, rr⟩ := rb_lst hx
    exact call_tuple_of pins s σ H _ us Q I r ⟨a, vs, rfl, .inl ⟨.inl t, fun p hp => q _ _ (grows hp) (rv_newtup hp (nN hN hp) rr)⟩⟩
theorem cF_list (hK : X.K = G.K) (hc : X.calm = true) : CallR X (.type "list") (rFn G dList) := by
  intro pins s σ H xs us Q I r h
  obtain ⟨sh, N, ds, d, hN, hS, hxs, e, q⟩ := h
  match ds, e with
  | [.dik ks us'], e =>
    obtain ⟨hi, rfl⟩ := ite_some e
    obtain ⟨x, rfl, hx⟩ := rbs1 hxs
    obtain ⟨a, kk, vs, rfl, er, ek, nd, hl, ru⟩ := rb_dik hx
    obtain ⟨u, rfl, ru'⟩ := vals1 r
    cases ru'
    obtain ⟨z, lo, ws, rk, hd⟩ := dk_rd I.hok er
    obtain ⟨ep, hat⟩ := hd.dictAt
    have hlw : (kk.zip vs).length = ws.length := KV.length rk
    refine PySem.W.kdl_call (PySem.W.kdl_dict (knd := mixKind X.prog X.w) (kvs := ws) (ep := ep) lo) (I.ok.hd hc) hat (by rw [← hlw]; exact z) fun h' tk acc c' k1 k2 k3 => ?_
    have hn := I.hok.fresh (Nat.le_refl s.heap.objs.size)
    have hlen : (kk.map kV).length ≤ sizeLine := by
      rw [List.length_map]
      rw [List.length_zip, ← hl, Nat.min_self] at z; exact z
    exact ⟨.ref _, upd H s.heap.objs.size (.lst (kk.map kV)), I.laid (t' := tk) k1 (Nat.le_refl _) ⟨hlen, acc.toList, c', vals_keys rk hl k3, by simpa using k2⟩, rfl, q _ _ (grows hn) hn (rf_newlst hn (nN hN hn) (fun z => nN hN hn (hS _ z)) (ints_keys hi ek))⟩
  | [.dit ks us'], e =>
    cases e
    obtain ⟨x, rfl, hx⟩ := rbs1 hxs
    obtain ⟨a, o, ys, vs, rfl, er, dr, ek, rk, _⟩ := rb_dit hx
    obtain ⟨u, rfl, ru⟩ := vals1 r
    cases ru
    obtain ⟨es, ep, raw, hes, hat⟩ := dit_raw hK I er dr
    refine PySem.W.kdl_call (KdlSrc.rawDict (d := a) (es := es) (ep := ep) dr.2.2.2.2.1) (I.ok.hd hc) raw (by rw [hes]; exact dr.2.2.2.1) fun h' tk acc c' k1 k2 k3 => ?_
    have eacc : acc.toList = (ys.map fun x => x.2.1).map Value.ref := by
      refine List.ext_getElem? fun j => ?_
      rw [Array.getElem?_toList, List.map_map, List.getElem?_map]
      by_cases hj : j < es.size
      · obtain ⟨y, y1, y2, _⟩ := hat j hj
        have hj2 : j < acc.size := by rw [k3.1]; exact hj
        obtain ⟨_, z⟩ := k3.2 j acc[j] (Array.getElem?_eq_getElem hj2)
        rw [Array.getElem?_eq_getElem hj2, y1, z, y2]; rfl
      · rw [Array.getElem?_eq_none (by rw [k3.1]; omega), List.getElem?_eq_none (by omega)]; rfl
    have hv : Vals (ys.map fun x => V.ref x.2.1) acc.toList := by
      rw [eacc]
      have := vals_refs (ys.map fun x => x.2.1)
      rwa [List.map_map] at this
    have hn := I.hok.fresh (Nat.le_refl s.heap.objs.size)
    have hlen : (ys.map fun x => V.ref x.2.1).length ≤ sizeLine := by rw [List.length_map]; exact dr.2.2.2.1
    exact ⟨.ref _, upd H s.heap.objs.size (.lst (ys.map fun x => V.ref x.2.1)), I.laid (t' := tk) k1 (Nat.le_refl _) ⟨hlen, acc.toList, c', hv, by simpa using k2⟩, rfl, q _ _ (grows hn) hn (rf_newlst hn (nN hN hn) (fun z => nN hN hn (hS _ z)) rk)⟩
  | [.tup l], e =>
    cases e
    obtain ⟨x, rfl, hx⟩ := rbs1 hxs
    obtain ⟨a, vs, rfl, t, rr⟩ := rb_tup hx
    exact call_list_of pins s σ H _ us Q I r ⟨a, vs, rfl, .inr (hK ▸ t.sq), fun p hp => q _ _ (grows hp) hp (rf_newlst hp (nN hN hp) (fun z => nN hN hp (hS _ z)) rr)⟩
  | [.lst l], e =>
    cases e
    obtain ⟨x, rfl, hx⟩ := rbs1 hxs
    obtain ⟨a, vs, rfl, t, rr⟩ := rb_lst hx
    exact call_list_of pins s σ H _ us Q I r ⟨a, vs, rfl, .inl (.inl t), fun p hp => q _ _ (grows hp) hp (rf_newlst hp (nN hN hp) (fun z => nN hN hp (hS _ z)) rr)⟩
end
end Mi

namespace Mi
open PySem PySem.Spec PyProof.Rows L2

section
variable {G : Cg} {W : WX} {X : Cx} {sh : List Addr} {N : Addr → Prop} {H : Hp} {pins : List (Addr × Obj)} {σ : Sg} {s : Shared} {ρ : AE}
variable {a b e : Expr} {es : List Expr} {pos p2 p p' : Pos} {ra rb : AE → R D} {rs : AE → R (List D)}
/-! ### isinstance(x, T) -/
def tyD : D → Option String
  | .non => some "NoneType"
  | .bl _ => some "bool"
  | .int _ => some "int"
  | .str _ => some "str"
  | .tup _ => some "tuple"
  | .lst _ => some "list"
  | .dik _ _ => some "dict"
  | _ => none
def isTy : String → String → Bool
  | "bool", "int" => true
  | a, b => a == b
/-- the types that may be asked for -/
inductive TyN : String → Prop
  | int : TyN "int" | bool : TyN "bool" | str : TyN "str" | tuple : TyN "tuple" | list : TyN "list"
theorem tyx {d : D} {v : V} {t : String} (h : G.rb H N sh d v) (e : tyD d = some t) : TyX G.K H v (.type t) := by
  cases d with
  | non => cases e; rw [rb_non h]; exact .base .non
  | bl b => cases e; rw [rb_bl h]; exact .base (.bl _)
  | int i => cases e; rw [rb_int h]; exact .base (.int _)
  | str z => cases e; rw [(rb_str h).1]; exact .base (.str _)
  | tup l =>
    cases e
    obtain ⟨a, vs, rfl, t, r⟩ := rb_tup h
    rcases t with ⟨t | ⟨o, t⟩, _⟩ | ⟨o, its, n, h1, h2, _⟩
    · exact .base (.tup t)
    · exact .fTuple t
    · exact .kTuple h1 h2
  | lst l =>
    cases e
    obtain ⟨a, vs, rfl, t | ⟨o, t⟩, r⟩ := rb_lst h
    · exact .base (.lst t)
    · exact .base (.frz t)
  | dik ks us =>
    cases e
    rcases h with h | ⟨a, rfl, n, h⟩
    · rw [Cg.rv, RV] at h
      obtain ⟨a, kk, vs, rfl, t | ⟨o, t⟩, _⟩ := h
      · exact .base (.dK t)
      · exact .fDict t
    · obtain ⟨kk, vs, t | ⟨o, t⟩, _⟩ := h
      · exact .base (.dK t)
      · exact .fDict t
  | _ => cases e
theorem kit_is {K : PySem.W.Frag} {d : D} {t T : String} (h : TyN T) (e : tyD d = some t) : PySem.W.kitOne K (.type t) (.type T) = some (isTy t T) := by
  cases d <;> first | (cases e; cases h <;> exact kit_ty (by decide +kernel)) | cases e
def dIsi (T : String) (d : D) : Option D := (tyD d).map fun t => .bl (isTy t T)
theorem pe_isiA {T' : Str} {T : String} (hK : X.K = G.K) (hg : Gl X ("isinstance" : Str)) (hm : X.mg ("isinstance" : Str) = none) (hgT : Gl X T') (hmT : X.mg T' = none) (hvT : bootBuiltins T' = some (.type T)) (hT : TyN T) (hn : T' ≠ "__name__") (hdT : (T' == ("__debug__" : Str)) = false)
    (hs : isStar e = false) (ha : PE X e (tEv G W G.rb ra)) : PE X (.Call (.Name "isinstance" p) [e, .Name T' p'] [] pos) (tEv G W G.rv (rOp1 (dIsi T) ra)) := by
  refine PE.imp (pe_callB call_isi hg hm (by decide +kernel) (pa_cons ha (pa_cons (pe_bltn (v := V.ty T) hgT hmT hvT rfl hn hdT) pa_nil (by rfl)) (star_of hs)) (by decide) (by decide) (star_of hs) (by rfl)) fun σ H Q t => ?_
  obtain ⟨sh, N, ρ, rp, p⟩ := t
  refine tEv.run rp p fun dx ρ1 sh1 N1 x H1 _ rp1 k1 hx p1 => ?_
  obtain ⟨d, e1, q⟩ := post_ofO p1 rp1
  obtain ⟨t, e2, rfl⟩ := map_some e1
  exact ⟨x, .ty T, .type t, .type T, isTy t T, rfl, .ty T, hK ▸ tyx hx e2, kit_is hT e2, q _ H1 (fun _ _ z => z) rv_bl⟩
end
end Mi

namespace Mi
open PySem PySem.Spec PyProof.Rows L2

/-! ### statements -/
inductive Fl where
  | next | brk | cont | ret (d : D)
theorem Kp.transS {M M' O O' O'' : Ow} {sh sh' sh'' : List Addr} {N N' N'' : Addr → Prop} {H H' H'' : Hp} (f : Kp M O O' sh sh' N N' H H') (g : Kp M' O' O'' sh' sh'' N' N'' H' H'') (hM : ∀ a, M a → O a) (hM' : ∀ a, M' a → O' a) : Kp O O O'' sh sh'' N N'' H H'' where
  keep := fun a o e n m => by
    have e1 := f.keep a o e n fun z => m (hM a z)
    exact g.keep a o e1 (f.shn a o e n) fun z => f.own a o e m (hM' a z)
  shn := fun a o e n => by
    obtain ⟨o', e'⟩ := f.there a o e
    exact g.shn a o' e' (f.shn a o e n)
  av := fun a o e n => let ⟨o', e'⟩ := f.there a o e; g.av a o' e' (f.av a o e n)
  own := fun a o e n => let ⟨o', e'⟩ := f.there a o e; g.own a o' e' (f.own a o e n)
  pre := f.pre.trans g.pre
  there := fun a o e => let ⟨o', e'⟩ := f.there a o e; g.there a o' e'
  bo := fun i a h => g.bo i a (f.bo i a h)
  st := fun a o e n no => let ⟨o', e'⟩ := f.there a o e; g.st a o' e' (f.st a o e n no) (f.own a o e no)
  mt := fun a o e no h => let ⟨o', e'⟩ := f.there a o e; g.mt a o' e' (f.own a o e no) (f.mt a o e no h)
section
variable (G : Cg)
def PostS (W : WX) (sh : List Addr) (N : Addr → Prop) (ρ : AE) (σ : Sg) (H : Hp) (r : R Fl) (D : Ends) : Prop := match r with
  | .ok f ρ' => ∀ sh' N' σ' H', G.rp sh' N' ρ' σ' H' → Kp (OwnS ρ σ) (OwnS ρ σ) (OwnS ρ' σ') sh sh' N N' H H' → match f with
    | .next => D.nx σ' H'
    | .brk => D.bk σ' H'
    | .cont => D.ct σ' H'
    | .ret d => ∀ v, G.rv H' N' sh' d v → D.rt v H'
  | .exc c fs ρ' => ∀ cls dx sh' N' σ' H', G.rp sh' N' ρ' σ' H' → Kp (OwnS ρ σ) (OwnS ρ σ) (OwnS ρ' σ') sh sh' N N' H H' → G.xr H' N' sh' c fs cls dx → W cls dx σ' H'
  | .bad => False
def tSv (W : WX) (r : AE → R Fl) : TS := fun D σ H => ∃ sh N ρ, G.rp sh N ρ σ H ∧ PostS G W sh N ρ σ H (r ρ) D
end
section
variable {G : Cg} {W : WX} {α β : Type} {rel : Rel α β} {sh sh1 : List Addr} {N N1 : Addr → Prop} {ρ ρ1 : AE} {σ σ1 : Sg} {H H1 : Hp} {D : Ends}
theorem PostS.pre {M : Ow} {r : R Fl} (k : Kp M (OwnS ρ σ) (OwnS ρ1 σ1) sh sh1 N N1 H H1) (hM : ∀ a, M a → OwnS ρ σ a) (p : PostS G W sh N ρ σ H r D) : PostS G W sh1 N1 ρ1 σ1 H1 r D := by
  cases r with
  | ok f ρ2 => exact fun sh2 N2 σ2 H2 rp2 kp2 => p sh2 N2 σ2 H2 rp2 (k.transS kp2 hM fun _ z => z)
  | exc c fs ρ2 => exact fun cls dx sh2 N2 σ2 H2 rp2 kp2 hx => p cls dx sh2 N2 σ2 H2 rp2 (k.transS kp2 hM fun _ z => z) hx
  | bad => exact p
/-- an expression, then more -/
theorem PostS.expr {r : R α} {f : α → AE → R Fl} {T : β → Hp → Prop} (p : PostS G W sh N ρ σ H (r.bind f) D) (rp : G.rp sh N ρ σ H)
    (k : ∀ d ρ1 sh1 N1 x H1, r = .ok d ρ1 → G.rp sh1 N1 ρ1 σ H1 → Kp none1 (OwnS ρ σ) (OwnS ρ1 σ) sh sh1 N N1 H H1 → rel H1 N1 sh1 d x → PostS G W sh1 N1 ρ1 σ H1 (f d ρ1) D → T x H1) : Post G W rel sh N ρ σ H r T := by
  cases r with
  | ok d ρ1 =>
    intro sh1 N1 x H1 rp1 kp1 hr
    exact k d ρ1 sh1 N1 x H1 rfl rp1 kp1 hr (PostS.pre kp1 (fun _ z => z.elim) p)
  | exc c fs ρ1 => exact fun cls dx sh' N' H' rp' kp' hx => p cls dx sh' N' σ H' rp' (kp'.weak fun _ z => z.elim) hx
  | bad => exact p
theorem tEv.stmt {r : AE → R α} {f : α → AE → R Fl} {T : β → Hp → Prop} (rp : G.rp sh N ρ σ H) (p : PostS G W sh N ρ σ H ((r ρ).bind f) D)
    (k : ∀ d ρ1 sh1 N1 x H1, r ρ = .ok d ρ1 → G.rp sh1 N1 ρ1 σ H1 → Kp none1 (OwnS ρ σ) (OwnS ρ1 σ) sh sh1 N N1 H H1 → rel H1 N1 sh1 d x → PostS G W sh1 N1 ρ1 σ H1 (f d ρ1) D → T x H1) : tEv G W rel r σ H T :=
  ⟨sh, N, ρ, rp, p.expr rp k⟩
/-- an expression whose value is new -/
theorem PostS.exprF {r : R Mi.D} {f : Mi.D → AE → R Fl} {T : VK} (p : PostS G W sh N ρ σ H (r.bind f) D) (rp : G.rp sh N ρ σ H)
    (k : ∀ d ρ1 sh1 N1 a H1, r = .ok d ρ1 → G.rp sh1 N1 ρ1 σ H1 → Kp none1 (OwnS ρ σ) (OwnS ρ1 σ) sh sh1 N N1 H H1 → H a = none → G.rp sh1 (fun b => N1 b ∨ b = a) ρ1 σ H1 → G.rf H1 N1 sh1 d a → PostS G W sh N ρ σ H (f d ρ1) D → T (.ref a) H1) : PostF G W sh N ρ σ H r T := by
  cases r with
  | ok d ρ1 =>
    intro sh1 N1 a H1 rp1 kp1 hn ra hr
    exact k d ρ1 sh1 N1 a H1 rfl rp1 kp1 hn ra hr p
  | exc c fs ρ1 => exact fun cls dx sh' N' H' rp' kp' hx => p cls dx sh' N' σ H' rp' (kp'.weak fun _ z => z.elim) hx
  | bad => exact p
theorem PostS.next {D : Ends} (p : PostS G W sh N ρ σ H (.ok .next ρ) D) (rp : G.rp sh N ρ σ H) : D.nx σ H := p sh N σ H rp .refl

/-! ### what is stored -/
def setS (ρ : AE) (i : Nat) (s : Sl) : AE := { ρ with sl := ρ.sl.set i s }
theorem getS {ρ : AE} {i j : Nat} {s t : Sl} (h : (setS ρ i s).sl[j]? = some t) : (j = i ∧ t = s) ∨ (j ≠ i ∧ ρ.sl[j]? = some t) := by
  have h' : (ρ.sl.set i s)[j]? = some t := h
  by_cases e : j = i
  · subst e
    rw [List.getElem?_set_self'] at h'
    cases q : ρ.sl[j]? with
    | none => rw [q] at h'; cases h'
    | some u => rw [q] at h'; exact .inl ⟨rfl, (Option.some.inj h').symm⟩
  · rw [List.getElem?_set_ne (Ne.symm e)] at h'
    exact .inr ⟨e, h'⟩
theorem getV {σ : Sg} {i j : Nat} {v : V} (e : j ≠ i) : (σ.set i (some v))[j]? = σ[j]? := List.getElem?_set_ne (Ne.symm e)
theorem getVi {ρ : AE} {σ : Sg} {i : Nat} {s t : Sl} {v : V} (hl : ρ.sl.length = σ.length) (h : (setS ρ i s).sl[i]? = some t) : (σ.set i (some v))[i]? = some (some v) := by
  have h' : (ρ.sl.set i s)[i]? = some t := h
  have hi : i < ρ.sl.length := by
    have := (List.getElem?_eq_some_iff.mp h').1
    simpa using this
  exact List.getElem?_set_self (by omega)
/-- slot i gets a plain value -/
theorem Rp.setval {i : Nat} {d : Mi.D} {v : V} (rp : G.rp sh N ρ σ H) (h : G.rv H N sh d v) : G.rp sh N (setS ρ i (.val d)) (σ.set i (some v)) H := by
  refine ⟨by simpa [setS] using rp.len, fun j e g => ?_, fun j e g => ?_, fun j e g => ?_, fun j k e f b g1 g2 g3 g4 g5 g6 => ?_, rp.dom, rp.nd, rp.shN, rp.shl, rp.obs⟩
  · rcases getS g with ⟨rfl, q⟩ | ⟨n, q⟩
    · cases q; exact ⟨v, getVi rp.len g, h⟩
    · rw [getV n]; exact rp.val j e q
  · rcases getS g with ⟨rfl, q⟩ | ⟨n, q⟩
    · cases q
    · rw [getV n]; exact rp.own j e q
  · rcases getS g with ⟨rfl, q⟩ | ⟨n, q⟩
    · cases q
    · rw [getV n]; exact rp.bor j e q
  · rcases getS g1 with ⟨rfl, q⟩ | ⟨n, q⟩
    · subst q; cases g3
    · rcases getS g2 with ⟨rfl, q2⟩ | ⟨n2, q2⟩
      · subst q2; cases g4
      · rw [getV n] at g5; rw [getV n2] at g6
        exact rp.dis j k e f b q q2 g3 g4 g5 g6
theorem OwnS.setval {i : Nat} {d : Mi.D} {v : V} {a : Addr} (h : OwnS (setS ρ i (.val d)) (σ.set i (some v)) a) : OwnS ρ σ a := by
  obtain ⟨j, e, g1, g2⟩ := h
  rcases getS g1 with ⟨rfl, q⟩ | ⟨n, q⟩
  · cases q
  · rw [getV n] at g2; exact ⟨j, e, q, g2⟩
/-- slot i is lent -/
def isBor (ρ : AE) (i : Nat) : Bool := match ρ.sl[i]? with
  | some (.bor _) => true
  | _ => false
theorem notBor {i j : Nat} {d : Mi.D} (h : isBor ρ i = false) (g : ρ.sl[j]? = some (.bor d)) : j ≠ i := fun z => by
  subst z
  unfold isBor at h
  rw [g] at h; cases h
theorem setS_ne {i j : Nat} {s t : Sl} (h : j ≠ i) (g : ρ.sl[j]? = some t) : (setS ρ i s).sl[j]? = some t := by
  show (ρ.sl.set i s)[j]? = _
  rw [List.getElem?_set_ne (Ne.symm h)]; exact g
theorem Kp.setval {i : Nat} {d : Mi.D} {v : V} (hb : isBor ρ i = false) : Kp none1 (OwnS ρ σ) (OwnS (setS ρ i (.val d)) (σ.set i (some v))) sh sh N N H H :=
  ⟨fun _ _ e _ _ => e, fun _ _ _ n => n, fun _ _ _ n => n, fun _ _ _ n z => n (OwnS.setval z), List.prefix_rfl, fun _ o e => ⟨o, e⟩, fun j b ⟨e, g1, g2⟩ => ⟨e, setS_ne (notBor hb g1) g1, by rw [getV (notBor hb g1)]; exact g2⟩, fun _ _ _ n _ => n, fun b _ _ _ h j ⟨e, g1, g2⟩ => by
    rcases getS g1 with ⟨rfl, q⟩ | ⟨n, q⟩
    · cases q
    · rw [getV n] at g2; exact h j ⟨e, q, g2⟩⟩
/-- slot i gets a new list or dict as its own -/
theorem Rp.setown {i : Nat} {d : Mi.D} {a : Addr} (rp : G.rp sh (fun b => N b ∨ b = a) ρ σ H) (h : G.rf H N sh d a) (hn : ∀ (j : Nat) t, ρ.sl[j]? = some t → mutS t = true → σ[j]? ≠ some (some (.ref a))) : G.rp sh (fun b => N b ∨ b = a) (setS ρ i (.own d)) (σ.set i (some (.ref a))) H := by
  obtain ⟨_, ns, ho⟩ := h
  refine ⟨by simpa [setS] using rp.len, fun j e g => ?_, fun j e g => ?_, fun j e g => ?_, fun j k e f b g1 g2 g3 g4 g5 g6 => ?_, rp.dom, rp.nd, rp.shN, rp.shl, rp.obs⟩
  · rcases getS g with ⟨rfl, q⟩ | ⟨n, q⟩
    · cases q
    · rw [getV n]; exact rp.val j e q
  · rcases getS g with ⟨rfl, q⟩ | ⟨n, q⟩
    · cases q; exact ⟨a, getVi rp.len g, .inr rfl, ns, ho⟩
    · rw [getV n]; exact rp.own j e q
  · rcases getS g with ⟨rfl, q⟩ | ⟨n, q⟩
    · cases q
    · rw [getV n]; exact rp.bor j e q
  · rcases getS g1 with ⟨rfl, q⟩ | ⟨n, q⟩
    · rcases getS g2 with ⟨rfl, q2⟩ | ⟨n2, q2⟩
      · rfl
      · rw [getVi rp.len g1] at g5; cases g5
        rw [getV n2] at g6
        exact absurd g6 (hn k f q2 g4)
    · rcases getS g2 with ⟨rfl, q2⟩ | ⟨n2, q2⟩
      · rw [getVi rp.len g2] at g6; cases g6
        rw [getV n] at g5
        exact absurd g5 (hn j e q g3)
      · rw [getV n] at g5; rw [getV n2] at g6
        exact rp.dis j k e f b q q2 g3 g4 g5 g6
theorem Rp.mutN {i : Nat} {t : Sl} {a : Addr} (rp : G.rp sh N ρ σ H) (h : ρ.sl[i]? = some t) (m : mutS t = true) (e : σ[i]? = some (some (.ref a))) : N a := by
  cases t with
  | own d => obtain ⟨b, h1, h2, _⟩ := rp.own i d h; rw [e] at h1; cases h1; exact h2
  | bor d => obtain ⟨b, h1, h2, _⟩ := rp.bor i d h; rw [e] at h1; cases h1; exact h2
  | _ => cases m
theorem OwnS.setown {i : Nat} {d : Mi.D} {a b : Addr} (h : OwnS (setS ρ i (.own d)) (σ.set i (some (.ref a))) b) (hl : ρ.sl.length = σ.length) : OwnS ρ σ b ∨ b = a := by
  obtain ⟨j, e, g1, g2⟩ := h
  rcases getS g1 with ⟨rfl, q⟩ | ⟨n, q⟩
  · rw [getVi hl g1] at g2; cases g2; exact .inr rfl
  · rw [getV n] at g2; exact .inl ⟨j, e, q, g2⟩

/-! ### small statements -/
variable {X : Cx} {st : Stmt} {rest : List Stmt} {e c : Expr} {pos p p' : Pos} {ra : AE → R Mi.D} {r1 r2 : AE → R Fl} {ta : AE → R Bool}
def rNx : AE → R Fl := fun ρ => .ok .next ρ
def rSeq (r1 r2 : AE → R Fl) : AE → R Fl := fun ρ => (r1 ρ).bind fun f ρ1 => match f with
  | .next => r2 ρ1
  | f => .ok f ρ1
def rIf (t : AE → R Bool) (r1 r2 : AE → R Fl) : AE → R Fl := fun ρ => (t ρ).bind fun c ρ1 => if c = true then r1 ρ1 else r2 ρ1
theorem pss_nilA : PSs X [] (tSv G W rNx) := PSs.imp pss_nil fun D σ H t => by
  obtain ⟨sh, N, ρ, rp, p⟩ := t
  exact PostS.next p rp
theorem PostS.seq {f : Fl → AE → R Fl} {r : R Fl} {D D' : Ends} (p : PostS G W sh N ρ σ H (r.bind f) D)
    (h : ∀ g ρ1 sh1 N1 σ1 H1, r = .ok g ρ1 → G.rp sh1 N1 ρ1 σ1 H1 → Kp (OwnS ρ σ) (OwnS ρ σ) (OwnS ρ1 σ1) sh sh1 N N1 H H1 → PostS G W sh1 N1 ρ1 σ1 H1 (f g ρ1) D → PostS G W sh1 N1 ρ1 σ1 H1 (.ok g ρ1) D') : PostS G W sh N ρ σ H r D' := by
  cases r with
  | ok g ρ1 => exact fun sh1 N1 σ1 H1 rp1 kp1 => h g ρ1 sh1 N1 σ1 H1 rfl rp1 kp1 (PostS.pre kp1 (fun _ z => z) p) sh1 N1 σ1 H1 rp1 .refl
  | exc c fs ρ1 => exact p
  | bad => exact p
theorem readSeq {D : Ends} (t : tSv G W (rSeq r1 r2) D σ H) : tSeq (tSv G W r1) (tSv G W r2) D σ H := by
  obtain ⟨sh, N, ρ, rp, p⟩ := t
  refine ⟨sh, N, ρ, rp, PostS.seq p fun g ρ1 sh1 N1 σ1 H1 _ rp1 k1 p1 => ?_⟩
  cases g with
  | next => exact fun sh2 N2 σ2 H2 rp2 kp2 => ⟨sh2, N2, ρ1, rp2, PostS.pre kp2 (fun _ z => z) p1⟩
  | brk => exact p1
  | cont => exact p1
  | ret d => exact p1
theorem pss_consA (h1 : PS X st (tSv G W r1)) (h2 : PSs X rest (tSv G W r2)) : PSs X (st :: rest) (tSv G W (rSeq r1 r2)) := PSs.imp (pss_cons h1 h2) fun _ _ _ => readSeq
theorem ps_ifA {a b : List Stmt} (hc : PT X c (tEv G W rl ta)) (ha : PSs X a (tSv G W r1)) (hb : PSs X b (tSv G W r2)) : PS X (.If c a b pos) (tSv G W (rIf ta r1 r2)) := PS.imp (ps_if hc ha hb) fun D σ H t => by
  obtain ⟨sh, N, ρ, rp, p⟩ := t
  refine tEv.stmt rp p fun d ρ1 sh1 N1 x H1 _ rp1 k1 hx p1 => ?_
  cases hx
  cases d with
  | true => exact ⟨_, _, _, rp1, p1⟩
  | false => exact ⟨_, _, _, rp1, p1⟩
theorem ps_passA : PS X (.Pass pos) (tSv G W rNx) := PS.imp ps_pass fun D σ H t => by
  obtain ⟨sh, N, ρ, rp, p⟩ := t
  exact PostS.next p rp
theorem ps_breakA : PS X (.Break pos) (tSv G W fun ρ => .ok .brk ρ) := PS.imp ps_break fun D σ H t => by
  obtain ⟨sh, N, ρ, rp, p⟩ := t
  exact p sh N σ H rp .refl
theorem ps_contA : PS X (.Continue pos) (tSv G W fun ρ => .ok .cont ρ) := PS.imp ps_continue fun D σ H t => by
  obtain ⟨sh, N, ρ, rp, p⟩ := t
  exact p sh N σ H rp .refl
def rRet (ra : AE → R Mi.D) : AE → R Fl := fun ρ => (ra ρ).bind fun d ρ1 => .ok (.ret d) ρ1
theorem ps_retA (he : PE X e (tEv G W G.rv ra)) : PS X (.Return (some e) pos) (tSv G W (rRet ra)) := PS.imp (ps_ret he) fun D σ H t => by
  obtain ⟨sh, N, ρ, rp, p⟩ := t
  refine tEv.stmt rp p fun d ρ1 sh1 N1 x H1 _ rp1 k1 hx p1 => p1 sh1 N1 σ H1 rp1 .refl x hx
theorem ps_retNA : PS X (.Return none pos) (tSv G W fun ρ => .ok (.ret .non) ρ) := PS.imp ps_retN fun D σ H t => by
  obtain ⟨sh, N, ρ, rp, p⟩ := t
  exact p sh N σ H rp .refl .non rv_non
def rDrop (ra : AE → R Mi.D) : AE → R Fl := fun ρ => (ra ρ).bind fun _ ρ1 => .ok .next ρ1
theorem ps_exprA (he : PE X e (tEv G W G.rv ra)) (hs : swapsWith e none pos.line X.env = pure false) : PS X (.Expr e pos) (tSv G W (rDrop ra)) := PS.imp (ps_expr he hs) fun D σ H t => by
  obtain ⟨sh, N, ρ, rp, p⟩ := t
  exact tEv.stmt rp p fun d ρ1 sh1 N1 x H1 _ rp1 k1 hx p1 => PostS.next p1 rp1
/-! ### targets -/
/-- x = v -/
def gSet (i : Nat) (d : Mi.D) : AE → R Unit := fun ρ => if isBor ρ i = true then .bad else .ok () (setS ρ i (.val d))
/-- what a target does with the value d -/
def OutS (ts : List Nat) (σ σ' : Sg) : Prop := σ'.length = σ.length ∧ ∀ j, j ∉ ts → σ'[j]? = σ[j]?
theorem OutS.refl {σ : Sg} : OutS [] σ σ := ⟨rfl, fun _ _ => rfl⟩
theorem OutS.trans {ts us : List Nat} {σ σ' σ'' : Sg} (a : OutS ts σ σ') (b : OutS us σ' σ'') : OutS (ts ++ us) σ σ'' :=
  ⟨b.1.trans a.1, fun j h => by
    rw [List.mem_append, not_or] at h
    rw [b.2 j h.2, a.2 j h.1]⟩
def TgOk (X : Cx) (G : Cg) (W : WX) (target : Expr) (ts : List Nat) (g : Mi.D → AE → R Unit) : Prop := ∃ t : TG, PG X target t ∧ ∀ (d : Mi.D) (v : V) (sh : List Addr) (N : Addr → Prop) (ρ : AE) (σ : Sg) (H : Hp) (Q : Sg → Hp → Prop), G.rp sh N ρ σ H → G.rv H N sh d v →
  (match g d ρ with
    | .ok _ ρ' => ∀ σ', G.rp sh N ρ' σ' H → Kp none1 (OwnS ρ σ) (OwnS ρ' σ') sh sh N N H H → OutS ts σ σ' → Q σ' H
    | _ => False) → t v σ H Q
theorem tg_name {i : Nat} {x : Str} (hN : X.N.Nodup) (hi : X.N[i]? = some x) (hx : Loc X.env.scope x) (hf : X.fn x = true ∨ X.env.scope.names.lookup x = some .local) : TgOk X G W (.Name x pos) [i] (gSet i) :=
  ⟨gName i, pg_name hN hi hx hf, fun d v sh N ρ σ H Q rp hv q => by
    unfold gSet at q
    cases hb : isBor ρ i with
    | true => rw [hb] at q; exact q.elim
    | false => rw [hb] at q; exact q _ (rp.setval hv) (.setval hb) ⟨List.length_set, fun j h => getV (by simpa using h)⟩⟩
/-- x, y = a tuple of that length -/
def gSets : List (Mi.D → AE → R Unit) → List Mi.D → AE → R Unit
  | [], [], ρ => .ok () ρ
  | g :: gs, d :: ds, ρ => (g d ρ).bind fun _ ρ1 => gSets gs ds ρ1
  | _, _, _ => .bad
def gTupD (gs : List (Mi.D → AE → R Unit)) (d : Mi.D) : AE → R Unit := match d with
  | .tup l => gSets gs l
  | _ => fun _ => .bad
def TgsOk (X : Cx) (G : Cg) (W : WX) (es : List Expr) (ts : List Nat) (gs : List (Mi.D → AE → R Unit)) : Prop := ∃ t : TGs, PGs X es t ∧ (assignEach es X.env).length = gs.length ∧ (assignEach es X.env).findIdx? (·.1) = none ∧
  ∀ (l : List Mi.D) (vs : List V) (sh : List Addr) (N : Addr → Prop) (ρ : AE) (σ : Sg) (H : Hp) (Q : Sg → Hp → Prop), G.rp sh N ρ σ H → G.rvs H N sh l vs →
  (match gSets gs l ρ with
    | .ok _ ρ' => ∀ σ', G.rp sh N ρ' σ' H → Kp none1 (OwnS ρ σ) (OwnS ρ' σ') sh sh N N H H → OutS ts σ σ' → Q σ' H
    | _ => False) → t vs σ H Q
theorem tgs_nil : TgsOk X G W [] [] [] := ⟨gNil, pgs_nil, rfl, rfl, fun l vs sh N ρ σ H Q rp hr q => by
  cases l with
  | nil => rw [RVs.nil_iff.mp hr]; exact ⟨rfl, q σ rp .refl .refl⟩
  | cons d l => exact q.elim⟩
theorem tgs_cons {es : List Expr} {g : Mi.D → AE → R Unit} {gs : List (Mi.D → AE → R Unit)} {ts us : List Nat} (h1 : TgOk X G W e ts g) (h2 : TgsOk X G W es us gs)
    (hs : assignEach (e :: es) X.env = (false, assign e X.env) :: assignEach es X.env) : TgsOk X G W (e :: es) (ts ++ us) (g :: gs) := by
  obtain ⟨t, p1, q1⟩ := h1
  obtain ⟨u, p2, l2, n2, q2⟩ := h2
  refine ⟨gCons t u, pgs_cons p1 p2 (by rw [hs]; rfl), by rw [hs]; simp [l2], by rw [hs]; simp [List.findIdx?_cons, n2], fun l vs sh N ρ σ H Q rp hr q => ?_⟩
  cases l with
  | nil => exact q.elim
  | cons d l =>
    obtain ⟨v, r, rfl, hv, hr⟩ := RVs.inv hr
    refine ⟨v, r, rfl, q1 d v sh N ρ σ H _ rp hv ?_⟩
    have q' : (match (g d ρ).bind fun _ ρ1 => gSets gs l ρ1 with
      | .ok _ ρ' => ∀ σ', G.rp sh N ρ' σ' H → Kp none1 (OwnS ρ σ) (OwnS ρ' σ') sh sh N N H H → OutS (ts ++ us) σ σ' → Q σ' H
      | _ => False) := q
    revert q'
    cases g d ρ with
    | ok x ρ1 =>
      intro q' σ1 rp1 k1 o1
      refine q2 l r sh N ρ1 σ1 H Q rp1 hr ?_
      have q'' : (match gSets gs l ρ1 with
        | .ok _ ρ' => ∀ σ', G.rp sh N ρ' σ' H → Kp none1 (OwnS ρ σ) (OwnS ρ' σ') sh sh N N H H → OutS (ts ++ us) σ σ' → Q σ' H
        | _ => False) := q'
      revert q''
      cases gSets gs l ρ1 with
      | ok x ρ2 => exact fun q'' σ2 rp2 k2 o2 => q'' σ2 rp2 (k1.trans k2) (o1.trans o2)
      | exc _ _ _ => exact fun z => z
      | bad => exact fun z => z
    | exc _ _ _ => exact fun z => z
    | bad => exact fun z => z
theorem tg_tup {es : List Expr} {k : Nat} {gs : List (Mi.D → AE → R Unit)} (hK : X.K = G.K) {ts : List Nat} (hc : X.calm = true) (h : TgsOk X G W es ts gs) : TgOk X G W (.Tuple es k pos) ts (gTupD gs) := by
  obtain ⟨t, p, l, n, q⟩ := h
  refine ⟨gTup X.K gs.length t, pg_tup hc p l n, fun d v sh N ρ σ H Q rp hv qq => ?_⟩
  cases d with
  | tup ds =>
    obtain ⟨a, vs, rfl, ht, hr⟩ := rb_tup (.inl hv)
    have hl : ∀ (gs : List (Mi.D → AE → R Unit)) (ds : List Mi.D) (ρ : AE) (Z : AE → Prop), (match gSets gs ds ρ with | .ok _ ρ' => Z ρ' | _ => False) → ds.length = gs.length := by
      intro gs
      induction gs with
      | nil => intro ds ρ Z z; cases ds with
        | nil => rfl
        | cons _ _ => exact z.elim
      | cons g gs ih => intro ds ρ Z z; cases ds with
        | nil => exact z.elim
        | cons d ds =>
          have z' : (match (g d ρ).bind fun _ ρ1 => gSets gs ds ρ1 with | .ok _ ρ' => Z ρ' | _ => False) := z
          revert z'
          cases g d ρ with
          | ok x ρ1 => intro z'; simp [ih ds ρ1 Z z']
          | exc _ _ _ => exact fun z => z.elim
          | bad => exact fun z => z.elim
    refine ⟨a, vs, rfl, hK ▸ ht.sq, ?_, q ds vs sh N ρ σ H Q rp hr qq⟩
    rw [← RVs.length hr]
    exact hl gs ds ρ _ qq
  | _ => exact qq.elim
def rAsg (g : Mi.D → AE → R Unit) (ra : AE → R Mi.D) : AE → R Fl := fun ρ => (ra ρ).bind fun d ρ1 => match g d ρ1 with
  | .ok _ ρ2 => .ok .next ρ2
  | _ => .bad
theorem ps_asgA {tg : Expr} {g : Mi.D → AE → R Unit} (he : PE X e (tEv G W G.rv ra)) {ts : List Nat} (hg : TgOk X G W tg ts g) (hs : swapsWithSole [tg] e pos.line X.env = pure false) (hw : swappedStores [tg] e X.env = pure none)
    (h1 : (assignEach [tg] X.env).map (·.2) = [assign tg X.env]) : PS X (.Assign [tg] e pos) (tSv G W (rAsg g ra)) := by
  obtain ⟨t, p, q⟩ := hg
  refine PS.imp (ps_asg he p hs hw h1) fun D σ H tt => ?_
  obtain ⟨sh, N, ρ, rp, pp⟩ := tt
  refine tEv.stmt rp pp fun d ρ1 sh1 N1 x H1 _ rp1 k1 hx p1 => q d x sh1 N1 ρ1 σ H1 _ rp1 hx ?_
  have p1' : PostS G W sh1 N1 ρ1 σ H1 (match g d ρ1 with | .ok _ ρ2 => .ok .next ρ2 | _ => .bad) D := p1
  revert p1'
  cases g d ρ1 with
  | ok y ρ2 => exact fun p2 σ2 rp2 k2 _ => p2 sh1 N1 σ2 H1 rp2 (k2.weak fun _ z => z.elim)
  | exc c fs ρ2 => exact fun z => z
  | bad => exact fun z => z
end
end Mi

namespace Mi
open PySem PySem.Spec PyProof.Rows L2

section
variable {G : Cg} {W : WX} {sh : List Addr} {N : Addr → Prop} {ρ : AE} {σ : Sg} {H : Hp}
variable {X : Cx} {st : Stmt} {e e2 c : Expr} {es : List Expr} {pos p p' : Pos} {ra rb : AE → R Mi.D} {te : TE}
/-! ### x = a new list or dict -/
def rOwn (i : Nat) (ra : AE → R Mi.D) : AE → R Fl := fun ρ => (ra ρ).bind fun d ρ1 => if isBor ρ1 i = true then .bad else .ok .next (setS ρ1 i (.own d))
theorem ps_ownA {i : Nat} (h : PS X st (tAsg te (gName i))) (hr : ∀ σ H Q, tEvF G W ra σ H Q → te σ H Q) : PS X st (tSv G W (rOwn i ra)) := PS.imp h fun D σ H t => by
  obtain ⟨sh, N, ρ, rp, p⟩ := t
  refine hr σ H _ ⟨sh, N, ρ, rp, PostS.exprF p rp fun d ρ1 sh1 N1 a H1 _ rp1 k1 hn ra1 hf p1 => ?_⟩
  cases hb : isBor ρ1 i with
  | true => rw [hb] at p1; exact p1.elim
  | false =>
  rw [hb] at p1
  have r2 := Rp.setown (i := i) ra1 hf fun j t g m z => absurd (rp1.mutN g m z) hf.1
  refine p1 sh1 _ _ H1 r2 ⟨fun b o e n _ => k1.keep b o e n id, k1.shn, fun b o e n z => ?_, fun b o e n z => ?_, k1.pre, k1.there, fun j b z => ?_, fun b o e n no => .inl (k1.st b o e n no), fun b o e no h j ⟨f, g1, g2⟩ => ?_⟩
  · rcases z with z | rfl
    · exact k1.av b o e n z
    · rw [hn] at e; cases e
  · rcases OwnS.setown z rp1.len with z | rfl
    · exact k1.own b o e n z
    · rw [hn] at e; cases e
  · obtain ⟨f, g1, g2⟩ := k1.bo j b z
    exact ⟨f, setS_ne (notBor hb g1) g1, by rw [getV (notBor hb g1)]; exact g2⟩
  · rcases getS g1 with ⟨rfl, q⟩ | ⟨n, q⟩
    · cases q
    · rw [getV n] at g2; exact k1.mt b o e no h j ⟨f, q, g2⟩
theorem ps_asgN {i : Nat} (h : PS X st (tAsg te (gName i))) (hr : ∀ σ H Q, tEv G W G.rv ra σ H Q → te σ H Q) : PS X st (tSv G W (rAsg (gSet i) ra)) := PS.imp h fun D σ H t => by
  obtain ⟨sh, N, ρ, rp, p⟩ := t
  refine hr σ H _ (tEv.stmt rp p fun d ρ1 sh1 N1 x H1 _ rp1 k1 hx p1 => ?_)
  have p1' : PostS G W sh1 N1 ρ1 σ H1 (match gSet i d ρ1 with | .ok _ ρ2 => .ok .next ρ2 | _ => .bad) D := p1
  unfold gSet at p1'
  cases hb : isBor ρ1 i with
  | true => rw [hb] at p1'; exact p1'.elim
  | false =>
    rw [hb] at p1'
    exact p1' sh1 N1 _ H1 (rp1.setval hx) ((Kp.setval hb).weak fun _ z => z.elim)

/-! ### what an owner changes -/
theorem Rp.upown {i : Nat} {d d' : Mi.D} {a : Addr} {o : HO} (rp : G.rp sh N ρ σ H) (hi : ρ.sl[i]? = some (.own d)) (ha : σ[i]? = some (some (.ref a))) (ho : ∀ H', (∀ b u, Rd H b u → ¬ N b → Rd H' b u) → H' a = some o → OwnAt G.P G.w G.K H' N sh d' a) :
    G.rp sh N (setS ρ i (.own d')) σ (upd H a o) ∧ Kp (OwnS ρ σ) (OwnS ρ σ) (OwnS (setS ρ i (.own d')) σ) sh sh N N H (upd H a o) := by
  obtain ⟨a', h1, hN, hsh, _⟩ := rp.own i d hi
  rw [ha] at h1; cases h1
  have up : ∀ b, b ≠ a → upd H a o b = H b := fun b h => upd_ne h
  have rdn : ∀ b u, Rd H b u → b ≠ a → Rd (upd H a o) b u := fun b u r h => by
    rcases r with r | ⟨q, r⟩
    · exact .inl ((up b h).trans r)
    · exact .inr ⟨q, (up b h).trans r⟩
  have ne : ∀ b, ¬ N b → b ≠ a := fun b n z => n (z ▸ hN)
  have hk : ∀ b u, Rd H b u → ¬ N b → Rd (upd H a o) b u ∧ ¬ N b := fun b u r n => ⟨rdn b u r (ne b n), n⟩
  have hs : ∀ (n : Nat) (b : Addr), sh[n]? = some b → sh[n]? = some b := fun _ _ e => e
  have oo : ∀ b, OwnS (setS ρ i (.own d')) σ b → OwnS ρ σ b := fun b ⟨j, f, g1, g2⟩ => by
    rcases getS g1 with ⟨rfl, q⟩ | ⟨n, q⟩
    · exact ⟨j, d, hi, g2⟩
    · exact ⟨j, f, q, g2⟩
  refine ⟨⟨by simpa [setS] using rp.len, fun j f g => ?_, fun j f g => ?_, fun j f g => ?_, fun j k f f' b g1 g2 g3 g4 g5 g6 => ?_, fun b z => ?_, rp.nd, rp.shN, rp.shl, fun n ob b e1 e2 => ?_⟩,
    ⟨fun b u e _ n => by rw [up b fun z => n (z ▸ ⟨i, d, hi, ha⟩)]; exact e, fun _ _ _ n => n, fun _ _ _ n => n, fun _ _ _ n z => n (oo _ z), List.prefix_rfl, fun b u e => ?_, fun j b ⟨f, g1, g2⟩ => ⟨f, setS_ne (fun z => by subst z; rw [hi] at g1; cases g1) g1, g2⟩, fun _ _ _ n _ => n, fun b _ _ _ h j ⟨f, g1, g2⟩ => by
      rcases getS g1 with ⟨rfl, q⟩ | ⟨n, q⟩
      · cases q
      · exact h j ⟨f, q, g2⟩⟩⟩
  · rcases getS g with ⟨rfl, q⟩ | ⟨n, q⟩
    · cases q
    · obtain ⟨v, q1, q2⟩ := rp.val j f q
      exact ⟨v, q1, RV.mono' hk hs _ _ q2⟩
  · rcases getS g with ⟨rfl, q⟩ | ⟨n, q⟩
    · cases q
      exact ⟨a, ha, hN, hsh, ho _ (fun b u r n => rdn b u r (ne b n)) upd_same⟩
    · obtain ⟨b, q1, q2, q3, q4⟩ := rp.own j f q
      have hb : b ≠ a := fun z => n (rp.dis j i _ _ a q hi rfl rfl (z ▸ q1) ha)
      exact ⟨b, q1, q2, q3, OwnAt.mono hk hs (fun u z => (up b hb).trans z) q4⟩
  · rcases getS g with ⟨rfl, q⟩ | ⟨n, q⟩
    · cases q
    · obtain ⟨b, q1, q2, q3, q4⟩ := rp.bor j f q
      have hb : b ≠ a := fun z => n (rp.dis j i _ _ a q hi rfl rfl (z ▸ q1) ha)
      exact ⟨b, q1, q2, q3, OwnAt.mono hk hs (fun u z => (up b hb).trans z) q4⟩
  · have w : ∀ (j : Nat) (f : Sl), (setS ρ i (.own d')).sl[j]? = some f → mutS f = true → ∃ f', ρ.sl[j]? = some f' ∧ mutS f' = true := fun j f g m => by
      rcases getS g with ⟨rfl, q⟩ | ⟨n, q⟩
      · exact ⟨_, hi, rfl⟩
      · exact ⟨f, q, m⟩
    obtain ⟨x, x1, x2⟩ := w j f g1 g3
    obtain ⟨y, y1, y2⟩ := w k f' g2 g4
    exact rp.dis j k x y b x1 y1 x2 y2 g5 g6
  · by_cases hb : b = a
    · exact ⟨o, by rw [hb]; exact upd_same⟩
    · obtain ⟨u, e⟩ := rp.dom b z
      exact ⟨u, (up b hb).trans e⟩
  · have hb : b ≠ a := fun z => hsh (by rw [← z]; exact List.mem_of_getElem? e2)
    exact ObAt.mono hk hs (fun u z => (up b hb).trans z) (rp.obs n ob b e1 e2)
  · by_cases hb : b = a
    · exact ⟨o, by rw [hb]; exact upd_same⟩
    · exact ⟨u, (up b hb).trans e⟩
theorem rvs_up {H' : Hp} {l : List Mi.D} {vs : List V} (h : ∀ b u, Rd H b u → ¬ N b → Rd H' b u) (r : G.rvs H N sh l vs) : G.rvs H' N sh l vs := RVs.mono' (fun b u x n => ⟨h b u x n, n⟩) (fun _ _ e => e) _ _ r
/-- what is done to the thing that slot i owns -/
def updOwn (i : Nat) (f : Mi.D → Option Mi.D) : AE → R Fl := fun ρ => match ρ.sl[i]? with
  | some (.own d) => (match f d with
    | some d' => .ok .next (setS ρ i (.own d'))
    | none => .bad)
  | _ => .bad
theorem updOwn_inv {i : Nat} {f : Mi.D → Option Mi.D} {D : Ends} (p : PostS G W sh N ρ σ H (updOwn i f ρ) D) : ∃ d d', ρ.sl[i]? = some (.own d) ∧ f d = some d' ∧ PostS G W sh N ρ σ H (.ok .next (setS ρ i (.own d'))) D := by
  unfold updOwn at p
  cases q : ρ.sl[i]? with
  | none => rw [q] at p; exact p.elim
  | some s =>
    rw [q] at p
    cases s with
    | own d =>
      cases q2 : f d with
      | none =>
        have p' : PostS G W sh N ρ σ H (match f d with | some d' => .ok .next (setS ρ i (.own d')) | none => .bad) D := p
        rw [q2] at p'; exact p'.elim
      | some d' =>
        have p' : PostS G W sh N ρ σ H (match f d with | some d' => .ok .next (setS ρ i (.own d')) | none => .bad) D := p
        rw [q2] at p'
        exact ⟨d, d', rfl, q2, p'⟩
    | _ => exact p.elim
def isOwnL (ρ : AE) (i : Nat) : Bool := match ρ.sl[i]? with
  | some (.own (.lst _)) => true
  | _ => false
theorem isOwnL_inv {i : Nat} (h : isOwnL ρ i = true) : ∃ l, ρ.sl[i]? = some (.own (.lst l)) := by
  unfold isOwnL at h
  split at h
  · rename_i l q; exact ⟨l, q⟩
  · cases h
def appD (d : Mi.D) : Mi.D → Option Mi.D
  | .lst l => if l.length < many then some (.lst (l ++ [d])) else none
  | _ => none
def extD (m : List Mi.D) : Mi.D → Option Mi.D
  | .lst l => if l.length + m.length ≤ many then some (.lst (l ++ m)) else none
  | _ => none
/-- x.append(e) -/
def rApp (i : Nat) (ra : AE → R Mi.D) : AE → R Fl := fun ρ => if isOwnL ρ i = true then (ra ρ).bind fun d ρ1 => updOwn i (appD d) ρ1 else .bad
theorem ifbad {c : Prop} [Decidable c] {r : R Fl} {D : Ends} (p : PostS G W sh N ρ σ H (if c then r else .bad) D) : c ∧ PostS G W sh N ρ σ H r D := by
  by_cases h : c
  · rw [if_pos h] at p; exact ⟨h, p⟩
  · rw [if_neg h] at p; exact p.elim
theorem many_lt {n : Nat} (h : n < many) : n < sizeLine := Nat.lt_of_lt_of_le h (by rw [sizeLine_eq]; decide)
theorem ps_appA {i : Nat} {x : Str} {xp ap cp : Pos} (hN : X.N[i]? = some x) (hv : Vis X.env.scope x) (hd : (x == ("__debug__" : Str)) = false) (hcd : (x == ("__classdict__" : Str)) = false) (he : PE X e (tEv G W G.rv ra)) (hs : isStar e = false)
    (hl : (ap.endLine == cp.line) = true) : PS X (.Expr (.Call (.Attribute (.Name x xp) "append" ap) [e] [] cp) pos) (tSv G W (rApp i ra)) := by
  refine PS.imp (ps_expr (pe_bm PySem.F.plainAttrs_list PySem.F.slot_list_append PySem.F.type_list_append mt_append (pe_var hN hv hd hcd) (pa_cons he pa_nil (star_of hs)) rfl (by rw [star_of hs]; rfl) hl (star_of hs) rfl) rfl) fun D σ H t => ?_
  obtain ⟨sh, N, ρ, rp, p⟩ := t
  obtain ⟨hc, p⟩ := ifbad p
  obtain ⟨l0, q⟩ := isOwnL_inv hc
  obtain ⟨a, ha, _, _, vs0, h0, _⟩ := rp.own i _ q
  refine ⟨.ref a, ha, .inl ⟨rfl, vs0, .inl (.inl h0)⟩, ?_⟩
  refine tEv.stmt rp p fun d ρ1 sh1 N1 y H1 _ rp1 k1 hy p1 => ?_
  obtain ⟨d1, d2, q1, e1, p2⟩ := updOwn_inv p1
  cases d1 with
  | lst l =>
    obtain ⟨hm, rfl⟩ := ite_some e1
    obtain ⟨a', ha', hN', hsh, vs, e1, r1⟩ := rp1.own i _ q1
    rw [ha] at ha'; cases ha'
    obtain ⟨r2, k2⟩ := rp1.upown (d' := .lst (l ++ [d])) (o := .lst (vs ++ [y])) q1 ha fun H' hk e => ⟨_, e, RVs.append (rvs_up hk r1) (.cons (RV.mono' (fun b u x n => ⟨hk b u x n, n⟩) (fun _ _ e => e) _ _ hy) .nil)⟩
    exact ⟨a, vs, y, rfl, rfl, e1, by rw [← RVs.length r1]; exact many_lt hm, p2 sh1 N1 σ _ r2 k2⟩
  | _ => cases e1
/-- x.extend(e), e a list -/
def rExt (i : Nat) (ra : AE → R Mi.D) : AE → R Fl := fun ρ => if isOwnL ρ i = true then (ra ρ).bind fun d ρ1 => (match d with
  | .lst m => updOwn i (extD m) ρ1
  | _ => .bad) else .bad
theorem mt_extR : MtM X "list.extend" (fun x vs H Q => ∃ l b xs zs, x = .ref l ∧ vs = [.ref b] ∧ H l = some (.lst xs) ∧ Rd H b (.lst zs) ∧ xs.length + zs.length ≤ sizeLine ∧ Q .non (upd H l (.lst (xs ++ zs)))) := by
  intro pins s σ H x vs v us Q I rx rv h
  obtain ⟨l, b, xs, zs, rfl, rfl, hH, hB, hz, q⟩ := h
  cases rx
  obtain ⟨u, rfl, ru⟩ := rv.one
  cases ru
  obtain ⟨z, its, n, r, hl, e⟩ := I.lstM hH
  obtain ⟨z2, its2, n2, r2, hl2, e2⟩ := lstR I hB
  have hsz : its.toArray.size + its2.toArray.size ≤ sizeLine := by rw [List.size_toArray, List.size_toArray]; omega
  have hlong : ¬ (!its.toArray.isEmpty && Builtin.List.listTooLong (its.toArray.size + its2.toArray.size)) = true := by
    rw [notLongL hsz, Bool.and_false]
    exact Bool.false_ne_true
  refine call_meets F.slot_list_extend ⟨_, e, rfl⟩ F.entry_list_extend (F.args_list_extend_2 _ _)
    (AutoSeq1.list_extend_list_list_0 l its.toArray n b its2.toArray n2 hlong (by rw [List.size_toArray]; omega) (by omega)) ⟨e, e2, ?_⟩
  refine ⟨.non, _, I.lset (its' := its ++ its2) hH e (by simp) (r.append r2) ?_, rfl, q⟩
  rw [List.length_append]
  omega
theorem ps_extA {i : Nat} {x : Str} {xp ap cp : Pos} (hN : X.N[i]? = some x) (hv : Vis X.env.scope x) (hd : (x == ("__debug__" : Str)) = false) (hcd : (x == ("__classdict__" : Str)) = false) (he : PE X e (tEv G W G.rb ra)) (hs : isStar e = false)
    (hl : (ap.endLine == cp.line) = true) : PS X (.Expr (.Call (.Attribute (.Name x xp) "extend" ap) [e] [] cp) pos) (tSv G W (rExt i ra)) := by
  refine PS.imp (ps_expr (pe_bm PySem.F.plainAttrs_list PySem.F.slot_list_extend PySem.F.type_list_extend mt_extR (pe_var hN hv hd hcd) (pa_cons he pa_nil (star_of hs)) rfl (by rw [star_of hs]; rfl) hl (star_of hs) rfl) rfl) fun D σ H t => ?_
  obtain ⟨sh, N, ρ, rp, p⟩ := t
  obtain ⟨hc, p⟩ := ifbad p
  obtain ⟨l0, q⟩ := isOwnL_inv hc
  obtain ⟨a, ha, _, _, vs0, h0, _⟩ := rp.own i _ q
  refine ⟨.ref a, ha, .inl ⟨rfl, vs0, .inl (.inl h0)⟩, ?_⟩
  refine tEv.stmt rp p fun d ρ1 sh1 N1 y H1 _ rp1 k1 hy p1 => ?_
  cases d with
  | lst m =>
    obtain ⟨b, zs, rfl, hb, rz⟩ := rb_lst hy
    obtain ⟨d1, d2, q1, e1, p2⟩ := updOwn_inv p1
    cases d1 with
    | lst l =>
      obtain ⟨hm, rfl⟩ := ite_some e1
      obtain ⟨a', ha', hN', hsh, vs, e1, r1⟩ := rp1.own i _ q1
      rw [ha] at ha'; cases ha'
      obtain ⟨r2, k2⟩ := rp1.upown (d' := .lst (l ++ m)) (o := .lst (vs ++ zs)) q1 ha fun H' hk e => ⟨_, e, RVs.append (rvs_up hk r1) (rvs_up hk rz)⟩
      exact ⟨a, b, vs, zs, rfl, rfl, e1, hb, by rw [← RVs.length r1, ← RVs.length rz]; exact many_le hm, p2 sh1 N1 σ _ r2 k2⟩
    | _ => cases e1
  | _ => exact p1.elim
/-- x[i] = e, x a list -/
def setD (j : Int) (d : Mi.D) : Mi.D → Option Mi.D
  | .lst l => (ixN l.length j).map fun k => .lst (l.set k d)
  | _ => none
def rSet (i : Nat) (rj ra : AE → R Mi.D) : AE → R Fl := fun ρ => (ra ρ).bind fun d ρ1 => if isOwnL ρ1 i = true then (rj ρ1).bind fun j ρ2 => (match j with
  | .int j => updOwn i (setD j d) ρ2
  | _ => .bad) else .bad
theorem ps_setA {i : Nat} {x : Str} {xp sp : Pos} (hN : X.N[i]? = some x) (hv : Vis X.env.scope x) (hd : (x == ("__debug__" : Str)) = false) (hcd : (x == ("__classdict__" : Str)) = false) (he : PE X e (tEv G W G.rv ra)) (hj : PE X e2 (tEv G W G.rv rb))
    (ha : ∀ v, assign (.Subscript (.Name x xp) e2 sp) X.env v = (do
      let ov ← holding [v] (eval (.Name x xp) X.env)
      let iv ← holding [v, ov] (eval e2 X.env)
      standAt sp
      holding [v, ov, iv] (setItem ov iv v)
      release [v, ov, iv] [])) (hs : swapsWithSole [.Subscript (.Name x xp) e2 sp] e pos.line X.env = pure false) (hw : swappedStores [.Subscript (.Name x xp) e2 sp] e X.env = pure none)
    (h1 : (assignEach [.Subscript (.Name x xp) e2 sp] X.env).map (·.2) = [assign (.Subscript (.Name x xp) e2 sp) X.env]) : PS X (.Assign [.Subscript (.Name x xp) e2 sp] e pos) (tSv G W (rSet i rb ra)) := by
  refine PS.imp (ps_asg he (pg_sub (pe_var hN hv hd hcd) hj set_list ha) hs hw h1) fun D σ H t => ?_
  obtain ⟨sh, N, ρ, rp, p⟩ := t
  refine tEv.stmt rp p fun d ρ1 sh1 N1 y H1 _ rp1 k1 hy p1 => ?_
  obtain ⟨hc, p1⟩ := ifbad p1
  obtain ⟨l0, q⟩ := isOwnL_inv hc
  obtain ⟨a, ha, _, _, vs0, h0, _⟩ := rp1.own i _ q
  refine ⟨.ref a, ha, ?_⟩
  refine tEv.stmt rp1 p1 fun j ρ2 sh2 N2 z H2 _ rp2 k2 hz p2 => ?_
  cases j with
  | int j =>
    obtain ⟨d1, d2, q1, e1, p3⟩ := updOwn_inv p2
    cases d1 with
    | lst l =>
      obtain ⟨k, ek, rfl⟩ := map_some e1
      obtain ⟨a', ha', hN', hsh, vs, e1, r1⟩ := rp2.own i _ q1
      rw [ha] at ha'; cases ha'
      have hy2 := Cg.rv_mono hy k2 rp1.shN
      obtain ⟨r2, k3⟩ := rp2.upown (d' := .lst (l.set k d)) (o := .lst (vs.set k y)) q1 ha fun H' hk e => ⟨_, e, RVs.set (RV.mono' (fun b u x n => ⟨hk b u x n, n⟩) (fun _ _ e => e) _ _ hy2) k (rvs_up hk r1)⟩
      exact ⟨a, vs, j, k, rfl, rb_int (.inl hz), e1, by rw [← RVs.length r1]; exact ek, p3 sh2 N2 σ _ r2 k3⟩
    | _ => cases e1
  | _ => exact p2.elim
end
end Mi

namespace Mi
open PySem PySem.Spec PyProof.Rows L2

/-! ### the keys of a dict -/
/-- the keys of a dict whose keys are tuples -/
def Itx (a : Addr) (o : Obj) (rs : List Addr) : It :=
  ⟨fun i H => Rd H a (.ext (rawAt a o)) ∧ i < rs.length, fun i H x H' => H' = H ∧ ∃ b, rs[i]? = some b ∧ x = .ref b, fun i H => Rd H a (.ext (rawAt a o)) ∧ rs.length ≤ i⟩
section
variable {P : Program} {w : World} {K : PySem.W.Frag} {tg : Expr} {a : Addr} {o : Obj} {es : Array DictEntry} {ep : Nat} {rs : List Addr}
theorem turn_raw (it : Addr) (oe : o.ExactDict) (od : o.data = .dict es ep) (hs : es.size = rs.length) (hk : ∀ j (hj : j < es.size), ∃ b, rs[j]? = some b ∧ es[j].key = .ref b) : Turn P w K tg (Itx a o rs) [it] it (fun i h => h.IsKeyIter it a i es.size ep) where
  mem := by simp
  obj := fun i h st b hb => by
    have e : b = it := by simpa using hb
    subst e
    obtain ⟨oi, e, c, dd⟩ := st
    exact ⟨oi, e, fun v z => by rw [dd] at z; cases z⟩
  keep := fun i h h' st k => st.at fun oi e => k it (by simp) oi e
  item := by
    intro X hP hw hK hc i pins s σ H E I hf st hg
    subst hP hw hK
    obtain ⟨hd, hi⟩ := hg
    obtain ⟨f0, f1, f2, f3, f4, f5⟩ := hf it (by simp)
    have hm : s.heap.DictRaw a es ep := ⟨o, (hd.ok I.hok).1, oe, od⟩
    have hi' : i < es.size := by omega
    obtain ⟨b, hb, ek⟩ := hk i hi'
    refine wpAny_pyNext_keys_item_raw st hm hi' fun h' st' sb => ?_
    have I1 : L2.Inv X pins σ H { s with heap := h' } := I.turned (t' := s.toks) (fun b ob hb e => (sb.2 b hb).trans e) f0 f1 f3 f4 f5
    obtain ⟨oi, e, c, dd⟩ := id st'
    refine ⟨es[i].key, rfl, go_of (s := { s with heap := h' }) e c dd (by decide) ⟨.ref b, H, I1, by rw [ek]; exact rfl, ⟨rfl, b, hb, rfl⟩, st', fun b hb => (hf b hb).1⟩⟩
  done := by
    intro X hP hw hK hc i pins s σ H E I hf st hg
    subst hP hw hK
    obtain ⟨hd, hi⟩ := hg
    obtain ⟨f0, f1, f2, f3, f4, f5⟩ := hf it (by simp)
    have hm : s.heap.DictRaw a es ep := ⟨o, (hd.ok I.hok).1, oe, od⟩
    exact wpAny_pyNext_keys_end_raw (I.ok.hd hc) st hm (by omega) fun h' eb => ⟨rfl, I.turned (t' := s.toks) (fun b ob hb e => eb b ob hb e) f0 f1 f3 f4 f5⟩
  self := fun A i s Q E st h => wpAny_pyIter_keyiter st h
end
/-! ### what is walked -/
section
variable (G : Cg)
/-- the iterator J gives the items l, whatever else happens -/
def Wk (J : It) (l : List D) (O : Ow) (sh : List Addr) (N : Addr → Prop) (H : Hp) : Prop :=
  l.length ≤ sizeLine ∧ ∀ (M O2 : Ow) sh2 N2 H2, (∀ a, M a → O a ∨ (N a ∧ ∀ i, ¬ O.b i a)) → Kp M O O2 sh sh2 N N2 H H2 → (∀ a, N2 a → ∃ o, H2 a = some o) → ∀ i, (∀ d, l[i]? = some d → J.go i H2 ∧ ∀ x H3, J.yld i H2 x H3 → (∀ a o, H2 a = some o → H3 a = some o) ∧ G.rv H3 N2 sh2 d x) ∧ (l.length ≤ i → J.stop i H2)
def PostI (W : WX) (sh : List Addr) (N : Addr → Prop) (ρ : AE) (σ : Sg) (H : Hp) (r : R (List D)) (Q : It → Hp → Prop) : Prop := match r with
  | .ok l ρ' => ∀ sh' N' H' J, G.rp sh' N' ρ' σ H' → Kp none1 (OwnS ρ σ) (OwnS ρ' σ) sh sh' N N' H H' → Wk G J l (OwnS ρ' σ) sh' N' H' → Q J H'
  | .exc c fs ρ' => ∀ cls dx sh' N' H', G.rp sh' N' ρ' σ H' → Kp none1 (OwnS ρ σ) (OwnS ρ' σ) sh sh' N N' H H' → G.xr H' N' sh' c fs cls dx → W cls dx σ H'
  | .bad => False
def tEvI (W : WX) (r : AE → R (List D)) : TI := fun σ H Q => ∃ sh N ρ, G.rp sh N ρ σ H ∧ PostI G W sh N ρ σ H (r ρ) Q
end
section
variable {G : Cg} {W : WX} {α β : Type} {rel : Rel α β} {sh : List Addr} {N : Addr → Prop} {ρ : AE} {σ : Sg} {H : Hp}
variable {X : Cx} {st : Stmt} {e e2 c tg iter : Expr} {es : List Expr} {pos p p' : Pos} {ra rb : AE → R D} {te : TE}
theorem PostI.bind {r : R α} {f : α → AE → R (List D)} {Q : It → Hp → Prop} {T : β → Hp → Prop} (p : PostI G W sh N ρ σ H (r.bind f) Q) (rp : G.rp sh N ρ σ H)
    (k : ∀ d ρ1 sh1 N1 x H1, r = .ok d ρ1 → G.rp sh1 N1 ρ1 σ H1 → Kp none1 (OwnS ρ σ) (OwnS ρ1 σ) sh sh1 N N1 H H1 → rel H1 N1 sh1 d x → PostI G W sh1 N1 ρ1 σ H1 (f d ρ1) Q → T x H1) : Post G W rel sh N ρ σ H r T := by
  cases r with
  | ok d ρ1 =>
    intro sh1 N1 x H1 rp1 kp1 hr
    refine k d ρ1 sh1 N1 x H1 rfl rp1 kp1 hr ?_
    have p' : PostI G W sh N ρ σ H (f d ρ1) Q := p
    revert p'
    cases f d ρ1 with
    | ok e ρ2 => exact fun p' sh2 N2 H2 J rp2 kp2 hy => p' sh2 N2 H2 J rp2 (kp1.trans kp2) hy
    | exc c fs ρ2 => exact fun p' cls dx sh2 N2 H2 rp2 kp2 hy => p' cls dx sh2 N2 H2 rp2 (kp1.trans kp2) hy
    | bad => exact fun p' => p'
  | exc c fs ρ1 => exact p
  | bad => exact p
theorem tEvIter {r : AE → R α} {f : α → AE → R (List D)} {Q : It → Hp → Prop} {T : β → Hp → Prop} (rp : G.rp sh N ρ σ H) (p : PostI G W sh N ρ σ H ((r ρ).bind f) Q)
    (k : ∀ d ρ1 sh1 N1 x H1, r ρ = .ok d ρ1 → G.rp sh1 N1 ρ1 σ H1 → Kp none1 (OwnS ρ σ) (OwnS ρ1 σ) sh sh1 N N1 H H1 → rel H1 N1 sh1 d x → PostI G W sh1 N1 ρ1 σ H1 (f d ρ1) Q → T x H1) : tEv G W rel r σ H T :=
  ⟨sh, N, ρ, rp, PostI.bind p rp k⟩
theorem PostI.ret {l : List D} {Q : It → Hp → Prop} (p : PostI G W sh N ρ σ H (.ok l ρ) Q) (rp : G.rp sh N ρ σ H) {J : It} (h : Wk G J l (OwnS ρ σ) sh N H) : Q J H := p sh N H J rp .refl h

/-- what stays, for Wk -/
theorem kp_rd {M O O2 : Ow} {sh2 : List Addr} {N2 : Addr → Prop} {H2 : Hp} {a : Addr} {u : HO} (k : Kp M O O2 sh sh2 N N2 H H2) (h : Rd H a u) (ns : a ∉ sh) (no : ¬ M a) : Rd H2 a u := by
  rcases h with h | ⟨q, h⟩
  · exact .inl (k.keep a _ h ns no)
  · exact .inr ⟨q, k.keep a _ h ns no⟩
theorem Wk.nm {M O : Ow} {a : Addr} (hM : ∀ a, M a → O a ∨ (N a ∧ ∀ i, ¬ O.b i a)) (no : ¬ O a) (nb : ¬ N a ∨ ∃ i, O.b i a) : ¬ M a := fun z => by
  rcases hM a z with h | ⟨h1, h2⟩
  · exact no h
  · rcases nb with n | ⟨i, n⟩
    · exact n h1
    · exact h2 i n
theorem Wk.mN {M : Ow} (rp : G.rp sh N ρ σ H) (hM : ∀ a, M a → OwnS ρ σ a ∨ (N a ∧ ∀ i, ¬ (OwnS ρ σ).b i a)) : ∀ a, M a → N a := fun a z => by
  rcases hM a z with h | h
  · exact rp.ownN a h
  · exact h.1
/-- a list, borrowed or not, that nobody writes -/
theorem wk_list (hK : X.K = G.K) {l : List D} {a : Addr} {vs : List V} (hz : vs.length ≤ sizeLine) (rp : G.rp sh N ρ σ H) (h : Rd H a (.lst vs)) (ns : a ∉ sh) (no : ¬ OwnS ρ σ a) (nb : ¬ N a ∨ ∃ i, (OwnS ρ σ).b i a) (r : G.rvs H N sh l vs) : Wk G (Itl X.K a) l (OwnS ρ σ) sh N H := by
  refine ⟨by rw [RVs.length r]; exact hz, ?_⟩
  intro M O2 sh2 N2 H2 hM k hd i
  have h2 := kp_rd k h ns (Wk.nm hM no nb)
  have r2 : G.rvs H2 N2 sh2 l vs := RVs.mono r k (Wk.mN rp hM) rp.shN
  have uniq : ∀ ys, SqL X.K H2 a ys → (K_ok : True) → True := fun _ _ _ => trivial
  refine ⟨fun d e => ?_, fun hl => ⟨vs, .inl h2, by rw [← RVs.length r2]; exact hl⟩⟩
  obtain ⟨v, e1, hv⟩ := RVs.get r2 e
  refine ⟨⟨vs, v, .inl h2, e1⟩, fun x H3 y => ?_⟩
  obtain ⟨rfl, y⟩ := y
  have := y vs (.inl h2)
  rw [e1] at this; cases this
  exact ⟨fun _ _ z => z, hv⟩
theorem wk_tup (hK : X.K = G.K) {l : List D} {a : Addr} {vs : List V} (hz : vs.length ≤ sizeLine) (rp : G.rp sh N ρ σ H) (h : TupAt G.K H N a vs) (r : G.rvs H N sh l vs) : Wk G (Itt X.K a) l (OwnS ρ σ) sh N H := by
  refine ⟨by rw [RVs.length r]; exact hz, ?_⟩
  intro M O2 sh2 N2 H2 hM k hd i
  have h2 : SqT X.K H2 a vs := by
    rw [hK]
    rcases h with ⟨h, n⟩ | h
    · exact .inl (kp_rd k h (fun z => n (rp.shN a z)) fun z => n (Wk.mN rp hM a z))
    · exact .inr h
  have r2 : G.rvs H2 N2 sh2 l vs := RVs.mono r k (Wk.mN rp hM) rp.shN
  refine ⟨fun d e => ?_, fun hl => ⟨vs, h2, by rw [← RVs.length r2]; exact hl⟩⟩
  obtain ⟨v, e1, hv⟩ := RVs.get r2 e
  refine ⟨⟨vs, v, h2, e1⟩, fun x H3 y => ?_⟩
  obtain ⟨rfl, y⟩ := y
  have := y vs h2
  rw [e1] at this; cases this
  exact ⟨fun _ _ z => z, hv⟩
def chrsD (z : Str) : List D := z.cps.toList.map fun c => .str ⟨#[c]⟩
theorem wk_str {z : Str} (o : okS z) : Wk G (Its z) (chrsD z) (OwnS ρ σ) sh N H := by
  refine ⟨by have : (chrsD z).length = z.length := by simp [chrsD, Str.length]
             rw [this]; exact o.2, ?_⟩
  intro M O2 sh2 N2 H2 hM k hd i
  refine ⟨fun d e => ?_, fun hl => by show z.cps.size ≤ i; simpa [chrsD] using hl⟩
  unfold chrsD at e
  rw [List.getElem?_map] at e
  cases q : z.cps.toList[i]? with
  | none => rw [q] at e; cases e
  | some c =>
    rw [q] at e; cases e
    have hi : i < z.cps.size := by simpa using (List.getElem?_eq_some_iff.mp q).1
    refine ⟨hi, fun x H3 y => ?_⟩
    obtain ⟨rfl, c', e1, rfl⟩ := y
    have e2 : z.cps.toList[i]? = some c' := by rw [Array.getElem?_toList]; exact e1
    rw [q] at e2; cases e2
    refine ⟨fun _ _ z => z, rv_str (okS_chr (i := (i : Int)) o (by
      unfold atI ixN
      rw [if_pos (by omega), if_pos (by simp; omega)]
      simpa using q))⟩
def rngD (lo : Int) (n : Nat) : List D := (List.range n).map fun i => .int (lo + (i : Nat))
theorem wk_range {lo : Int} {n : Nat} (hn : n ≤ many) : Wk G (Itr lo n) (rngD lo n) (OwnS ρ σ) sh N H := by
  refine ⟨by simpa [rngD] using many_le hn, ?_⟩
  intro M O2 sh2 N2 H2 hM k hd i
  refine ⟨fun d e => ?_, fun hl => by show n ≤ i; simpa [rngD] using hl⟩
  unfold rngD at e
  rw [List.getElem?_map] at e
  cases q : (List.range n)[i]? with
  | none => rw [q] at e; cases e
  | some c =>
    rw [q] at e; cases e
    have h := List.getElem?_eq_some_iff.mp q
    have hi : i < n := by simpa using h.1
    have hc : c = i := by have := h.2; simp at this; exact this.symm
    subst hc
    refine ⟨hi, fun x H3 y => ?_⟩
    obtain ⟨rfl, rfl⟩ := y
    exact ⟨fun _ _ z => z, rv_int⟩

/-- a dict, borrowed or not, that nobody writes -/
theorem wk_dit {ks : List D} {a : Addr} {o : Obj} {rs : List Addr} (hz : rs.length ≤ sizeLine) (rp : G.rp sh N ρ σ H) (h : Rd H a (.ext (rawAt a o))) (ns : a ∉ sh) (no : ¬ OwnS ρ σ a) (nb : ¬ N a ∨ ∃ i, (OwnS ρ σ).b i a) (r : G.rvs H N sh ks (rs.map V.ref)) : Wk G (Itx a o rs) ks (OwnS ρ σ) sh N H := by
  have hl : ks.length = rs.length := by rw [RVs.length r, List.length_map]
  refine ⟨by rw [hl]; exact hz, ?_⟩
  intro M O2 sh2 N2 H2 hM k hd i
  have h2 := kp_rd k h ns (Wk.nm hM no nb)
  have r2 : G.rvs H2 N2 sh2 ks (rs.map V.ref) := RVs.mono r k (Wk.mN rp hM) rp.shN
  refine ⟨fun d e => ?_, fun hl' => ⟨h2, by omega⟩⟩
  obtain ⟨v, e1, hv⟩ := RVs.get r2 e
  have hi : i < rs.length := by rw [← hl]; exact (List.getElem?_eq_some_iff.mp e).1
  refine ⟨⟨h2, hi⟩, fun x H3 y => ?_⟩
  obtain ⟨rfl, b, y1, rfl⟩ := y
  rw [List.getElem?_map, y1] at e1
  cases e1
  exact ⟨fun _ _ z => z, hv⟩
/-! ### pyIter by values -/
theorem iterV (hK : X.K = G.K) {pins : List (Addr × Obj)} {s : Shared} {x : V} {u : Value} {d : D} {l : List D} {Q : It → Hp → Prop} (I : L2.Inv X pins σ H s) (rx : RelV x u) (rp : G.rp sh N ρ σ H)
    (h : (∃ a vs, d = .lst l ∧ x = .ref a ∧ Rd H a (.lst vs) ∧ a ∉ sh ∧ ¬ OwnS ρ σ a ∧ (¬ N a ∨ ∃ i, (OwnS ρ σ).b i a) ∧ G.rvs H N sh l vs) ∨ (∃ a vs, d = .tup l ∧ x = .ref a ∧ TupAt G.K H N a vs ∧ G.rvs H N sh l vs) ∨ ∃ z, d = .str z ∧ l = chrsD z ∧ x = .str z ∧ okS z)
    (q : ∀ J, Wk G J l (OwnS ρ σ) sh N H → Q J H) : wpAny (model X.prog X.w) X.A (pyIter u) (PIE X pins σ tg Q) X.xe s := by
  rcases h with ⟨a, vs, rfl, rfl, h, ns, no, nb, r⟩ | ⟨a, vs, rfl, rfl, h, r⟩ | ⟨z, rfl, rfl, rfl, o⟩
  · cases rx
    obtain ⟨its, rv, p, hz⟩ := I.list (show SqL X.K H a vs from .inl h)
    refine wpAny_pyIter_list p.isList ?_
    exact pi_one (tk := s.toks) I _ (turn_list a _) ⟨_, Heap.get?_push_size _ rfl, rfl, rfl⟩ (q _ (wk_list hK hz rp h ns no nb r))
  · cases rx
    obtain ⟨its, rv, p, hz⟩ := I.tuple (show SqT X.K H a vs from hK ▸ h.sq)
    refine wpAny_pyIter_tuple (show s.heap.IsTuple a its.toArray from p) ?_
    exact pi_one (tk := s.toks) I _ (turn_tuple a _) ⟨_, Heap.get?_push_size _ rfl, rfl, rfl⟩ (q _ (wk_tup hK hz rp h r))
  · obtain ⟨t, rfl⟩ := rx
    cases ha : z.cps.all (· < 128)
    · exact wpAny_pyIter_wide ha (pi_one (tk := s.toks) I _ (turn_str _ z t "str_iterator" (.inr rfl)) ⟨_, Heap.get?_push_size _ rfl, rfl, rfl⟩ (q _ (wk_str o)))
    · exact wpAny_pyIter_ascii ha (pi_one (tk := s.toks) I _ (turn_str _ z t "str_ascii_iterator" (.inl rfl)) ⟨_, Heap.get?_push_size _ rfl, rfl, rfl⟩ (q _ (wk_str o)))

/-! ### the forms of what is walked -/
/-- a name's own list is lent to the walk -/
def rVarL (i : Nat) : AE → R D := fun ρ => match ρ.sl[i]? with
  | some (.val d) => .ok d ρ
  | some (.own d) => .ok d (setS ρ i (.bor d))
  | some (.bor d) => .ok d ρ
  | _ => .bad
/-- a value to be walked: nobody owns it -/
def Cg.rw' (G : Cg) : Rel D V := fun H N sh d v => G.rv H N sh d v ∨ ∃ a, v = .ref a ∧ a ∉ sh ∧ BorAt G.P G.w G.K H N sh d a
theorem Rp.lend {i : Nat} {d : D} (rp : G.rp sh N ρ σ H) (h : ρ.sl[i]? = some (.own d)) : G.rp sh N (setS ρ i (.bor d)) σ H ∧ Kp none1 (OwnS ρ σ) (OwnS (setS ρ i (.bor d)) σ) sh sh N N H H ∧ ∃ a, σ[i]? = some (some (.ref a)) ∧ a ∉ sh ∧ ¬ OwnS (setS ρ i (.bor d)) σ a ∧ BorAt G.P G.w G.K H N sh d a := by
  obtain ⟨a, h1, h2, h3, h4⟩ := rp.own i d h
  have oo : ∀ b, OwnS (setS ρ i (.bor d)) σ b → OwnS ρ σ b := fun b ⟨j, f, g1, g2⟩ => by
    rcases getS g1 with ⟨rfl, q⟩ | ⟨n, q⟩
    · cases q
    · exact ⟨j, f, q, g2⟩
  refine ⟨⟨by simpa [setS] using rp.len, fun j f g => ?_, fun j f g => ?_, fun j f g => ?_, fun j k f f' b g1 g2 g3 g4 g5 g6 => ?_, rp.dom, rp.nd, rp.shN, rp.shl, rp.obs⟩,
    ⟨fun _ _ e _ _ => e, fun _ _ _ n => n, fun _ _ _ n => n, fun _ _ _ n z => n (oo _ z), List.prefix_rfl, fun _ o e => ⟨o, e⟩, fun j b ⟨f, g1, g2⟩ => ⟨f, setS_ne (fun z => by subst z; rw [h] at g1; cases g1) g1, g2⟩, fun _ _ _ n _ => n, fun b _ _ no hh j ⟨f, g1, g2⟩ => by
      rcases getS g1 with ⟨rfl, q⟩ | ⟨n, q⟩
      · exact no ⟨_, d, h, g2⟩
      · exact hh j ⟨f, q, g2⟩⟩, a, h1, h3, ?_, h4.bor⟩
  · rcases getS g with ⟨rfl, q⟩ | ⟨n, q⟩
    · cases q
    · exact rp.val j f q
  · rcases getS g with ⟨rfl, q⟩ | ⟨n, q⟩
    · cases q
    · exact rp.own j f q
  · rcases getS g with ⟨rfl, q⟩ | ⟨n, q⟩
    · cases q; exact ⟨a, h1, h2, h3, h4⟩
    · exact rp.bor j f q
  · have w : ∀ (j : Nat) (f : Sl), (setS ρ i (.bor d)).sl[j]? = some f → mutS f = true → ∃ f', ρ.sl[j]? = some f' ∧ mutS f' = true := fun j f g m => by
      rcases getS g with ⟨rfl, q⟩ | ⟨n, q⟩
      · exact ⟨_, h, rfl⟩
      · exact ⟨f, q, m⟩
    obtain ⟨x, x1, x2⟩ := w j f g1 g3
    obtain ⟨y, y1, y2⟩ := w k f' g2 g4
    exact rp.dis j k x y b x1 y1 x2 y2 g5 g6
  · rintro ⟨j, f, g1, g2⟩
    rcases getS g1 with ⟨rfl, q⟩ | ⟨n, q⟩
    · cases q
    · exact n (rp.dis j i _ _ a q h rfl rfl g2 h1)
theorem Rp.lent {i : Nat} {d e : D} (h : ρ.sl[i]? = some (.own e)) : (setS ρ i (.bor d)).sl[i]? = some (.bor d) := by
  show (ρ.sl.set i (.bor d))[i]? = _
  rw [List.getElem?_set_self (List.getElem?_eq_some_iff.mp h).1]
/-- the thing that was lent is had again -/
def unlend (i : Nat) (ρ0 ρ : AE) : AE := match ρ0.sl[i]? with
  | some (.own _) => (match ρ.sl[i]? with
    | some (.bor d) => setS ρ i (.own d)
    | _ => ρ)
  | _ => ρ
def seqD : D → Option (List D)
  | .lst l => some l
  | .tup l => some l
  | .str z => some (chrsD z)
  | .dit ks _ => some ks
  | _ => none
def ofS (o : Option (List D)) (ρ : AE) : R (List D) := match o with
  | some l => .ok l ρ
  | none => .bad
def rIt (ra : AE → R D) : AE → R (List D) := fun ρ => (ra ρ).bind fun d ρ1 => ofS (seqD d) ρ1
theorem post_ofS {ρ' : AE} {o : Option (List D)} {Q : It → Hp → Prop} (p : PostI G W sh N ρ σ H (ofS o ρ') Q) : ∃ l, o = some l ∧ PostI G W sh N ρ σ H (.ok l ρ') Q := by
  cases o with
  | none => exact p.elim
  | some d => exact ⟨d, rfl, p⟩
theorem piV (hK : X.K = G.K) {pins : List (Addr × Obj)} {s : Shared} {d : D} {x : V} {u : Value} {l : List D} {Q : It → Hp → Prop} (I : L2.Inv X pins σ H s) (rx : RelV x u) (rp : G.rp sh N ρ σ H)
    (h : G.rv H N sh d x ∨ ∃ a, x = .ref a ∧ a ∉ sh ∧ ¬ OwnS ρ σ a ∧ (∃ i, (OwnS ρ σ).b i a) ∧ BorAt G.P G.w G.K H N sh d a) (e : seqD d = some l) (p : PostI G W sh N ρ σ H (.ok l ρ) Q) : wpAny (model X.prog X.w) X.A (pyIter u) (PIE X pins σ tg Q) X.xe s := by
  have dit : ∀ {a : Addr} {o : Obj} {xs : List (NestedKey × Addr × Value)} {ks us : List D}, d = .dit ks us → x = .ref a → Rd H a (.ext (rawAt a o)) → DitRaw G.P G.w a o xs → a ∉ sh → ¬ OwnS ρ σ a → (¬ N a ∨ ∃ i, (OwnS ρ σ).b i a) → G.rvs H N sh ks (xs.map fun x => V.ref x.2.1) → wpAny (model X.prog X.w) X.A (pyIter u) (PIE X pins σ tg Q) X.xe s := by
    intro a o xs ks us hd hx er dr ns no nb rk
    subst hd hx
    cases rx
    obtain rfl : ks = l := Option.some.inj e
    obtain ⟨oe, ⟨es, ep, od, oes⟩, nd, hz, sm, dp⟩ := dr
    have hs : es.size = xs.length := by rw [← Array.length_toList, oes, List.length_map]
    have rk' : G.rvs H N sh ks ((xs.map fun x => x.2.1).map V.ref) := by rw [List.map_map]; exact rk
    refine wpAny_pyIter_dict_raw sm ⟨o, (er.ok I.hok).1, oe, od⟩ ?_
    refine pi_one (tk := s.toks) I _ (turn_raw (rs := xs.map fun x => x.2.1) _ oe od (by rw [hs, List.length_map]) fun j hj => ?_) ⟨_, Heap.get?_push_size _ rfl, rfl, rfl⟩ (PostI.ret p rp (wk_dit (by rw [List.length_map]; exact hz) rp er ns no nb rk'))
    have hx : j < xs.length := by omega
    refine ⟨xs[j].2.1, by rw [List.getElem?_map, List.getElem?_eq_getElem hx]; rfl, ?_⟩
    have h1 : es.toList[j]? = (xs[j]?).map (entryOfKey (nestedKind G.P G.w)) := by rw [oes, List.getElem?_map]
    rw [List.getElem?_eq_getElem hx, Array.getElem?_toList, Array.getElem?_eq_getElem hj] at h1
    rw [Option.some.inj h1]
    rfl
  cases d with
  | dit ks us =>
    rcases h with h | ⟨a, rfl, ns, no, nb, o, xs, vs, er, dr, ek, rk, _⟩
    · rw [Cg.rv, RV] at h
      obtain ⟨a, o, xs, vs, rfl, er, nN, dr, ek, rk, _⟩ := h
      exact dit rfl rfl er dr (fun z => nN (rp.shN a z)) (fun z => nN (rp.ownN a z)) (.inl nN) rk
    · exact dit rfl rfl er dr ns no (.inr nb) rk
  | lst m =>
    refine iterV (d := .lst m) (l := l) hK I rx rp ?_ fun J w => PostI.ret p rp w
    cases e
    rcases h with h | ⟨a, rfl, ns, no, nb, vs, h, r⟩
    · rw [Cg.rv, RV] at h
      obtain ⟨a, vs, rfl, t, r⟩ := h
      exact .inl ⟨a, vs, rfl, rfl, t.1, fun z => t.2 (rp.shN a z), fun z => t.2 (rp.ownN a z), .inl t.2, r⟩
    · exact .inl ⟨a, vs, rfl, rfl, h, ns, no, .inr nb, r⟩
  | tup m =>
    refine iterV (d := .tup m) (l := l) hK I rx rp ?_ fun J w => PostI.ret p rp w
    cases e
    rcases h with h | ⟨a, _, _, _, _, h⟩
    · rw [Cg.rv, RV] at h
      obtain ⟨a, vs, rfl, t, r⟩ := h
      exact .inr (.inl ⟨a, vs, rfl, rfl, t, r⟩)
    · exact h.elim
  | str z =>
    refine iterV (d := .str z) (l := l) hK I rx rp ?_ fun J w => PostI.ret p rp w
    cases e
    rcases h with h | ⟨a, _, _, _, _, h⟩
    · obtain ⟨h1, h2⟩ := rb_str (.inl h)
      exact .inr (.inr ⟨z, rfl, rfl, h1, h2⟩)
    · exact h.elim
  | _ => cases e
theorem pi_exprA (hK : X.K = G.K) (he : PE X e (tEv G W G.rv ra)) : PI X tg e (tEvI G W (rIt ra)) := by
  refine ⟨fun pins s σ H Q I t => ?_⟩
  obtain ⟨sh, N, ρ, rp, p⟩ := t
  refine thn (he.run pins s σ H (fun v H1 => ∃ d l sh1 N1 ρ1, G.rp sh1 N1 ρ1 σ H1 ∧ G.rv H1 N1 sh1 d v ∧ seqD d = some l ∧ PostI G W sh1 N1 ρ1 σ H1 (.ok l ρ1) Q) I ?_) fun u s1 ⟨x, H1, I1, r1, d, l, sh1, N1, ρ1, rp1, hv, e1, p1⟩ => ?_
  · refine tEvIter rp p fun d ρ1 sh1 N1 x H1 _ rp1 k1 hx p1 => ?_
    obtain ⟨l, e1, p2⟩ := post_ofS p1
    exact ⟨d, l, sh1, N1, ρ1, rp1, hx, e1, p2⟩
  · exact piV hK I1 r1 rp1 (.inl hv) e1 p1
theorem PostI.kp {sh1 : List Addr} {N1 : Addr → Prop} {ρ1 : AE} {H1 : Hp} {r : R (List D)} {Q : It → Hp → Prop} (k : Kp none1 (OwnS ρ σ) (OwnS ρ1 σ) sh sh1 N N1 H H1) (p : PostI G W sh N ρ σ H r Q) : PostI G W sh1 N1 ρ1 σ H1 r Q := by
  cases r with
  | ok e ρ2 => exact fun sh2 N2 H2 J rp2 kp2 hy => p sh2 N2 H2 J rp2 (k.trans kp2) hy
  | exc c fs ρ2 => exact fun cls dx sh2 N2 H2 rp2 kp2 hy => p cls dx sh2 N2 H2 rp2 (k.trans kp2) hy
  | bad => exact p
theorem pi_nameA (hK : X.K = G.K) {i : Nat} {x : Str} (hN : X.N[i]? = some x) (hv : Vis X.env.scope x) (hd : (x == ("__debug__" : Str)) = false) (hcd : (x == ("__classdict__" : Str)) = false) : PI X tg (.Name x pos) (tEvI G W (rIt (rVarL i))) := by
  refine ⟨fun pins s σ H Q I t => ?_⟩
  obtain ⟨sh, N, ρ, rp, p⟩ := t
  have base := fun T => (pe_var (pos := pos) hN hv hd hcd).run pins s σ H T I
  cases q : ρ.sl[i]? with
  | none => rw [rIt, rVarL, q] at p; exact p.elim
  | some sl =>
    cases sl with
    | none => rw [rIt, rVarL, q] at p; exact p.elim
    | val d =>
      rw [rIt, rVarL, q] at p
      obtain ⟨l, e1, p2⟩ := post_ofS (show PostI G W sh N ρ σ H (ofS (seqD d) ρ) Q from p)
      obtain ⟨v, h1, h2⟩ := rp.val i d q
      refine thn (base (fun v' H1 => v' = v ∧ H1 = H) ⟨v, h1, rfl, rfl⟩) fun u s1 ⟨x', H1, I1, r1, e2, e3⟩ => ?_
      subst e2 e3
      exact piV hK I1 r1 rp (.inl h2) e1 p2
    | own d =>
      rw [rIt, rVarL, q] at p
      obtain ⟨l, e1, p2⟩ := post_ofS (show PostI G W sh N ρ σ H (ofS (seqD d) (setS ρ i (.bor d))) Q from p)
      obtain ⟨r2, k2, a, h1, ns, no, hb⟩ := rp.lend q
      refine thn (base (fun v' H1 => v' = .ref a ∧ H1 = H) ⟨_, h1, rfl, rfl⟩) fun u s1 ⟨x', H1, I1, r1, e2, e3⟩ => ?_
      subst e2 e3
      exact piV hK I1 r1 r2 (.inr ⟨a, rfl, ns, no, ⟨i, d, Rp.lent q, h1⟩, hb⟩) e1 (PostI.kp k2 p2)
    | bor d =>
      rw [rIt, rVarL, q] at p
      obtain ⟨l, e1, p2⟩ := post_ofS (show PostI G W sh N ρ σ H (ofS (seqD d) ρ) Q from p)
      obtain ⟨a, h1, hN', ns, hb⟩ := rp.bor i d q
      refine thn (base (fun v' H1 => v' = .ref a ∧ H1 = H) ⟨_, h1, rfl, rfl⟩) fun u s1 ⟨x', H1, I1, r1, e2, e3⟩ => ?_
      subst e2 e3
      refine piV hK I1 r1 rp (.inr ⟨a, rfl, ns, fun ⟨j, f, g1, g2⟩ => ?_, ⟨i, d, q, h1⟩, hb.bor⟩) e1 p2
      have := rp.dis j i _ _ a g1 q rfl rfl g2 h1
      subst this
      rw [q] at g1; cases g1
/-- range(n), range(a, b) -/
def sml : Int := 2 ^ 62
def rRng1 (rs : AE → R (List D)) : AE → R (List D) := fun ρ => (rs ρ).bind fun l ρ1 => match l with
  | [.int j] => if -sml ≤ j ∧ j ≤ many then .ok (rngD 0 j.toNat) ρ1 else .bad
  | _ => .bad
def rRng2 (rs : AE → R (List D)) : AE → R (List D) := fun ρ => (rs ρ).bind fun l ρ1 => match l with
  | [.int i, .int j] => if -sml ≤ i ∧ i < sml ∧ -sml ≤ j ∧ j < sml ∧ j - i ≤ many then .ok (rngD i (j - i).toNat) ρ1 else .bad
  | _ => .bad
theorem PI.imp {t t' : TI} (h : PI X tg iter t) (i : ∀ σ H Q, t' σ H Q → t σ H Q) : PI X tg iter t' := ⟨fun pins s σ H Q I q => h.run pins s σ H Q I (i σ H Q q)⟩
theorem ifbadI {c : Prop} [Decidable c] {r : R (List D)} {Q : It → Hp → Prop} (p : PostI G W sh N ρ σ H (if c then r else .bad) Q) : c ∧ PostI G W sh N ρ σ H r Q := by
  by_cases h : c
  · rw [if_pos h] at p; exact ⟨h, p⟩
  · rw [if_neg h] at p; exact p.elim
variable {rs : AE → R (List D)}
theorem pi_rng1A {a : Expr} (hg : Gl X "range") (hm : X.mg "range" = none) (hs : isStar a = false) (ha : PA X [a] (tEv G W G.rbs rs)) : PI X tg (.Call (.Name "range" p) [a] [] pos) (tEvI G W (rRng1 rs)) :=
  PI.imp (pi_range1 hg hm ha (by rw [star_of hs]; rfl)) fun σ H Q t => by
    obtain ⟨sh, N, ρ, rp, p⟩ := t
    refine tEvIter rp p fun d ρ1 sh1 N1 x H1 _ rp1 k1 hx p1 => ?_
    match d, p1 with
    | [.int j], p1 =>
      obtain ⟨v, rfl, hv⟩ := rbs1 hx
      obtain ⟨⟨c1, c2⟩, p2⟩ := ifbadI p1
      exact ⟨j, by rw [rb_int hv], c1, by unfold many at c2; omega, PostI.ret p2 rp1 (wk_range (by omega))⟩
theorem pi_rng2A {a b : Expr} (hg : Gl X "range") (hm : X.mg "range" = none) (hs : isStar a = false) (hs2 : isStar b = false) (ha : PA X [a, b] (tEv G W G.rbs rs)) : PI X tg (.Call (.Name "range" p) [a, b] [] pos) (tEvI G W (rRng2 rs)) :=
  PI.imp (pi_range2 hg hm ha (by rw [star_of hs, star_of hs2]; rfl) (by rw [star_of hs2]; rfl)) fun σ H Q t => by
    obtain ⟨sh, N, ρ, rp, p⟩ := t
    refine tEvIter rp p fun d ρ1 sh1 N1 x H1 _ rp1 k1 hx p1 => ?_
    match d, p1 with
    | [.int i, .int j], p1 =>
      obtain ⟨v, u, rfl, hv, hu⟩ := rbs2 hx
      obtain ⟨⟨c1, c2, c3, c4, c5⟩, p2⟩ := ifbadI p1
      exact ⟨i, j, by rw [rb_int hv, rb_int hu], ⟨c1, c2, c3, c4⟩, PostI.ret p2 rp1 (wk_range (by omega))⟩
end
end Mi

namespace Mi
open PySem PySem.Spec PyProof.Rows L2

/-! ### for -/
def forL (g : D → AE → R Unit) (body : AE → R Fl) : List D → AE → R Fl
  | [], ρ => .ok .next ρ
  | d :: ds, ρ => match g d ρ with
    | .ok _ ρ1 => (body ρ1).bind fun f ρ2 => (match f with
      | .brk => .ok .next ρ2
      | .ret d => .ok (.ret d) ρ2
      | _ => forL g body ds ρ2)
    | _ => .bad
/-- what was lent to the walk comes back -/
def unl (bi : Option Nat) (ρ ρ1 ρ2 : AE) : AE := match bi with
  | none => ρ2
  | some i => (match ρ.sl[i]?, ρ1.sl[i]?, ρ2.sl[i]? with
    | some (.own _), some (.bor _), some (.bor d) => setS ρ2 i (.own d)
    | _, _, _ => ρ2)
def rFor (bi : Option Nat) (it : AE → R (List D)) (g : D → AE → R Unit) (body : AE → R Fl) : AE → R Fl := fun ρ => (it ρ).bind fun l ρ1 => (forL g body l ρ1).bind fun f ρ2 => .ok f (unl bi ρ ρ1 ρ2)
section
variable {G : Cg} {W : WX} {α β : Type} {rel : Rel α β} {sh sh1 sh2 : List Addr} {N N1 N2 : Addr → Prop} {ρ ρ1 ρ2 : AE} {σ σ2 : Sg} {H H1 H2 : Hp}
variable {X : Cx} {st : Stmt} {e e2 c tg iter : Expr} {es : List Expr} {pos p p' : Pos} {ra rb : AE → R D} {te : TE}
theorem postSIter {l : AE → R (List D)} {f : List D → AE → R Fl} {D : Ends} {T : It → Hp → Prop} (p : PostS G W sh N ρ σ H ((l ρ).bind f) D)
    (k : ∀ d ρ1 sh1 N1 J H1, l ρ = .ok d ρ1 → G.rp sh1 N1 ρ1 σ H1 → Kp none1 (OwnS ρ σ) (OwnS ρ1 σ) sh sh1 N N1 H H1 → Wk G J d (OwnS ρ1 σ) sh1 N1 H1 → PostS G W sh N ρ σ H (f d ρ1) D → T J H1) : PostI G W sh N ρ σ H (l ρ) T := by
  cases q : l ρ with
  | ok d ρ1 =>
    rw [q] at p
    intro sh1 N1 H1 J rp1 kp1 hr
    exact k d ρ1 sh1 N1 J H1 q rp1 kp1 hr p
  | exc c fs ρ1 => rw [q] at p; exact fun cls dx sh' N' H' rp' kp' hx => p cls dx sh' N' σ H' rp' (kp'.weak fun _ z => z.elim) hx
  | bad => rw [q] at p; exact p
theorem Rp.back {bi : Option Nat} {M M' : Ow} (rp : G.rp sh N ρ σ H) (rp1 : G.rp sh1 N1 ρ1 σ H1) (rp2 : G.rp sh2 N2 ρ2 σ2 H2) (k0 : Kp M (OwnS ρ σ) (OwnS ρ2 σ2) sh sh2 N N2 H H2) (k1 : Kp M' (OwnS ρ1 σ) (OwnS ρ2 σ2) sh1 sh2 N1 N2 H1 H2) :
    G.rp sh2 N2 (unl bi ρ ρ1 ρ2) σ2 H2 ∧ Kp M (OwnS ρ σ) (OwnS (unl bi ρ ρ1 ρ2) σ2) sh sh2 N N2 H H2 := by
  cases bi with
  | none => exact ⟨rp2, k0⟩
  | some i =>
    unfold unl
    dsimp only
    split
    · rename_i d0 d1 d2 q0 q1 q2
      obtain ⟨a, h1, _⟩ := rp.own i _ q0
      obtain ⟨a1, g1, _⟩ := rp1.bor i _ q1
      rw [h1] at g1; cases g1
      obtain ⟨f, f1, f2⟩ := k1.bo i a ⟨_, q1, h1⟩
      obtain ⟨b, b1, b2, b3, b4⟩ := rp2.bor i _ q2
      rw [f2] at b1; cases b1
      refine ⟨⟨by simpa [setS] using rp2.len, fun j f g => ?_, fun j f g => ?_, fun j f g => ?_, fun j k f f' b g1 g2 g3 g4 g5 g6 => ?_, rp2.dom, rp2.nd, rp2.shN, rp2.shl, rp2.obs⟩,
        ⟨k0.keep, k0.shn, k0.av, fun b o e n z => ?_, k0.pre, k0.there, fun j b z => ?_, k0.st, fun b o e no h j ⟨f, g1, g2⟩ => ?_⟩⟩
      · rcases getS g with ⟨rfl, q⟩ | ⟨n, q⟩
        · cases q
        · exact rp2.val j f q
      · rcases getS g with ⟨rfl, q⟩ | ⟨n, q⟩
        · cases q; exact ⟨a, f2, b2, b3, b4⟩
        · exact rp2.own j f q
      · rcases getS g with ⟨rfl, q⟩ | ⟨n, q⟩
        · cases q
        · exact rp2.bor j f q
      · have w : ∀ (j : Nat) (f : Sl), (setS ρ2 i (.own d2)).sl[j]? = some f → mutS f = true → ∃ f', ρ2.sl[j]? = some f' ∧ mutS f' = true := fun j f g m => by
          rcases getS g with ⟨rfl, q⟩ | ⟨n, q⟩
          · exact ⟨_, q2, rfl⟩
          · exact ⟨f, q, m⟩
        obtain ⟨x, x1, x2⟩ := w j f g1 g3
        obtain ⟨y, y1, y2⟩ := w k f' g2 g4
        exact rp2.dis j k x y b x1 y1 x2 y2 g5 g6
      · obtain ⟨j, f, g1, g2⟩ := z
        rcases getS g1 with ⟨rfl, q⟩ | ⟨nn, q⟩
        · rw [f2] at g2; cases g2
          exact n ⟨j, _, q0, h1⟩
        · exact k0.own b o e n ⟨j, f, q, g2⟩
      · obtain ⟨f', z1, z2⟩ := k0.bo j b z
        obtain ⟨f'', w1, w2⟩ := z
        exact ⟨f', setS_ne (fun z => by subst z; rw [q0] at w1; cases w1) z1, z2⟩
      · rcases getS g1 with ⟨rfl, q⟩ | ⟨n, q⟩
        · cases q
        · exact k0.mt b o e no h j ⟨f, q, g2⟩
    · exact ⟨rp2, k0⟩
/-- behind a step: the post of what is left, seen from the step's end -/
theorem PostS.fold {r : R Fl} {f : Fl → AE → R Fl} {D D' : Ends} (p : PostS G W sh N ρ σ H (r.bind f) D) (k0 : Kp (OwnS ρ σ) (OwnS ρ σ) (OwnS ρ2 σ2) sh sh2 N N2 H H2)
    (h : ∀ g ρ3 sh3 N3 σ3 H3, r = .ok g ρ3 → G.rp sh3 N3 ρ3 σ3 H3 → Kp (OwnS ρ2 σ2) (OwnS ρ2 σ2) (OwnS ρ3 σ3) sh2 sh3 N2 N3 H2 H3 → Kp (OwnS ρ σ) (OwnS ρ σ) (OwnS ρ3 σ3) sh sh3 N N3 H H3 → PostS G W sh N ρ σ H (f g ρ3) D → PostS G W sh3 N3 ρ3 σ3 H3 (.ok g ρ3) D') : PostS G W sh2 N2 ρ2 σ2 H2 r D' := by
  cases r with
  | ok g ρ3 => exact fun sh3 N3 σ3 H3 rp3 kp3 => h g ρ3 sh3 N3 σ3 H3 rfl rp3 kp3 (k0.transS kp3 (fun _ z => z) fun _ z => z) p sh3 N3 σ3 H3 rp3 .refl
  | exc c fs ρ3 => exact fun cls dx sh3 N3 σ3 H3 rp3 kp3 => p cls dx sh3 N3 σ3 H3 rp3 (k0.transS kp3 (fun _ z => z) fun _ z => z)
  | bad => exact p
theorem bind_bind {α β γ : Type} (r : R α) (f : α → AE → R β) (g : β → AE → R γ) : (r.bind f).bind g = r.bind fun a ρ => (f a ρ).bind g := by cases r <;> rfl
variable {rbody : AE → R Fl} {it : AE → R (List Mi.D)} {g : Mi.D → AE → R Unit} {body : List Stmt}
theorem ps_forA {bi : Option Nat} (hp : PassesOwn (model X.prog X.w) X.A X.env X.xe) (hc : X.calm = true) (hi : PI X tg iter (tEvI G W it)) {ts : List Nat} (hg : TgOk X G W tg ts g) (hb : PSs X body (tSv G W rbody))
    (hs : ∀ x, foldedSetIterable iter X.env x = pure x) : PS X (.For tg iter body [] pos) (tSv G W (rFor bi it g rbody)) := by
  obtain ⟨tgr, pg, qg⟩ := hg
  refine PS.imp (ps_for hp hc hi pg hb hs) fun D σ H t => ?_
  obtain ⟨sh, N, ρ, rp, p⟩ := t
  refine ⟨sh, N, ρ, rp, postSIter (l := it) p fun l ρ1 sh1 N1 J H1 _ rp1 k1 wk p1 => ?_⟩
  refine ⟨fun i m σ' H' => m = l.length - i ∧ i ≤ l.length ∧ ∃ sh' N' ρ', G.rp sh' N' ρ' σ' H' ∧ Kp (OwnS ρ1 σ) (OwnS ρ1 σ) (OwnS ρ' σ') sh1 sh' N1 N' H1 H' ∧ Kp (OwnS ρ σ) (OwnS ρ σ) (OwnS ρ' σ') sh sh' N N' H H' ∧
    PostS G W sh N ρ σ H ((forL g rbody (l.drop i) ρ').bind fun f ρ2 => .ok f (unl bi ρ ρ1 ρ2)) D, ⟨l.length, by simp, Nat.zero_le _, sh1, N1, ρ1, rp1, .refl, k1.weak fun _ z => z.elim, by simpa using p1⟩, ?_⟩
  rintro i m σ' H' ⟨rfl, hle, sh', N', ρ', rp', ka, kb, p2⟩
  obtain ⟨w1, w2⟩ := wk.2 _ _ _ _ _ (fun _ z => .inl z) ka rp'.dom i
  by_cases hlt : i < l.length
  · have ed : l.drop i = l[i] :: l.drop (i + 1) := List.drop_eq_getElem_cons hlt
    rw [ed] at p2
    obtain ⟨hgo, hy⟩ := w1 l[i] (List.getElem?_eq_getElem hlt)
    refine .inr ⟨hgo, fun σ3 H3 => i + 1 ≤ l.length ∧ ∃ sh' N' ρ', G.rp sh' N' ρ' σ3 H3 ∧ Kp (OwnS ρ1 σ) (OwnS ρ1 σ) (OwnS ρ' σ3) sh1 sh' N1 N' H1 H3 ∧ Kp (OwnS ρ σ) (OwnS ρ σ) (OwnS ρ' σ3) sh sh' N N' H H3 ∧
      PostS G W sh N ρ σ H ((forL g rbody (l.drop (i + 1)) ρ').bind fun f ρ2 => .ok f (unl bi ρ ρ1 ρ2)) D, fun σ3 H3 h3 => ⟨l.length - (i + 1), by omega, rfl, h3⟩, fun x H2 hx => ?_⟩
    obtain ⟨hgr, hv⟩ := hy x H2 hx
    have rp2 : G.rp sh' N' ρ' σ' H2 := rp'.grow hgr (fun _ z => z) (fun _ z => .inl z) fun a z => by obtain ⟨o, e⟩ := rp'.dom a z; exact ⟨o, hgr a o e⟩
    have kg : Kp none1 (OwnS ρ' σ') (OwnS ρ' σ') sh' sh' N' N' H' H2 := ⟨fun a o e _ _ => hgr a o e, fun _ _ _ n => n, fun _ _ _ n => n, fun _ _ _ n => n, List.prefix_rfl, fun a o e => ⟨o, hgr a o e⟩, fun _ _ z => z, fun _ _ _ n _ => n, fun _ _ _ _ z => z⟩
    refine qg l[i] x sh' N' ρ' σ' H2 _ rp2 hv ?_
    have p3 : PostS G W sh N ρ σ H ((match g l[i] ρ' with
      | .ok _ ρ1 => (rbody ρ1).bind fun f ρ2 => (match f with
        | .brk => .ok .next ρ2
        | .ret d => .ok (.ret d) ρ2
        | _ => forL g rbody (l.drop (i + 1)) ρ2)
      | _ => .bad : R Fl).bind fun f ρ2 => .ok f (unl bi ρ ρ1 ρ2)) D := p2
    revert p3
    cases g l[i] ρ' with
    | ok u ρ3 =>
      intro p3 σ3 rp3 k3 _
      have p3' : PostS G W sh N ρ σ H (((rbody ρ3).bind fun f ρ2 => (match f with
        | .brk => .ok .next ρ2
        | .ret d => .ok (.ret d) ρ2
        | _ => forL g rbody (l.drop (i + 1)) ρ2)).bind fun f ρ2 => .ok f (unl bi ρ ρ1 ρ2)) D := p3
      rw [bind_bind] at p3'
      have ka3 := (ka.transS kg (fun _ z => z) fun _ z => z.elim).transS k3 (fun _ z => z) fun _ z => z.elim
      have kb3 := (kb.transS kg (fun _ z => z) fun _ z => z.elim).transS k3 (fun _ z => z) fun _ z => z.elim
      refine ⟨sh', N', ρ3, rp3, PostS.fold p3' kb3 fun f ρ4 sh4 N4 σ4 H4 _ rp4 kc kd p4 => ?_⟩
      have ka4 := ka3.transS kc (fun _ z => z) fun _ z => z
      have go : PostS G W sh N ρ σ H ((forL g rbody (l.drop (i + 1)) ρ4).bind fun f ρ2 => .ok f (unl bi ρ ρ1 ρ2)) D → ∀ sh5 N5 σ5 H5, G.rp sh5 N5 ρ4 σ5 H5 → Kp (OwnS ρ4 σ4) (OwnS ρ4 σ4) (OwnS ρ4 σ5) sh4 sh5 N4 N5 H4 H5 → i + 1 ≤ l.length ∧ ∃ sh' N' ρ', G.rp sh' N' ρ' σ5 H5 ∧ Kp (OwnS ρ1 σ) (OwnS ρ1 σ) (OwnS ρ' σ5) sh1 sh' N1 N' H1 H5 ∧ Kp (OwnS ρ σ) (OwnS ρ σ) (OwnS ρ' σ5) sh sh' N N' H H5 ∧
        PostS G W sh N ρ σ H ((forL g rbody (l.drop (i + 1)) ρ').bind fun f ρ2 => .ok f (unl bi ρ ρ1 ρ2)) D := fun p5 sh5 N5 σ5 H5 rp5 k5 =>
          ⟨hlt, sh5, N5, ρ4, rp5, ka4.transS k5 (fun _ z => z) fun _ z => z, kd.transS k5 (fun _ z => z) fun _ z => z, p5⟩
      cases f with
      | next => exact go p4
      | cont => exact go p4
      | brk =>
        intro sh5 N5 σ5 H5 rp5 k5
        obtain ⟨r6, k6⟩ := Rp.back (bi := bi) rp rp1 rp5 (kd.transS k5 (fun _ z => z) fun _ z => z) (ka4.transS k5 (fun _ z => z) fun _ z => z)
        exact p4 sh5 N5 σ5 H5 r6 k6
      | ret d =>
        intro sh5 N5 σ5 H5 rp5 k5 v hv
        obtain ⟨r6, k6⟩ := Rp.back (bi := bi) rp rp1 rp5 (kd.transS k5 (fun _ z => z) fun _ z => z) (ka4.transS k5 (fun _ z => z) fun _ z => z)
        exact p4 sh5 N5 σ5 H5 r6 k6 v hv
    | exc _ _ _ => exact fun z => z.elim
    | bad => exact fun z => z.elim
  · have e : i = l.length := by omega
    subst e
    rw [List.drop_length] at p2
    obtain ⟨r6, k6⟩ := Rp.back (bi := bi) rp rp1 rp' kb ka
    exact .inl ⟨w2 (Nat.le_refl _), p2 sh' N' σ' H' r6 k6⟩

/-! ### while -/
/-- so many turns at most -/
def whileL (t : AE → R Bool) (body : AE → R Fl) : Nat → AE → R Fl
  | 0, _ => .bad
  | n + 1, ρ => (t ρ).bind fun c ρ1 => if c = true then (body ρ1).bind fun f ρ2 => (match f with
    | .brk => .ok .next ρ2
    | .ret d => .ok (.ret d) ρ2
    | _ => whileL t body n ρ2) else .ok .next ρ1
def rWhile (t : AE → R Bool) (body : AE → R Fl) : AE → R Fl := whileL t body 5000
theorem ps_whileA {rt : AE → R Bool} (hp : PassesOwn (model X.prog X.w) X.A X.env X.xe) (hc : PT X c (tEv G W rl rt)) (hb : PSs X body (tSv G W rbody)) : PS X (.While c body [] pos) (tSv G W (rWhile rt rbody)) := by
  refine PS.imp (ps_while hp hc hb) fun D σ H t => ?_
  obtain ⟨sh, N, ρ, rp, p⟩ := t
  refine ⟨fun m σ H => ∃ sh N ρ, G.rp sh N ρ σ H ∧ PostS G W sh N ρ σ H (whileL rt rbody m ρ) D, ⟨5000, sh, N, ρ, rp, p⟩, ?_⟩
  clear p rp
  rintro m σ H ⟨sh, N, ρ, rp, p⟩
  cases m with
  | zero => exact p.elim
  | succ n =>
    refine tEv.stmt rp p fun d ρ1 sh1 N1 x H1 _ rp1 k1 hx p1 => ?_
    cases hx
    cases d with
    | false => exact PostS.next p1 rp1
    | true =>
      refine ⟨fun σ H => ∃ sh N ρ, G.rp sh N ρ σ H ∧ PostS G W sh N ρ σ H (whileL rt rbody n ρ) D, fun σ' H' h => ⟨n, Nat.lt_succ_self _, h⟩, sh1, N1, ρ1, rp1, ?_⟩
      refine PostS.seq (show PostS G W sh1 N1 ρ1 σ H1 ((rbody ρ1).bind fun f ρ2 => (match f with
        | .brk => .ok .next ρ2
        | .ret d => .ok (.ret d) ρ2
        | _ => whileL rt rbody n ρ2)) D from p1) fun f ρ2 sh2 N2 σ2 H2 _ rp2 k2 p2 => ?_
      cases f with
      | next => exact fun sh3 N3 σ3 H3 rp3 k3 => ⟨sh3, N3, ρ2, rp3, PostS.pre k3 (fun _ z => z) p2⟩
      | cont => exact fun sh3 N3 σ3 H3 rp3 k3 => ⟨sh3, N3, ρ2, rp3, PostS.pre k3 (fun _ z => z) p2⟩
      | brk => exact p2
      | ret d => exact p2
end
end Mi

namespace Mi
open PySem PySem.Spec PyProof.Rows L2

/-! ### comprehensions -/
def noX {α : Type} (r : R α) : R α := match r with
  | .exc _ _ _ => .bad
  | r => r
def W0 : WX := fun _ _ _ _ => False
def wipeL : List Nat → List Sl → List Sl
  | [], l => l
  | v :: vs, l => (wipeL vs l).set v .none
def wipeA (vs : List Nat) (ρ : AE) : AE := { ρ with sl := wipeL vs ρ.sl }
/-- the slots vs hold plain values or nothing -/
def okV (vs : List Nat) (ρ : AE) : Bool := vs.all fun i => match ρ.sl[i]? with
  | some (.own _) => false
  | some (.bor _) => false
  | _ => true
def restL : List Nat → List Sl → List Sl → List Sl
  | [], _, l => l
  | v :: vs, l0, l => (restL vs l0 l).set v (l0[v]?.getD .none)
/-- the slots vs as they were in ρ1 -/
def restA (vs : List Nat) (ρ1 ρ : AE) : AE := { ρ with sl := restL vs ρ1.sl ρ.sl }
def compL (g : D → AE → R Unit) (t : AE → R Bool) (re : AE → R D) (vs : List Nat) : List D → AE → R (List D)
  | [], ρ => .ok [] ρ
  | d :: ds, ρ => match g d ρ with
    | .ok _ ρ1 => (noX (t ρ1)).bind fun c ρ2 => if c = true then (noX (re ρ2)).bind fun y ρ3 => (compL g t re vs ds (wipeA vs ρ3)).bind fun ys ρ4 => .ok (y :: ys) ρ4 else compL g t re vs ds (wipeA vs ρ2)
    | _ => .bad
def rComp (bi : Option Nat) (it : AE → R (List D)) (vs : List Nat) (g : D → AE → R Unit) (t : AE → R Bool) (re : AE → R D) : AE → R D := fun ρ => (it ρ).bind fun l ρ1 =>
  if okV vs ρ1 = true then (compL g t re vs l (wipeA vs ρ1)).bind fun ys ρ2 => .ok (.lst ys) (unl bi ρ ρ1 (restA vs ρ1 ρ2)) else .bad

theorem wipeL_len : ∀ (vs : List Nat) (l : List Sl), (wipeL vs l).length = l.length
  | [], _ => rfl
  | v :: vs, l => by unfold wipeL; rw [List.length_set, wipeL_len vs l]
theorem restL_len : ∀ (vs : List Nat) (l0 l : List Sl), (restL vs l0 l).length = l.length
  | [], _, _ => rfl
  | v :: vs, l0, l => by unfold restL; rw [List.length_set, restL_len vs l0 l]
theorem wipeL_out {j : Nat} : ∀ {vs : List Nat} {l : List Sl}, j ∉ vs → (wipeL vs l)[j]? = l[j]?
  | [], _, _ => rfl
  | v :: vs, l, h => by
    simp only [List.mem_cons, not_or] at h
    unfold wipeL
    rw [List.getElem?_set_ne (Ne.symm h.1), wipeL_out h.2]
theorem wipeL_in {j : Nat} : ∀ {vs : List Nat} {l : List Sl}, j ∈ vs → j < l.length → (wipeL vs l)[j]? = some .none
  | v :: vs, l, h, hl => by
    unfold wipeL
    by_cases e : v = j
    · subst e; rw [List.getElem?_set_self (by rw [wipeL_len]; exact hl)]
    · rw [List.getElem?_set_ne e]
      exact wipeL_in ((List.mem_cons.mp h).resolve_left fun z => e z.symm) hl
theorem wipe_in {j : Nat} : ∀ {vs : List Nat} {l : Sg}, j ∈ vs → j < l.length → (wipe l vs)[j]? = some none
  | v :: vs, l, h, hl => by
    unfold wipe
    by_cases e : v = j
    · subst e; rw [List.getElem?_set_self (by rw [wipe_length]; exact hl)]
    · rw [List.getElem?_set_ne e]
      exact wipe_in ((List.mem_cons.mp h).resolve_left fun z => e z.symm) hl
theorem wipe_out' {j : Nat} : ∀ {vs : List Nat} {l : Sg}, j ∉ vs → (wipe l vs)[j]? = l[j]?
  | [], _, _ => rfl
  | v :: vs, l, h => by
    simp only [List.mem_cons, not_or] at h
    unfold wipe
    rw [List.getElem?_set_ne (Ne.symm h.1), wipe_out' h.2]
theorem restL_out {j : Nat} : ∀ {vs : List Nat} {l0 l : List Sl}, j ∉ vs → (restL vs l0 l)[j]? = l[j]?
  | [], _, _, _ => rfl
  | v :: vs, l0, l, h => by
    simp only [List.mem_cons, not_or] at h
    unfold restL
    rw [List.getElem?_set_ne (Ne.symm h.1), restL_out h.2]
theorem restL_in {j : Nat} : ∀ {vs : List Nat} {l0 l : List Sl}, j ∈ vs → j < l.length → (restL vs l0 l)[j]? = some (l0[j]?.getD .none)
  | v :: vs, l0, l, h, hl => by
    unfold restL
    by_cases e : v = j
    · subst e; rw [List.getElem?_set_self (by rw [restL_len]; exact hl)]
    · rw [List.getElem?_set_ne e]
      exact restL_in ((List.mem_cons.mp h).resolve_left fun z => e z.symm) hl
theorem wipe_same {σ σ' : Sg} {ts vs : List Nat} (o : OutS ts σ σ') (h : ∀ j ∈ ts, j ∈ vs) : wipe σ' vs = wipe σ vs := by
  refine List.ext_getElem? fun j => ?_
  by_cases hj : j ∈ vs
  · by_cases hl : j < σ.length
    · rw [wipe_in hj hl, wipe_in hj (by rw [o.1]; exact hl)]
    · rw [List.getElem?_eq_none (by rw [wipe_length, o.1]; omega), List.getElem?_eq_none (by rw [wipe_length]; omega)]
  · rw [wipe_out' hj, wipe_out' hj, o.2 j fun z => hj (h j z)]
theorem wipe_wipe {σ : Sg} {vs : List Nat} : wipe (wipe σ vs) vs = wipe σ vs := by
  refine List.ext_getElem? fun j => ?_
  by_cases hj : j ∈ vs
  · by_cases hl : j < σ.length
    · rw [wipe_in hj hl, wipe_in hj (by rw [wipe_length]; exact hl)]
    · rw [List.getElem?_eq_none (by rw [wipe_length, wipe_length]; omega), List.getElem?_eq_none (by rw [wipe_length]; omega)]
  · rw [wipe_out' hj]
section
variable {G : Cg} {W : WX} {sh sh1 sh2 : List Addr} {N N1 N2 : Addr → Prop} {ρ ρ1 ρ2 : AE} {σ σ2 : Sg} {H H1 H2 : Hp}
theorem getW {vs : List Nat} {j : Nat} {s : Sl} (h : (wipeA vs ρ).sl[j]? = some s) : (j ∉ vs ∧ ρ.sl[j]? = some s) ∨ (j ∈ vs ∧ s = .none) := by
  have h' : (wipeL vs ρ.sl)[j]? = some s := h
  by_cases hj : j ∈ vs
  · have hl : j < ρ.sl.length := by have := (List.getElem?_eq_some_iff.mp h').1; rwa [wipeL_len] at this
    rw [wipeL_in hj hl] at h'
    exact .inr ⟨hj, (Option.some.inj h').symm⟩
  · rw [wipeL_out hj] at h'; exact .inl ⟨hj, h'⟩
/-- slots forgotten; σ' as σ elsewhere -/
theorem Rp.wipe {vs : List Nat} (rp : G.rp sh N ρ σ H) : G.rp sh N (wipeA vs ρ) (wipe σ vs) H := by
  refine ⟨by show (wipeL vs ρ.sl).length = _; rw [wipeL_len, wipe_length]; exact rp.len, fun j e g => ?_, fun j e g => ?_, fun j e g => ?_, fun j k e f b g1 g2 g3 g4 g5 g6 => ?_, rp.dom, rp.nd, rp.shN, rp.shl, rp.obs⟩
  · rcases getW g with ⟨n, q⟩ | ⟨_, q⟩
    · rw [wipe_out' n]; exact rp.val j e q
    · cases q
  · rcases getW g with ⟨n, q⟩ | ⟨_, q⟩
    · rw [wipe_out' n]; exact rp.own j e q
    · cases q
  · rcases getW g with ⟨n, q⟩ | ⟨_, q⟩
    · rw [wipe_out' n]; exact rp.bor j e q
    · cases q
  · rcases getW g1 with ⟨n, q⟩ | ⟨_, q⟩
    · rcases getW g2 with ⟨n2, q2⟩ | ⟨_, q2⟩
      · rw [wipe_out' n] at g5; rw [wipe_out' n2] at g6
        exact rp.dis j k e f b q q2 g3 g4 g5 g6
      · subst q2; cases g4
    · subst q; cases g3
theorem OwnS.wipe {vs : List Nat} {a : Addr} (h : OwnS (wipeA vs ρ) (wipe σ vs) a) : OwnS ρ σ a := by
  obtain ⟨j, d, g1, g2⟩ := h
  rcases getW g1 with ⟨n, q⟩ | ⟨_, q⟩
  · rw [wipe_out' n] at g2; exact ⟨j, d, q, g2⟩
  · cases q
theorem BorS.wipe {vs : List Nat} {a : Addr} {i : Nat} (h : (OwnS (wipeA vs ρ) (wipe σ vs)).b i a) : (OwnS ρ σ).b i a := by
  obtain ⟨d, g1, g2⟩ := h
  rcases getW g1 with ⟨n, q⟩ | ⟨_, q⟩
  · rw [wipe_out' n] at g2; exact ⟨d, q, g2⟩
  · cases q
theorem okV_at {vs : List Nat} (h : okV vs ρ = true) {j : Nat} (hj : j ∈ vs) {s : Sl} (e : ρ.sl[j]? = some s) : mutS s = false := by
  unfold okV at h
  rw [List.all_eq_true] at h
  have := h j hj
  rw [e] at this
  cases s <;> first | rfl | cases this
theorem BorS.wiped {vs : List Nat} (h : okV vs ρ = true) {a : Addr} {i : Nat} (b : (OwnS ρ σ).b i a) : (OwnS (wipeA vs ρ) (L2.wipe σ vs)).b i a := by
  obtain ⟨d, g1, g2⟩ := b
  have n : i ∉ vs := fun z => by have := okV_at h z g1; cases this
  exact ⟨d, by show (wipeL vs ρ.sl)[i]? = _; rw [wipeL_out n]; exact g1, by rw [wipe_out' n]; exact g2⟩
theorem Kp.wipe {vs : List Nat} (h : okV vs ρ = true) : Kp none1 (OwnS ρ σ) (OwnS (wipeA vs ρ) (L2.wipe σ vs)) sh sh N N H H :=
  ⟨fun _ _ e _ _ => e, fun _ _ _ n => n, fun _ _ _ n => n, fun _ _ _ n z => n (OwnS.wipe z), List.prefix_rfl, fun _ o e => ⟨o, e⟩, fun _ _ z => BorS.wiped h z, fun _ _ _ n _ => n, fun _ _ _ _ z i b => z i (BorS.wipe b)⟩
theorem getR {vs : List Nat} {j : Nat} {s : Sl} (h : (restA vs ρ1 ρ).sl[j]? = some s) : (j ∉ vs ∧ ρ.sl[j]? = some s) ∨ (j ∈ vs ∧ (ρ1.sl[j]? = some s ∨ s = .none)) := by
  have h' : (restL vs ρ1.sl ρ.sl)[j]? = some s := h
  by_cases hj : j ∈ vs
  · have hl : j < ρ.sl.length := by have := (List.getElem?_eq_some_iff.mp h').1; rwa [restL_len] at this
    rw [restL_in hj hl] at h'
    have e := Option.some.inj h'
    cases q : ρ1.sl[j]? with
    | none => rw [q] at e; exact .inr ⟨hj, .inr e.symm⟩
    | some t => rw [q] at e; exact .inr ⟨hj, .inl (by rw [← e]; rfl)⟩
  · rw [restL_out hj] at h'; exact .inl ⟨hj, h'⟩
/-- behind the block: the slots as they were -/
theorem Rp.rest {vs : List Nat} {M : Ow} (hv : okV vs ρ1 = true) (rp1 : G.rp sh1 N1 ρ1 σ H1) (rp2 : G.rp sh2 N2 ρ2 (L2.wipe σ vs) H2) (k : Kp M (OwnS (wipeA vs ρ1) (L2.wipe σ vs)) (OwnS ρ2 (L2.wipe σ vs)) sh1 sh2 N1 N2 H1 H2) (hM : ∀ a, M a → H1 a = none) :
    G.rp sh2 N2 (restA vs ρ1 ρ2) σ H2 ∧ Kp none1 (OwnS ρ1 σ) (OwnS (restA vs ρ1 ρ2) σ) sh1 sh2 N1 N2 H1 H2 := by
  have oo : ∀ a, OwnS (restA vs ρ1 ρ2) σ a → OwnS ρ2 (L2.wipe σ vs) a := fun a ⟨j, d, g1, g2⟩ => by
    rcases getR g1 with ⟨n, q⟩ | ⟨m, q | q⟩
    · exact ⟨j, d, q, by rw [wipe_out' n]; exact g2⟩
    · have := okV_at hv m q; cases this
    · cases q
  have bb : ∀ i a, (OwnS (restA vs ρ1 ρ2) σ).b i a → (OwnS ρ2 (L2.wipe σ vs)).b i a := fun i a ⟨d, g1, g2⟩ => by
    rcases getR g1 with ⟨n, q⟩ | ⟨m, q | q⟩
    · exact ⟨d, q, by rw [wipe_out' n]; exact g2⟩
    · have := okV_at hv m q; cases this
    · cases q
  have kr : Kp none1 (OwnS ρ1 σ) (OwnS (restA vs ρ1 ρ2) σ) sh1 sh2 N1 N2 H1 H2 :=
    ⟨fun a o e n _ => k.keep a o e n fun z => (by rw [hM a z] at e; cases e), k.shn, k.av, fun a o e n z => k.own a o e (fun y => n (OwnS.wipe y)) (oo a z), k.pre, k.there, fun i a b => by
      obtain ⟨d, g1, g2⟩ := k.bo i a (BorS.wiped hv b)
      obtain ⟨d0, g0, _⟩ := b
      have n : i ∉ vs := fun z => by have := okV_at hv z g0; cases this
      exact ⟨d, by show (restL vs ρ1.sl ρ2.sl)[i]? = _; rw [restL_out n]; exact g1, by rw [wipe_out' n] at g2; exact g2⟩,
      fun a o e n no => k.st a o e n fun y => no (OwnS.wipe y), fun a o e n h i b => k.mt a o e (fun y => n (OwnS.wipe y)) (fun i y => h i (BorS.wipe y)) i (bb i a b)⟩
  refine ⟨⟨by show (restL vs ρ1.sl ρ2.sl).length = _; rw [restL_len, rp2.len, wipe_length], fun j e g => ?_, fun j e g => ?_, fun j e g => ?_, fun j k' e f b g1 g2 g3 g4 g5 g6 => ?_, rp2.dom, rp2.nd, rp2.shN, rp2.shl, rp2.obs⟩, kr⟩
  · rcases getR g with ⟨n, q⟩ | ⟨m, q | q⟩
    · have := rp2.val j e q
      rwa [wipe_out' n] at this
    · obtain ⟨v, h1, h2⟩ := rp1.val j e q
      exact ⟨v, h1, RV.mono h2 kr (fun _ z => z.elim) rp1.shN⟩
    · cases q
  · rcases getR g with ⟨n, q⟩ | ⟨m, q | q⟩
    · have := rp2.own j e q
      rwa [wipe_out' n] at this
    · have := okV_at hv m q; cases this
    · cases q
  · rcases getR g with ⟨n, q⟩ | ⟨m, q | q⟩
    · have := rp2.bor j e q
      rwa [wipe_out' n] at this
    · have := okV_at hv m q; cases this
    · cases q
  · have w : ∀ (j : Nat) (f : Sl), (restA vs ρ1 ρ2).sl[j]? = some f → mutS f = true → j ∉ vs ∧ ρ2.sl[j]? = some f := fun j f g m => by
      rcases getR g with ⟨n, q⟩ | ⟨m', q | q⟩
      · exact ⟨n, q⟩
      · have := okV_at hv m' q; rw [m] at this; cases this
      · subst q; cases m
    obtain ⟨n1, q1⟩ := w j e g1 g3
    obtain ⟨n2, q2⟩ := w k' f g2 g4
    exact rp2.dis j k' e f b q1 q2 g3 g4 (by rw [wipe_out' n1]; exact g5) (by rw [wipe_out' n2]; exact g6)
/-- an address that is neither a slot's own nor shared need not be in N -/
theorem Rp.drop {D : Addr} (rp : G.rp sh N ρ σ H) (h1 : ¬ OwnS ρ σ D) (h2 : ∀ i, ¬ (OwnS ρ σ).b i D) (h3 : D ∉ sh) : G.rp sh (fun b => N b ∧ b ≠ D) ρ σ H := by
  have hk : ∀ b u, Rd H b u → ¬ N b → Rd H b u ∧ ¬ (N b ∧ b ≠ D) := fun b u r n => ⟨r, fun z => n z.1⟩
  have hs : ∀ (n : Nat) (b : Addr), sh[n]? = some b → sh[n]? = some b := fun _ _ e => e
  refine ⟨rp.len, fun j e g => ?_, fun j e g => ?_, fun j e g => ?_, rp.dis, fun a z => rp.dom a z.1, rp.nd, fun a z => ⟨rp.shN a z, fun y => h3 (y ▸ z)⟩, rp.shl, fun n ob a e1 e2 => ObAt.mono hk hs (fun _ z => z) (rp.obs n ob a e1 e2)⟩
  · obtain ⟨v, q1, q2⟩ := rp.val j e g
    exact ⟨v, q1, RV.mono' hk hs _ _ q2⟩
  · obtain ⟨a, q1, q2, q3, q4⟩ := rp.own j e g
    exact ⟨a, q1, ⟨q2, fun z => h1 (z ▸ ⟨j, e, g, q1⟩)⟩, q3, OwnAt.mono hk hs (fun _ z => z) q4⟩
  · obtain ⟨a, q1, q2, q3, q4⟩ := rp.bor j e g
    exact ⟨a, q1, ⟨q2, fun z => h2 j (z ▸ ⟨e, g, q1⟩)⟩, q3, OwnAt.mono hk hs (fun _ z => z) q4⟩
theorem Kp.transM {M O O' O'' : Ow} {sh sh' sh'' : List Addr} {N N' N'' : Addr → Prop} {H H' H'' : Hp} (f : Kp M O O' sh sh' N N' H H') (g : Kp M O' O'' sh' sh'' N' N'' H' H'') : Kp M O O'' sh sh'' N N'' H H'' where
  keep := fun a o e n m => g.keep a o (f.keep a o e n m) (f.shn a o e n) m
  shn := fun a o e n => let ⟨o', e'⟩ := f.there a o e; g.shn a o' e' (f.shn a o e n)
  av := fun a o e n => let ⟨o', e'⟩ := f.there a o e; g.av a o' e' (f.av a o e n)
  own := fun a o e n => let ⟨o', e'⟩ := f.there a o e; g.own a o' e' (f.own a o e n)
  pre := f.pre.trans g.pre
  there := fun a o e => let ⟨o', e'⟩ := f.there a o e; g.there a o' e'
  bo := fun i a h => g.bo i a (f.bo i a h)
  st := fun a o e n no => let ⟨o', e'⟩ := f.there a o e; g.st a o' e' (f.st a o e n no) (f.own a o e no)
  mt := fun a o e no h => let ⟨o', e'⟩ := f.there a o e; g.mt a o' e' (f.own a o e no) (f.mt a o e no h)

/-! ### the block's computations raise nothing -/
variable {α β : Type} {rel : Rel α β}
theorem Post.noX {r : R α} {f : α → AE → R D} {Q : VK} {T : β → Hp → Prop} (p : PostF G W sh N ρ σ H ((Mi.noX r).bind f) Q)
    {sh' : List Addr} {N' : Addr → Prop} {ρ' : AE} {σ' : Sg} {H' : Hp}
    (k : ∀ d ρ1 sh1 N1 x H1, r = .ok d ρ1 → G.rp sh1 N1 ρ1 σ' H1 → Kp none1 (OwnS ρ' σ') (OwnS ρ1 σ') sh' sh1 N' N1 H' H1 → rel H1 N1 sh1 d x → PostF G W sh N ρ σ H (f d ρ1) Q → T x H1) : Post G W0 rel sh' N' ρ' σ' H' r T := by
  cases r with
  | ok d ρ1 => exact fun sh1 N1 x H1 rp1 kp1 hr => k d ρ1 sh1 N1 x H1 rfl rp1 kp1 hr p
  | exc c fs ρ1 => exact p.elim
  | bad => exact p.elim
theorem ifbadF {c : Prop} [Decidable c] {r : R D} {Q : VK} (p : PostF G W sh N ρ σ H (if c then r else .bad) Q) : c ∧ PostF G W sh N ρ σ H r Q := by
  by_cases h : c
  · rw [if_pos h] at p; exact ⟨h, p⟩
  · rw [if_neg h] at p; exact p.elim
theorem postFIter {l : AE → R (List D)} {f : List D → AE → R D} {Q : VK} {T : It → Hp → Prop} (p : PostF G W sh N ρ σ H ((l ρ).bind f) Q)
    (k : ∀ d ρ1 sh1 N1 J H1, l ρ = .ok d ρ1 → G.rp sh1 N1 ρ1 σ H1 → Kp none1 (OwnS ρ σ) (OwnS ρ1 σ) sh sh1 N N1 H H1 → Wk G J d (OwnS ρ1 σ) sh1 N1 H1 → PostF G W sh N ρ σ H (f d ρ1) Q → T J H1) : PostI G W sh N ρ σ H (l ρ) T := by
  cases q : l ρ with
  | ok d ρ1 =>
    rw [q] at p
    intro sh1 N1 H1 J rp1 kp1 hr
    exact k d ρ1 sh1 N1 J H1 q rp1 kp1 hr p
  | exc c fs ρ1 => rw [q] at p; exact p
  | bad => rw [q] at p; exact p
theorem prop_ext {N : Addr → Prop} {D : Addr} (h : N D) : (fun b => (N b ∧ b ≠ D) ∨ b = D) = N := by
  funext b
  refine propext ⟨fun z => z.elim (fun z => z.1) fun z => z ▸ h, fun z => ?_⟩
  by_cases e : b = D
  · exact .inr e
  · exact .inl ⟨z, e⟩
variable {X : Cx} {elt tg iter : Expr} {ifs : List Expr} {it : AE → R (List D)} {g : D → AE → R Unit} {rt : AE → R Bool} {re : AE → R D} {tgr : TG} {tt : TT} {te : TE} {ts vs : List Nat}
/-- what a target's store does, told with nothing of the context -/
def TgRd (G : Cg) (t : TG) (ts : List Nat) (g : D → AE → R Unit) : Prop := ∀ (d : D) (v : V) (sh : List Addr) (N : Addr → Prop) (ρ : AE) (σ : Sg) (H : Hp) (Q : Sg → Hp → Prop), G.rp sh N ρ σ H → G.rv H N sh d v →
  (match g d ρ with
    | .ok _ ρ' => ∀ σ', G.rp sh N ρ' σ' H → Kp none1 (OwnS ρ σ) (OwnS ρ' σ') sh sh N N H H → OutS ts σ σ' → Q σ' H
    | _ => False) → t v σ H Q
/-- the state of a comprehension's walk -/
structure CSt (G : Cg) (ρ1 : AE) (σ : Sg) (vs : List Nat) (sh1 : List Addr) (N1 : Addr → Prop) (H1 : Hp) (D : Addr) (sh' : List Addr) (N' : Addr → Prop) (ρ' : AE) (σ' : Sg) (H' : Hp) : Prop where
  rp : G.rp sh' N' ρ' σ' H'
  kp : Kp ⟨(· = D), fun _ _ => False⟩ (OwnS (wipeA vs ρ1) (wipe σ vs)) (OwnS ρ' σ') sh1 sh' (fun b => N1 b ∨ b = D) N' (upd H1 D (.lst [])) H'
  nd : N' D
  no : ¬ OwnS ρ' σ' D
  nb : ∀ i, ¬ (OwnS ρ' σ').b i D
  ns : D ∉ sh'
  al : ∃ o, H' D = some o
theorem CSt.step {D : Addr} {M : Ow} {sh' sh'' : List Addr} {N' N'' : Addr → Prop} {ρ' ρ'' : AE} {σ' σ'' : Sg} {H' H'' : Hp} (c : CSt G ρ1 σ vs sh1 N1 H1 D sh' N' ρ' σ' H') (rp : G.rp sh'' N'' ρ'' σ'' H'') (k : Kp none1 (OwnS ρ' σ') (OwnS ρ'' σ'') sh' sh'' N' N'' H' H'') : CSt G ρ1 σ vs sh1 N1 H1 D sh'' N'' ρ'' σ'' H'' := by
  obtain ⟨o, e⟩ := c.al
  exact ⟨rp, c.kp.transM (k.weak fun _ z => z.elim), k.st D o e c.nd c.no, k.own D o e c.no, k.mt D o e c.no c.nb, k.shn D o e c.ns, k.there D o e⟩
/-- for the walk: what stands since H1 -/
theorem CSt.walk {D : Addr} {sh' : List Addr} {N' : Addr → Prop} {ρ' : AE} {σ' : Sg} {H' : Hp} (c : CSt G ρ1 σ vs sh1 N1 H1 D sh' N' ρ' σ' H') (hv : okV vs ρ1 = true) (hD : H1 D = none) : Kp none1 (OwnS ρ1 σ) (OwnS ρ' σ') sh1 sh' N1 N' H1 H' := by
  have e1 : ∀ a o, H1 a = some o → upd H1 D (.lst []) a = some o := grows hD
  have ne : ∀ a o, H1 a = some o → a ≠ D := fun a o e z => by rw [z, hD] at e; cases e
  exact ⟨fun a o e n _ => c.kp.keep a o (e1 a o e) n (ne a o e), fun a o e n => c.kp.shn a o (e1 a o e) n, fun a o e n => c.kp.av a o (e1 a o e) fun z => z.elim n (ne a o e),
    fun a o e n => c.kp.own a o (e1 a o e) fun z => n (OwnS.wipe z), c.kp.pre, fun a o e => c.kp.there a o (e1 a o e), fun i a b => c.kp.bo i a (BorS.wiped hv b),
    fun a o e n no => c.kp.st a o (e1 a o e) (.inl n) fun z => no (OwnS.wipe z), fun a o e n h => c.kp.mt a o (e1 a o e) (fun z => n (OwnS.wipe z)) fun i z => h i (BorS.wipe z)⟩
theorem readComp {bi : Option Nat} {Q : VK} (hg : TgRd G tgr ts g) (hts : ∀ j ∈ ts, j ∈ vs) (t : tEvF G W (rComp bi it vs g rt re) σ H Q) : tLc (tEvI G W it) tgr (tEv G W0 rl rt) (tEv G W0 G.rv re) vs σ H Q := by
  obtain ⟨sh, N, ρ, rp, p⟩ := t
  refine ⟨sh, N, ρ, rp, postFIter (l := it) p fun l ρ1 sh1 N1 J H1 _ rp1 k1 wk p1 => ?_⟩
  obtain ⟨hv, p1⟩ := ifbadF p1
  intro D hD
  have nD : ¬ N1 D := nofree rp1 hD
  have dS : D ∉ sh1 := fun z => nD (rp1.shN _ z)
  refine ⟨fun i m H' => m = l.length - i ∧ i ≤ l.length ∧ ∃ sh' N' ρ' done acc, CSt G ρ1 σ vs sh1 N1 H1 D sh' N' ρ' (wipe σ vs) H' ∧ H' D = some (.lst acc) ∧ G.rvs H' N' sh' done acc ∧ done.length ≤ i ∧
    PostF G W sh N ρ σ H ((compL g rt re vs (l.drop i) ρ').bind fun ys ρ2 => .ok (.lst (done ++ ys)) (unl bi ρ ρ1 (restA vs ρ1 ρ2))) Q, ⟨l.length, by simp, Nat.zero_le _, sh1, fun b => N1 b ∨ b = D, wipeA vs ρ1, [], [], ?_, upd_same, .nil, Nat.le_refl _, by simpa using p1⟩, ?_⟩
  · have r2 : G.rp sh1 (fun b => N1 b ∨ b = D) ρ1 σ (upd H1 D (.lst [])) := rp1.grow (grows hD) (fun _ z => .inl z) (fun b z => z.imp id fun (e : b = D) => by rw [e]; exact hD) fun b z => by
      rcases z with z | rfl
      · obtain ⟨o, e⟩ := rp1.dom b z; exact ⟨o, grows hD b o e⟩
      · exact ⟨_, upd_same⟩
    refine ⟨r2.wipe, .refl, .inr rfl, fun z => ?_, fun i z => ?_, dS, ⟨_, upd_same⟩⟩
    · exact nD (rp1.ownN D (OwnS.wipe z))
    · obtain ⟨d, g1, g2⟩ := BorS.wipe z
      exact nD (rp1.mutN g1 rfl g2)
  rintro i m H' ⟨rfl, hle, sh', N', ρ', done, acc, cs, hacc, hdone, hlen, p2⟩
  obtain ⟨w1, w2⟩ := wk.2 none1 _ _ _ _ (fun _ z => z.elim) (cs.walk hv hD) cs.rp.dom i
  by_cases hlt : i < l.length
  · have ed : l.drop i = l[i] :: l.drop (i + 1) := List.drop_eq_getElem_cons hlt
    rw [ed] at p2
    obtain ⟨hgo, hy⟩ := w1 l[i] (List.getElem?_eq_getElem hlt)
    refine .inr ⟨hgo, fun H3 => i + 1 ≤ l.length ∧ ∃ sh' N' ρ' done acc, CSt G ρ1 σ vs sh1 N1 H1 D sh' N' ρ' (wipe σ vs) H3 ∧ H3 D = some (.lst acc) ∧ G.rvs H3 N' sh' done acc ∧ done.length ≤ i + 1 ∧
      PostF G W sh N ρ σ H ((compL g rt re vs (l.drop (i + 1)) ρ').bind fun ys ρ2 => .ok (.lst (done ++ ys)) (unl bi ρ ρ1 (restA vs ρ1 ρ2))) Q, fun H3 h3 => ⟨l.length - (i + 1), by omega, rfl, h3⟩, fun x H2 hx => ?_⟩
    obtain ⟨hgr, hvx⟩ := hy x H2 hx
    have rp2 : G.rp sh' N' ρ' (wipe σ vs) H2 := cs.rp.grow hgr (fun _ z => z) (fun _ z => .inl z) fun a z => by obtain ⟨o, e⟩ := cs.rp.dom a z; exact ⟨o, hgr a o e⟩
    have kg : Kp none1 (OwnS ρ' (wipe σ vs)) (OwnS ρ' (wipe σ vs)) sh' sh' N' N' H' H2 := ⟨fun a o e _ _ => hgr a o e, fun _ _ _ n => n, fun _ _ _ n => n, fun _ _ _ n => n, List.prefix_rfl, fun a o e => ⟨o, hgr a o e⟩, fun _ _ z => z, fun _ _ _ n _ => n, fun _ _ _ _ z => z⟩
    have cs2 := cs.step (M := none1) rp2 kg
    refine hg l[i] x sh' N' ρ' (wipe σ vs) H2 _ rp2 hvx ?_
    have p3 : PostF G W sh N ρ σ H ((match g l[i] ρ' with
      | .ok _ ρ1 => (noX (rt ρ1)).bind fun c ρ2 => if c = true then (noX (re ρ2)).bind fun y ρ3 => (compL g rt re vs (l.drop (i + 1)) (wipeA vs ρ3)).bind fun ys ρ4 => .ok (y :: ys) ρ4 else compL g rt re vs (l.drop (i + 1)) (wipeA vs ρ2)
      | _ => .bad : R (List Mi.D)).bind fun ys ρ2 => .ok (.lst (done ++ ys)) (unl bi ρ ρ1 (restA vs ρ1 ρ2))) Q := p2
    revert p3
    cases g l[i] ρ' with
    | ok u ρ3 =>
      intro p3 σ3 rp3 k3 o3
      have p3' : PostF G W sh N ρ σ H (((noX (rt ρ3)).bind fun c ρ2 => if c = true then (noX (re ρ2)).bind fun y ρ3 => (compL g rt re vs (l.drop (i + 1)) (wipeA vs ρ3)).bind fun ys ρ4 => .ok (y :: ys) ρ4 else compL g rt re vs (l.drop (i + 1)) (wipeA vs ρ2)).bind fun ys ρ2 => .ok (.lst (done ++ ys)) (unl bi ρ ρ1 (restA vs ρ1 ρ2))) Q := p3
      rw [bind_bind] at p3'
      have ws : wipe σ3 vs = wipe σ vs := by rw [wipe_same o3 hts, wipe_wipe]
      have cs3 := cs2.step (M := none1) rp3 k3
      refine ⟨ws, sh', N', ρ3, rp3, Post.noX (rel := rl) p3' fun c ρ4 sh4 N4 b H4 _ rp4 k4 hb p4 => ?_⟩
      cases hb
      have cs4 := cs3.step (M := none1) rp4 k4
      have hacc4 : H4 D = some (.lst acc) := by
        have h1 := hgr D _ hacc
        exact k4.keep D _ h1 cs3.ns id
      have kall := (kg.trans k3).trans k4
      have hdone4 : G.rvs H4 N4 sh4 done acc := RVs.mono hdone kall (fun _ z => z.elim) cs.rp.shN
      -- the slots of the block are forgotten ahead of the next turn
      have wp : ∀ {shx : List Addr} {Nx : Addr → Prop} {ρx : AE} {Hx : Hp}, CSt G ρ1 σ vs sh1 N1 H1 D shx Nx ρx σ3 Hx → CSt G ρ1 σ vs sh1 N1 H1 D shx Nx (wipeA vs ρx) (wipe σ vs) Hx := fun {shx Nx ρx Hx} c => by
        have rw1 := c.rp.wipe (vs := vs)
        rw [ws] at rw1
        have oo : ∀ a, OwnS (wipeA vs ρx) (wipe σ vs) a → OwnS ρx σ3 a := fun a z => by rw [← ws] at z; exact OwnS.wipe z
        have bb : ∀ i a, (OwnS (wipeA vs ρx) (wipe σ vs)).b i a → (OwnS ρx σ3).b i a := fun i a z => by rw [← ws] at z; exact BorS.wipe z
        refine ⟨rw1, ⟨c.kp.keep, c.kp.shn, c.kp.av, fun a o e n z => c.kp.own a o e n (oo a z), c.kp.pre, c.kp.there, fun i a b => ?_, c.kp.st, fun a o e n h i z => c.kp.mt a o e n h i (bb i a z)⟩, c.nd, fun z => c.no (oo D z), fun i z => c.nb i (bb i D z), c.ns, c.al⟩
        obtain ⟨d, g1, g2⟩ := c.kp.bo i a b
        obtain ⟨d0, g0, _⟩ := b
        have n : i ∉ vs := fun z => by
          rcases getW g0 with ⟨n, _⟩ | ⟨_, q⟩
          · exact n z
          · cases q
        exact ⟨d, by show (wipeL vs ρx.sl)[i]? = _; rw [wipeL_out n]; exact g1, by rw [← ws, wipe_out' n]; exact g2⟩
      cases c with
      | false => exact ⟨hlt, sh4, N4, _, done, acc, wp cs4, hacc4, hdone4, by omega, p4⟩
      | true =>
        have p4' : PostF G W sh N ρ σ H (((noX (re ρ4)).bind fun y ρ3 => (compL g rt re vs (l.drop (i + 1)) (wipeA vs ρ3)).bind fun ys ρ4 => .ok (y :: ys) ρ4).bind fun ys ρ2 => .ok (.lst (done ++ ys)) (unl bi ρ ρ1 (restA vs ρ1 ρ2))) Q := p4
        rw [bind_bind] at p4'
        refine ⟨sh4, N4, ρ4, rp4, Post.noX (rel := G.rv) p4' fun y ρ5 sh5 N5 v H5 _ rp5 k5 hyv p5 => ?_⟩
        rw [bind_bind] at p5
        have cs5 := cs4.step (M := none1) rp5 k5
        have hacc5 : H5 D = some (.lst acc) := k5.keep D _ hacc4 cs4.ns id
        have hdone5 : G.rvs H5 N5 sh5 done acc := RVs.mono hdone4 k5 (fun _ z => z.elim) rp4.shN
        refine ⟨acc, hacc5, ?_, hlt, sh5, N5, wipeA vs ρ5, done ++ [y], acc ++ [v], ?_, upd_same, ?_, by simp; omega, ?_⟩
        · have h1 := RVs.length hdone5
          have h2 := wk.1
          omega
        · -- the list grows
          have nD5 := cs5.nd
          have up : ∀ b, b ≠ D → upd H5 D (.lst (acc ++ [v])) b = H5 b := fun b h => upd_ne h
          have rdn : ∀ b u, Rd H5 b u → ¬ N5 b → Rd (upd H5 D (.lst (acc ++ [v]))) b u := fun b u r n => by
            have h : b ≠ D := fun z => n (z ▸ nD5)
            rcases r with r | ⟨q, r⟩
            · exact .inl ((up b h).trans r)
            · exact .inr ⟨q, (up b h).trans r⟩
          have hk : ∀ b u, Rd H5 b u → ¬ N5 b → Rd (upd H5 D (.lst (acc ++ [v]))) b u ∧ ¬ N5 b := fun b u r n => ⟨rdn b u r n, n⟩
          have hs : ∀ (n : Nat) (b : Addr), sh5[n]? = some b → sh5[n]? = some b := fun _ _ e => e
          have al : ∀ b o, H5 b = some o → ∃ o', upd H5 D (.lst (acc ++ [v])) b = some o' := fun b o e => by
            by_cases h : b = D
            · exact ⟨_, by rw [h]; exact upd_same⟩
            · exact ⟨o, (up b h).trans e⟩
          have rp6 : G.rp sh5 N5 ρ5 σ3 (upd H5 D (.lst (acc ++ [v]))) := by
            refine ⟨rp5.len, fun j e g => ?_, fun j e g => ?_, fun j e g => ?_, rp5.dis, fun a z => ?_, rp5.nd, rp5.shN, rp5.shl, fun n ob a e1 e2 => ?_⟩
            · obtain ⟨v, q1, q2⟩ := rp5.val j e g
              exact ⟨v, q1, RV.mono' hk hs _ _ q2⟩
            · obtain ⟨a, q1, q2, q3, q4⟩ := rp5.own j e g
              have h : a ≠ D := fun z => cs5.no (z ▸ ⟨j, e, g, q1⟩)
              exact ⟨a, q1, q2, q3, OwnAt.mono hk hs (fun o z => (up a h).trans z) q4⟩
            · obtain ⟨a, q1, q2, q3, q4⟩ := rp5.bor j e g
              have h : a ≠ D := fun z => cs5.nb j (z ▸ ⟨e, g, q1⟩)
              exact ⟨a, q1, q2, q3, OwnAt.mono hk hs (fun o z => (up a h).trans z) q4⟩
            · obtain ⟨o, e⟩ := rp5.dom a z
              exact al a o e
            · have h : a ≠ D := fun z => cs5.ns (by rw [← z]; exact List.mem_of_getElem? e2)
              exact ObAt.mono hk hs (fun o z => (up a h).trans z) (rp5.obs n ob a e1 e2)
          refine wp ⟨rp6, ⟨fun a o e n z => by rw [up a z]; exact cs5.kp.keep a o e n z, cs5.kp.shn, cs5.kp.av, cs5.kp.own, cs5.kp.pre, fun a o e => ?_, cs5.kp.bo, cs5.kp.st, cs5.kp.mt⟩, cs5.nd, cs5.no, cs5.nb, cs5.ns, ⟨_, upd_same⟩⟩
          obtain ⟨o', e'⟩ := cs5.kp.there a o e
          exact al a o' e'
        · have nD5 := cs5.nd
          have rdn : ∀ b u, Rd H5 b u → ¬ N5 b → Rd (upd H5 D (.lst (acc ++ [v]))) b u ∧ ¬ N5 b := fun b u r n => by
            have h : b ≠ D := fun z => n (z ▸ nD5)
            refine ⟨?_, n⟩
            rcases r with r | ⟨q, r⟩
            · exact .inl ((upd_ne h).trans r)
            · exact .inr ⟨q, (upd_ne h).trans r⟩
          exact RVs.append (RVs.mono' rdn (fun _ _ e => e) _ _ hdone5) (.cons (RV.mono' rdn (fun _ _ e => e) _ _ hyv) .nil)
        · have p5' : PostF G W sh N ρ σ H ((compL g rt re vs (l.drop (i + 1)) (wipeA vs ρ5)).bind fun ys ρ2 => .ok (.lst (done ++ (y :: ys))) (unl bi ρ ρ1 (restA vs ρ1 ρ2))) Q := p5
          have e1 : ∀ ys, done ++ (y :: ys) = (done ++ [y]) ++ ys := fun ys => by simp
          have e2 : (fun (ys : List Mi.D) (ρ2 : AE) => R.ok (Mi.D.lst (done ++ (y :: ys))) (unl bi ρ ρ1 (restA vs ρ1 ρ2))) = fun ys ρ2 => R.ok (Mi.D.lst ((done ++ [y]) ++ ys)) (unl bi ρ ρ1 (restA vs ρ1 ρ2)) := by
            funext ys ρ2; rw [e1 ys]
          rw [e2] at p5'
          exact p5'
    | exc _ _ _ => exact fun z => z.elim
    | bad => exact fun z => z.elim
  · have e : i = l.length := by omega
    subst e
    rw [List.drop_length] at p2
    refine .inl ⟨w2 (Nat.le_refl _), ?_⟩
    -- the end: D is the new list
    have p3 : PostF G W sh N ρ σ H (.ok (.lst (done ++ [])) (unl bi ρ ρ1 (restA vs ρ1 ρ'))) Q := p2
    rw [List.append_nil] at p3
    have cD := cs.rp.drop cs.no cs.nb cs.ns
    have kD : Kp none1 (OwnS (wipeA vs ρ1) (wipe σ vs)) (OwnS ρ' (wipe σ vs)) sh1 sh' N1 (fun b => N' b ∧ b ≠ D) H1 H' := by
      have e1 : ∀ a o, H1 a = some o → upd H1 D (.lst []) a = some o := grows hD
      have ne : ∀ a o, H1 a = some o → a ≠ D := fun a o e z => by rw [z, hD] at e; cases e
      exact ⟨fun a o e n _ => cs.kp.keep a o (e1 a o e) n (ne a o e), fun a o e n => cs.kp.shn a o (e1 a o e) n, fun a o e n z => cs.kp.av a o (e1 a o e) (fun z => z.elim n (ne a o e)) z.1,
        fun a o e n => cs.kp.own a o (e1 a o e) n, cs.kp.pre, fun a o e => cs.kp.there a o (e1 a o e), cs.kp.bo,
        fun a o e n no => ⟨cs.kp.st a o (e1 a o e) (.inl n) no, ne a o e⟩, fun a o e n h => cs.kp.mt a o (e1 a o e) n h⟩
    have kD2 : Kp none1 (OwnS (wipeA vs ρ1) (wipe σ vs)) (OwnS ρ' (wipe σ vs)) sh1 sh' N1 N' H1 H' := by
      have e1 : ∀ a o, H1 a = some o → upd H1 D (.lst []) a = some o := grows hD
      have ne : ∀ a o, H1 a = some o → a ≠ D := fun a o e z => by rw [z, hD] at e; cases e
      exact ⟨fun a o e n _ => cs.kp.keep a o (e1 a o e) n (ne a o e), fun a o e n => cs.kp.shn a o (e1 a o e) n, fun a o e n => cs.kp.av a o (e1 a o e) (fun z => z.elim n (ne a o e)),
        fun a o e n => cs.kp.own a o (e1 a o e) n, cs.kp.pre, fun a o e => cs.kp.there a o (e1 a o e), cs.kp.bo,
        fun a o e n no => cs.kp.st a o (e1 a o e) (.inl n) no, fun a o e n h => cs.kp.mt a o (e1 a o e) n h⟩
    obtain ⟨r6, k6⟩ := Rp.rest hv rp1 cD kD fun _ z => z.elim
    obtain ⟨r7, k7⟩ := Rp.rest hv rp1 cs.rp kD2 fun _ z => z.elim
    obtain ⟨r8, k8⟩ := Rp.back (bi := bi) rp rp1 r6 (k1.trans k6) k6
    obtain ⟨r9, _⟩ := Rp.back (bi := bi) rp rp1 r7 (k1.trans k7) k7
    have hD0 : H D = none := by
      cases q : H D with
      | none => rfl
      | some o => obtain ⟨o', e'⟩ := k1.there D o q; rw [hD] at e'; cases e'
    have eN := prop_ext cs.nd
    exact p3 sh' _ D H' r8 k8 hD0 (by rw [eN]; exact r9) ⟨fun z => z.2 rfl, cs.ns, acc, hacc, by rw [eN]; exact hdone⟩
end
end Mi

namespace Mi
open PySem PySem.Spec PyProof.Rows L2

section
variable {G : Cg} {W : WX} {X : Cx} {elt tg iter e : Expr} {ifs : List Expr} {it : AE → R (List D)} {g : D → AE → R Unit} {rt : AE → R Bool} {re : AE → R D} {tgr : TG} {ts : List Nat} {scope : Scope} {own : List (Str × Nat)} {pos spos py p : Pos} {bi : Option Nat}
/-- a target's reading, whatever the block -/
def TgAll (X : Cx) (G : Cg) (scope : Scope) (tg : Expr) (ts : List Nat) (g : D → AE → R Unit) : Prop := ∃ t : TG, TgRd G t ts g ∧ ∀ (s : Shared) (H : Hp) (C : Addr) (cl : List (Str × Addr)) (fp : List Addr), PG (X.blk s H scope (compEnvC scope cl C X.env) fp) tg t
theorem pe_compA (hc : X.calm = true) (hN : X.N.Nodup) (hi : PI X tg iter (tEvI G W it)) (ok : BlkOk X.N X.env.scope scope own) (hg : TgAll X G scope tg ts g) (hts : ∀ j ∈ ts, j ∈ own.map (·.2))
    (ht : ∀ (s : Shared) (H : Hp) (C : Addr) (cl : List (Str × Addr)) (fp : List Addr), PTs (X.blk s H scope (compEnvC scope cl C X.env) fp) ifs (tEv G W0 rl rt))
    (he : ∀ (s : Shared) (H : Hp) (C : Addr) (cl : List (Str × Addr)) (fp : List Addr), PE (X.blk s H scope (compEnvC scope cl C X.env) fp) elt (tEv G W0 G.rv re)) (hs : ∀ x, foldedSetIterable iter X.env x = pure x) :
    PE X (.ListComp elt [⟨tg, iter, ifs, 0⟩] scope pos) (tEvF G W (rComp bi it (own.map (·.2)) g rt re)) := by
  obtain ⟨t, h1, h2⟩ := hg
  exact PE.imp (pe_lc hc hN hi ok h2 ht he hs) fun _ _ _ => readComp h1 hts
/-- name = [..] -/
theorem ps_compB {i : Nat} {y : Str} (hc : X.calm = true) (hN : X.N.Nodup) (hy : X.N[i]? = some y) (hyl : X.env.scope.names.lookup y = some .local)
    (hsw : swapsWith (.ListComp elt [⟨tg, iter, ifs, 0⟩] scope pos) (some (.Name y py)) spos.line X.env = pure true) (hi : PI X tg iter (tEvI G W it)) (ok : BlkOk X.N X.env.scope scope own) (hg : TgAll X G scope tg ts g) (hts : ∀ j ∈ ts, j ∈ own.map (·.2))
    (ht : ∀ (s : Shared) (H : Hp) (C : Addr) (cl : List (Str × Addr)) (fp : List Addr), PTs (X.blk s H scope (compEnvC scope cl C X.env) fp) ifs (tEv G W0 rl rt))
    (he : ∀ (s : Shared) (H : Hp) (C : Addr) (cl : List (Str × Addr)) (fp : List Addr), PE (X.blk s H scope (compEnvC scope cl C X.env) fp) elt (tEv G W0 G.rv re)) (hs : ∀ x, foldedSetIterable iter X.env x = pure x) :
    ∃ te : TE, PS X (.Assign [.Name y py] (.ListComp elt [⟨tg, iter, ifs, 0⟩] scope pos) spos) (tAsg te (gName i)) ∧ ∀ σ H Q, tEvF G W (rComp bi it (own.map (·.2)) g rt re) σ H Q → te σ H Q := by
  obtain ⟨t, h1, h2⟩ := hg
  exact ⟨_, ps_setLc hc hN hy hyl hsw hi ok h2 ht he hs, fun _ _ _ => readComp h1 hts⟩

/-! ### calls of the program's own functions -/
inductive Res where
  | ok (d : D) (st : List Ob) | exc (c : Nat) (fs : List D) (st : List Ob) | bad
inductive Arg where
  | val (d : D) | bor (i : Nat)
def argSl (ρ : AE) : List Arg → Option (List Sl)
  | [] => some []
  | .val d :: r => (argSl ρ r).map (.val d :: ·)
  | .bor i :: r => (match ρ.sl[i]? with
    | some (.val d) => (argSl ρ r).map (.val d :: ·)
    | some (.own d) => (argSl ρ r).map (.bor d :: ·)
    | some (.bor d) => (argSl ρ r).map (.bor d :: ·)
    | _ => none)
def borIx : List Arg → List Nat
  | [] => []
  | .val _ :: r => borIx r
  | .bor i :: r => i :: borIx r
def rANil : AE → R (List Arg) := fun ρ => .ok [] ρ
def rAVal (ra : AE → R D) (rs : AE → R (List Arg)) : AE → R (List Arg) := fun ρ => (ra ρ).bind fun d ρ1 => (rs ρ1).bind fun l ρ2 => .ok (.val d :: l) ρ2
def hasS (ρ : AE) (i : Nat) : Bool := match ρ.sl[i]? with
  | some (.val _) => true
  | some (.own _) => true
  | some (.bor _) => true
  | _ => false
def rABor (i : Nat) (rs : AE → R (List Arg)) : AE → R (List Arg) := fun ρ => if hasS ρ i = true then (rs ρ).bind fun l ρ2 => .ok (.bor i :: l) ρ2 else .bad
def ofRes (r : Res) (ρ : AE) : R D := match r with
  | .ok d st => .ok d { ρ with st := st }
  | .exc c fs st => .exc c fs { ρ with st := st }
  | .bad => .bad
def rCall (f : List Sl → List Ob → Res) (rs : AE → R (List Arg)) : AE → R D := fun ρ => (rs ρ).bind fun as ρ1 => match argSl ρ1 as with
  | some sl => if (borIx as).Nodup then ofRes (f sl ρ1.st) ρ1 else .bad
  | none => .bad
/-- the arguments' values; σ: the slots of the caller -/
inductive AsR (G : Cg) (σ : Sg) (H : Hp) (N : Addr → Prop) (sh : List Addr) : List Arg → List V → Prop
  | nil : AsR G σ H N sh [] []
  | val {d v l vs} : G.rv H N sh d v → AsR G σ H N sh l vs → AsR G σ H N sh (.val d :: l) (v :: vs)
  | bor {i v l vs} : σ[i]? = some (some v) → AsR G σ H N sh l vs → AsR G σ H N sh (.bor i :: l) (v :: vs)
theorem AsR.mono {O O' : Ow} {σ : Sg} {sh sh' : List Addr} {N N' : Addr → Prop} {H H' : Hp} (k : Kp none1 O O' sh sh' N N' H H') (hS : ∀ a ∈ sh, N a) : ∀ {l : List Arg} {vs : List V}, AsR G σ H N sh l vs → AsR G σ H' N' sh' l vs
  | _, _, .nil => .nil
  | _, _, .val h t => .val (Cg.rv_mono h k hS) (AsR.mono k hS t)
  | _, _, .bor h t => .bor h (AsR.mono k hS t)
def tEvA (G : Cg) (W : WX) (r : AE → R (List Arg)) : TA := fun σ => tEv G W (AsR G σ) r σ
variable {es : List Expr} {ra : AE → R D} {rs : AE → R (List Arg)}
theorem pa_nilC : PA X [] (tEvA G W rANil) := PA.imp pa_nil fun σ H Q t => by
  obtain ⟨sh, N, ρ, rp, p⟩ := t
  exact Post.ret p rp .nil
theorem pa_valC (ha : PE X e (tEv G W G.rv ra)) (hr : PA X es (tEvA G W rs)) (hs : isStar e = false) : PA X (e :: es) (tEvA G W (rAVal ra rs)) := PA.imp (pa_cons ha hr (star_of hs)) fun σ H Q t => by
  obtain ⟨sh, N, ρ, rp, p⟩ := t
  refine tEv.run rp p fun dx ρ1 sh1 N1 x H1 _ rp1 k1 hx p1 => tEv.run rp1 p1 fun dy ρ2 sh2 N2 y H2 _ rp2 k2 hy p2 => ?_
  exact Post.ret p2 rp2 (.val (Cg.rv_mono hx k2 rp1.shN) hy)
theorem pa_borC {i : Nat} {x : Str} (hN : X.N[i]? = some x) (hv : Vis X.env.scope x) (hd : (x == ("__debug__" : Str)) = false) (hcd : (x == ("__classdict__" : Str)) = false) (hr : PA X es (tEvA G W rs)) : PA X (.Name x pos :: es) (tEvA G W (rABor i rs)) :=
  PA.imp (pa_cons (pe_var hN hv hd hcd) hr (star_of rfl)) fun σ H Q t => by
    obtain ⟨sh, N, ρ, rp, p⟩ := t
    have hv : hasS ρ i = true ∧ Post G W (AsR G σ) sh N ρ σ H ((rs ρ).bind fun l ρ2 => .ok (.bor i :: l) ρ2) Q := by
      by_cases h : hasS ρ i = true
      · have p' := p; unfold rABor at p'; rw [if_pos h] at p'; exact ⟨h, p'⟩
      · have p' := p; unfold rABor at p'; rw [if_neg h] at p'; exact p'.elim
    obtain ⟨h1, p1⟩ := hv
    have hσ : ∃ v, σ[i]? = some (some v) := by
      unfold hasS at h1
      split at h1
      · rename_i d q; obtain ⟨v, h, _⟩ := rp.val i d q; exact ⟨v, h⟩
      · rename_i d q; obtain ⟨v, h, _⟩ := rp.own i d q; exact ⟨_, h⟩
      · rename_i d q; obtain ⟨v, h, _⟩ := rp.bor i d q; exact ⟨_, h⟩
      · cases h1
    obtain ⟨v, hσ⟩ := hσ
    refine ⟨v, hσ, ?_⟩
    refine tEv.run rp p1 fun l ρ2 sh2 N2 y H2 _ rp2 k2 hy p2 => ?_
    exact Post.ret p2 rp2 (.bor hσ hy)

/-- what a function promises: from its arguments' slots and the shared objects -/
def spF (G : Cg) (f : List Sl → List Ob → Res) (n : Nat) : Sp := fun vs H Q E => vs.length = n ∧ ∃ sh N as st, G.rp sh N ⟨as, st⟩ (vs.map some) H ∧ (∀ a, ¬ OwnS ⟨as, st⟩ (vs.map some) a) ∧
  (match f as st with
    | .ok d st' => ∀ sh' N' v H', G.rp sh' N' ⟨[], st'⟩ [] H' → Kp none1 none1 none1 sh sh' N N' H H' → G.rv H' N' sh' d v → Q v H'
    | .exc c fs st' => ∀ cls dx sh' N' H', G.rp sh' N' ⟨[], st'⟩ [] H' → Kp none1 none1 none1 sh sh' N N' H H' → G.xr H' N' sh' c fs cls dx → E cls dx H'
    | .bad => False)
variable {sh sh' : List Addr} {N N' : Addr → Prop} {ρ : AE} {σ : Sg} {H H' : Hp}
/-- behind a call: the caller's state again -/
theorem Rp.called {st' : List Ob} (rp : G.rp sh N ρ σ H) (rp' : G.rp sh' N' ⟨[], st'⟩ [] H') (k : Kp none1 none1 none1 sh sh' N N' H H') : G.rp sh' N' { ρ with st := st' } σ H' ∧ Kp none1 (OwnS ρ σ) (OwnS { ρ with st := st' } σ) sh sh' N N' H H' := by
  have rd := k.rd (fun _ z => z.elim) rp.shN
  have hs : ∀ (n : Nat) (a : Addr), sh[n]? = some a → sh'[n]? = some a := fun n a e => pre_get k.pre e
  refine ⟨⟨rp.len, fun j e g => ?_, fun j e g => ?_, fun j e g => ?_, rp.dis, rp'.dom, rp'.nd, rp'.shN, rp'.shl, rp'.obs⟩,
    ⟨k.keep, k.shn, k.av, fun _ _ _ n => n, k.pre, k.there, fun _ _ z => z, fun a o e n _ => k.st a o e n id, fun _ _ _ _ z => z⟩⟩
  · obtain ⟨v, q1, q2⟩ := rp.val j e g
    exact ⟨v, q1, RV.mono' rd hs _ _ q2⟩
  · obtain ⟨a, q1, q2, q3, q4⟩ := rp.own j e g
    obtain ⟨o, ho⟩ := q4.dom
    exact ⟨a, q1, k.st a o ho q2 id, k.shn a o ho q3, OwnAt.mono rd hs (fun o z => k.keep a o z q3 id) q4⟩
  · obtain ⟨a, q1, q2, q3, q4⟩ := rp.bor j e g
    obtain ⟨o, ho⟩ := q4.dom
    exact ⟨a, q1, k.st a o ho q2 id, k.shn a o ho q3, OwnAt.mono rd hs (fun o z => k.keep a o z q3 id) q4⟩
/-- the arguments as the callee's slots -/
theorem argSl_len : ∀ {as : List Arg} {sl : List Sl}, argSl ρ as = some sl → sl.length = as.length
  | [], _, h => by cases h; rfl
  | .val d :: r, sl, h => by
    obtain ⟨t, e, rfl⟩ := map_some h
    simp [argSl_len e]
  | .bor i :: r, sl, h => by
    simp only [argSl] at h
    split at h <;> first | (obtain ⟨t, e, rfl⟩ := map_some h; simp [argSl_len e]) | cases h
theorem AsR.len : ∀ {l : List Arg} {vs : List V}, AsR G σ H N sh l vs → l.length = vs.length
  | _, _, .nil => rfl
  | _, _, .val _ t => by simp [AsR.len t]
  | _, _, .bor _ t => by simp [AsR.len t]
/-- a borrowed one: its own slot -/
theorem argSl_get {ρ : AE} {σ : Sg} {H : Hp} {N : Addr → Prop} {sh : List Addr} : ∀ {as : List Arg} {sl : List Sl} {vs : List V} {j : Nat} {s : Sl}, argSl ρ as = some sl → AsR G σ H N sh as vs → sl[j]? = some s →
    (∃ (d : Mi.D) (v : V), s = Sl.val d ∧ vs[j]? = some v ∧ (G.rv H N sh d v ∨ ∃ i : Nat, ρ.sl[i]? = some (Sl.val d) ∧ σ[i]? = some (some v))) ∨ (∃ (i : Nat) (d : Mi.D) (v : V), s = Sl.bor d ∧ as[j]? = some (Arg.bor i) ∧ vs[j]? = some v ∧ (ρ.sl[i]? = some (Sl.own d) ∨ ρ.sl[i]? = some (Sl.bor d)) ∧ σ[i]? = some (some v))
  | [], _, _, j, _, h, a, g => by cases h; simp at g
  | .val d :: r, sl, vs, j, s, h, a, g => by
    obtain ⟨t, e, rfl⟩ := map_some h
    cases a with
    | val hv ha =>
      cases j with
      | zero => simp at g; exact .inl ⟨d, _, g.symm, rfl, .inl hv⟩
      | succ j => simpa using argSl_get e ha (by simpa using g)
  | .bor i :: r, sl, vs, j, s, h, a, g => by
    cases a with
    | bor hσ ha =>
      simp only [argSl] at h
      generalize hq : ρ.sl[i]? = q at h
      match q, h with
      | some (.val d), h =>
        obtain ⟨t, e, rfl⟩ := map_some h
        cases j with
        | zero => simp at g; exact .inl ⟨d, _, g.symm, rfl, .inr ⟨i, hq, hσ⟩⟩
        | succ j => simpa using argSl_get e ha (by simpa using g)
      | some (.own d), h =>
        obtain ⟨t, e, rfl⟩ := map_some h
        cases j with
        | zero => simp at g; exact .inr ⟨i, d, _, g.symm, rfl, rfl, .inl hq, hσ⟩
        | succ j => simpa using argSl_get e ha (by simpa using g)
      | some (.bor d), h =>
        obtain ⟨t, e, rfl⟩ := map_some h
        cases j with
        | zero => simp at g; exact .inr ⟨i, d, _, g.symm, rfl, rfl, .inr hq, hσ⟩
        | succ j => simpa using argSl_get e ha (by simpa using g)
      | some .none, h => cases h
      | none, h => cases h
theorem borIx_get : ∀ {as : List Arg} {j k : Nat} {i : Nat}, (borIx as).Nodup → as[j]? = some (.bor i) → as[k]? = some (.bor i) → j = k
  | [], _, _, _, _, h, _ => by simp at h
  | .val d :: r, j, k, i, n, h1, h2 => by
    cases j with
    | zero => simp at h1
    | succ j =>
      cases k with
      | zero => simp at h2
      | succ k => exact congrArg (· + 1) (borIx_get (as := r) n (by simpa using h1) (by simpa using h2))
  | .bor i0 :: r, j, k, i, n, h1, h2 => by
    simp only [borIx, List.nodup_cons] at n
    have mem : ∀ {m : Nat}, r[m]? = some (.bor i0) → i0 ∈ borIx r := by
      intro m hm
      have : ∀ (l : List Arg) (m : Nat), l[m]? = some (.bor i0) → i0 ∈ borIx l := by
        intro l
        induction l with
        | nil => intro m h; simp at h
        | cons a l ih =>
          intro m h
          cases m with
          | zero => simp at h; subst h; simp [borIx]
          | succ m =>
            have := ih m (by simpa using h)
            cases a with
            | val d => simpa [borIx] using this
            | bor i => simp [borIx, this]
      exact this r m hm
    cases j with
    | zero =>
      cases k with
      | zero => rfl
      | succ k => simp at h1 h2; subst h1; exact absurd (mem h2) n.1
    | succ j =>
      cases k with
      | zero => simp at h1 h2; subst h2; exact absurd (mem h1) n.1
      | succ k => exact congrArg (· + 1) (borIx_get (as := r) n.2 (by simpa using h1) (by simpa using h2))
theorem Rp.args {as : List Arg} {sl : List Sl} {vs : List V} (rp : G.rp sh N ρ σ H) (h : argSl ρ as = some sl) (a : AsR G σ H N sh as vs) (n : (borIx as).Nodup) : G.rp sh N ⟨sl, ρ.st⟩ (vs.map some) H ∧ ∀ b, ¬ OwnS ⟨sl, ρ.st⟩ (vs.map some) b := by
  have gv : ∀ {j : Nat} {v : V}, vs[j]? = some v → (vs.map some)[j]? = some (some v) := fun {j v} e => by rw [List.getElem?_map, e]; rfl
  have bor : ∀ {i : Nat} {d : D} {v : V}, (ρ.sl[i]? = some (.own d) ∨ ρ.sl[i]? = some (.bor d)) → σ[i]? = some (some v) → ∃ b, v = .ref b ∧ N b ∧ b ∉ sh ∧ OwnAt G.P G.w G.K H N sh d b := fun {i d v} q e => by
    rcases q with q | q
    · obtain ⟨b, h1, h2, h3, h4⟩ := rp.own i d q; rw [e] at h1; cases h1; exact ⟨b, rfl, h2, h3, h4⟩
    · obtain ⟨b, h1, h2, h3, h4⟩ := rp.bor i d q; rw [e] at h1; cases h1; exact ⟨b, rfl, h2, h3, h4⟩
  refine ⟨⟨by simp [argSl_len h, a.len], fun j d g => ?_, fun j d g => ?_, fun j d g => ?_, fun j k d e b g1 g2 m1 m2 g5 g6 => ?_, rp.dom, rp.nd, rp.shN, rp.shl, rp.obs⟩, fun b ⟨j, d, g, _⟩ => ?_⟩
  · rcases argSl_get h a g with ⟨d', v, e1, e2, e3⟩ | ⟨i, d', v, e1, _⟩
    · cases e1
      refine ⟨v, gv e2, ?_⟩
      rcases e3 with e3 | ⟨i, q1, q2⟩
      · exact e3
      · obtain ⟨v', h1, h2⟩ := rp.val i _ q1; rw [q2] at h1; cases h1; exact h2
    · cases e1
  · rcases argSl_get h a g with ⟨d', v, e1, _⟩ | ⟨i, d', v, e1, _⟩ <;> cases e1
  · rcases argSl_get h a g with ⟨d', v, e1, _⟩ | ⟨i, d', v, e1, e2, e3, e4, e5⟩
    · cases e1
    · cases e1
      obtain ⟨b, rfl, h2, h3, h4⟩ := bor e4 e5
      exact ⟨b, gv e3, h2, h3, h4⟩
  · rcases argSl_get h a g1 with ⟨d', v, e1, _⟩ | ⟨i, d', v, e1, e2, e3, e4, e5⟩
    · subst e1; cases m1
    · rcases argSl_get h a g2 with ⟨d2, v2, f1, _⟩ | ⟨i2, d2, v2, f1, f2, f3, f4, f5⟩
      · subst f1; cases m2
      · have x1 : v = .ref b := by have := gv e3; rw [this] at g5; simpa using g5
        have x2 : v2 = .ref b := by have := gv f3; rw [this] at g6; simpa using g6
        subst x1 x2
        have mm : ∀ {i : Nat} {d : D}, (ρ.sl[i]? = some (.own d) ∨ ρ.sl[i]? = some (.bor d)) → ∃ t, ρ.sl[i]? = some t ∧ mutS t = true := fun {i d} q => q.elim (fun q => ⟨_, q, rfl⟩) fun q => ⟨_, q, rfl⟩
        obtain ⟨t1, u1, w1⟩ := mm e4
        obtain ⟨t2, u2, w2⟩ := mm f4
        have := rp.dis i i2 t1 t2 b u1 u2 w1 w2 e5 f5
        subst this
        exact borIx_get n e2 f2
  · rcases argSl_get h a g with ⟨d', v, e1, _⟩ | ⟨i, d', v, e1, _⟩ <;> cases e1
theorem ifbadV {c : Prop} [Decidable c] {r : R D} {Q : VK} (p : Post G W G.rv sh N ρ σ H (if c then r else .bad) Q) : c ∧ Post G W G.rv sh N ρ σ H r Q := by
  by_cases h : c
  · rw [if_pos h] at p; exact ⟨h, p⟩
  · rw [if_neg h] at p; exact p.elim
/-- f(..) -/
theorem pe_callA {x : Str} {f : Addr} {fd : FuncData} {ps : List Str} {k n : Nat} {run : List Sl → List Ob → Res} (F : FnOk X.prog X.w X.K X.mg X.base (CX X.prog X.w) k f fd ps (spF G run n)) (hr : Room k X.A) (hg : Gl X x) (hm : X.mg x = some (.ref f)) (hk : PySem.W.keepIn X.K (.ref f) = true)
    (hb : Binds X.K fd ps []) (tk : Takes X W) (ha : PA X (e :: es) (tEvA G W rs)) (hl : (e :: es).length = n) (hlen : ∀ ρ as ρ1, rs ρ = .ok as ρ1 → as.length = n) (hdb : (x == ("__debug__" : Str)) = false) (hs : isStar e = false) (hpl : (backTo pos (starEach es X.env)).any (·.1) = false) :
    PE X (.Call (.Name x p) (e :: es) [] pos) (tEv G W G.rv (rCall run rs)) := by
  refine PE.imp (pe_callS (E := fun σ cls d H => W cls d σ H) F hr hg hm hk hb (fun σ => passAt tk σ) ha hdb (star_of hs) hpl) fun σ H Q t => ?_
  obtain ⟨sh, N, ρ, rp, p⟩ := t
  refine tEv.run (rel := AsR G σ) rp p fun as ρ1 sh1 N1 vs H1 ea rp1 k1 hx p1 => ?_
  cases q : argSl ρ1 as with
  | none => rw [q] at p1; exact p1.elim
  | some sl =>
    rw [q] at p1
    obtain ⟨hn, p2⟩ := ifbadV p1
    obtain ⟨r1, r2⟩ := rp1.args q hx hn
    refine ⟨by rw [← hx.len]; exact hlen _ _ _ ea, sh1, N1, sl, ρ1.st, r1, r2, ?_⟩
    revert p2
    cases run sl ρ1.st with
    | ok d st' =>
      intro p2 sh' N' v H' rp' k' hv
      obtain ⟨r3, k3⟩ := rp1.called rp' k'
      exact p2 sh' N' v H' r3 k3 hv
    | exc c fs st' =>
      intro p2 cls dx sh' N' H' rp' k' hv
      obtain ⟨r3, k3⟩ := rp1.called rp' k'
      exact p2 cls dx sh' N' H' r3 k3 hv
    | bad => exact fun z => z
end
section
variable {G : Cg} {W : WX} {X : Cx} {p pos : Pos}
theorem pe_callS0 {CX : CXT} {k : Nat} {f : Addr} {fd : FuncData} {ps : List Str} {sp : Sp} {E : L2.St → XK} {x : Str} (F : FnOk X.prog X.w X.K X.mg X.base CX k f fd ps sp) (hr : Room k X.A) (hg : Gl X x) (hm : X.mg x = some (.ref f)) (hk : PySem.W.keepIn X.K (.ref f) = true) (hb : Binds X.K fd ps []) (hx : ∀ σ, PassesAt CX X σ (E σ))
    (hdb : (x == ("__debug__" : Str)) = false) : PE X (.Call (.Name x p) [] [] pos) (tCallS sp E tNil) := by
  refine ⟨fun pins s σ H Q I h => ?_⟩
  refine wpAny_Call_Name_kw (ld_glob I hg hm ?_ hdb)
  exact PySem.W.callWith_K0 I.kIn hk (run_fnS (us := []) F hr hb (hx σ) I .nil h)
theorem pe_callA0 {x : Str} {f : Addr} {fd : FuncData} {ps : List Str} {k : Nat} {run : List Sl → List Ob → Res} (F : FnOk X.prog X.w X.K X.mg X.base (CX X.prog X.w) k f fd ps (spF G run 0)) (hr : Room k X.A) (hg : Gl X x) (hm : X.mg x = some (.ref f)) (hk : PySem.W.keepIn X.K (.ref f) = true)
    (hb : Binds X.K fd ps []) (tk : Takes X W) (hdb : (x == ("__debug__" : Str)) = false) :
    PE X (.Call (.Name x p) [] [] pos) (tEv G W G.rv (rCall run rANil)) := by
  refine PE.imp (pe_callS0 (E := fun σ cls d H => W cls d σ H) F hr hg hm hk hb (fun σ => passAt tk σ) hdb) fun σ H Q t => ?_
  obtain ⟨sh, N, ρ, rp, p1⟩ := t
  have p1 : Post G W G.rv sh N ρ σ H (rCall run rANil ρ) Q := p1
  obtain ⟨r1, r2⟩ := rp.args (as := []) (sl := []) (vs := []) rfl (by first | exact .nil | trivial | constructor) List.nodup_nil
  refine ⟨rfl, sh, N, [], ρ.st, r1, r2, ?_⟩
  have p2 : Post G W G.rv sh N ρ σ H (ofRes (run [] ρ.st) ρ) Q := p1
  revert p2
  cases run [] ρ.st with
  | ok d st' =>
    intro p2 sh' N' v H' rp' k' hv
    obtain ⟨r3, k3⟩ := rp.called rp' k'
    exact p2 sh' N' v H' r3 k3 hv
  | exc c fs st' =>
    intro p2 cls dx sh' N' H' rp' k' hv
    obtain ⟨r3, k3⟩ := rp.called rp' k'
    exact p2 cls dx sh' N' H' r3 k3 hv
  | bad => exact fun z => z
end
end Mi

namespace Mi
open PySem PySem.Spec PyProof.Rows L2

section
variable {G : Cg} {W : WX} {X : Cx} {a b c e e2 : Expr} {es : List Expr} {pos p : Pos} {ra rb rc : AE → R Mi.D} {rs : AE → R (List Mi.D)}
variable {sh sh' : List Addr} {N N' : Addr → Prop} {ρ : AE} {σ : Sg} {H H' : Hp}
theorem Rp.ext (rp : G.rp sh N ρ σ H) (hk : ∀ a o, H a = some o → H' a = some o) : G.rp sh N ρ σ H' := rp.grow hk (fun _ h => h) (fun _ h => .inl h) fun a n => by
  obtain ⟨o, e⟩ := rp.dom a n; exact ⟨o, hk a o e⟩
theorem Kp.ext {O : Ow} (hk : ∀ a o, H a = some o → H' a = some o) : Kp none1 O O sh sh N N H H' :=
  ⟨fun a o e _ _ => hk a o e, fun _ _ _ h => h, fun _ _ _ h => h, fun _ _ _ h => h, List.prefix_rfl, fun a o e => ⟨o, hk a o e⟩, fun _ _ z => z, fun _ _ _ n _ => n, fun _ _ _ _ z => z⟩
theorem Post.kp {α β : Type} {rel : Rel α β} {ρ1 : AE} {sh1 : List Addr} {N1 : Addr → Prop} {H1 : Hp} {r : R α} {Q : β → Hp → Prop} (k : Kp none1 (OwnS ρ σ) (OwnS ρ1 σ) sh sh1 N N1 H H1) (p : Post G W rel sh N ρ σ H r Q) : Post G W rel sh1 N1 ρ1 σ H1 r Q := by
  cases r with
  | ok e ρ2 => exact fun sh2 N2 x H2 rp2 kp2 hy => p sh2 N2 x H2 rp2 (k.trans kp2) hy
  | exc c fs ρ2 => exact fun cls dx sh2 N2 H2 rp2 kp2 hy => p cls dx sh2 N2 H2 rp2 (k.trans kp2) hy
  | bad => exact p
/-! ### a < b < c -/
def rChain (f g : Mi.D → Mi.D → Option Mi.D) (ra rb rc : AE → R Mi.D) : AE → R Mi.D := fun ρ => (ra ρ).bind fun x ρ1 => (rb ρ1).bind fun y ρ2 => match f x y with
  | some (.bl true) => (rc ρ2).bind fun z ρ3 => ofO (g y z) ρ3
  | some (.bl false) => .ok (.bl false) ρ2
  | _ => .bad
theorem readChain {f g : Mi.D → Mi.D → Option Mi.D} {Q : VK} (t : tEv G W G.rv (rChain f g ra rb rc) σ H Q) : tChain (rA2 G f) (rA2 G g) (tEv G W G.rb ra) (tEv G W G.rb rb) (tEv G W G.rb rc) σ H Q := by
  obtain ⟨sh, N, ρ, rp, p⟩ := t
  refine tEv.run rp p fun x ρ1 sh1 N1 xv H1 _ rp1 k1 hx p1 => tEv.run rp1 p1 fun y ρ2 sh2 N2 yv H2 _ rp2 k2 hy p2 => ?_
  have hx2 := Cg.rb_mono hx k2 rp1.shN
  cases q : f x y with
  | none => rw [q] at p2; exact p2.elim
  | some d =>
    rw [q] at p2
    cases d with
    | bl k =>
      refine ⟨sh2, N2, x, y, .bl k, rp2.dom, hx2, hy, q, fun v H' hk hv => ⟨k, by simpa only [Cg.rv, RV] using hv, ?_⟩⟩
      have rp3 : G.rp sh2 N2 ρ2 σ H' := rp2.ext hk
      have p3 := p2.kp (Kp.ext (O := OwnS ρ2 σ) (N := N2) (sh := sh2) hk)
      cases k with
      | true =>
        refine tEv.run rp3 p3 fun z ρ4 sh4 N4 zv H4 _ rp4 k4 hz p4 => ?_
        obtain ⟨d, e1, q4⟩ := post_ofO p4 rp4
        have hy4 := Cg.rb_mono (Cg.rb_mono hy (Kp.ext (O := OwnS ρ2 σ) hk) rp2.shN) k4 rp3.shN
        exact ⟨sh4, N4, y, z, d, rp4.dom, hy4, hz, e1, q4⟩
      | false => exact Post.ret p3 rp3 (by simp only [Cg.rv, RV])
    | _ => exact p2.elim
theorem pe_chainA {op op' : CmpOp} {f g : Mi.D → Mi.D → Option Mi.D} (ho : OpR X (compareOp op) (rA2 G f)) (ho' : OpR X (compareOp op') (rA2 G g)) (ha : PE X a (tEv G W G.rb ra)) (hb : PE X b (tEv G W G.rb rb)) (hc : PE X c (tEv G W G.rb rc))
    (hm : lastMarks [op, op'] [b, c] = false) : PE X (.Compare a [op, op'] [b, c] pos) (tEv G W G.rv (rChain f g ra rb rc)) := PE.imp (pe_chain ho ho' ha hb hc hm) fun _ _ _ => readChain
/-! ### a global constant -/
theorem pe_gloA {x : Str} {d : Mi.D} {v : V} {u : Value} (hg : Gl X x) (hm : X.mg x = some u) (r : RelV v u) (hd : (x == ("__debug__" : Str)) = false) (hv : ∀ H N sh, G.rv H N sh d v) : PE X (.Name x pos) (tEv G W G.rv (rC d)) := pe_cst (pe_glob hg hm r hd) hv
/-! ### shared lists -/
/-- a new one -/
def rNewO (rs : AE → R (List Mi.D)) : AE → R Mi.D := fun ρ => (rs ρ).bind fun l ρ1 => if l.length ≤ many then .ok (.obj ρ1.st.length) { ρ1 with st := ρ1.st ++ [.lst l] } else .bad
theorem Rp.newob {o : HO} {ob : Ob} {D : Addr} (rp : G.rp sh N ρ σ H) (hD : H D = none) (h : ObAt G.P G.w G.K G.cl (upd H D o) (fun b => N b ∨ b = D) (sh ++ [D]) ob D) :
    G.rp (sh ++ [D]) (fun b => N b ∨ b = D) { ρ with st := ρ.st ++ [ob] } σ (upd H D o) ∧ Kp none1 (OwnS ρ σ) (OwnS { ρ with st := ρ.st ++ [ob] } σ) sh (sh ++ [D]) N (fun b => N b ∨ b = D) H (upd H D o) := by
  have nD : ¬ N D := nofree rp hD
  have dS : D ∉ sh := fun z => nD (rp.shN _ z)
  have ne : ∀ {b : Addr} {u : HO}, H b = some u → b ≠ D := fun e z => by rw [z, hD] at e; cases e
  have k : Kp none1 (OwnS ρ σ) (OwnS { ρ with st := ρ.st ++ [ob] } σ) sh (sh ++ [D]) N (fun b => N b ∨ b = D) H (upd H D o) :=
    ⟨fun a u e _ _ => grows hD a u e, fun a u e n z => by rcases List.mem_append.mp z with z | z; exact n z; exact ne e (by simpa using z), fun a u e n z => by rcases z with z | z; exact n z; exact ne e z, fun _ _ _ n => n, List.prefix_append _ _, fun a u e => ⟨u, grows hD a u e⟩, fun _ _ z => z, fun _ _ _ n _ => .inl n, fun _ _ _ _ z => z⟩
  have rd := k.rd (fun _ z => z.elim) rp.shN
  have hs : ∀ (n : Nat) (a : Addr), sh[n]? = some a → (sh ++ [D])[n]? = some a := fun n a e => pre_get k.pre e
  refine ⟨⟨rp.len, fun j d g => ?_, fun j d g => ?_, fun j d g => ?_, rp.dis, fun a z => ?_, ?_, fun a z => ?_, by simp [rp.shl], fun n ob' a e1 e2 => ?_⟩, k⟩
  · obtain ⟨v, q1, q2⟩ := rp.val j d g
    exact ⟨v, q1, RV.mono' rd hs _ _ q2⟩
  · obtain ⟨a, q1, q2, q3, q4⟩ := rp.own j d g
    obtain ⟨u, hu⟩ := q4.dom
    exact ⟨a, q1, .inl q2, k.shn a u hu q3, OwnAt.mono rd hs (grows hD a) q4⟩
  · obtain ⟨a, q1, q2, q3, q4⟩ := rp.bor j d g
    obtain ⟨u, hu⟩ := q4.dom
    exact ⟨a, q1, .inl q2, k.shn a u hu q3, OwnAt.mono rd hs (grows hD a) q4⟩
  · rcases z with z | rfl
    · obtain ⟨u, e⟩ := rp.dom a z; exact ⟨u, grows hD a u e⟩
    · exact ⟨_, upd_same⟩
  · rw [List.nodup_append]; exact ⟨rp.nd, by simp, fun a ha b hb => by rw [List.mem_singleton] at hb; rw [hb]; exact fun z => dS (z ▸ ha)⟩
  · rcases List.mem_append.mp z with z | z
    · exact .inl (rp.shN a z)
    · exact .inr (by simpa using z)
  · by_cases hn : n < ρ.st.length
    · rw [List.getElem?_append_left hn] at e1
      rw [List.getElem?_append_left (by rw [rp.shl]; exact hn)] at e2
      exact ObAt.mono rd hs (grows hD a) (rp.obs n ob' a e1 e2)
    · have : n < (ρ.st ++ [ob]).length := (List.getElem?_eq_some_iff.mp e1).1
      have hn2 : n = ρ.st.length := by simp at this; omega
      subst hn2
      rw [List.getElem?_append_right (Nat.le_refl _)] at e1
      rw [List.getElem?_append_right (by rw [rp.shl]; exact Nat.le_refl _), rp.shl] at e2
      simp at e1 e2
      subst e1 e2
      exact h
theorem pe_newoA (h : PA X es (tEv G W G.rvs rs)) : PE X (.List es pos) (tEv G W G.rv (rNewO rs)) := PE.imp (pe_lst h) fun σ H Q t => by
  obtain ⟨sh, N, ρ, rp, p⟩ := t
  refine tEv.run rp p fun d ρ1 sh1 N1 x H1 _ rp1 k1 hx p1 => ?_
  by_cases hl : d.length ≤ many
  · rw [if_pos hl] at p1
    refine ⟨by rw [← RVs.length hx]; exact many_le hl, fun q hq => ?_⟩
    have nD : ¬ N1 q := nofree rp1 hq
    obtain ⟨r2, k2⟩ := rp1.newob (o := .lst x) (ob := .lst d) hq ⟨x, upd_same, RVs.mono' (fun b u r n => ⟨rdgrows hq b u r, fun z => by
      rcases z with z | z
      · exact n z
      · obtain ⟨o, e⟩ := Rd.dom' r; rw [z, hq] at e; cases e⟩) (fun n a e => pre_get (List.prefix_append _ _) e) _ _ hx⟩
    refine p1 _ _ _ _ r2 k2 ?_
    show G.rv _ _ _ (.obj ρ1.st.length) _
    simp only [Cg.rv, RV]
    exact ⟨q, rfl, by rw [← rp1.shl]; simp⟩
  · rw [if_neg hl] at p1; exact p1.elim
/-- o[i] -/
def ixS (st : List Ob) (x y : Mi.D) : Option Mi.D := match x with
  | .obj n => (match st[n]? with
    | some (.lst l) => dIx (.lst l) y
    | _ => none)
  | _ => dIx x y
def rIx (ra rb : AE → R Mi.D) : AE → R Mi.D := fun ρ => (ra ρ).bind fun x ρ1 => (rb ρ1).bind fun y ρ2 => ofO (ixS ρ2.st x y) ρ2
def rIxS (G : Cg) : R2 := fun x y H Q => ∃ sh N ρ σ dx dy d, G.rp sh N ρ σ H ∧ G.rb H N sh dx x ∧ G.rb H N sh dy y ∧ ixS ρ.st dx dy = some d ∧ ∀ v H', (∀ a o, H a = some o → H' a = some o) → G.rv H' N sh d v → Q v H'
theorem iS (hK : X.K = G.K) (hP : X.prog = G.P) (hW : X.w = G.w) (hu : X.A.units + 66 < cLine) : IxR X (rIxS G) := by
  intro value slice pins s σ H x y v u Q I rx ry h hs
  obtain ⟨sh, N, ρ, σ', dx, dy, d, rp, hx, hy, e, q⟩ := h
  cases dx with
  | obj n =>
    cases e1 : ρ.st[n]? with
    | none => simp only [ixS, e1] at e; cases e
    | some ob =>
      cases ob with
      | lst l =>
        simp only [ixS, e1] at e
        cases dy with
        | int i =>
          rcases hx with hx | ⟨_, _, _, hx⟩
          · simp only [Cg.rv, RV] at hx
            obtain ⟨a, rfl, ha⟩ := hx
            obtain ⟨vs, h1, h2⟩ := rp.obs n _ a e1 ha
            obtain ⟨j, e2, e3⟩ := atI_map (RVs.length h2) i e
            obtain ⟨w, e4, rw'⟩ := RVs.get h2 e2
            exact ix_list value slice pins s σ H _ y v u Q I rx ry ⟨a, vs, i, w, rfl, rb_int hy, .inl (.inl h1), e3 w e4, q _ H (fun _ _ z => z) rw'⟩ hs
          · exact hx.elim
        | _ => cases e
      | ins c fs => simp only [ixS, e1] at e; cases e
  | _ => exact iA hK hP hW hu value slice pins s σ H x y v u Q I rx ry ⟨sh, N, _, dy, d, rp.dom, hx, hy, e, q⟩ hs
theorem pe_ixS (hK : X.K = G.K) (hP : X.prog = G.P) (hW : X.w = G.w) (hu : X.A.units + 66 < cLine) (ha : PE X a (tEv G W G.rb ra)) (hb : PE X b (tEv G W G.rb rb)) (hs : PlainIx b) : PE X (.Subscript a b pos) (tEv G W G.rv (rIx ra rb)) := PE.imp (pe_ix (iS hK hP hW hu) ha hb hs) fun σ H Q t => by
  obtain ⟨sh, N, ρ, rp, p⟩ := t
  refine tEv.run rp p fun x ρ1 sh1 N1 xv H1 _ rp1 k1 hx p1 => tEv.run rp1 p1 fun y ρ2 sh2 N2 yv H2 _ rp2 k2 hy p2 => ?_
  obtain ⟨d, e1, q⟩ := post_ofO p2 rp2
  exact ⟨sh2, N2, ρ2, σ, x, y, d, rp2, Cg.rb_mono hx k2 rp1.shN, hy, e1, q⟩
/-- o[i] = e -/
theorem Rp.upob {o : HO} {ob : Ob} {D : Addr} {n : Nat} (rp : G.rp sh N ρ σ H) (hD : sh[n]? = some D) (h : (∀ b u, b ∉ sh → H b = some u → upd H D o b = some u) → ObAt G.P G.w G.K G.cl (upd H D o) N sh ob D) :
    G.rp sh N { ρ with st := ρ.st.set n ob } σ (upd H D o) ∧ Kp none1 (OwnS ρ σ) (OwnS { ρ with st := ρ.st.set n ob } σ) sh sh N N H (upd H D o) := by
  have hm : D ∈ sh := List.mem_of_getElem? hD
  have ge : ∀ b u, b ∉ sh → H b = some u → upd H D o b = some u := fun b u nb e => by
    have hb : b ≠ D := fun z => nb (by rw [z]; exact hm)
    rw [upd_ne hb]; exact e
  have k : Kp none1 (OwnS ρ σ) (OwnS { ρ with st := ρ.st.set n ob } σ) sh sh N N H (upd H D o) :=
    ⟨fun a u e n _ => ge a u n e, fun _ _ _ h => h, fun _ _ _ h => h, fun _ _ _ n => n, List.prefix_rfl, fun a u e => by
      by_cases z : a = D
      · exact ⟨o, by rw [z]; exact upd_same⟩
      · exact ⟨u, by rw [upd_ne z]; exact e⟩, fun _ _ z => z, fun _ _ _ n _ => n, fun _ _ _ _ z => z⟩
  have rd := k.rd (fun _ z => z.elim) rp.shN
  refine ⟨⟨rp.len, fun j d g => ?_, fun j d g => ?_, fun j d g => ?_, rp.dis, fun a z => ?_, rp.nd, rp.shN, by simp [rp.shl], fun m ob' a e1 e2 => ?_⟩, k⟩
  · obtain ⟨v, q1, q2⟩ := rp.val j d g
    exact ⟨v, q1, RV.mono' rd (fun _ _ e => e) _ _ q2⟩
  · obtain ⟨a, q1, q2, q3, q4⟩ := rp.own j d g
    exact ⟨a, q1, q2, q3, OwnAt.mono rd (fun _ _ e => e) (fun u e => ge a u q3 e) q4⟩
  · obtain ⟨a, q1, q2, q3, q4⟩ := rp.bor j d g
    exact ⟨a, q1, q2, q3, OwnAt.mono rd (fun _ _ e => e) (fun u e => ge a u q3 e) q4⟩
  · obtain ⟨u, e⟩ := rp.dom a z; exact k.there a u e
  · by_cases hmn : n = m
    · subst hmn
      rw [hD] at e2; cases e2
      have hl : n < ρ.st.length := by
        have := (List.getElem?_eq_some_iff.mp e1).1; simpa using this
      rw [List.getElem?_set_self hl] at e1
      cases e1
      exact h ge
    · rw [List.getElem?_set_ne hmn] at e1
      have ha : a ≠ D := fun z => hmn (by
        subst z
        exact (List.getElem?_inj (List.getElem?_eq_some_iff.mp hD).1 rp.nd).mp (hD.trans e2.symm))
      exact ObAt.mono rd (fun _ _ e => e) (fun u e => by rw [upd_ne ha]; exact e) (rp.obs m ob' a e1 e2)
def updOb (n : Nat) (f : Mi.D → Option Mi.D) : AE → R Fl := fun ρ => match ρ.st[n]? with
  | some (.lst l) => (match f (.lst l) with
    | some (.lst l') => .ok .next { ρ with st := ρ.st.set n (.lst l') }
    | _ => .bad)
  | _ => .bad
theorem updOb_inv {n : Nat} {f : Mi.D → Option Mi.D} {D : Ends} (p : PostS G W sh N ρ σ H (updOb n f ρ) D) : ∃ l l', ρ.st[n]? = some (.lst l) ∧ f (.lst l) = some (.lst l') ∧ PostS G W sh N ρ σ H (.ok .next { ρ with st := ρ.st.set n (.lst l') }) D := by
  unfold updOb at p
  generalize q1 : ρ.st[n]? = x at p
  match x, p with
  | some (.lst l), p =>
    simp only at p
    generalize q2 : f (.lst l) = y at p
    match y, p with
    | some (.lst l'), p => exact ⟨l, l', rfl, q2, p⟩
    | none, p => exact p.elim
    | some .non, p => exact p.elim
    | some (.bl _), p => exact p.elim
    | some (.int _), p => exact p.elim
    | some (.str _), p => exact p.elim
    | some (.tup _), p => exact p.elim
    | some (.dik _ _), p => exact p.elim
    | some (.dit _ _), p => exact p.elim
    | some (.obj _), p => exact p.elim
  | some (.ins _ _), p => exact p.elim
  | none, p => exact p.elim
def obAt (ρ : AE) (i : Nat) : Option Nat := match ρ.sl[i]? with
  | some (.val (.obj n)) => some n
  | _ => none
theorem obAt_inv {i n : Nat} (h : obAt ρ i = some n) : ρ.sl[i]? = some (.val (.obj n)) := by
  unfold obAt at h
  split at h
  · rename_i m q; cases h; exact q
  · cases h
def rSetO (i : Nat) (rj ra : AE → R Mi.D) : AE → R Fl := fun ρ => (ra ρ).bind fun d ρ1 => match obAt ρ1 i with
  | some n => (rj ρ1).bind fun j ρ2 => (match j with
    | .int j => updOb n (setD j d) ρ2
    | _ => .bad)
  | none => .bad
theorem ps_setO {i : Nat} {x : Str} {xp sp : Pos} (hN : X.N[i]? = some x) (hv : Vis X.env.scope x) (hd : (x == ("__debug__" : Str)) = false) (hcd : (x == ("__classdict__" : Str)) = false) (he : PE X e (tEv G W G.rv ra)) (hj : PE X e2 (tEv G W G.rv rb))
    (ha : ∀ v, assign (.Subscript (.Name x xp) e2 sp) X.env v = (do
      let ov ← holding [v] (eval (.Name x xp) X.env)
      let iv ← holding [v, ov] (eval e2 X.env)
      standAt sp
      holding [v, ov, iv] (setItem ov iv v)
      release [v, ov, iv] [])) (hs : swapsWithSole [.Subscript (.Name x xp) e2 sp] e pos.line X.env = pure false) (hw : swappedStores [.Subscript (.Name x xp) e2 sp] e X.env = pure none)
    (h1 : (assignEach [.Subscript (.Name x xp) e2 sp] X.env).map (·.2) = [assign (.Subscript (.Name x xp) e2 sp) X.env]) : PS X (.Assign [.Subscript (.Name x xp) e2 sp] e pos) (tSv G W (rSetO i rb ra)) := by
  refine PS.imp (ps_asg he (pg_sub (pe_var hN hv hd hcd) hj set_list ha) hs hw h1) fun D σ H t => ?_
  obtain ⟨sh, N, ρ, rp, p⟩ := t
  refine tEv.stmt rp p fun d ρ1 sh1 N1 y H1 _ rp1 k1 hy p1 => ?_
  cases q : obAt ρ1 i with
  | none => rw [q] at p1; exact p1.elim
  | some n =>
    rw [q] at p1
    obtain ⟨va, hva, hob⟩ := rp1.val i _ (obAt_inv q)
    simp only [RV] at hob
    obtain ⟨a, rfl, ha'⟩ := hob
    refine ⟨.ref a, hva, ?_⟩
    refine tEv.stmt rp1 p1 fun j ρ2 sh2 N2 z H2 _ rp2 k2 hz p2 => ?_
    cases j with
    | int j =>
      obtain ⟨l, l', e1, e2, p3⟩ := updOb_inv p2
      obtain ⟨k, ek, e3⟩ := map_some e2
      cases e3
      have ha2 : sh2[n]? = some a := pre_get k2.pre ha'
      obtain ⟨vs, h1, h2⟩ := rp2.obs n _ a e1 ha2
      have hy2 := Cg.rv_mono hy k2 rp1.shN
      have hn : N2 a := rp2.shN a (List.mem_of_getElem? ha2)
      obtain ⟨r2, k3⟩ := rp2.upob (ob := .lst (l.set k d)) (o := .lst (vs.set k y)) ha2 fun ge => ⟨_, upd_same, RVs.mono' (fun b u r n => ⟨by
        have hb : b ≠ a := fun z => n (z ▸ hn)
        rcases r with r | ⟨o, r⟩
        · exact .inl (by rw [upd_ne hb]; exact r)
        · exact .inr ⟨o, by rw [upd_ne hb]; exact r⟩, n⟩) (fun _ _ e => e) _ _ (RVs.set hy2 k h2)⟩
      exact ⟨a, vs, j, k, rfl, rb_int (.inl hz), h1, by rw [← RVs.length h2]; exact ek, p3 sh2 N2 σ _ r2 (k3.weak fun _ z => z.elim)⟩
    | _ => exact p2.elim
end
end Mi

namespace Mi
open PySem PySem.Spec PyProof.Rows L2

theorem tuple_mulW1 (l : Addr) (items : Array Value) (n : Nat) (dd : Option Addr) (sl : Array (Option Value)) (u : Tok) :
    Meets (Builtin.«tuple.__mul__» ⟨[.ref l, .int 1 u], []⟩) (fun _ R s => s.heap.get? l = some { cls := .type "tuple", dict := dd, data := .seq items n, slots := sl } ∧ R (.ok (.ret (.ref l))) s) :=
  .of_wp fun prog w A R s h => by
    obtain ⟨hp, g, d, tk, os⟩ := s
    obtain ⟨hl, h⟩ := h
    have f1 := AutoSeq1.idx_int
    have c1 : (items.isEmpty || (1 : Int) == 1) = true := by simp
    wp_walk using wpAny_loadPart' hl
    exact ⟨_, rfl, h⟩
theorem tuple_mulW0 (l : Addr) (items : Array Value) (n : Nat) (dd : Option Addr) (sl : Array (Option Value)) (u : Tok) (hn : items.isEmpty = false) :
    Meets (Builtin.«tuple.__mul__» ⟨[.ref l, .int 0 u], []⟩) (fun _ R s => s.heap.get? l = some { cls := .type "tuple", dict := dd, data := .seq items n, slots := sl } ∧
      R (.ok (.ret (Value.ref s.heap.objs.size))) { s with heap := s.heap.push { cls := Value.type "tuple", data := Data.seq #[] }, toks := s.toks }) :=
  .of_wp fun prog w A R s h => by
    obtain ⟨hp, g, d, tk, os⟩ := s
    obtain ⟨hl, h⟩ := h
    have f1 := AutoSeq1.idx_int
    have c1 : (items.isEmpty || (0 : Int) == 1) = false := by rw [hn]; rfl
    wp_walk using wpAny_loadPart' hl
    exact ⟨_, rfl, h⟩
section
variable {X : Cx}
def rRep1 (K : PySem.W.Frag) : R2 := fun x y H Q => ∃ l xs, x = .ref l ∧ y = .int 1 ∧ SqT K H l xs ∧ Q (.ref l) H
def rRep0 (K : PySem.W.Frag) : R2 := fun x y H Q => ∃ l xs, x = .ref l ∧ y = .int 0 ∧ SqT K H l xs ∧ xs ≠ [] ∧ ∀ p, H p = none → Q (.ref p) (upd H p (.tup []))
theorem op_rep1 : OpR X (binaryOp .Mult) (rRep1 X.K) := by
  intro pins s σ H x y v u Q I rx ry h
  obtain ⟨l, xs, rfl, rfl, hT, q⟩ := h
  cases rx
  obtain ⟨t, rfl⟩ := ry
  obtain ⟨its, r, ⟨⟨cls, dd, data, sl⟩, ho, hc, n, hd⟩, hs⟩ := I.tuple hT
  simp only at hc hd
  subst hc hd
  refine wpAny_binaryOp_repeat_ref (T := "tuple") (U := "int") (by decide) ⟨_, ho, rfl⟩ (fun s' => typeIs_int s' 1 t) noFill_tuple_mul F.fills_int_mul F.slot_int_rmul repeat_tuple F.slot_int_index.lookup
    (call_meets F.slot_int_rmul (typeIs_int s 1 t) F.entry_int_rmul (F.args_int_rmul_2 _ _) (int_rmul_tuple 1 t l its.toArray n dd sl)
      ⟨ho, rfl, ⟨_, ho, rfl⟩, call_meets F.slot_tuple_mul ⟨_, ho, rfl⟩ F.entry_tuple_mul (F.args_tuple_mul_2 _ _) (tuple_mulW1 l its.toArray n dd sl t) ⟨ho, ?_⟩⟩)
  exact ⟨.ref l, H, I, rfl, q⟩
theorem op_rep0 : OpR X (binaryOp .Mult) (rRep0 X.K) := by
  intro pins s σ H x y v u Q I rx ry h
  obtain ⟨l, xs, rfl, rfl, hT, hne, q⟩ := h
  cases rx
  obtain ⟨t, rfl⟩ := ry
  obtain ⟨its, r, ⟨⟨cls, dd, data, sl⟩, ho, hc, n, hd⟩, hs⟩ := I.tuple hT
  simp only at hc hd
  subst hc hd
  have hle : its.length = xs.length := r.length.symm
  have hn : its ≠ [] := fun e => hne (by
    rw [e] at hle
    exact List.eq_nil_of_length_eq_zero hle.symm)
  have hi : its.toArray.isEmpty = false := by
    cases its with
    | nil => exact absurd rfl hn
    | cons a b => rfl
  refine wpAny_binaryOp_repeat_ref (T := "tuple") (U := "int") (by decide) ⟨_, ho, rfl⟩ (fun s' => typeIs_int s' 0 t) noFill_tuple_mul F.fills_int_mul F.slot_int_rmul repeat_tuple F.slot_int_index.lookup
    (call_meets F.slot_int_rmul (typeIs_int s 0 t) F.entry_int_rmul (F.args_int_rmul_2 _ _) (int_rmul_tuple 0 t l its.toArray n dd sl)
      ⟨ho, rfl, ⟨_, ho, rfl⟩, call_meets F.slot_tuple_mul ⟨_, ho, rfl⟩ F.entry_tuple_mul (F.args_tuple_mul_2 _ _) (tuple_mulW0 l its.toArray n dd sl t hi) ⟨ho, ?_⟩⟩)
  refine ⟨.ref s.heap.objs.size, _, I.laid (t' := s.toks) (o := .tup []) (fun b ob q => Heap.get?_push_of_some _ q) (Nat.le_refl _) ?_, rfl, q _ (I.hok.fresh (Nat.le_refl _))⟩
  exact ⟨by simp [sizeLine_eq], [], .nil, IsTup.new _ _⟩
end
section
variable {G : Cg} {W : WX} {X : Cx} {a b c e e2 : Expr} {es : List Expr} {pos p : Pos} {ra rb rc : AE → R Mi.D} {rs : AE → R (List Mi.D)}
variable {sh sh' : List Addr} {N N' : Addr → Prop} {ρ : AE} {σ : Sg} {H H' : Hp}
/-- t * k -/
def dRepT : Mi.D → Mi.D → Option Mi.D
  | .tup l, .int k => if l ≠ [] ∧ 0 ≤ k ∧ k ≤ 1000 ∧ l.length ≤ 1000 then some (.tup (List.replicate k.toNat l).flatten) else none
  | _, _ => none
theorem oA_repT (hK : X.K = G.K) : OpR X (binaryOp .Mult) (rA2 G dRepT) := by
  intro pins s σ H x y v u Q I rx ry h
  obtain ⟨sh, N, dx, dy, d, hN, hx, hy, e, q⟩ := h
  cases dx with
  | tup l =>
    cases dy with
    | int k =>
      obtain ⟨⟨c1, c2, c3, c4⟩, rfl⟩ := ite_some e
      obtain ⟨a, vs, rfl, t, r⟩ := rb_tup hx
      have nz : vs ≠ [] := fun z => c1 (by
        have := RVs.length r
        rw [z] at this
        exact List.eq_nil_of_length_eq_zero (by simpa using this))
      have hk : k = 0 ∨ k = 1 ∨ 2 ≤ k := by omega
      rcases hk with rfl | rfl | hk
      · exact op_rep0 pins s σ H _ y v u Q I rx ry ⟨a, vs, rfl, rb_int hy, hK ▸ t.sq, nz, fun q' hq => q _ _ (grows hq) (rv_newtup hq (nN hN hq) RVs.nil)⟩
      · refine op_rep1 pins s σ H _ y v u Q I rx ry ⟨a, vs, rfl, rb_int hy, hK ▸ t.sq, q _ H (fun _ _ z => z) ?_⟩
        have : (List.replicate (1 : Int).toNat l).flatten = l := by simp
        rw [this]
        exact rv_tup t r
      · exact op_repT pins s σ H _ y v u Q I rx ry ⟨a, k, vs, rfl, rb_int hy, hK ▸ t.sq, nz, hk, c3, by rw [← RVs.length r]; exact c4, fun q' hq => q _ _ (grows hq) (rv_newtup hq (nN hN hq) (RVs.rep r _))⟩
    | _ => cases e
  | _ => cases dy <;> cases e
/-- a new list times k -/
def dRepL : Mi.D → Mi.D → Option Mi.D
  | .lst l, .int k => if 0 ≤ k ∧ k ≤ 1000 ∧ l.length ≤ 1000 then some (.lst (List.replicate k.toNat l).flatten) else none
  | _, _ => none
theorem Kp.more {O O' : Ow} {a0 : Addr} (k : Kp none1 O O' sh sh' N N' H H') (h : H a0 = none) : Kp none1 O O' sh sh' N (fun b => N' b ∨ b = a0) H H' :=
  ⟨k.keep, k.shn, (fun a o e n z => by
    rcases z with z | z
    · exact k.av a o e n z
    · rw [z, h] at e; cases e), k.own, k.pre, k.there, k.bo, fun a o e n no => .inl (k.st a o e n no), k.mt⟩
theorem PostF.kp {ρ1 : AE} {sh1 : List Addr} {N1 : Addr → Prop} {H1 : Hp} {r : R Mi.D} {Q : VK} (k : Kp none1 (OwnS ρ σ) (OwnS ρ1 σ) sh sh1 N N1 H H1) (p : PostF G W sh N ρ σ H r Q) : PostF G W sh1 N1 ρ1 σ H1 r Q := by
  cases r with
  | ok e ρ2 => exact fun sh2 N2 a H2 rp2 kp2 hn hy hr => p sh2 N2 a H2 rp2 (k.trans kp2) (by
      cases q : H a with
      | none => rfl
      | some o => obtain ⟨o', e'⟩ := k.there a o q; rw [hn] at e'; cases e') hy hr
  | exc c fs ρ2 => exact fun cls dx sh2 N2 H2 rp2 kp2 hy => p cls dx sh2 N2 H2 rp2 (k.trans kp2) hy
  | bad => exact p
theorem readRepL {Q : VK} (t : tEvF G W (rOp2 dRepL ra rb) σ H Q) : tOp rRep (tEvF G W ra) (tEv G W G.rb rb) σ H Q := by
  obtain ⟨sh, N, ρ, rp, p⟩ := t
  refine ⟨sh, N, ρ, rp, ?_⟩
  have p' : PostF G W sh N ρ σ H ((ra ρ).bind fun x ρ1 => (rb ρ1).bind fun y ρ2 => ofO (dRepL x y) ρ2) Q := p
  revert p'
  cases ra ρ with
  | bad => exact fun z => z
  | exc c fs ρ1 => exact fun z => z
  | ok d ρ1 =>
    intro p' sh1 N1 a0 H1 rp1 k1 hn rp1' hr
    have k1' := k1.more hn
    have p2 : PostF G W sh1 (fun b => N1 b ∨ b = a0) ρ1 σ H1 ((rb ρ1).bind fun y ρ2 => ofO (dRepL d y) ρ2) Q := PostF.kp k1' p'
    refine tEv.runF rp1' p2 fun y ρ2 sh2 N2 v H2 _ rp2 k2 hy p3 => ?_
    obtain ⟨d', e1, q⟩ := post_ofF p3 rp2
    cases d with
    | lst l =>
      cases y with
      | int k =>
        obtain ⟨⟨c1, c2, c3⟩, rfl⟩ := ite_some e1
        obtain ⟨n1, n2, vs, h1, h2⟩ := hr
        have h1' : H2 a0 = some (.lst vs) := k2.keep a0 _ h1 n2 id
        have h2' : G.rvs H2 N2 sh2 l vs := RVs.mono h2 k2 (fun _ z => z.elim) rp1'.shN
        have hl := RVs.length h2
        refine ⟨a0, k, vs, rfl, rb_int hy, h1', by omega, by omega, ?_, fun q' hq => q q' _ (grows hq) hq (rf_newlst hq (nofree rp2 hq) (fun z => nofree rp2 hq (rp2.shN _ z)) (RVs.rep h2' _))⟩
        rw [sizeLine_eq]
        have a1 : vs.length * k.toNat ≤ 1000 * 1000 := Nat.mul_le_mul (by omega) (by omega)
        omega
      | _ => cases e1
    | _ => cases e1
theorem pe_repL (ha : PE X a (tEvF G W ra)) (hb : PE X b (tEv G W G.rb rb)) : PE X (.BinOp a .Mult b pos) (tEvF G W (rOp2 dRepL ra rb)) := PE.imp (pe_op op_rep ha hb) fun _ _ _ => readRepL
/-! ### list(range(n)), tuple(range(n)) -/
def dLstR : Mi.D → Option Mi.D
  | .int j => if -sml ≤ j ∧ j ≤ many then some (.lst (rngD 0 j.toNat)) else none
  | _ => none
def dTupR : Mi.D → Option Mi.D
  | .int j => if -sml ≤ j ∧ j ≤ many then some (.tup (rngD 0 j.toNat)) else none
  | _ => none
theorem rvs_rg (b : Int) : G.rvs H N sh (rngD 0 b.toNat) (rgV 0 b) := by
  refine RVs.of_get (by simp [rngD, rgV]) fun i d v h1 h2 => ?_
  simp only [rngD, rgV, List.getElem?_map, Int.sub_zero] at h1 h2
  cases q : (List.range b.toNat)[i]? with
  | none => rw [q] at h1; cases h1
  | some k =>
    rw [q] at h1 h2
    simp only [Option.map_some, Option.some.injEq] at h1 h2
    subst h1 h2
    simp only [RV]
theorem rgOk {j : Int} (h1 : -sml ≤ j) (h2 : j ≤ (many : Nat)) : RgOk 0 j := by
  unfold sml at h1; unfold many at h2
  exact ⟨by omega, by omega, by omega, by omega, by omega⟩
theorem pe_listRgA {q p : Pos} {pos1 pos2 : Pos} (hc : X.calm = true) (hl : Gl X "list") (hlm : X.mg "list" = none) (hg : Gl X "range") (hm : X.mg "range" = none) (hs : isStar a = false) (ha : PE X a (tEv G W G.rb ra)) :
    PE X (.Call (.Name "list" p) [.Call (.Name "range" q) [a] [] pos1] [] pos2) (tEvF G W (rOp1 dLstR ra)) := PE.imp (pe_listRg hc hl hlm (prg_1 hg hm ha (star_of hs))) fun σ H Q t => by
  obtain ⟨sh, N, ρ, rp, p⟩ := t
  refine tEv.runF rp p fun d ρ1 sh1 N1 v H1 _ rp1 k1 hx p1 => ?_
  obtain ⟨d', e1, q⟩ := post_ofF p1 rp1
  cases d with
  | int j =>
    obtain ⟨⟨c1, c2⟩, rfl⟩ := ite_some e1
    exact ⟨j, rb_int hx, rgOk c1 c2, fun q' hq => q q' _ (grows hq) hq (rf_newlst hq (nofree rp1 hq) (fun z => nofree rp1 hq (rp1.shN _ z)) (rvs_rg j))⟩
  | _ => cases e1
theorem pe_tupRgA {q p : Pos} {pos1 pos2 : Pos} (hc : X.calm = true) (hl : Gl X "tuple") (hlm : X.mg "tuple" = none) (hg : Gl X "range") (hm : X.mg "range" = none) (hs : isStar a = false) (ha : PE X a (tEv G W G.rb ra)) :
    PE X (.Call (.Name "tuple" p) [.Call (.Name "range" q) [a] [] pos1] [] pos2) (tEv G W G.rv (rOp1 dTupR ra)) := PE.imp (pe_tupRg hc hl hlm (prg_1 hg hm ha (star_of hs))) fun σ H Q t => by
  obtain ⟨sh, N, ρ, rp, p⟩ := t
  refine tEv.run rp p fun d ρ1 sh1 N1 v H1 _ rp1 k1 hx p1 => ?_
  obtain ⟨d', e1, q⟩ := post_ofO p1 rp1
  cases d with
  | int j =>
    obtain ⟨⟨c1, c2⟩, rfl⟩ := ite_some e1
    exact ⟨j, rb_int hx, rgOk c1 c2, fun q' hq => q _ _ (grows hq) (rv_newtup hq (nofree rp1 hq) (rvs_rg j))⟩
  | _ => cases e1
/-! ### a < b < c as a test -/
theorem pt_chainA {op op' : CmpOp} {f g : Mi.D → Mi.D → Option Mi.D} (ho : OpR X (compareOp op) (rA2 G f)) (ho' : OpR X (compareOp op') (rA2 G g)) (ha : PE X a (tEv G W G.rb ra)) (hb : PE X b (tEv G W G.rb rb)) (hc : PE X c (tEv G W G.rb rc))
    (hm : lastMarks [op, op'] [b, c] = false) : PT X (.Compare a [op, op'] [b, c] pos) (tEv G W rl (rTv dBl (rChain f g ra rb rc))) :=
  PT.imp (pt_chain ho ho' ha hb hc hm) fun σ H Q t => by
    refine readChain ?_
    obtain ⟨sh, N, ρ, rp, p⟩ := t
    refine tEv.run rp p fun d ρ1 sh1 N1 x H1 _ rp1 k1 hx p1 => ?_
    cases d with
    | bl k => simp only [Cg.rv, RV] at hx; exact ⟨k, hx, Post.ret p1 rp1 rfl⟩
    | _ => exact p1.elim
end
end Mi

namespace Mi
open PySem PySem.Spec PyProof.Rows L2
/-! ### a display of a dict that is looked up at once; a constant dict -/
def lookS (ks : List Str) (ds : List D) : D → Option D
  | .str s => (ks.zip ds).lookup s
  | _ => none
def rDsp (ks : List Str) (rl : AE → R (List D)) (rc : AE → R D) : AE → R D := fun ρ => (rl ρ).bind fun ds ρ1 => (rc ρ1).bind fun y ρ2 => ofO (lookS ks ds y) ρ2
def kvS (ks : List Str) (vs : List V) : List (Key × V) := (ks.zip vs).map fun p => (.inr p.1, p.2)
theorem val_zip : ∀ {ks : List Str} {vs : List V} {s : Str}, valV (kvS ks vs) (.inr s : Key) = (ks.zip vs).lookup s
  | [], _, _ => rfl
  | _ :: _, [], _ => rfl
  | k :: ks, v :: vs, s => by
    unfold kvS
    rw [List.zip_cons_cons, List.map_cons, List.lookup_cons]
    by_cases h : k = s
    · subst h
      rw [valV_pos rfl]; simp
    · rw [valV_neg (by intro z; exact h (Sum.inr.inj z)), show (s == k) = false by simpa using fun z : s = k => h z.symm]
      exact val_zip (ks := ks) (vs := vs) (s := s)
theorem merge_app : ∀ {more acc : List (Key × V)}, (∀ p ∈ more, ∀ q ∈ acc, q.1 ≠ p.1) → (more.map (·.1)).Nodup → mergeK acc more = acc ++ more
  | [], acc, _, _ => by simp [mergeK]
  | p :: more, acc, h, nd => by
    rw [List.map_cons, List.nodup_cons] at nd
    have e : putK acc p.1 p.2 = acc ++ [p] := by
      unfold putK
      rw [if_neg]
      intro z
      rw [List.any_eq_true] at z
      obtain ⟨q, hq, e⟩ := z
      exact h p (List.mem_cons_self ..) q hq (of_decide_eq_true e)
    show mergeK (putK acc p.1 p.2) more = _
    rw [e, merge_app (acc := acc ++ [p]) (fun r hr q hq => ?_) nd.2]
    · simp
    · rcases List.mem_append.mp hq with hq | hq
      · exact h r (List.mem_cons_of_mem _ hr) q hq
      · simp only [List.mem_singleton] at hq
        subst hq
        exact fun z => nd.1 (z ▸ List.mem_map_of_mem hr)
theorem merge_nil {more : List (Key × V)} (nd : (more.map (·.1)).Nodup) : mergeK [] more = more := by
  rw [merge_app (fun _ _ _ z => by cases z) nd]; rfl
theorem kvS_nd : ∀ {ks : List Str} {vs : List V}, ks.Nodup → ((kvS ks vs).map (·.1)).Nodup
  | [], _, _ => List.nodup_nil
  | _ :: _, [], _ => List.nodup_nil
  | k :: ks, v :: vs, nd => by
    rw [List.nodup_cons] at nd
    unfold kvS
    rw [List.zip_cons_cons, List.map_cons, List.map_cons, List.nodup_cons]
    refine ⟨fun z => ?_, kvS_nd (ks := ks) (vs := vs) nd.2⟩
    simp only [List.map_map, List.mem_map, Function.comp] at z
    obtain ⟨p, hp, e⟩ := z
    cases e
    exact nd.1 (List.of_mem_zip hp).1
theorem look_rel {β γ : Type} {Rl : β → γ → Prop} : ∀ {ks : List Str} {ds : List β} {vs : List γ} {s : Str} {d : β}, (ks.zip ds).lookup s = some d → ds.length = vs.length → (∀ (i : Nat) (x : β) (y : γ), ds[i]? = some x → vs[i]? = some y → Rl x y) → ∃ v, (ks.zip vs).lookup s = some v ∧ Rl d v
  | [], _, _, _, _, h, _, _ => by simp at h
  | _ :: _, [], _, _, _, h, _, _ => by simp at h
  | k :: ks, x :: ds, [], s, d, h, hl, _ => by simp at hl
  | k :: ks, x :: ds, v :: vs, s, d, h, hl, g => by
    rw [List.zip_cons_cons, List.lookup_cons] at h ⊢
    cases q : s == k with
    | true => rw [q] at h; cases h; exact ⟨v, rfl, g 0 _ _ rfl rfl⟩
    | false => rw [q] at h; exact look_rel h (by simpa using hl) fun i a b h1 h2 => g (i + 1) a b (by simpa using h1) (by simpa using h2)
section
variable {G : Cg} {W : WX} {X : Cx} {sh : List Addr} {N : Addr → Prop} {ρ : AE} {σ : Sg} {H : Hp}
/-- what a display's pairs are -/
structure PpOk (G : Cg) (W : WX) (X : Cx) (pos : Pos) (ks : List Str) (keys : List (Option Expr)) (values : List Expr) (rl : AE → R (List D)) : Prop where
  ex : ∃ trs, PPs X pos keys values trs ∧ ∀ σ H (Q : List (V × V) → Hp → Prop), tEv G W G.rvs rl σ H (fun vs H' => Q ((ks.map V.str).zip vs) H') → tPairs trs σ H Q
  all : keys.all (·.isSome) = true
  len : keys.length = values.length
  kl : ks.length = values.length
theorem pp_nil {pos : Pos} : PpOk G W X pos [] [] [] rNil := ⟨⟨[], pps_nil, fun σ H Q t => by
  obtain ⟨sh, N, ρ, rp, p⟩ := t
  exact Post.ret p rp .nil⟩, rfl, rfl, rfl⟩
theorem pp_cons {pos p : Pos} {j : Nat} {k : Str} {e : Expr} {ks : List Str} {keys : List (Option Expr)} {values : List Expr} {ra : AE → R D} {rs : AE → R (List D)} (ha : PE X e (tEv G W G.rv ra)) (h : PpOk G W X pos ks keys values rs) :
    PpOk G W X pos (k :: ks) (some (.Constant (.str k) j p) :: keys) (e :: values) (rCons ra rs) := by
  obtain ⟨trs, h1, h2⟩ := h.ex
  refine ⟨⟨(tC (.str k), tEv G W G.rv ra) :: trs, pps_cons pe_str ha h1, fun σ H Q t => ?_⟩, ?_, ?_, ?_⟩
  · obtain ⟨sh, N, ρ, rp, p⟩ := t
    refine tEv.run rp p fun dx ρ1 sh1 N1 x H1 _ rp1 k1 hx p1 => h2 _ _ _ (tEv.run rp1 p1 fun dy ρ2 sh2 N2 y H2 _ rp2 k2 hy p2 => ?_)
    exact Post.ret p2 rp2 (.cons (Cg.rv_mono hx k2 rp1.shN) hy)
  · simp only [List.all_cons, Option.isSome_some, Bool.true_and, h.all]
  · simp only [List.length_cons, h.len]
  · simp only [List.length_cons, h.kl]
theorem pe_dspA {pos dpos : Pos} {ks : List Str} {keys : List (Option Expr)} {values : List Expr} {i : Expr} {rl : AE → R (List D)} {rc : AE → R D} (hu : X.A.units + 1 < cLine) (hp : PpOk G W X dpos ks keys values rl) (nd : ks.Nodup) (h0 : keys ≠ []) (h15 : keys.length ≤ 15) (hi : PE X i (tEv G W G.rb rc)) (hs : NoSl i) (hlen : ∀ ρ ds ρ1, rl ρ = .ok ds ρ1 → ds.length = ks.length) :
    PE X (.Subscript (.Dict keys values dpos) i pos) (tEv G W G.rv (rDsp ks rl rc)) := by
  obtain ⟨trs, h1, h2⟩ := hp.ex
  refine PE.imp (pe_dget hu (pe_disp h1 hp.all hp.len h0 h15) hi hs) fun σ H Q t => ?_
  obtain ⟨sh, N, ρ, rp, p⟩ := t
  intro D hD
  have rpD : G.rp sh (fun b => N b ∨ b = D) ρ σ (upd H D (.dK [])) := rp.grow (grows hD) (fun _ z => .inl z) (fun b z => z.imp id fun (e : b = D) => by rw [e]; exact hD) fun b z => by
    rcases z with z | rfl
    · obtain ⟨o, e⟩ := rp.dom b z; exact ⟨o, grows hD b o e⟩
    · exact ⟨_, upd_same⟩
  have nD : ¬ N D := nofree rp hD
  have dS : D ∉ sh := fun z => nD (rp.shN _ z)
  have noD : ¬ OwnS ρ σ D := fun z => nD (rp.ownN D z)
  have nbD : ∀ i, ¬ (OwnS ρ σ).b i D := fun i ⟨d, g1, g2⟩ => nD (rp.mutN g1 rfl g2)
  have kD : Kp none1 (OwnS ρ σ) (OwnS ρ σ) sh sh N (fun b => N b ∨ b = D) H (upd H D (.dK [])) :=
    ⟨fun a o e _ _ => grows hD a o e, fun _ _ _ n => n, fun a o e n z => z.elim n fun q => (by rw [q, hD] at e; cases e), fun _ _ _ n => n, List.prefix_rfl, fun a o e => ⟨o, grows hD a o e⟩, fun _ _ z => z, fun _ _ _ n _ => .inl n, fun _ _ _ _ z => z⟩
  refine h2 σ _ _ ⟨sh, _, ρ, rpD, ?_⟩
  have p' : Post G W G.rv sh (fun b => N b ∨ b = D) ρ σ (upd H D (.dK [])) ((rl ρ).bind fun ds ρ1 => (rc ρ1).bind fun y ρ2 => ofO (lookS ks ds y) ρ2) Q := Post.kp kD p
  refine p'.bind rpD fun ds ρ1 sh1 N1 vs H1 e1 rp1 k1 hvs p1 => ?_
  have hl := hlen _ _ _ e1
  have hv : vs.length = ks.length := by rw [← RVs.length hvs]; exact hl
  have eD : H1 D = some (.dK []) := k1.keep D _ upd_same dS id
  have zz : ∀ (ks : List Str) (vs : List V), (ks.map V.str).zip vs = (kvS ks vs).map fun kv => (kV kv.1, kv.2) := fun ks => by
    induction ks with
    | nil => intro vs; rfl
    | cons k ks ih => intro vs; cases vs with
      | nil => rfl
      | cons v vs =>
        rw [List.map_cons, List.zip_cons_cons, ih]
        rfl
  refine ⟨eD, kvS ks vs, zz ks vs, ?_, ?_⟩
  · unfold kvS
    rw [List.length_map, List.length_zip, hv, Nat.min_self, hp.kl, ← hp.len]; exact h15
  rw [merge_nil (kvS_nd nd)]
  -- the heap with the dict
  have nD1 : N1 D := k1.st D _ upd_same (.inr rfl) noD
  have noD1 : ¬ OwnS ρ1 σ D := k1.own D _ upd_same noD
  have nbD1 : ∀ i, ¬ (OwnS ρ1 σ).b i D := k1.mt D _ upd_same noD nbD
  have dS1 : D ∉ sh1 := k1.shn D _ upd_same dS
  have up : ∀ b, b ≠ D → upd H1 D (.dK (kvS ks vs)) b = H1 b := fun b h => upd_ne h
  have hk : ∀ b u, Rd H1 b u → ¬ N1 b → Rd (upd H1 D (.dK (kvS ks vs))) b u ∧ ¬ N1 b := fun b u r n => by
    have h : b ≠ D := fun z => n (z ▸ nD1)
    refine ⟨?_, n⟩
    rcases r with r | ⟨q, r⟩
    · exact .inl ((up b h).trans r)
    · exact .inr ⟨q, (up b h).trans r⟩
  have hs' : ∀ (n : Nat) (b : Addr), sh1[n]? = some b → sh1[n]? = some b := fun _ _ e => e
  have al : ∀ b o, H1 b = some o → ∃ o', upd H1 D (.dK (kvS ks vs)) b = some o' := fun b o e => by
    by_cases h : b = D
    · exact ⟨_, by rw [h]; exact upd_same⟩
    · exact ⟨o, (up b h).trans e⟩
  have rp2 : G.rp sh1 N1 ρ1 σ (upd H1 D (.dK (kvS ks vs))) := by
    refine ⟨rp1.len, fun j e g => ?_, fun j e g => ?_, fun j e g => ?_, rp1.dis, fun a z => ?_, rp1.nd, rp1.shN, rp1.shl, fun n ob a e1 e2 => ?_⟩
    · obtain ⟨v, q1, q2⟩ := rp1.val j e g
      exact ⟨v, q1, RV.mono' hk hs' _ _ q2⟩
    · obtain ⟨a, q1, q2, q3, q4⟩ := rp1.own j e g
      have h : a ≠ D := fun z => noD1 (z ▸ ⟨j, e, g, q1⟩)
      exact ⟨a, q1, q2, q3, OwnAt.mono hk hs' (fun o z => (up a h).trans z) q4⟩
    · obtain ⟨a, q1, q2, q3, q4⟩ := rp1.bor j e g
      have h : a ≠ D := fun z => nbD1 j (z ▸ ⟨e, g, q1⟩)
      exact ⟨a, q1, q2, q3, OwnAt.mono hk hs' (fun o z => (up a h).trans z) q4⟩
    · obtain ⟨o, e⟩ := rp1.dom a z
      exact al a o e
    · have h : a ≠ D := fun z => dS1 (by rw [← z]; exact List.mem_of_getElem? e2)
      exact ObAt.mono hk hs' (fun o z => (up a h).trans z) (rp1.obs n ob a e1 e2)
  -- for what was read before, H1 and this heap are alike
  have k2 : Kp ⟨(· = D), fun _ _ => False⟩ (OwnS ρ1 σ) (OwnS ρ1 σ) sh1 sh1 N1 N1 H1 (upd H1 D (.dK (kvS ks vs))) :=
    ⟨fun a o e _ z => (up a z).trans e, fun _ _ _ n => n, fun _ _ _ n => n, fun _ _ _ n => n, List.prefix_rfl, al, fun _ _ z => z, fun _ _ _ n _ => n, fun _ _ _ _ z => z⟩
  have k02 : Kp none1 (OwnS ρ σ) (OwnS ρ1 σ) sh sh1 N N1 H (upd H1 D (.dK (kvS ks vs))) := by
    have k01 := kD.trans k1
    have ne : ∀ a o, H a = some o → a ≠ D := fun a o e z => by rw [z, hD] at e; cases e
    exact ⟨fun a o e n z => (up a (ne a o e)).trans (k01.keep a o e n z), k01.shn, k01.av, k01.own, k01.pre, fun a o e => let ⟨o', e'⟩ := k01.there a o e; al a o' e', k01.bo, k01.st, k01.mt⟩
  have hvs2 : G.rvs (upd H1 D (.dK (kvS ks vs))) N1 sh1 ds vs := RVs.mono' hk hs' _ _ hvs
  have p3 : Post G W G.rv sh N ρ σ H ((rc ρ1).bind fun y ρ2 => ofO (lookS ks ds y) ρ2) Q := by
    have p3 : Post G W G.rv sh N ρ σ H ((rl ρ).bind fun ds ρ1 => (rc ρ1).bind fun y ρ2 => ofO (lookS ks ds y) ρ2) Q := p
    rw [e1] at p3; exact p3
  refine ⟨sh1, N1, ρ1, rp2, (Post.kp k02 p3).bind rp2 fun y ρ2 sh2 N2 yv H2 _ rp3 k3 hy p5 => ?_⟩
  obtain ⟨d, e3, q⟩ := post_ofO p5 rp3
  cases y with
  | str s =>
    have e3' : (ks.zip ds).lookup s = some d := e3
    obtain ⟨ey, _⟩ := rb_str hy
    subst ey
    have hv3 : G.rvs H2 N2 sh2 ds vs := RVs.mono hvs2 k3 (fun _ z => z.elim) rp2.shN
    obtain ⟨v, e4, rv4⟩ := look_rel (Rl := fun d v => G.rv H2 N2 sh2 d v) (vs := vs) e3' (by rw [hl, hv]) fun i x y h1 h2 => by
      obtain ⟨v, g1, g2⟩ := RVs.get hv3 h1
      rw [h2] at g1; cases g1; exact g2
    exact ⟨D, v, rfl, .inl ⟨kvS ks vs, .inr s, .inl (k3.keep D _ upd_same dS1 id), rfl, by rw [val_zip, e4]⟩, q v H2 (fun _ _ z => z) rv4⟩
  | _ => cases e3
/-! ### a constant dict -/
def lookKD : List (D × D) → Str → Option D
  | [], _ => none
  | (.str k, u) :: r, s => if k = s then some u else lookKD r s
  | _ :: r, s => lookKD r s
def lookC : D → D → Option D
  | .dik ks us, .str s => lookKD (ks.zip us) s
  | _, _ => none
def isDik : D → Bool
  | .dik _ _ => true
  | _ => false
/-- the top's dict at a says so -/
def DikSays (G : Cg) (c : D) (a : Addr) : Prop := ∀ (s : Str) (d : D), lookC c (.str s) = some d → ∃ v, KDct G.K G.w a s v ∧ ∀ H N sh, G.rv H N sh d v
theorem pe_cgetA {x : Str} {p pos : Pos} {i : Expr} {c : D} {a : Addr} {rc : AE → R D} (hK : X.K = G.K) (hw : X.w = G.w) (hg : Gl X x) (hm : X.mg x = some (.ref a)) (hd : (x == ("__debug__" : Str)) = false) (hs : DikSays G c a) (hi : PE X i (tEv G W G.rb rc)) (pl : PlainIx i) :
    PE X (.Subscript (.Name x p) i pos) (tEv G W G.rv (rOp1 (lookC c) rc)) := by
  refine PE.imp (pe_ix ix_kdict (pe_glob (v := .ref a) hg hm rfl hd) hi pl) fun σ H Q t => ?_
  obtain ⟨sh, N, ρ, rp, p⟩ := t
  refine tEv.run rp p fun dx ρ1 sh1 N1 xv H1 _ rp1 k1 hx p1 => ?_
  obtain ⟨d, e1, q⟩ := post_ofO p1 rp1
  cases dx with
  | str s =>
    obtain ⟨ey, _⟩ := rb_str hx
    subst ey
    obtain ⟨v, h1, h2⟩ := hs s d e1
    exact ⟨a, s, v, rfl, rfl, by rw [hK, hw]; exact h1, q v H1 (fun _ _ z => z) (h2 _ _ _)⟩
  | _ => cases c <;> cases e1
end
end Mi

namespace Mi
open PySem PySem.Spec PyProof.Rows L2
/-! ### enumerate(tuple) -/
theorem meets_enumT (l : Addr) (items : Array Value) (n : Nat) (dct : Option Addr) (sl : Array (Option Value)) :
    Meets (Builtin.«enumerate.__new__» ⟨[.type "enumerate", .ref l], []⟩) (fun _ R s => s.heap.get? l = some { cls := .type "tuple", dict := dct, data := .seq items n, slots := sl } ∧
      R (.ok (.ret (.ref (s.heap.push { cls := .type "tuple_iterator", data := .fields #[.ref l, .int 0 0] }).objs.size)))
        { s with heap := (s.heap.push { cls := .type "tuple_iterator", data := .fields #[.ref l, .int 0 0] }).push { cls := .type "enumerate", data := .fields #[.none, .bool false, .ref s.heap.objs.size, rawInt 0, .none, .none] } }) :=
  .of_wp fun prog w A R s h => by
    obtain ⟨hp, g, d, tk, os⟩ := s; obtain ⟨hl, h⟩ := h
    have hsub := sub_enumerate
    have hL : Heap.IsTuple (Shared.heap ⟨hp, g, d, tk, os⟩) l items := ⟨_, hl, rfl, n, rfl⟩
    wp_walk using AutoSeq1.wpAny_loadPart' hl
    refine wpAny_stack_any fun st => wpAny_pure ?_
    split
    · rename_i c _ _ _ _ _
      cases (c == Value.type "enumerate")
      · wp_walk using AutoSeq1.wpAny_loadPart' hl, wpAny_pyIter_tuple hL
        exact ⟨_, rfl, h⟩
      · wp_walk using AutoSeq1.wpAny_loadPart' hl, wpAny_pyIter_tuple hL
        exact ⟨_, rfl, h⟩
    · wp_walk using AutoSeq1.wpAny_loadPart' hl, wpAny_pyIter_tuple hL
      exact ⟨_, rfl, h⟩
section
variable {prog : Program} {w : World} {A : Around} {E : Value → Shared → Prop} {s : Shared}
theorem call_enumT {l : Addr} {items : Array Value} {Q : Value → Shared → Prop} (hL : s.heap.IsTuple l items)
    (h : ∀ h', IsEnum h' (s.heap.objs.size + 1) s.heap.objs.size 0 .none → h'.IsTupleIter s.heap.objs.size l 0 → h'.objs.size = s.heap.objs.size + 2 →
      (∀ b o, s.heap.get? b = some o → h'.get? b = some o) → Q (.ref (s.heap.objs.size + 1)) { s with heap := h' }) :
    wpAny (model prog w) A (call (.type "enumerate") [.ref l]) Q E s := by
  obtain ⟨⟨c, dct, dt, sl⟩, hl, hc, n, hd⟩ := hL
  replace hc : c = .type "tuple" := hc
  replace hd : dt = .seq items n := hd
  subst hc hd
  refine callType_new F.called_enumerate (by decide) (F.typeCall_enumerate_1 _) (F.newCall_enumerate_1 _) (fun obj => F.args_object_init_2 obj _) F.entry_enumerate_new
    (meets_enumT l items n dct sl) ⟨hl, ?_⟩
  have hz : (s.heap.push { cls := .type "tuple_iterator", data := .fields #[.ref l, .int 0 0] }).objs.size = s.heap.objs.size + 1 := Heap.size_push ..
  show _ ∧ _
  rw [hz]
  have he : IsEnum ((s.heap.push { cls := .type "tuple_iterator", data := .fields #[.ref l, .int 0 0] }).push
      { cls := .type "enumerate", data := .fields #[.none, .bool false, .ref s.heap.objs.size, rawInt 0, .none, .none] }) (s.heap.objs.size + 1) s.heap.objs.size 0 .none := by
    have := Heap.get?_push_size (s.heap.push { cls := .type "tuple_iterator", data := .fields #[.ref l, .int 0 0] })
      (o := { cls := .type "enumerate", data := .fields #[.none, .bool false, .ref s.heap.objs.size, rawInt 0, .none, .none] }) rfl
    rw [hz] at this; exact this
  refine ⟨⟨_, he, rfl⟩, h _ he ⟨_, Heap.get?_push_of_some _ (Heap.get?_push_size _ rfl), rfl, rfl⟩ (by rw [Heap.size_push, hz]) fun b o x => Heap.get?_push_of_some _ (Heap.get?_push_of_some _ x)⟩
theorem pyNext_enumT_end {e it l : Addr} {i : Nat} {items : Array Value} {old : Value} {Q : Option Value → Shared → Prop} (hh : A.in1.handled = none)
    (he : IsEnum s.heap e it i old) (hit : s.heap.IsTupleIter it l i) (hl : s.heap.IsTuple l items) (hx : items[i]? = none)
    (hQ : ∀ h', Heap.ExtBut it s.heap h' → Q none { s with heap := h' }) : wpAny (model prog w) A (pyNext (.ref e)) Q E s := by
  have hT : s.TypeIs (.ref e) "enumerate" := ⟨_, he, rfl⟩
  unfold pyNext
  refine wpAny_bind (wpAny_attempt (wpAny_callSpecial?_slot (name := Str.ofString "__next__") hT F.slot_enumerate_next
    (wpAny_call_entry F.slot_enumerate_next hT F.entry_enumerate_next ?_ (F.args_enumerate_next_1 _))))
  show wpAny _ _ (field (.ref e) 2 >>= _) _ _ _
  refine wpAny_bind (wpAny_field he rfl (x := .ref it) rfl ?_)
  refine wpAny_bind (wpAny_nextOf_tuple_end hh hit hl hx fun h' x he' hx' => ?_)
  obtain ⟨o, ho, hc⟩ := hx'
  refine wpAny_bind (wpAny_isInstance (T := "StopIteration") (b := true) ⟨o, ho, hc⟩ isSubtype_stop ?_)
  exact wpAny_pure (hQ _ he')
end
/-- the tuple at a, each item in a new pair -/
def IteT (K : PySem.W.Frag) (a : Addr) : It :=
  ⟨fun i H => ∃ (xs : List V) (x : V), SqT K H a xs ∧ xs[i]? = some x, fun i H v H' => ∃ T x, v = .ref T ∧ H T = none ∧ H' = upd H T (.tup [.int (i : Nat), x]) ∧ ∀ xs, SqT K H a xs → xs[i]? = some x, fun i H => ∃ xs : List V, SqT K H a xs ∧ xs.length ≤ i⟩
theorem turn_enumT {P : Program} {w : World} {K : PySem.W.Frag} {elts : List Expr} {kk : Nat} {tpos : Pos} (a e it : Addr) :
    Turn P w K (.Tuple elts kk tpos) (IteT K a) [e, it] e (fun i h => (∃ old, IsEnum h e it ((i : Nat) : Int) old) ∧ h.IsTupleIter it a i ∧ e ≠ it ∧ a ≠ e ∧ a ≠ it) where
  mem := by simp
  obj := fun i h st b hb => by
    obtain ⟨⟨old, he⟩, ⟨o, ho, hc, hd⟩, _⟩ := st
    have e' : b = e ∨ b = it := by simpa using hb
    rcases e' with z | z
    · rw [z]; exact ⟨_, he, fun v q => nomatch q⟩
    · rw [z]; exact ⟨o, ho, fun v q => by rw [hd] at q; cases q⟩
  keep := fun i h h' st k => let ⟨⟨old, he⟩, hi, hne⟩ := st; ⟨⟨old, k e (by simp) _ he⟩, hi.at fun o q => k it (by simp) o q, hne⟩
  item := by
    intro X hP hw hK hc i pins s σ H E I hf st hg
    subst hP hw hK
    obtain ⟨⟨old, he⟩, hit, hne, ha1, ha2⟩ := st
    obtain ⟨xs, x, hq, hx⟩ := hg
    obtain ⟨its, rv, p, hz⟩ := I.tuple hq
    obtain ⟨u, hu, ru⟩ := rv.get hx
    have hel : e < s.heap.objs.size := Heap.lt_size he
    have hil : it < s.heap.objs.size := by obtain ⟨_, q, _⟩ := hit; exact Heap.lt_size q
    have hxl : i < its.toArray.size := by
      have := (List.getElem?_eq_some_iff.mp hu).1
      simpa using this
    refine wpAny_pyNext_enum_itemD (Draws.tuple (show X.A.in1.handled = none from I.ok.hd hc) it a ha2 its.toArray) he ⟨hit, (show s.heap.IsTuple a its.toArray from p)⟩ hxl hne (by simp only [List.mem_cons, List.not_mem_nil, or_false, not_or]; exact ⟨hne, fun z => ha1 z.symm⟩) fun x' h' tk hP' ho hit' hT hsz hk => ?_
    have ex : x' = u := by
      have h1 : its.toArray[i]? = some u := by simpa using hu
      rw [h1] at hP'; exact (Option.some.inj hP').symm
    subst ex
    refine ⟨_, rfl, wpAny_letOwnedTupleGo_enum (s := { s with heap := h', toks := tk + 1 }) ho fun h'' he' sb => ?_⟩
    have hT2 : h''.get? s.heap.objs.size = some { cls := .type "tuple", data := .seq #[.int i tk, x'] } := (sb.2 _ (Nat.ne_of_gt hel)).trans hT
    have new : ObjOk X.prog X.w (upd H s.heap.objs.size (.tup [.int (i : Nat), x])) h'' s.heap.objs.size (.tup [.int (i : Nat), x]) :=
      ⟨by show 2 ≤ sizeLine; decide, [.int i tk, x'], .cons ⟨_, rfl⟩ (.cons ru .nil), ⟨_, hT2, rfl, _, rfl⟩⟩
    have I1 : Inv X pins σ (upd H s.heap.objs.size (.tup [.int (i : Nat), x])) { s with heap := h'', toks := tk + 1 } :=
      I.turnedNew (ch := [e, it]) (fun b ob hb q => (sb.2 b (fun z => hb (by simp [z]))).trans (hk b ob (fun z => hb (by simp [z])) (fun z => hb (by simp [z])) q)) hf (Nat.le_refl _) new
    refine ⟨.ref s.heap.objs.size, _, I1, rfl, ⟨_, x, rfl, I.hok.fresh (Nat.le_refl _), rfl, fun ys hy => by rw [I.tuple_inj hy hq]; exact hx⟩, ⟨⟨x', ?_⟩, hit'.1.at fun o q => (sb.2 it (Ne.symm hne)).trans q, hne, ha1, ha2⟩, fun b hb => ?_⟩
    · have e1 : ((i + 1 : Nat) : Int) = (i : Int) + 1 := by omega
      rw [e1]; exact he'
    · have hb' : b < s.heap.objs.size := by
        have e' : b = e ∨ b = it := by simpa using hb
        rcases e' with z | z
        · rw [z]; exact hel
        · rw [z]; exact hil
      rw [upd_ne (Nat.ne_of_lt hb')]
      exact (hf b hb).1
  done := by
    intro X hP hw hK hc i pins s σ H E I hf st hg
    subst hP hw hK
    obtain ⟨⟨old, he⟩, hit, hne, ha1, ha2⟩ := st
    obtain ⟨xs, hq, hx⟩ := hg
    obtain ⟨its, rv, p, hz⟩ := I.tuple hq
    obtain ⟨f0, f1, f2, f3, f4, f5⟩ := hf it (by simp)
    have hl := rv.length
    exact pyNext_enumT_end (show X.A.in1.handled = none from I.ok.hd hc) he hit (show s.heap.IsTuple a its.toArray from p) (by simp; omega) fun h' eb => ⟨rfl, I.turned (t' := s.toks) (fun b o hb q => eb b o hb q) f0 f1 f3 f4 f5⟩
  self := fun A i s Q E st h => let ⟨⟨_, he⟩, _⟩ := st; wpAny_pyIter_enum he h

def iEnumG (K : PySem.W.Frag) (ta : TA) : TI := fun σ H R => ta σ H fun vs H1 => ∃ a xs, vs = [.ref a] ∧ ((SqL K H1 a xs ∧ (xs.length ≤ sizeLine → R (Ite K a) H1)) ∨ (SqT K H1 a xs ∧ (xs.length ≤ sizeLine → R (IteT K a) H1)))
theorem pi_enumG {X : Cx} {e : Expr} {ta : TA} {p pos tpos : Pos} {elts : List Expr} {kk : Nat} (hg : Gl X "enumerate") (hm : X.mg "enumerate" = none) (ha : PA X [e] ta) (hs : starEach [e] X.env = [(false, eval e X.env)]) :
    PI X (.Tuple elts kk tpos) (.Call (.Name "enumerate" p) [e] [] pos) (iEnumG X.K ta) := by
  refine ⟨fun pins s σ H R I h => ?_⟩
  refine Call_ (ld_blt I hg hm boot_enumerate (PyProof.Rows.callWith_type1 (thn (ha.run pos pins s σ H _ I h) fun us s1 ⟨vs, H1, I1, r1, q1⟩ => ?_) hs rfl))
  obtain ⟨a, xs, ex, q1⟩ := q1
  subst ex
  cases r1 with
  | cons r rr =>
    cases rr
    cases r
    have fresh : ∀ b, b ∈ [s1.heap.objs.size + 1, s1.heap.objs.size] → FpOk X pins H1 b := fun b hb => by
      have e' : b = s1.heap.objs.size + 1 ∨ b = s1.heap.objs.size := by simpa using hb
      have hle : s1.heap.objs.size ≤ b := by
        rcases e' with z | z
        · rw [z]; exact Nat.le_add_right _ _
        · rw [z]; exact Nat.le_refl _
      exact I1.fpOk hle (I1.hok.fresh hle)
    rcases q1 with ⟨hq, q⟩ | ⟨hq, q⟩
    · obtain ⟨its, rv, p', hz⟩ := I1.list hq
      refine call_enumerate_list p'.isList fun h' he hit hsz hk => wpAny_pyIter_enum he ?_
      have I2 : Inv X pins σ H1 { s1 with heap := h' } := I1.kept (t' := s1.toks) hk
      exact ⟨s1.heap.objs.size + 1, [s1.heap.objs.size + 1, s1.heap.objs.size], _, _, H1, rfl, I2, turn_enum a (s1.heap.objs.size + 1) s1.heap.objs.size, ⟨⟨.none, he⟩, hit, Nat.succ_ne_self _⟩, fresh, q hz⟩
    · obtain ⟨its, rv, p', hz⟩ := I1.tuple hq
      obtain ⟨o1, ho1, _⟩ := id p'
      have hlt := Heap.lt_size ho1
      refine call_enumT (show s1.heap.IsTuple a its.toArray from p') fun h' he hit hsz hk => wpAny_pyIter_enum he ?_
      have I2 : Inv X pins σ H1 { s1 with heap := h' } := I1.kept (t' := s1.toks) hk
      exact ⟨s1.heap.objs.size + 1, [s1.heap.objs.size + 1, s1.heap.objs.size], _, _, H1, rfl, I2, turn_enumT a (s1.heap.objs.size + 1) s1.heap.objs.size, ⟨⟨.none, he⟩, hit, Nat.succ_ne_self _, Nat.ne_of_lt (Nat.lt_succ_of_lt hlt), Nat.ne_of_lt hlt⟩, fresh, q hz⟩
def enumD (l : List D) : List D := l.zipIdx.map fun p => .tup [.int p.2, p.1]
theorem enumD_get {l : List D} {i : Nat} {e : D} (h : (enumD l)[i]? = some e) : ∃ d, l[i]? = some d ∧ e = .tup [.int i, d] := by
  unfold enumD at h
  rw [List.getElem?_map, Option.map_eq_some_iff] at h
  obtain ⟨p, h1, rfl⟩ := h
  rw [List.getElem?_zipIdx, Option.map_eq_some_iff] at h1
  obtain ⟨d, h1, rfl⟩ := h1
  exact ⟨d, h1, by simp⟩
section
variable {G : Cg} {W : WX} {sh : List Addr} {N : Addr → Prop} {ρ : AE} {σ : Sg} {H : Hp} {X : Cx}
theorem rv_pair {N2 : Addr → Prop} {sh2 : List Addr} {H2 : Hp} {T : Addr} {i : Nat} {d : D} {v : V} (hd : ∀ a, N2 a → ∃ o, H2 a = some o) (hT : H2 T = none) (hv : G.rv H2 N2 sh2 d v) :
    (∀ a o, H2 a = some o → upd H2 T (.tup [.int (i : Nat), v]) a = some o) ∧ G.rv (upd H2 T (.tup [.int (i : Nat), v])) N2 sh2 (.tup [.int i, d]) (.ref T) :=
  ⟨grows hT, rv_newtup hT (fun z => by obtain ⟨o, e⟩ := hd T z; rw [hT] at e; cases e) (.cons rv_int (.cons hv .nil))⟩
theorem wk_enumL (hK : X.K = G.K) {l : List D} {a : Addr} {vs : List V} (hz : vs.length ≤ sizeLine) (rp : G.rp sh N ρ σ H) (h : Rd H a (.lst vs)) (ns : a ∉ sh) (no : ¬ OwnS ρ σ a) (nb : ¬ N a ∨ ∃ i, (OwnS ρ σ).b i a) (r : G.rvs H N sh l vs) : Wk G (Ite X.K a) (enumD l) (OwnS ρ σ) sh N H := by
  refine ⟨by simp only [enumD, List.length_map, List.length_zipIdx]; rw [RVs.length r]; exact hz, ?_⟩
  intro M O2 sh2 N2 H2 hM k hd i
  have h2 := kp_rd k h ns (Wk.nm hM no nb)
  have r2 : G.rvs H2 N2 sh2 l vs := RVs.mono r k (Wk.mN rp hM) rp.shN
  refine ⟨fun d e => ?_, fun hl => ⟨vs, .inl h2, by rw [← RVs.length r2]; simpa [enumD] using hl⟩⟩
  obtain ⟨d0, e0, rfl⟩ := enumD_get e
  obtain ⟨v, e1, hv⟩ := RVs.get r2 e0
  refine ⟨⟨vs, v, .inl h2, e1⟩, fun x H3 y => ?_⟩
  obtain ⟨T, x', rfl, hT, rfl, y⟩ := y
  have := y vs (.inl h2)
  rw [e1] at this; cases this
  exact rv_pair hd hT hv
theorem wk_enumT (hK : X.K = G.K) {l : List D} {a : Addr} {vs : List V} (hz : vs.length ≤ sizeLine) (rp : G.rp sh N ρ σ H) (h : TupAt G.K H N a vs) (r : G.rvs H N sh l vs) : Wk G (IteT X.K a) (enumD l) (OwnS ρ σ) sh N H := by
  refine ⟨by simp only [enumD, List.length_map, List.length_zipIdx]; rw [RVs.length r]; exact hz, ?_⟩
  intro M O2 sh2 N2 H2 hM k hd i
  have h2 : SqT X.K H2 a vs := by
    rw [hK]
    rcases h with ⟨h, n⟩ | h
    · exact .inl (kp_rd k h (fun z => n (rp.shN a z)) fun z => n (Wk.mN rp hM a z))
    · exact .inr h
  have r2 : G.rvs H2 N2 sh2 l vs := RVs.mono r k (Wk.mN rp hM) rp.shN
  refine ⟨fun d e => ?_, fun hl => ⟨vs, h2, by rw [← RVs.length r2]; simpa [enumD] using hl⟩⟩
  obtain ⟨d0, e0, rfl⟩ := enumD_get e
  obtain ⟨v, e1, hv⟩ := RVs.get r2 e0
  refine ⟨⟨vs, v, h2, e1⟩, fun x H3 y => ?_⟩
  obtain ⟨T, x', rfl, hT, rfl, y⟩ := y
  have := y vs h2
  rw [e1] at this; cases this
  exact rv_pair hd hT hv
/-- what may be enumerated -/
def seqE : D → Option (List D)
  | .lst l => some l
  | .tup l => some l
  | _ => none
def rEn (ra : AE → R D) : AE → R (List D) := fun ρ => (ra ρ).bind fun d ρ1 => ofS ((seqE d).map enumD) ρ1
theorem enV (hK : X.K = G.K) {d : D} {x : V} {l : List D} {Q : It → Hp → Prop} (rp : G.rp sh N ρ σ H) (h : G.rv H N sh d x ∨ ∃ a, x = .ref a ∧ a ∉ sh ∧ ¬ OwnS ρ σ a ∧ (∃ i, (OwnS ρ σ).b i a) ∧ BorAt G.P G.w G.K H N sh d a) (e : seqE d = some l) (p : PostI G W sh N ρ σ H (.ok (enumD l) ρ) Q) :
    ∃ a xs, [x] = [.ref a] ∧ ((SqL X.K H a xs ∧ (xs.length ≤ sizeLine → Q (Ite X.K a) H)) ∨ (SqT X.K H a xs ∧ (xs.length ≤ sizeLine → Q (IteT X.K a) H))) := by
  cases d with
  | lst m =>
    cases e
    rcases h with h | ⟨a, rfl, ns, no, nb, vs, h, r⟩
    · rw [Cg.rv, RV] at h
      obtain ⟨a, vs, rfl, t, r⟩ := h
      exact ⟨a, vs, rfl, .inl ⟨.inl t.1, fun hz => PostI.ret p rp (wk_enumL hK hz rp t.1 (fun z => t.2 (rp.shN a z)) (fun z => t.2 (rp.ownN a z)) (.inl t.2) r)⟩⟩
    · exact ⟨a, vs, rfl, .inl ⟨.inl h, fun hz => PostI.ret p rp (wk_enumL hK hz rp h ns no (.inr nb) r)⟩⟩
  | tup m =>
    cases e
    rcases h with h | ⟨a, _, _, _, _, h⟩
    · rw [Cg.rv, RV] at h
      obtain ⟨a, vs, rfl, t, r⟩ := h
      exact ⟨a, vs, rfl, .inr ⟨hK ▸ t.sq, fun hz => PostI.ret p rp (wk_enumT hK hz rp t r)⟩⟩
    · exact h.elim
  | _ => cases e
variable {e : Expr} {p pos tpos : Pos} {elts : List Expr} {kk : Nat} {ra : AE → R D}
theorem map_ofS {o : Option (List D)} {f : List D → List D} {ρ' : AE} {Q : It → Hp → Prop} (p : PostI G W sh N ρ σ H (ofS (o.map f) ρ') Q) : ∃ l, o = some l ∧ PostI G W sh N ρ σ H (.ok (f l) ρ') Q := by
  cases o with
  | none => exact p.elim
  | some d => exact ⟨d, rfl, p⟩
theorem pi_enumA (hK : X.K = G.K) (hg : Gl X "enumerate") (hm : X.mg "enumerate" = none) (he : PE X e (tEv G W G.rv ra)) (hs : isStar e = false) : PI X (.Tuple elts kk tpos) (.Call (.Name "enumerate" p) [e] [] pos) (tEvI G W (rEn ra)) :=
  PI.imp (pi_enumG hg hm (pa_consV he pa_nilV (star_of hs)) (by rw [star_of hs]; rfl)) fun σ H Q t => by
    obtain ⟨sh, N, ρ, rp, p⟩ := t
    refine tEvIter (Q := Q) (rel := G.rvs) (r := rCons ra rNil) (f := fun ds ρ1 => match ds with
      | [d] => ofS ((seqE d).map enumD) ρ1
      | _ => .bad) rp ?_ fun ds ρ1 sh1 N1 xs H1 e1 rp1 k1 hx p1 => ?_
    · have : ((rCons ra rNil ρ).bind fun ds ρ1 => match ds with
        | [d] => ofS ((seqE d).map enumD) ρ1
        | _ => .bad) = rEn ra ρ := by
        unfold rCons rNil rEn
        cases ra ρ <;> rfl
      rw [this]; exact p
    · match ds, p1, hx with
      | [d], p1, hx =>
        obtain ⟨v, r, rfl, hv, h2⟩ := RVs.inv hx
        rw [RVs.nil_iff.mp h2]
        obtain ⟨l, e2, p2⟩ := map_ofS p1
        exact enV hK rp1 (.inl hv) e2 p2
      | [], p1, hx => exact p1.elim
      | _ :: _ :: _, p1, hx => exact p1.elim
theorem pi_enumNA (hK : X.K = G.K) (hg : Gl X "enumerate") (hm : X.mg "enumerate" = none) {i : Nat} {x : Str} {xp : Pos} (hN : X.N[i]? = some x) (hv : Vis X.env.scope x) (hd : (x == ("__debug__" : Str)) = false) (hcd : (x == ("__classdict__" : Str)) = false) :
    PI X (.Tuple elts kk tpos) (.Call (.Name "enumerate" p) [.Name x xp] [] pos) (tEvI G W (rEn (rVarL i))) :=
  PI.imp (pi_enumG hg hm (pa_cons (pe_var (i := i) hN hv hd hcd) pa_nil) rfl) fun σ H Q t => by
    obtain ⟨sh, N, ρ, rp, p⟩ := t
    cases q : ρ.sl[i]? with
    | none => rw [rEn, rVarL, q] at p; exact p.elim
    | some sl =>
      cases sl with
      | none => rw [rEn, rVarL, q] at p; exact p.elim
      | val d =>
        rw [rEn, rVarL, q] at p
        obtain ⟨l, e1, p2⟩ := map_ofS (show PostI G W sh N ρ σ H (ofS ((seqE d).map enumD) ρ) Q from p)
        obtain ⟨v, h1, h2⟩ := rp.val i d q
        exact ⟨v, h1, enV hK rp (.inl h2) e1 p2⟩
      | own d =>
        rw [rEn, rVarL, q] at p
        obtain ⟨l, e1, p2⟩ := map_ofS (show PostI G W sh N ρ σ H (ofS ((seqE d).map enumD) (setS ρ i (.bor d))) Q from p)
        obtain ⟨r2, k2, a, h1, ns, no, hb⟩ := rp.lend q
        exact ⟨_, h1, enV hK r2 (.inr ⟨a, rfl, ns, no, ⟨i, d, Rp.lent q, h1⟩, hb⟩) e1 (PostI.kp k2 p2)⟩
      | bor d =>
        rw [rEn, rVarL, q] at p
        obtain ⟨l, e1, p2⟩ := map_ofS (show PostI G W sh N ρ σ H (ofS ((seqE d).map enumD) ρ) Q from p)
        obtain ⟨a, h1, hN', ns, hb⟩ := rp.bor i d q
        refine ⟨_, h1, enV hK rp (.inr ⟨a, rfl, ns, fun ⟨j, f, g1, g2⟩ => ?_, ⟨i, d, q, h1⟩, hb.bor⟩) e1 p2⟩
        have := rp.dis j i _ _ a g1 q rfl rfl g2 h1
        subst this
        rw [q] at g1; cases g1
/-! ### zip -/
def zipD (l m : List D) : List D := (l.zip m).map fun p => .tup [p.1, p.2]
theorem zipD_get {l m : List D} {i : Nat} {e : D} (h : (zipD l m)[i]? = some e) : ∃ d f, l[i]? = some d ∧ m[i]? = some f ∧ e = .tup [d, f] := by
  unfold zipD at h
  rw [List.getElem?_map, Option.map_eq_some_iff] at h
  obtain ⟨p, h1, rfl⟩ := h
  rw [List.getElem?_zip_eq_some] at h1
  exact ⟨_, _, h1.1, h1.2, rfl⟩
theorem rv_pair2 {N2 : Addr → Prop} {sh2 : List Addr} {H2 : Hp} {T : Addr} {d f : D} {v w : V} (hd : ∀ a, N2 a → ∃ o, H2 a = some o) (hT : H2 T = none) (hv : G.rv H2 N2 sh2 d v) (hw : G.rv H2 N2 sh2 f w) :
    (∀ a o, H2 a = some o → upd H2 T (.tup [v, w]) a = some o) ∧ G.rv (upd H2 T (.tup [v, w])) N2 sh2 (.tup [d, f]) (.ref T) :=
  ⟨grows hT, rv_newtup hT (fun z => by obtain ⟨o, e⟩ := hd T z; rw [hT] at e; cases e) (.cons hv (.cons hw .nil))⟩
theorem wk_zipL (hK : X.K = G.K) {l m : List D} {a b : Addr} {vs us : List V} (hz : l.length ≤ many) (rp : G.rp sh N ρ σ H) (h : LstAt H N a vs) (h' : LstAt H N b us) (r : G.rvs H N sh l vs) (r' : G.rvs H N sh m us) : Wk G (Itz X.K a b) (zipD l m) (OwnS ρ σ) sh N H := by
  refine ⟨by simp only [zipD, List.length_map, List.length_zip]; exact Nat.le_trans (Nat.min_le_left _ _) (Nat.le_trans hz (by rw [sizeLine_eq]; decide)), ?_⟩
  intro M O2 sh2 N2 H2 hM k hd i
  have h2 := kp_rd k h.1 (fun z => h.2 (rp.shN _ z)) (fun z => h.2 (Wk.mN rp hM _ z))
  have h3 := kp_rd k h'.1 (fun z => h'.2 (rp.shN _ z)) (fun z => h'.2 (Wk.mN rp hM _ z))
  have r2 : G.rvs H2 N2 sh2 l vs := RVs.mono r k (Wk.mN rp hM) rp.shN
  have r3 : G.rvs H2 N2 sh2 m us := RVs.mono r' k (Wk.mN rp hM) rp.shN
  refine ⟨fun d e => ?_, fun hl => ⟨vs, us, .inl h2, .inl h3, ?_⟩⟩
  · obtain ⟨d0, f0, e0, e0', rfl⟩ := zipD_get e
    obtain ⟨v, e1, hv⟩ := RVs.get r2 e0
    obtain ⟨u, e2, hu⟩ := RVs.get r3 e0'
    refine ⟨⟨vs, us, v, u, .inl h2, .inl h3, e1, e2⟩, fun x H3 y => ?_⟩
    obtain ⟨T, x', y', rfl, hT, rfl, y1, y2⟩ := y
    have q1 := y1 vs (.inl h2)
    have q2 := y2 us (.inl h3)
    rw [e1] at q1; cases q1
    rw [e2] at q2; cases q2
    exact rv_pair2 hd hT hv hu
  · rw [← RVs.length r2, ← RVs.length r3]
    simp only [zipD, List.length_map, List.length_zip] at hl
    omega
theorem wk_zipT (hK : X.K = G.K) {l m : List D} {a b : Addr} {vs us : List V} (hz : l.length ≤ many) (rp : G.rp sh N ρ σ H) (h : TupAt G.K H N a vs) (h' : TupAt G.K H N b us) (r : G.rvs H N sh l vs) (r' : G.rvs H N sh m us) : Wk G (RZ.ItzT X.K a b) (zipD l m) (OwnS ρ σ) sh N H := by
  refine ⟨by simp only [zipD, List.length_map, List.length_zip]; exact Nat.le_trans (Nat.min_le_left _ _) (Nat.le_trans hz (by rw [sizeLine_eq]; decide)), ?_⟩
  intro M O2 sh2 N2 H2 hM k hd i
  have tt : ∀ {a : Addr} {vs : List V}, TupAt G.K H N a vs → SqT X.K H2 a vs := fun {a vs} h => by
    rw [hK]
    rcases h with ⟨h, n⟩ | h
    · exact .inl (kp_rd k h (fun z => n (rp.shN a z)) fun z => n (Wk.mN rp hM a z))
    · exact .inr h
  have h2 := tt h
  have h3 := tt h'
  have r2 : G.rvs H2 N2 sh2 l vs := RVs.mono r k (Wk.mN rp hM) rp.shN
  have r3 : G.rvs H2 N2 sh2 m us := RVs.mono r' k (Wk.mN rp hM) rp.shN
  refine ⟨fun d e => ?_, fun hl => ⟨vs, us, h2, h3, ?_⟩⟩
  · obtain ⟨d0, f0, e0, e0', rfl⟩ := zipD_get e
    obtain ⟨v, e1, hv⟩ := RVs.get r2 e0
    obtain ⟨u, e2, hu⟩ := RVs.get r3 e0'
    refine ⟨⟨vs, us, v, u, h2, h3, e1, e2⟩, fun x H3 y => ?_⟩
    obtain ⟨T, x', y', rfl, hT, rfl, y1, y2⟩ := y
    have q1 := y1 vs h2
    have q2 := y2 us h3
    rw [e1] at q1; cases q1
    rw [e2] at q2; cases q2
    exact rv_pair2 hd hT hv hu
  · rw [← RVs.length r2, ← RVs.length r3]
    simp only [zipD, List.length_map, List.length_zip] at hl
    omega
def zip2 : D → D → Option (List D)
  | .lst l, .lst m => if l.length ≤ many then some (zipD l m) else none
  | .tup l, .tup m => if l.length ≤ many then some (zipD l m) else none
  | _, _ => none
def rZip (ra rb : AE → R D) : AE → R (List D) := fun ρ => (rCons ra (rCons rb rNil) ρ).bind fun ds ρ1 => match ds with
  | [d, f] => ofS (zip2 d f) ρ1
  | _ => .bad
theorem pi_zipAA {e2 : Expr} {rb : AE → R D} (hK : X.K = G.K) (hg : Gl X "zip") (hm : X.mg "zip" = none) (he : PE X e (tEv G W G.rv ra)) (he2 : PE X e2 (tEv G W G.rv rb)) (hs : isStar e = false) (hs2 : isStar e2 = false) :
    PI X (.Tuple elts kk tpos) (.Call (.Name "zip" p) [e, e2] [] pos) (tEvI G W (rZip ra rb)) :=
  PI.imp (RZ.pi_zipA hg hm (pa_consV he (pa_consV he2 pa_nilV (star_of hs2)) (star_of hs)) (star_of hs) (by rw [star_of hs2]; rfl)) fun σ H Q t => by
    obtain ⟨sh, N, ρ, rp, p⟩ := t
    refine tEvIter (Q := Q) (rel := G.rvs) (r := rCons ra (rCons rb rNil)) (f := fun ds ρ1 => match ds with
      | [d, f] => ofS (zip2 d f) ρ1
      | _ => .bad) rp p fun ds ρ1 sh1 N1 xs H1 e1 rp1 k1 hx p1 => ?_
    match ds, p1, hx with
    | [d, f], p1, hx =>
      obtain ⟨v, r, rfl, hv, h2⟩ := RVs.inv hx
      obtain ⟨u, r, rfl, hu, h2⟩ := RVs.inv h2
      rw [RVs.nil_iff.mp h2]
      obtain ⟨l, e2, p2⟩ := post_ofS p1
      cases d with
      | lst l =>
        cases f with
        | lst m =>
          simp only [zip2] at e2
          obtain ⟨hz, e2⟩ := ite_some e2
          subst e2
          simp only [Cg.rv, RV] at hv hu
          obtain ⟨a, vs, rfl, t, r⟩ := hv
          obtain ⟨b, us, rfl, t', r'⟩ := hu
          exact ⟨a, b, vs, us, rfl, .inl ⟨.inl t.1, .inl t'.1, PostI.ret p2 rp1 (wk_zipL hK hz rp1 t t' r r')⟩⟩
        | _ => cases e2
      | tup l =>
        cases f with
        | tup m =>
          simp only [zip2] at e2
          obtain ⟨hz, e2⟩ := ite_some e2
          subst e2
          simp only [Cg.rv, RV] at hv hu
          obtain ⟨a, vs, rfl, t, r⟩ := hv
          obtain ⟨b, us, rfl, t', r'⟩ := hu
          exact ⟨a, b, vs, us, rfl, .inr ⟨hK ▸ t.sq, hK ▸ t'.sq, PostI.ret p2 rp1 (wk_zipT hK hz rp1 t t' r r')⟩⟩
        | _ => cases e2
      | _ => cases e2
    | [], p1, hx => exact p1.elim
    | [_], p1, hx => exact p1.elim
    | _ :: _ :: _ :: _, p1, hx => exact p1.elim
end
end Mi

namespace Mi
open PySem PySem.Spec PyProof.Rows L2
/-! ### comprehensions of two clauses -/
def comp2L (g : D → AE → R Unit) (t : AE → R Bool) (it1 : AE → R (List D)) (g1 : D → AE → R Unit) (t1 : AE → R Bool) (re : AE → R D) (vs vs1 : List Nat) : Nat → List D → AE → R (List D)
  | _, [], ρ => .ok [] ρ
  | n, d :: ds, ρ => match g d ρ with
    | .ok _ ρ1 => (noX (t ρ1)).bind fun c ρ2 => if c = true then (noX (it1 ρ2)).bind fun l1 ρ3 => if okV vs1 ρ3 = true ∧ n + l1.length ≤ many then (compL g1 t1 re vs1 l1 (wipeA vs1 ρ3)).bind fun ys ρ4 =>
        (comp2L g t it1 g1 t1 re vs vs1 (n + ys.length) ds (wipeA vs ρ4)).bind fun zs ρ5 => .ok (ys ++ zs) ρ5 else .bad else comp2L g t it1 g1 t1 re vs vs1 n ds (wipeA vs ρ2)
    | _ => .bad
def rComp2 (bi : Option Nat) (it : AE → R (List D)) (vs vs1 : List Nat) (g : D → AE → R Unit) (t : AE → R Bool) (it1 : AE → R (List D)) (g1 : D → AE → R Unit) (t1 : AE → R Bool) (re : AE → R D) : AE → R D := fun ρ => (it ρ).bind fun l ρ1 =>
  if okV vs ρ1 = true then (comp2L g t it1 g1 t1 re vs vs1 0 l (wipeA vs ρ1)).bind fun ys ρ2 => .ok (.lst ys) (unl bi ρ ρ1 (restA vs ρ1 ρ2)) else .bad
section
variable {G : Cg} {W : WX} {sh sh1 sh2 : List Addr} {N N1 N2 : Addr → Prop} {ρ ρ1 ρ2 : AE} {σ σ2 : Sg} {H H1 H2 : Hp}
variable {X : Cx} {elt tg iter : Expr} {ifs : List Expr} {it it1 : AE → R (List D)} {g g1 : D → AE → R Unit} {rt rt1 : AE → R Bool} {re : AE → R D} {tgr tgr1 : TG} {tt : TT} {te : TE} {ts ts1 vs vs1 : List Nat}
/-- the slots of a block are forgotten -/
theorem CSt.wp {D : Addr} {sx : List Addr} {Nx : Addr → Prop} {ρx : AE} {σ3 σt : Sg} {Hx : Hp} (hsub : ∀ j ∈ vs1, j ∈ vs) (ws : wipe σ3 vs1 = σt) (c : CSt G ρ1 σ vs sh1 N1 H1 D sx Nx ρx σ3 Hx) : CSt G ρ1 σ vs sh1 N1 H1 D sx Nx (wipeA vs1 ρx) σt Hx := by
  subst ws
  have oo : ∀ a, OwnS (wipeA vs1 ρx) (wipe σ3 vs1) a → OwnS ρx σ3 a := fun a z => OwnS.wipe z
  have bb : ∀ i a, (OwnS (wipeA vs1 ρx) (wipe σ3 vs1)).b i a → (OwnS ρx σ3).b i a := fun i a z => BorS.wipe z
  refine ⟨c.rp.wipe (vs := vs1), ⟨c.kp.keep, c.kp.shn, c.kp.av, fun a o e n z => c.kp.own a o e n (oo a z), c.kp.pre, c.kp.there, fun i a b => ?_, c.kp.st, fun a o e n h i z => c.kp.mt a o e n h i (bb i a z)⟩, c.nd, fun z => c.no (oo D z), fun i z => c.nb i (bb i D z), c.ns, c.al⟩
  obtain ⟨d, g1, g2⟩ := c.kp.bo i a b
  obtain ⟨d0, g0, _⟩ := b
  have n : i ∉ vs1 := fun z => by
    rcases getW g0 with ⟨n, _⟩ | ⟨_, q⟩
    · exact n (hsub i z)
    · cases q
  exact ⟨d, by show (wipeL vs1 ρx.sl)[i]? = _; rw [wipeL_out n]; exact g1, by rw [wipe_out' n]; exact g2⟩
/-- the list grows -/
theorem CSt.app {D : Addr} {sh5 : List Addr} {N5 : Addr → Prop} {ρ5 : AE} {σ3 : Sg} {H5 : Hp} {l : List V} (cs5 : CSt G ρ1 σ vs sh1 N1 H1 D sh5 N5 ρ5 σ3 H5) : CSt G ρ1 σ vs sh1 N1 H1 D sh5 N5 ρ5 σ3 (upd H5 D (.lst l)) ∧
    (∀ b u, Rd H5 b u → ¬ N5 b → Rd (upd H5 D (.lst l)) b u ∧ ¬ N5 b) ∧ Kp ⟨(· = D), fun _ _ => False⟩ (OwnS ρ5 σ3) (OwnS ρ5 σ3) sh5 sh5 N5 N5 H5 (upd H5 D (.lst l)) := by
  have nD5 := cs5.nd
  have up : ∀ b, b ≠ D → upd H5 D (.lst l) b = H5 b := fun b h => upd_ne h
  have hk : ∀ b u, Rd H5 b u → ¬ N5 b → Rd (upd H5 D (.lst l)) b u ∧ ¬ N5 b := fun b u r n => by
    have h : b ≠ D := fun z => n (z ▸ nD5)
    refine ⟨?_, n⟩
    rcases r with r | ⟨q, r⟩
    · exact .inl ((up b h).trans r)
    · exact .inr ⟨q, (up b h).trans r⟩
  have hs : ∀ (n : Nat) (b : Addr), sh5[n]? = some b → sh5[n]? = some b := fun _ _ e => e
  have al : ∀ b o, H5 b = some o → ∃ o', upd H5 D (.lst l) b = some o' := fun b o e => by
    by_cases h : b = D
    · exact ⟨_, by rw [h]; exact upd_same⟩
    · exact ⟨o, (up b h).trans e⟩
  have rp5 := cs5.rp
  have rp6 : G.rp sh5 N5 ρ5 σ3 (upd H5 D (.lst l)) := by
    refine ⟨rp5.len, fun j e g => ?_, fun j e g => ?_, fun j e g => ?_, rp5.dis, fun a z => ?_, rp5.nd, rp5.shN, rp5.shl, fun n ob a e1 e2 => ?_⟩
    · obtain ⟨v, q1, q2⟩ := rp5.val j e g
      exact ⟨v, q1, RV.mono' hk hs _ _ q2⟩
    · obtain ⟨a, q1, q2, q3, q4⟩ := rp5.own j e g
      have h : a ≠ D := fun z => cs5.no (z ▸ ⟨j, e, g, q1⟩)
      exact ⟨a, q1, q2, q3, OwnAt.mono hk hs (fun o z => (up a h).trans z) q4⟩
    · obtain ⟨a, q1, q2, q3, q4⟩ := rp5.bor j e g
      have h : a ≠ D := fun z => cs5.nb j (z ▸ ⟨e, g, q1⟩)
      exact ⟨a, q1, q2, q3, OwnAt.mono hk hs (fun o z => (up a h).trans z) q4⟩
    · obtain ⟨o, e⟩ := rp5.dom a z
      exact al a o e
    · have h : a ≠ D := fun z => cs5.ns (by rw [← z]; exact List.mem_of_getElem? e2)
      exact ObAt.mono hk hs (fun o z => (up a h).trans z) (rp5.obs n ob a e1 e2)
  refine ⟨⟨rp6, ⟨fun a o e n z => by rw [up a z]; exact cs5.kp.keep a o e n z, cs5.kp.shn, cs5.kp.av, cs5.kp.own, cs5.kp.pre, fun a o e => ?_, cs5.kp.bo, cs5.kp.st, cs5.kp.mt⟩, cs5.nd, cs5.no, cs5.nb, cs5.ns, ⟨_, upd_same⟩⟩, hk,
    ⟨fun a o e _ z => (up a z).trans e, fun _ _ _ n => n, fun _ _ _ n => n, fun _ _ _ n => n, List.prefix_rfl, al, fun _ _ z => z, fun _ _ _ n _ => n, fun _ _ _ _ z => z⟩⟩
  obtain ⟨o', e'⟩ := cs5.kp.there a o e
  exact al a o' e'
/-- what was walked stays, behind the block's wipe -/
theorem Kp.wp {M O : Ow} {sx sy : List Addr} {Nx Ny : Addr → Prop} {ρ3 ρx : AE} {σ2 σ3 : Sg} {Hx Hy : Hp} (hv : okV vs1 ρ3 = true) (k : Kp M (OwnS ρ3 σ2) (OwnS ρx σ3) sx sy Nx Ny Hx Hy) : Kp M (OwnS ρ3 σ2) (OwnS (wipeA vs1 ρx) (L2.wipe σ3 vs1)) sx sy Nx Ny Hx Hy := by
  refine ⟨k.keep, k.shn, k.av, fun a o e n z => k.own a o e n (OwnS.wipe z), k.pre, k.there, fun i a b => ?_, k.st, fun a o e n h i z => k.mt a o e n h i (BorS.wipe z)⟩
  obtain ⟨d, g1, g2⟩ := k.bo i a b
  obtain ⟨d0, g0, _⟩ := b
  have n : i ∉ vs1 := fun z => by have := okV_at hv z g0; cases this
  exact ⟨d, by show (wipeL vs1 ρx.sl)[i]? = _; rw [wipeL_out n]; exact g1, by rw [wipe_out' n]; exact g2⟩
theorem readInner {Q : VK} {Df : Addr} {sh' : List Addr} {N' : Addr → Prop} {ρ3 : AE} {H' : Hp} {J1 : It} {l1 done : List D} {acc : List V} {F : List D → AE → R D} {Nx : Hp → Prop} (hg1 : TgRd G tgr1 ts1 g1) (hts1 : ∀ j ∈ ts1, j ∈ vs1) (hsub : ∀ j ∈ vs1, j ∈ vs)
    (cs : CSt G ρ1 σ vs sh1 N1 H1 Df sh' N' ρ3 σ2 H') (hacc : H' Df = some (.lst acc)) (hdone : G.rvs H' N' sh' done acc) (hv1 : okV vs1 ρ3 = true) (hsz : done.length + l1.length ≤ many) (wk : Wk G J1 l1 (OwnS ρ3 σ2) sh' N' H')
    (p : PostF G W sh N ρ σ H ((compL g1 rt1 re vs1 l1 (wipeA vs1 ρ3)).bind fun ys ρ4 => F (done ++ ys) ρ4) Q)
    (K : ∀ sx Nz ρx done' acc' Hx, CSt G ρ1 σ vs sh1 N1 H1 Df sx Nz ρx (wipe σ2 vs1) Hx → Hx Df = some (.lst acc') → G.rvs Hx Nz sx done' acc' → PostF G W sh N ρ σ H (F done' ρx) Q → Nx Hx) :
    ∃ W1 : Nat → Nat → Hp → Prop, (∃ m, W1 0 m H') ∧ ∀ j k H, W1 j k H →
      (J1.stop j H ∧ Nx H) ∨ (J1.go j H ∧ ∃ Nx1 : Hp → Prop, (∀ H', Nx1 H' → ∃ k', k' < k ∧ W1 (j + 1) k' H') ∧ ∀ x H', J1.yld j H x H' → tgr1 x (wipe σ2 vs1) H' fun σ3 H5 => wipe σ3 vs1 = wipe σ2 vs1 ∧ (tEv G W0 rl rt1) σ3 H5 fun b H6 =>
        if b = true then (tEv G W0 G.rv re) σ3 H6 fun y H7 => ∃ acc, H7 Df = some (.lst acc) ∧ acc.length < sizeLine ∧ Nx1 (upd H7 Df (.lst (acc ++ [y]))) else Nx1 H6) := by
  refine ⟨fun j m Hx => m = l1.length - j ∧ j ≤ l1.length ∧ ∃ sx Nx' ρ' done' acc', CSt G ρ1 σ vs sh1 N1 H1 Df sx Nx' ρ' (wipe σ2 vs1) Hx ∧ Kp ⟨(· = Df), fun _ _ => False⟩ (OwnS ρ3 σ2) (OwnS ρ' (wipe σ2 vs1)) sh' sx N' Nx' H' Hx ∧ Hx Df = some (.lst acc') ∧ G.rvs Hx Nx' sx done' acc' ∧ done'.length ≤ done.length + j ∧
    PostF G W sh N ρ σ H ((compL g1 rt1 re vs1 (l1.drop j) ρ').bind fun ys ρ4 => F (done' ++ ys) ρ4) Q, ⟨l1.length, by simp, Nat.zero_le _, sh', N', wipeA vs1 ρ3, done, acc, cs.wp hsub rfl, (Kp.wp (O := none1) hv1 .refl), hacc, hdone, Nat.le_refl _, by simpa using p⟩, ?_⟩
  rintro j m Hx ⟨rfl, hle, sx, Ny, ρ', done', acc', cs', kk, hacc', hdone', hlen, p2⟩
  obtain ⟨w1, w2⟩ := wk.2 _ _ _ _ _ (fun a z => by
    cases (show a = Df from z)
    exact .inr ⟨cs.nd, cs.nb⟩) kk cs'.rp.dom j
  by_cases hlt : j < l1.length
  · have ed : l1.drop j = l1[j] :: l1.drop (j + 1) := List.drop_eq_getElem_cons hlt
    rw [ed] at p2
    obtain ⟨hgo, hy⟩ := w1 l1[j] (List.getElem?_eq_getElem hlt)
    refine .inr ⟨hgo, fun H3 => j + 1 ≤ l1.length ∧ ∃ sx Nx' ρ' done' acc', CSt G ρ1 σ vs sh1 N1 H1 Df sx Nx' ρ' (wipe σ2 vs1) H3 ∧ Kp ⟨(· = Df), fun _ _ => False⟩ (OwnS ρ3 σ2) (OwnS ρ' (wipe σ2 vs1)) sh' sx N' Nx' H' H3 ∧ H3 Df = some (.lst acc') ∧ G.rvs H3 Nx' sx done' acc' ∧ done'.length ≤ done.length + (j + 1) ∧
      PostF G W sh N ρ σ H ((compL g1 rt1 re vs1 (l1.drop (j + 1)) ρ').bind fun ys ρ4 => F (done' ++ ys) ρ4) Q, fun H3 h3 => ⟨l1.length - (j + 1), by omega, rfl, h3⟩, fun x H2 hx => ?_⟩
    obtain ⟨hgr, hvx⟩ := hy x H2 hx
    have rp2 : G.rp sx Ny ρ' (wipe σ2 vs1) H2 := cs'.rp.grow hgr (fun _ z => z) (fun _ z => .inl z) fun a z => by obtain ⟨o, e⟩ := cs'.rp.dom a z; exact ⟨o, hgr a o e⟩
    have kg : Kp none1 (OwnS ρ' (wipe σ2 vs1)) (OwnS ρ' (wipe σ2 vs1)) sx sx Ny Ny Hx H2 := ⟨fun a o e _ _ => hgr a o e, fun _ _ _ n => n, fun _ _ _ n => n, fun _ _ _ n => n, List.prefix_rfl, fun a o e => ⟨o, hgr a o e⟩, fun _ _ z => z, fun _ _ _ n _ => n, fun _ _ _ _ z => z⟩
    have cs2 := cs'.step (M := none1) rp2 kg
    refine hg1 l1[j] x sx Ny ρ' (wipe σ2 vs1) H2 _ rp2 hvx ?_
    have p3 : PostF G W sh N ρ σ H ((match g1 l1[j] ρ' with
      | .ok _ ρ1 => (noX (rt1 ρ1)).bind fun c ρ2 => if c = true then (noX (re ρ2)).bind fun y ρ3 => (compL g1 rt1 re vs1 (l1.drop (j + 1)) (wipeA vs1 ρ3)).bind fun ys ρ4 => .ok (y :: ys) ρ4 else compL g1 rt1 re vs1 (l1.drop (j + 1)) (wipeA vs1 ρ2)
      | _ => .bad : R (List Mi.D)).bind fun ys ρ4 => F (done' ++ ys) ρ4) Q := p2
    revert p3
    cases g1 l1[j] ρ' with
    | ok u ρ5 =>
      intro p3 σ3 rp3 k3 o3
      have p3' : PostF G W sh N ρ σ H (((noX (rt1 ρ5)).bind fun c ρ2 => if c = true then (noX (re ρ2)).bind fun y ρ3 => (compL g1 rt1 re vs1 (l1.drop (j + 1)) (wipeA vs1 ρ3)).bind fun ys ρ4 => .ok (y :: ys) ρ4 else compL g1 rt1 re vs1 (l1.drop (j + 1)) (wipeA vs1 ρ2)).bind fun ys ρ4 => F (done' ++ ys) ρ4) Q := p3
      rw [bind_bind] at p3'
      have ws : wipe σ3 vs1 = wipe σ2 vs1 := by rw [wipe_same o3 hts1, wipe_wipe]
      have cs3 := cs2.step (M := none1) rp3 k3
      have kk3 := (kk.transM (kg.weak fun _ z => z.elim)).transM (k3.weak fun _ z => z.elim)
      refine ⟨ws, sx, Ny, ρ5, rp3, Post.noX (rel := rl) p3' fun c ρ6 sh4 N4 b H4 _ rp4 k4 hb p4 => ?_⟩
      cases hb
      have cs4 := cs3.step (M := none1) rp4 k4
      have kk4 := kk3.transM (k4.weak fun _ z => z.elim)
      have hacc4 : H4 Df = some (.lst acc') := k4.keep Df _ (hgr Df _ hacc') cs3.ns id
      have kall := (kg.trans k3).trans k4
      have hdone4 : G.rvs H4 N4 sh4 done' acc' := RVs.mono hdone' kall (fun _ z => z.elim) cs'.rp.shN
      cases c with
      | false =>
        refine ⟨hlt, sh4, N4, _, done', acc', cs4.wp hsub ws, ?_, hacc4, hdone4, by omega, p4⟩
        rw [← ws]; exact Kp.wp (O := none1) hv1 kk4
      | true =>
        have p4' : PostF G W sh N ρ σ H (((noX (re ρ6)).bind fun y ρ3 => (compL g1 rt1 re vs1 (l1.drop (j + 1)) (wipeA vs1 ρ3)).bind fun ys ρ4 => .ok (y :: ys) ρ4).bind fun ys ρ4 => F (done' ++ ys) ρ4) Q := p4
        rw [bind_bind] at p4'
        refine ⟨sh4, N4, ρ6, rp4, Post.noX (rel := G.rv) p4' fun y ρ7 sh5 N5 v H5 _ rp5 k5 hyv p5 => ?_⟩
        rw [bind_bind] at p5
        have cs5 := cs4.step (M := none1) rp5 k5
        have kk5 := kk4.transM (k5.weak fun _ z => z.elim)
        have hacc5 : H5 Df = some (.lst acc') := k5.keep Df _ hacc4 cs4.ns id
        have hdone5 : G.rvs H5 N5 sh5 done' acc' := RVs.mono hdone4 k5 (fun _ z => z.elim) rp4.shN
        obtain ⟨cs6, hk6, kp6⟩ := cs5.app (l := acc' ++ [v])
        refine ⟨acc', hacc5, ?_, hlt, sh5, N5, wipeA vs1 ρ7, done' ++ [y], acc' ++ [v], cs6.wp hsub ws, ?_, upd_same, ?_, by simp; omega, ?_⟩
        · have h1 := RVs.length hdone5
          exact many_lt (by omega)
        · rw [← ws]; exact Kp.wp (O := none1) hv1 (kk5.transM kp6)
        · exact RVs.append (RVs.mono' hk6 (fun _ _ e => e) _ _ hdone5) (.cons (RV.mono' hk6 (fun _ _ e => e) _ _ hyv) .nil)
        · have p5' : PostF G W sh N ρ σ H ((compL g1 rt1 re vs1 (l1.drop (j + 1)) (wipeA vs1 ρ7)).bind fun ys ρ4 => F (done' ++ (y :: ys)) ρ4) Q := p5
          have e2 : (fun (ys : List Mi.D) (ρ4 : AE) => F (done' ++ (y :: ys)) ρ4) = fun ys ρ4 => F ((done' ++ [y]) ++ ys) ρ4 := by
            funext ys ρ4; simp
          rw [e2] at p5'
          exact p5'
    | exc _ _ _ => exact fun z => z.elim
    | bad => exact fun z => z.elim
  · have e : j = l1.length := by omega
    subst e
    rw [List.drop_length] at p2
    have p3 : PostF G W sh N ρ σ H (F (done' ++ []) ρ') Q := p2
    rw [List.append_nil] at p3
    exact .inl ⟨w2 (Nat.le_refl _), K _ _ _ _ _ _ cs' hacc' hdone' p3⟩
/-- the end: D is the new list -/
theorem compEnd {bi : Option Nat} {Q : VK} {D : Addr} {sh' : List Addr} {N' : Addr → Prop} {ρ' : AE} {H' : Hp} {done : List Mi.D} {acc : List V} (rp : G.rp sh N ρ σ H) (rp1 : G.rp sh1 N1 ρ1 σ H1) (k1 : Kp none1 (OwnS ρ σ) (OwnS ρ1 σ) sh sh1 N N1 H H1) (hv : okV vs ρ1 = true) (hD : H1 D = none)
    (cs : CSt G ρ1 σ vs sh1 N1 H1 D sh' N' ρ' (wipe σ vs) H') (hacc : H' D = some (.lst acc)) (hdone : G.rvs H' N' sh' done acc) (p3 : PostF G W sh N ρ σ H (.ok (.lst done) (unl bi ρ ρ1 (restA vs ρ1 ρ'))) Q) : Q (.ref D) H' := by
  have cD := cs.rp.drop cs.no cs.nb cs.ns
  have e1 : ∀ a o, H1 a = some o → upd H1 D (.lst []) a = some o := grows hD
  have ne : ∀ a o, H1 a = some o → a ≠ D := fun a o e z => by rw [z, hD] at e; cases e
  have kD : Kp none1 (OwnS (wipeA vs ρ1) (wipe σ vs)) (OwnS ρ' (wipe σ vs)) sh1 sh' N1 (fun b => N' b ∧ b ≠ D) H1 H' :=
    ⟨fun a o e n _ => cs.kp.keep a o (e1 a o e) n (ne a o e), fun a o e n => cs.kp.shn a o (e1 a o e) n, fun a o e n z => cs.kp.av a o (e1 a o e) (fun z => z.elim n (ne a o e)) z.1,
      fun a o e n => cs.kp.own a o (e1 a o e) n, cs.kp.pre, fun a o e => cs.kp.there a o (e1 a o e), cs.kp.bo,
      fun a o e n no => ⟨cs.kp.st a o (e1 a o e) (.inl n) no, ne a o e⟩, fun a o e n h => cs.kp.mt a o (e1 a o e) n h⟩
  have kD2 : Kp none1 (OwnS (wipeA vs ρ1) (wipe σ vs)) (OwnS ρ' (wipe σ vs)) sh1 sh' N1 N' H1 H' :=
    ⟨fun a o e n _ => cs.kp.keep a o (e1 a o e) n (ne a o e), fun a o e n => cs.kp.shn a o (e1 a o e) n, fun a o e n => cs.kp.av a o (e1 a o e) (fun z => z.elim n (ne a o e)),
      fun a o e n => cs.kp.own a o (e1 a o e) n, cs.kp.pre, fun a o e => cs.kp.there a o (e1 a o e), cs.kp.bo,
      fun a o e n no => cs.kp.st a o (e1 a o e) (.inl n) no, fun a o e n h => cs.kp.mt a o (e1 a o e) n h⟩
  obtain ⟨r6, k6⟩ := Rp.rest hv rp1 cD kD fun _ z => z.elim
  obtain ⟨r7, k7⟩ := Rp.rest hv rp1 cs.rp kD2 fun _ z => z.elim
  obtain ⟨r8, k8⟩ := Rp.back (bi := bi) rp rp1 r6 (k1.trans k6) k6
  obtain ⟨r9, _⟩ := Rp.back (bi := bi) rp rp1 r7 (k1.trans k7) k7
  have hD0 : H D = none := by
    cases q : H D with
    | none => rfl
    | some o => obtain ⟨o', e'⟩ := k1.there D o q; rw [hD] at e'; cases e'
  have eN := prop_ext cs.nd
  exact p3 sh' _ D H' r8 k8 hD0 (by rw [eN]; exact r9) ⟨fun z => z.2 rfl, cs.ns, acc, hacc, by rw [eN]; exact hdone⟩
theorem postINoX {r : AE → R (List D)} {f : List D → AE → R D} {Q : VK} {T : It → Hp → Prop} {ρx : AE} (p : PostF G W sh N ρ σ H ((noX (r ρx)).bind f) Q) {sh' : List Addr} {N' : Addr → Prop} {σ' : Sg} {H' : Hp}
    (k : ∀ d ρ1 sh1 N1 J H1, G.rp sh1 N1 ρ1 σ' H1 → Kp none1 (OwnS ρx σ') (OwnS ρ1 σ') sh' sh1 N' N1 H' H1 → Wk G J d (OwnS ρ1 σ') sh1 N1 H1 → PostF G W sh N ρ σ H (f d ρ1) Q → T J H1) : PostI G W0 sh' N' ρx σ' H' (r ρx) T := by
  cases q : r ρx with
  | ok d ρ1 =>
    rw [q] at p
    intro sh1 N1 H1 J rp1 kp1 hr
    exact k d ρ1 sh1 N1 J H1 rp1 kp1 hr p
  | exc c fs ρ1 => rw [q] at p; exact p.elim
  | bad => rw [q] at p; exact p.elim
theorem readComp2 {bi : Option Nat} {Q : VK} (hg : TgRd G tgr ts g) (hts : ∀ j ∈ ts, j ∈ vs) (hg1 : TgRd G tgr1 ts1 g1) (hts1 : ∀ j ∈ ts1, j ∈ vs1) (hsub : ∀ j ∈ vs1, j ∈ vs)
    (t : tEvF G W (rComp2 bi it vs vs1 g rt it1 g1 rt1 re) σ H Q) : tLc2 (tEvI G W it) tgr (tEv G W0 rl rt) (tEvI G W0 it1) tgr1 (tEv G W0 rl rt1) (tEv G W0 G.rv re) vs vs1 σ H Q := by
  obtain ⟨sh, N, ρ, rp, p⟩ := t
  refine ⟨sh, N, ρ, rp, postFIter (l := it) p fun l ρ1 sh1 N1 J H1 _ rp1 k1 wk p1 => ?_⟩
  obtain ⟨hv, p1⟩ := ifbadF p1
  intro D hD
  have nD : ¬ N1 D := nofree rp1 hD
  have dS : D ∉ sh1 := fun z => nD (rp1.shN _ z)
  refine ⟨fun i m H' => m = l.length - i ∧ i ≤ l.length ∧ ∃ sh' N' ρ' done acc, CSt G ρ1 σ vs sh1 N1 H1 D sh' N' ρ' (wipe σ vs) H' ∧ H' D = some (.lst acc) ∧ G.rvs H' N' sh' done acc ∧
    PostF G W sh N ρ σ H ((comp2L g rt it1 g1 rt1 re vs vs1 done.length (l.drop i) ρ').bind fun ys ρ2 => .ok (.lst (done ++ ys)) (unl bi ρ ρ1 (restA vs ρ1 ρ2))) Q, ⟨l.length, by simp, Nat.zero_le _, sh1, fun b => N1 b ∨ b = D, wipeA vs ρ1, [], [], ?_, upd_same, .nil, by simpa using p1⟩, ?_⟩
  · have r2 : G.rp sh1 (fun b => N1 b ∨ b = D) ρ1 σ (upd H1 D (.lst [])) := rp1.grow (grows hD) (fun _ z => .inl z) (fun b z => z.imp id fun (e : b = D) => by rw [e]; exact hD) fun b z => by
      rcases z with z | rfl
      · obtain ⟨o, e⟩ := rp1.dom b z; exact ⟨o, grows hD b o e⟩
      · exact ⟨_, upd_same⟩
    refine ⟨r2.wipe, .refl, .inr rfl, fun z => ?_, fun i z => ?_, dS, ⟨_, upd_same⟩⟩
    · exact nD (rp1.ownN D (OwnS.wipe z))
    · obtain ⟨d, g1, g2⟩ := BorS.wipe z
      exact nD (rp1.mutN g1 rfl g2)
  rintro i m H' ⟨rfl, hle, sh', N', ρ', done, acc, cs, hacc, hdone, p2⟩
  obtain ⟨w1, w2⟩ := wk.2 none1 _ _ _ _ (fun _ z => z.elim) (cs.walk hv hD) cs.rp.dom i
  by_cases hlt : i < l.length
  · have ed : l.drop i = l[i] :: l.drop (i + 1) := List.drop_eq_getElem_cons hlt
    rw [ed] at p2
    obtain ⟨hgo, hy⟩ := w1 l[i] (List.getElem?_eq_getElem hlt)
    refine .inr ⟨hgo, fun H3 => i + 1 ≤ l.length ∧ ∃ sh' N' ρ' done acc, CSt G ρ1 σ vs sh1 N1 H1 D sh' N' ρ' (wipe σ vs) H3 ∧ H3 D = some (.lst acc) ∧ G.rvs H3 N' sh' done acc ∧
      PostF G W sh N ρ σ H ((comp2L g rt it1 g1 rt1 re vs vs1 done.length (l.drop (i + 1)) ρ').bind fun ys ρ2 => .ok (.lst (done ++ ys)) (unl bi ρ ρ1 (restA vs ρ1 ρ2))) Q, fun H3 h3 => ⟨l.length - (i + 1), by omega, rfl, h3⟩, fun x H2 hx => ?_⟩
    obtain ⟨hgr, hvx⟩ := hy x H2 hx
    have rp2 : G.rp sh' N' ρ' (wipe σ vs) H2 := cs.rp.grow hgr (fun _ z => z) (fun _ z => .inl z) fun a z => by obtain ⟨o, e⟩ := cs.rp.dom a z; exact ⟨o, hgr a o e⟩
    have kg : Kp none1 (OwnS ρ' (wipe σ vs)) (OwnS ρ' (wipe σ vs)) sh' sh' N' N' H' H2 := ⟨fun a o e _ _ => hgr a o e, fun _ _ _ n => n, fun _ _ _ n => n, fun _ _ _ n => n, List.prefix_rfl, fun a o e => ⟨o, hgr a o e⟩, fun _ _ z => z, fun _ _ _ n _ => n, fun _ _ _ _ z => z⟩
    have cs2 := cs.step (M := none1) rp2 kg
    refine hg l[i] x sh' N' ρ' (wipe σ vs) H2 _ rp2 hvx ?_
    have p3 : PostF G W sh N ρ σ H ((match g l[i] ρ' with
      | .ok _ ρ1 => (noX (rt ρ1)).bind fun c ρ2 => if c = true then (noX (it1 ρ2)).bind fun l1 ρ3 => if okV vs1 ρ3 = true ∧ done.length + l1.length ≤ many then (compL g1 rt1 re vs1 l1 (wipeA vs1 ρ3)).bind fun ys ρ4 =>
        (comp2L g rt it1 g1 rt1 re vs vs1 (done.length + ys.length) (l.drop (i + 1)) (wipeA vs ρ4)).bind fun zs ρ5 => .ok (ys ++ zs) ρ5 else .bad else comp2L g rt it1 g1 rt1 re vs vs1 done.length (l.drop (i + 1)) (wipeA vs ρ2)
      | _ => .bad : R (List Mi.D)).bind fun ys ρ2 => .ok (.lst (done ++ ys)) (unl bi ρ ρ1 (restA vs ρ1 ρ2))) Q := p2
    revert p3
    cases g l[i] ρ' with
    | ok u ρ3 =>
      intro p3 σ3 rp3 k3 o3
      have p3' : PostF G W sh N ρ σ H (((noX (rt ρ3)).bind fun c ρ2 => if c = true then (noX (it1 ρ2)).bind fun l1 ρ3 => if okV vs1 ρ3 = true ∧ done.length + l1.length ≤ many then (compL g1 rt1 re vs1 l1 (wipeA vs1 ρ3)).bind fun ys ρ4 =>
        (comp2L g rt it1 g1 rt1 re vs vs1 (done.length + ys.length) (l.drop (i + 1)) (wipeA vs ρ4)).bind fun zs ρ5 => .ok (ys ++ zs) ρ5 else .bad else comp2L g rt it1 g1 rt1 re vs vs1 done.length (l.drop (i + 1)) (wipeA vs ρ2)).bind fun ys ρ2 => .ok (.lst (done ++ ys)) (unl bi ρ ρ1 (restA vs ρ1 ρ2))) Q := p3
      rw [bind_bind] at p3'
      have ws : wipe σ3 vs = wipe σ vs := by rw [wipe_same o3 hts, wipe_wipe]
      have cs3 := cs2.step (M := none1) rp3 k3
      refine ⟨ws, sh', N', ρ3, rp3, Post.noX (rel := rl) p3' fun c ρ4 sh4 N4 b H4 _ rp4 k4 hb p4 => ?_⟩
      cases hb
      have cs4 := cs3.step (M := none1) rp4 k4
      have hacc4 : H4 D = some (.lst acc) := k4.keep D _ (hgr D _ hacc) cs3.ns id
      have kall := (kg.trans k3).trans k4
      have hdone4 : G.rvs H4 N4 sh4 done acc := RVs.mono hdone kall (fun _ z => z.elim) cs.rp.shN
      cases c with
      | false => exact ⟨hlt, sh4, N4, _, done, acc, cs4.wp (fun _ z => z) ws, hacc4, hdone4, p4⟩
      | true =>
        have p4' : PostF G W sh N ρ σ H (((noX (it1 ρ4)).bind fun l1 ρ3 => if okV vs1 ρ3 = true ∧ done.length + l1.length ≤ many then (compL g1 rt1 re vs1 l1 (wipeA vs1 ρ3)).bind fun ys ρ4 =>
          (comp2L g rt it1 g1 rt1 re vs vs1 (done.length + ys.length) (l.drop (i + 1)) (wipeA vs ρ4)).bind fun zs ρ5 => .ok (ys ++ zs) ρ5 else .bad).bind fun ys ρ2 => .ok (.lst (done ++ ys)) (unl bi ρ ρ1 (restA vs ρ1 ρ2))) Q := p4
        rw [bind_bind] at p4'
        refine ⟨sh4, N4, ρ4, rp4, postINoX p4' fun l1 ρ5 sh5 N5 J1 H5 rp5 k5 wk5 p5 => ?_⟩
        rw [show ∀ (c : Prop) [Decidable c] (a : R (List Mi.D)) (f : List Mi.D → AE → R Mi.D), (if c then a else .bad).bind f = if c then a.bind f else .bad from fun c _ a f => by split <;> rfl] at p5
        obtain ⟨⟨hv1, hsz⟩, p5⟩ := ifbadF p5
        rw [bind_bind] at p5
        have cs5 := cs4.step (M := none1) rp5 k5
        have hacc5 : H5 D = some (.lst acc) := k5.keep D _ hacc4 cs4.ns id
        have hdone5 : G.rvs H5 N5 sh5 done acc := RVs.mono hdone4 k5 (fun _ z => z.elim) rp4.shN
        refine readInner (G := G) (W := W) (sh := sh) (N := N) (ρ := ρ) (H := H) (Q := Q) (rt1 := rt1) (re := re) (F := fun zs ρ4 => (comp2L g rt it1 g1 rt1 re vs vs1 zs.length (l.drop (i + 1)) (wipeA vs ρ4)).bind fun ys ρ2 => .ok (.lst (zs ++ ys)) (unl bi ρ ρ1 (restA vs ρ1 ρ2))) hg1 hts1 hsub cs5 hacc5 hdone5 hv1 hsz wk5 ?_ fun sx Nz ρx done' acc' Hx csx hx1 hx2 px => ?_
        · have e2 : (fun (ys : List Mi.D) (ρ4 : AE) => ((comp2L g rt it1 g1 rt1 re vs vs1 (done.length + ys.length) (l.drop (i + 1)) (wipeA vs ρ4)).bind fun zs ρ5 => R.ok (ys ++ zs) ρ5).bind fun ys ρ2 => R.ok (Mi.D.lst (done ++ ys)) (unl bi ρ ρ1 (restA vs ρ1 ρ2))) =
            fun ys ρ4 => (comp2L g rt it1 g1 rt1 re vs vs1 (done ++ ys).length (l.drop (i + 1)) (wipeA vs ρ4)).bind fun zs ρ2 => R.ok (Mi.D.lst ((done ++ ys) ++ zs)) (unl bi ρ ρ1 (restA vs ρ1 ρ2)) := by
            funext ys ρ4
            rw [bind_bind, List.length_append]
            congr 1
            funext zs ρ5
            show R.ok _ _ = R.ok _ _
            rw [List.append_assoc]
          rw [e2] at p5
          exact p5
        · have wsx : wipe (wipe σ3 vs1) vs = wipe σ vs := by
            rw [← ws]
            refine List.ext_getElem? fun j => ?_
            by_cases hj : j ∈ vs
            · by_cases hl : j < σ3.length
              · rw [wipe_in hj (by rw [wipe_length]; exact hl), wipe_in hj hl]
              · rw [List.getElem?_eq_none (by rw [wipe_length, wipe_length]; omega), List.getElem?_eq_none (by rw [wipe_length]; omega)]
            · rw [wipe_out' hj, wipe_out' hj, wipe_out' fun z => hj (hsub j z)]
          exact ⟨hlt, sx, Nz, _, done', acc', csx.wp (fun _ z => z) wsx, hx1, hx2, px⟩
    | exc _ _ _ => exact fun z => z.elim
    | bad => exact fun z => z.elim
  · have e : i = l.length := by omega
    subst e
    rw [List.drop_length] at p2
    refine .inl ⟨w2 (Nat.le_refl _), ?_⟩
    have p3 : PostF G W sh N ρ σ H (.ok (.lst (done ++ [])) (unl bi ρ ρ1 (restA vs ρ1 ρ'))) Q := p2
    rw [List.append_nil] at p3
    exact compEnd rp rp1 k1 hv hD cs hacc hdone p3
end
section
variable {G : Cg} {W : WX} {X : Cx} {elt tg iter tg1 iter1 : Expr} {ifs ifs1 : List Expr} {it it1 : AE → R (List D)} {g g1 : D → AE → R Unit} {rt rt1 : AE → R Bool} {re : AE → R D} {ts ts1 vs1 : List Nat} {scope : Scope} {own : List (Str × Nat)} {pos spos py : Pos} {bi : Option Nat}
theorem pe_comp2A (hc : X.calm = true) (hN : X.N.Nodup) (hi : PI X tg iter (tEvI G W it)) (ok : BlkOk X.N X.env.scope scope own) (hv : ∀ i ∈ vs1, i ∈ own.map (·.2)) (hg : TgAll X G scope tg ts g) (hts : ∀ j ∈ ts, j ∈ own.map (·.2)) (hg1 : TgAll X G scope tg1 ts1 g1) (hts1 : ∀ j ∈ ts1, j ∈ vs1)
    (ht : ∀ (s : Shared) (H : Hp) (C : Addr) (cl : List (Str × Addr)) (fp : List Addr), PTs (X.blk s H scope (compEnvC scope cl C X.env) fp) ifs (tEv G W0 rl rt))
    (hi1 : ∀ (s : Shared) (H : Hp) (C : Addr) (cl : List (Str × Addr)) (fp : List Addr), PI (X.blk s H scope (compEnvC scope cl C X.env) fp) tg1 iter1 (tEvI G W0 it1))
    (ht1 : ∀ (s : Shared) (H : Hp) (C : Addr) (cl : List (Str × Addr)) (fp : List Addr), PTs (X.blk s H scope (compEnvC scope cl C X.env) fp) ifs1 (tEv G W0 rl rt1))
    (he : ∀ (s : Shared) (H : Hp) (C : Addr) (cl : List (Str × Addr)) (fp : List Addr), PE (X.blk s H scope (compEnvC scope cl C X.env) fp) elt (tEv G W0 G.rv re)) (hs : ∀ x, foldedSetIterable iter X.env x = pure x) (hs1 : ∀ env x, foldedSetIterable iter1 env x = pure x) :
    PE X (.ListComp elt [⟨tg, iter, ifs, 0⟩, ⟨tg1, iter1, ifs1, 0⟩] scope pos) (tEvF G W (rComp2 bi it (own.map (·.2)) vs1 g rt it1 g1 rt1 re)) := by
  obtain ⟨t, h1, h2⟩ := hg
  obtain ⟨t1, h3, h4⟩ := hg1
  exact PE.imp (pe_lc2 hc hN hi ok hv h2 ht hi1 h4 ht1 he hs hs1) fun _ _ _ => readComp2 h1 hts h3 hts1 hv
theorem ps_compB2 {i : Nat} {y : Str} (hc : X.calm = true) (hN : X.N.Nodup) (hy : X.N[i]? = some y) (hyl : X.env.scope.names.lookup y = some .local)
    (hsw : swapsWith (.ListComp elt [⟨tg, iter, ifs, 0⟩, ⟨tg1, iter1, ifs1, 0⟩] scope pos) (some (.Name y py)) spos.line X.env = pure true) (hi : PI X tg iter (tEvI G W it)) (ok : BlkOk X.N X.env.scope scope own) (hv : ∀ i ∈ vs1, i ∈ own.map (·.2)) (hg : TgAll X G scope tg ts g) (hts : ∀ j ∈ ts, j ∈ own.map (·.2)) (hg1 : TgAll X G scope tg1 ts1 g1) (hts1 : ∀ j ∈ ts1, j ∈ vs1)
    (ht : ∀ (s : Shared) (H : Hp) (C : Addr) (cl : List (Str × Addr)) (fp : List Addr), PTs (X.blk s H scope (compEnvC scope cl C X.env) fp) ifs (tEv G W0 rl rt))
    (hi1 : ∀ (s : Shared) (H : Hp) (C : Addr) (cl : List (Str × Addr)) (fp : List Addr), PI (X.blk s H scope (compEnvC scope cl C X.env) fp) tg1 iter1 (tEvI G W0 it1))
    (ht1 : ∀ (s : Shared) (H : Hp) (C : Addr) (cl : List (Str × Addr)) (fp : List Addr), PTs (X.blk s H scope (compEnvC scope cl C X.env) fp) ifs1 (tEv G W0 rl rt1))
    (he : ∀ (s : Shared) (H : Hp) (C : Addr) (cl : List (Str × Addr)) (fp : List Addr), PE (X.blk s H scope (compEnvC scope cl C X.env) fp) elt (tEv G W0 G.rv re)) (hs : ∀ x, foldedSetIterable iter X.env x = pure x) (hs1 : ∀ env x, foldedSetIterable iter1 env x = pure x) :
    ∃ te : TE, PS X (.Assign [.Name y py] (.ListComp elt [⟨tg, iter, ifs, 0⟩, ⟨tg1, iter1, ifs1, 0⟩] scope pos) spos) (tAsg te (gName i)) ∧ ∀ σ H Q, tEvF G W (rComp2 bi it (own.map (·.2)) vs1 g rt it1 g1 rt1 re) σ H Q → te σ H Q := by
  obtain ⟨t, h1, h2⟩ := hg
  obtain ⟨t1, h3, h4⟩ := hg1
  exact ⟨_, ps_setLc2 hc hN hy hyl hsw hi ok hv h2 ht hi1 h4 ht1 he hs hs1, fun _ _ _ => readComp2 h1 hts h3 hts1 hv⟩
end
end Mi

namespace Mi
open PySem PySem.Spec PyProof.Rows L2
/-! ### list.index -/
def idxL (x : D) (l : List D) : Option Nat := l.findIdx? fun y => eqD y x
def dIndex : D → D → Option D
  | .lst l, x => if nearIn x l = true ∧ dep x ≤ 64 ∧ deps l ≤ 63 then (idxL x l).map fun j => .int (j : Nat) else none
  | _, _ => none
section
variable {G : Cg} {W : WX} {X : Cx} {sh : List Addr} {N : Addr → Prop} {ρ : AE} {σ : Sg} {H : Hp} {o e : Expr} {apos cpos : Pos} {ra rb : AE → R D}
theorem toPys_get : ∀ {l : List D} {j : Nat} {z : D}, l[j]? = some z → (toPys l)[j]? = some (toPy z)
  | d :: l, 0, z, h => by simp at h; subst h; simp [toPys]
  | d :: l, j + 1, z, h => by simp [toPys]; exact toPys_get (by simpa using h)
  | [], j, z, h => by simp at h
theorem toPys_getV : ∀ {l : List D} {j : Nat} {z : PyData}, (toPys l)[j]? = some z → ∃ d, l[j]? = some d ∧ z = toPy d
  | d :: l, 0, z, h => by simp [toPys] at h; exact ⟨d, rfl, h.symm⟩
  | d :: l, j + 1, z, h => by
    obtain ⟨e, h1, h2⟩ := toPys_getV (l := l) (j := j) (by simpa [toPys] using h)
    exact ⟨e, by simpa using h1, h2⟩
  | [], j, z, h => by simp [toPys] at h
theorem purs_at : ∀ {l : List D} {j : Nat} {z : D}, purs l = true → l[j]? = some z → pur z = true
  | d :: l, 0, z, hp, h => by simp at h; subst h; simp only [purs, Bool.and_eq_true] at hp; exact hp.1
  | d :: l, j + 1, z, hp, h => by simp only [purs, Bool.and_eq_true] at hp; exact purs_at hp.2 (by simpa using h)
  | [], j, z, _, h => by simp at h
theorem ite_some' {α : Type} {c : Prop} [Decidable c] {a : Option α} {b : α} (h : (if c then a else none) = some b) : c ∧ a = some b := by
  by_cases hc : c
  · rw [if_pos hc] at h; exact ⟨hc, h⟩
  · rw [if_neg hc] at h; cases h
theorem idxL_spec {x : D} : ∀ {l : List D} {j : Nat}, idxL x l = some j → ∃ z, l[j]? = some z ∧ eqD z x = true ∧ ∀ (m : Nat) (y : D), m < j → l[m]? = some y → eqD y x = false := by
  intro l j h
  unfold idxL at h
  rw [List.findIdx?_eq_some_iff_getElem] at h
  obtain ⟨hj, h1, h2⟩ := h
  refine ⟨l[j], List.getElem?_eq_getElem hj, h1, fun m y hm hy => ?_⟩
  have hml : m < l.length := Nat.lt_trans hm hj
  rw [List.getElem?_eq_getElem hml] at hy
  have := h2 m hm
  rw [← Option.some.inj hy]
  simpa using this
def isLst : D → Bool
  | .lst _ => true
  | _ => false
def rIdx (ra rb : AE → R D) : AE → R D := fun ρ => (ra ρ).bind fun x ρ1 => if isLst x = true then (rb ρ1).bind fun y ρ2 => ofO (dIndex x y) ρ2 else .bad
theorem pe_idxA (hK : X.K = G.K) (hu : X.A.units + 66 < cLine) (ho : PE X o (tEv G W G.rb ra)) (he : PE X e (tEv G W G.rb rb)) (hs : isStar e = false) (hl : (apos.endLine == cpos.line) = true) (hb : attributeBase o "index" X.env (eval o X.env) = eval o X.env) :
    PE X (.Call (.Attribute o "index" apos) [e] [] cpos) (tEv G W G.rv (rIdx ra rb)) := by
  refine PE.imp (pe_bm PySem.F.plainAttrs_list PySem.F.slot_list_index PySem.F.type_list_index (mt_indexD (by omega)) ho (pa_cons he pa_nil (star_of hs)) hb (by rw [star_of hs]; rfl) hl (star_of hs) rfl) fun σ H Q t => ?_
  obtain ⟨sh, N, ρ, rp, p⟩ := t
  refine tEv.run rp p fun dx ρ1 sh1 N1 x H1 _ rp1 k1 hx p1 => ?_
  obtain ⟨hc, p1⟩ := ifbadV p1
  cases dx with
  | lst l =>
    obtain ⟨a, vs, rfl, t, r⟩ := rb_lst hx
    refine ⟨.inl ⟨rfl, vs, .inl t⟩, tEv.run rp1 p1 fun dy ρ2 sh2 N2 y H2 _ rp2 k2 hy p2 => ?_⟩
    obtain ⟨d, e2, q⟩ := post_ofO p2 rp2
    simp only [dIndex] at e2
    obtain ⟨⟨hn, hd1, hd2⟩, e2⟩ := ite_some' e2
    obtain ⟨j, e3, rfl⟩ := Option.map_eq_some_iff.mp e2
    obtain ⟨n1, n2, n3⟩ := nearIn_iff.mp hn
    obtain ⟨z, z1, z2, z3⟩ := idxL_spec e3
    have hx2 := Cg.rb_mono hx k2 rp1.shN
    have pl : pur (.lst l) = true := by simp only [pur]; exact n2
    obtain ⟨b1, b2⟩ := rb_dp pl hx2
    obtain ⟨c1, c2⟩ := rb_dp n1 hy
    refine ⟨a, y, toPy dy, toPys l, j, toPy z, rfl, rfl, hK ▸ (show Dp G.K H2 (.ref a) (.list (toPys l)) by simpa only [toPy] using b1), hK ▸ c1, ?_, ?_, toPys_get z1, ?_, fun m z' hm hz' => ?_, q _ H2 (fun _ _ z => z) rv_int⟩
    · show ((PyData.list (toPys l)).canLay0 && decide ((PyData.list (toPys l)).depth ≤ 64)) = true
      rw [Bool.and_eq_true]
      refine ⟨by simpa only [toPy] using b2, decide_eq_true ?_⟩
      have := dep_py (.lst l) pl
      simp only [toPy] at this
      rw [this]
      simp only [dep]; omega
    · show ((toPy dy).canLay0 && decide ((toPy dy).depth ≤ 64)) = true
      rw [Bool.and_eq_true]
      exact ⟨c2, decide_eq_true (by rw [dep_py dy n1]; exact hd1)⟩
    · rw [eqv_py z dy (purs_at n2 z1) n1]; exact z2
    · obtain ⟨d', g1, g2⟩ := toPys_getV hz'
      rw [g2, eqv_py d' dy (purs_at n2 g1) n1]
      exact z3 m d' hm g1
  | _ => cases hc
end
end Mi

namespace Mi
open PySem PySem.Spec PyProof.Rows L2
/-! ### min of two values by their data -/
section
variable {prog : Program} {w : World} {A : Around} {E : Value → Shared → Prop} {s : Shared} {R : PySem.Result → Shared → Prop} {I S : Addr} {fp wr : List Addr} {a b : Value} {P : Nat → Value → Prop} {St : Nat → Heap → Prop}
/-- the last turn: nothing more comes -/
theorem min_last (W : Walks prog w A.in1 I fp wr 2 P St) (hS : S ∉ fp) {vb : Value} {c : Nat} (st : St 2 s.heap) (e : s.heap.get? S = some { cls := .type "list", dict := none, data := .seq #[vb, vb] c, slots := #[] })
    (q : ∀ h' tk, (∀ x o, x ∉ wr → x ≠ S → s.heap.get? x = some o → h'.get? x = some o) → R (.ok (.ret vb)) { s with heap := h', toks := tk }) :
    codeAny (model prog w) A (.builtin "min.loop" ⟨[.ref I, .none, .ref S], []⟩) R s := by
  have nw : S ∉ wr := fun z => hS (W.sub _ z)
  refine codeAny_builtin F.entry_min_loop ?_
  rw [Around.under_plainId F.plain_min_loop _]
  refine wpAny_bind (wpAny_seqItems e rfl (wpAny_bind (wpAny_tryCatch (W.done s _ _ st fun h1 tk k1 => wpAny_bind (wpAny_updateSeq (k1 S _ nw e) rfl (wpAny_bind (wpAny_letGo (wpAny_pure ?_))))))))
  exact q _ tk fun x o x1 x2 z => (Heap.get?_update_other _ _ (Ne.symm x2)).trans (k1 x o x1 z)
theorem min_second {k : Bool} {x y : Value} {s0 : Shared} (W : Walks prog w A.in1 I fp wr 2 P St) (hS : S ∉ fp) (hP : ∀ v, P 1 v → v = y) {c : Nat} (st : St 1 s.heap) (e : s.heap.get? S = some { cls := .type "list", dict := none, data := .seq #[x, x] c, slots := #[] })
    (old : ∀ z o, s0.heap.get? z = some o → z ∉ wr ∧ z ≠ S) (hk : ∀ z o, s0.heap.get? z = some o → s.heap.get? z = some o)
    (hc : ∀ (t : Shared) (Q E : Value → Shared → Prop), (∀ z o, s0.heap.get? z = some o → t.heap.get? z = some o) → Q (.bool k) t → wpAny (model prog w) A.in1 (richCompare .Lt y x) Q E t)
    (q : ∀ h' tk, (∀ z o, z ∉ wr → z ≠ S → s.heap.get? z = some o → h'.get? z = some o) → R (.ok (.ret (if k = true then y else x))) { s with heap := h', toks := tk }) :
    codeAny (model prog w) A (.builtin "min.loop" ⟨[.ref I, .none, .ref S], []⟩) R s := by
  have nw : S ∉ wr := fun z => hS (W.sub _ z)
  have nm : (toString "min" ++ toString ".loop" : String) = "min.loop" := by decide
  refine codeAny_builtin F.entry_min_loop ?_
  rw [Around.under_plainId F.plain_min_loop _]
  refine wpAny_bind (wpAny_seqItems e rfl (wpAny_bind (wpAny_tryCatch (W.item 1 s _ _ (by decide) st fun v h1 tk p1 st1 k1 => ?_))))
  obtain rfl := hP v p1
  have e1 := k1 S _ nw e
  refine wpAny_bind (wpAny_pure ?_)
  show wpAny _ A.in1 (tryCatch (holding [v, v] (richCompare .Lt v x >>= _)) _ >>= _) _ _ _
  refine wpAny_bind (wpAny_tryCatch (wpAny_holding (wpAny_bind (hc _ _ _ (fun z o ez => k1 z o (old z o ez).1 (hk z o ez)) ?_))))
  refine wpAny_bind (wpAny_holding (wpAny_truthy_bool ?_))
  refine wpAny_bind (wpAny_letGo (wpAny_pure ?_))
  cases k with
  | true =>
    simp only [if_true]
    refine wpAny_bind (wpAny_updateSeq e1 rfl (wpAny_bind (wpAny_letGo ?_)))
    rw [nm]
    refine wpAny_pure ⟨plainId_quiet F.plain_min_loop _, min_last W hS (W.frame _ _ _ st1 fun z hz o ez => (Heap.get?_update_other _ _ fun n : S = z => hS (n ▸ hz)).trans ez) (Heap.get?_update_self _ e1 rfl) fun h2 tk2 k2 => ?_⟩
    exact q h2 tk2 fun z o z1 z2 ez => k2 z o z1 z2 ((Heap.get?_update_other _ _ (Ne.symm z2)).trans (k1 z o z1 ez))
  | false =>
    simp only [Bool.false_eq_true, if_false]
    refine wpAny_bind (wpAny_letGo ?_)
    rw [nm]
    refine wpAny_pure ⟨plainId_quiet F.plain_min_loop _, min_last W hS st1 e1 fun h2 tk2 k2 => ?_⟩
    exact q h2 tk2 fun z o z1 z2 ez => k2 z o z1 z2 (k1 z o z1 ez)
theorem min_first {k : Bool} {x y : Value} {s0 : Shared} (W : Walks prog w A.in1 I fp wr 2 P St) (hS : S ∉ fp) (hP0 : ∀ v, P 0 v → v = x) (hP : ∀ v, P 1 v → v = y) {c : Nat} (st : St 0 s.heap) (e : s.heap.get? S = some { cls := .type "list", dict := none, data := .seq #[] c, slots := #[] })
    (old : ∀ z o, s0.heap.get? z = some o → z ∉ wr ∧ z ≠ S) (hk : ∀ z o, s0.heap.get? z = some o → s.heap.get? z = some o)
    (hc : ∀ (t : Shared) (Q E : Value → Shared → Prop), (∀ z o, s0.heap.get? z = some o → t.heap.get? z = some o) → Q (.bool k) t → wpAny (model prog w) A.in1 (richCompare .Lt y x) Q E t)
    (q : ∀ h' tk, (∀ z o, z ∉ wr → z ≠ S → s.heap.get? z = some o → h'.get? z = some o) → R (.ok (.ret (if k = true then y else x))) { s with heap := h', toks := tk }) :
    codeAny (model prog w) A (.builtin "min.loop" ⟨[.ref I, .none, .ref S], []⟩) R s := by
  have nw : S ∉ wr := fun z => hS (W.sub _ z)
  have nm : (toString "min" ++ toString ".loop" : String) = "min.loop" := by decide
  refine codeAny_builtin F.entry_min_loop ?_
  rw [Around.under_plainId F.plain_min_loop _]
  refine wpAny_bind (wpAny_seqItems e rfl (wpAny_bind (wpAny_tryCatch (W.item 0 s _ _ (by decide) st fun v h1 tk p1 st1 k1 => ?_))))
  obtain rfl := hP0 v p1
  have e1 := k1 S _ nw e
  refine wpAny_bind (wpAny_pure ?_)
  show wpAny _ A.in1 (updateSeq S (fun _ => #[v, v]) >>= _) _ _ _
  refine wpAny_bind (wpAny_updateSeq e1 rfl ?_)
  rw [nm]
  refine wpAny_pure ⟨plainId_quiet F.plain_min_loop _, min_second (s0 := s0) (k := k) W hS hP (W.frame _ _ _ st1 fun z hz o ez => (Heap.get?_update_other _ _ fun n : S = z => hS (n ▸ hz)).trans ez) (Heap.get?_update_self _ e1 rfl) old (fun z o ez => ?_) hc fun h2 tk2 k2 => ?_⟩
  · exact (Heap.get?_update_other _ _ (Ne.symm (old z o ez).2)).trans (k1 z o (old z o ez).1 (hk z o ez))
  · exact q h2 tk2 fun z o z1 z2 ez => k2 z o z1 z2 ((Heap.get?_update_other _ _ (Ne.symm z2)).trans (k1 z o z1 ez))
theorem call_minV {k : Bool} {Q : Value → Shared → Prop} (hh : A.handled = none)
    (hc : ∀ (t : Shared) (Q E : Value → Shared → Prop), (∀ z o, s.heap.get? z = some o → t.heap.get? z = some o) → Q (.bool k) t → wpAny (model prog w) A.in1 (richCompare .Lt b a) Q E t)
    (q : ∀ h' tk, (∀ z o, s.heap.get? z = some o → h'.get? z = some o) → Q (if k = true then b else a) { s with heap := h', toks := tk }) :
    wpAny (model prog w) A (call (.builtin "min") [a, b]) Q E s := by
  have nm : (toString "min" ++ toString ".loop" : String) = "min.loop" := by decide
  refine call_function_tree F.kind_min F.plain_min F.entry_min (F.args_min2 _ _) ?_
  refine wpAny_bind (wpAny_of_eq (show Builtin.Builtins.bindParams "min" ["key", "default"] 0 ⟨[], []⟩ = pure [none, none] from rfl) ?_)
  show wpAny _ A.in1 (newTuple [a, b] >>= _) _ _ s
  refine wpAny_bind (wpAny_newObj_type ?_)
  have hT : (s.heap.push { cls := .type "tuple", data := .seq #[a, b] }).IsTuple s.heap.objs.size #[a, b] := ⟨_, Heap.get?_push_size _ rfl, rfl, 0, rfl⟩
  refine wpAny_bind (wpAny_pyIter_tuple hT ?_)
  have z1 : (s.heap.push { cls := .type "tuple", data := .seq #[a, b] }).objs.size = s.heap.objs.size + 1 := Heap.size_push ..
  refine wpAny_bind (wpAny_newObj_type ?_)
  rw [nm]
  have hS : (s.heap.push { cls := .type "tuple", data := .seq #[a, b] }).objs.size = s.heap.objs.size + 1 := z1
  refine wpAny_pure ⟨plainId_quiet F.plain_min_loop _, min_first (s0 := s) (k := k) (x := a) (y := b) (Walks.tuple (A := A.in1) (show A.in1.handled = none from hh) (s.heap.push { cls := .type "tuple", data := .seq #[a, b] }).objs.size s.heap.objs.size (by rw [hS]; exact Nat.ne_of_lt (Nat.lt_succ_self _)) #[a, b]) ?_ (fun v e => ?_) (fun v e => ?_) ⟨⟨_, Heap.get?_push_of_some _ (Heap.get?_push_size _ rfl), rfl, rfl⟩, (hT.push _).push _⟩ (Heap.get?_push_size _ rfl) (fun z o e => ?_) (fun z o e => ?_) ?_ fun h' tk k1 => ?_⟩
  · intro z
    simp only [List.mem_cons, List.not_mem_nil, or_false] at z
    have e1 : ((s.heap.push { cls := .type "tuple", data := .seq #[a, b] }).push { cls := .type "tuple_iterator", data := .fields #[.ref s.heap.objs.size, .int 0 0] }).objs.size = s.heap.objs.size + 1 + 1 := by rw [Heap.size_push, hS]
    have z' : (s.heap.objs.size + 1 + 1 : Nat) = s.heap.objs.size + 1 ∨ (s.heap.objs.size + 1 + 1 : Nat) = s.heap.objs.size := by
      rcases z with z | z
      · left; rw [← e1, ← hS]; exact z
      · right; rw [← e1]; exact z
    omega
  · exact (Option.some.inj (show some a = some v from e)).symm
  · exact (Option.some.inj (show some b = some v from e)).symm
  · have hl := Heap.lt_size e
    refine ⟨fun z1 => ?_, fun z1 => ?_⟩
    · simp only [List.mem_cons, List.not_mem_nil, or_false] at z1
      rw [z1, hS] at hl; exact Nat.lt_irrefl _ (Nat.lt_of_succ_lt hl)
    · rw [z1, Heap.size_push, hS] at hl; exact Nat.lt_irrefl _ (Nat.lt_of_succ_lt (Nat.lt_of_succ_lt hl))
  · exact Heap.get?_push_of_some _ (Heap.get?_push_of_some _ (Heap.get?_push_of_some _ e))
  · exact hc
  · refine q h' tk fun z o e => k1 z o ?_ ?_ (Heap.get?_push_of_some _ (Heap.get?_push_of_some _ (Heap.get?_push_of_some _ e)))
    · have hl := Heap.lt_size e
      intro z1
      simp only [List.mem_cons, List.not_mem_nil, or_false] at z1
      rw [z1, hS] at hl; exact Nat.lt_irrefl _ (Nat.lt_of_succ_lt hl)
    · have hl := Heap.lt_size e
      intro z1
      rw [z1, Heap.size_push, hS] at hl; exact Nat.lt_irrefl _ (Nat.lt_of_succ_lt (Nat.lt_of_succ_lt hl))
end
section
open PySem.W PySem.Calls
variable {prog : Program} {w : World} {A : Around} {E : Value → Shared → Prop} {s : Shared} {β : Type} {vs : List Value} {bs : List β} {enc : β → PyData} {R : Value → β → Prop}
/-- the items of a tuple -/
theorem collect_tupl {l : Addr} {Q : List Value → Shared → Prop} (hl : s.heap.IsTuple l vs.toArray) (hsz : vs.length ≤ sizeLine) (h : ∀ h', (∀ b o, s.heap.get? b = some o → h'.get? b = some o) → s.heap.objs.size ≤ h'.objs.size → Q vs { s with heap := h' }) :
    wpAny (model prog w) A (collect (.ref l)) Q E s := by
  obtain ⟨o, ho, hc, n, hd⟩ := id hl
  unfold collect
  refine wpAny_bind (wpAny_runValue (codeAny_builtin entry_proto_collect' ?_))
  show wpAny _ _ (do again (.builtin "list.__iadd__" ⟨[← newList [], .ref l], []⟩)) _ _ s
  refine wpAny_bind (wpAny_newList (wpAny_pure ⟨Code.quiet_builtin _ (by decide +kernel), codeAny_builtin entry_list_iadd' ?_⟩))
  show wpAny _ _ (Builtin.List.listExtendWith (.ref s.heap.objs.size) (.ref l) (.ref s.heap.objs.size)) _ _ { s with heap := s.heap.push (seqObj "list" #[] 0) }
  unfold Builtin.List.listExtendWith
  have ho' : (s.heap.push (seqObj "list" #[] 0)).get? l = some o := Heap.get?_push_of_some _ ho
  refine wpAny_bind (wpAny_typeOf (T := "tuple") ⟨o, ho', hc⟩ ?_)
  rw [if_pos (by rw [show (Value.type "tuple" == Value.type "tuple") = true from rfl]; simp)]
  refine wpAny_bind (listItems_at ho' hd ?_)
  refine wpAny_bind (listItems_at (xs := #[]) (n := 0) (Heap.get?_push_size _ rfl) rfl ?_)
  rw [if_neg (by simp)]
  refine wpAny_bind (listUpdate_at (xs := #[]) (n := 0) (Heap.get?_push_size _ rfl) rfl ?_ (Nat.zero_le _) (by show (#[] ++ vs.toArray).size ≤ sizeLine + 1; simp only [Array.size_append, List.size_toArray, List.length_nil]; omega))
  refine wpAny_pure ?_
  show wpAny (model prog w) A (do
      let o ← load s.heap.objs.size
      match o.data with
      | .seq xs _ => pure xs.toList
      | _ => unsupported "internal:collect") Q E { s with heap := (s.heap.push (seqObj "list" #[] 0)).update s.heap.objs.size (Obj.mapSeq (· ++ vs.toArray)) }
  refine wpAny_bind (wpAny_load (get?_update_seq (Heap.get?_push_size _ rfl) _) ?_)
  show wpAny _ _ (pure ((#[] : Array Value) ++ vs.toArray).toList) Q E _
  rw [show ((#[] : Array Value) ++ vs.toArray).toList = vs by simp]
  refine wpAny_pure (h _ (fun b o' hb => ?_) ?_)
  · exact (Heap.get?_update_other _ _ (Nat.ne_of_gt (Heap.lt_size hb))).trans (Heap.get?_push_of_some _ hb)
  · rw [Heap.size_update, Heap.size_push]; exact Nat.le_succ _
/-- .. of whatever a list is made of -/
theorem collect_src {T : String} {r d : Addr} {n : Nat} {P : Nat → Value → Prop} {OK : Heap → Prop} {Q : List Value → Shared → Prop} (K : KdlSrc prog w T r d n P OK) (hh : A.handled = none) (hok : OK s.heap) (hn : n ≤ sizeLine)
    (h : ∀ (h' : Heap) (tk : Nat) (acc : Array Value), (∀ b o, s.heap.get? b = some o → h'.get? b = some o) → s.heap.objs.size ≤ h'.objs.size → ItemsOf P acc n → Q acc.toList { s with heap := h', toks := tk }) : wpAny (model prog w) A (collect (.ref r)) Q E s := by
  obtain ⟨l1, l2⟩ := K.there _ hok
  unfold collect
  refine wpAny_bind (wpAny_runValue (codeAny_builtin entry_proto_collect' ?_))
  rw [Around.under_plainId PySem.F.plain_proto_collect _]
  show wpAny _ A.in1 (newList [] >>= fun x => again (.builtin "list.__iadd__" ⟨[x, .ref r], []⟩)) _ _ s
  refine wpAny_bind (wpAny_newObj_type (wpAny_pure ⟨plainId_quiet PySem.F.plain_list_iadd _, codeAny_builtin entry_list_iadd' ?_⟩))
  rw [Around.under_plainId PySem.F.plain_list_iadd _]
  have at0 : (s.heap.push { cls := .type "list", data := .seq ([] : List Value).toArray }).get? s.heap.objs.size = some { cls := .type "list", data := .seq #[] } := Heap.get?_push_size _ rfl
  show wpAny _ A.in1 (Builtin.List.listExtendWith (.ref s.heap.objs.size) (.ref r) (.ref s.heap.objs.size)) _ _ _
  have fill := kdl_extend (A := A) (s := { s with heap := s.heap.push { cls := .type "list", data := .seq ([] : List Value).toArray } })
    (R := fun (q : Result) (t : Shared) => ∃ (h' : Heap) (tk : Nat) (xs : Array Value) (c : Nat), q = .ok (.ret (.ref s.heap.objs.size)) ∧ t = { s with heap := h', toks := tk } ∧ (∀ b o, s.heap.get? b = some o → h'.get? b = some o) ∧
      h'.get? s.heap.objs.size = some { cls := .type "list", dict := none, data := .seq xs c, slots := #[] } ∧ ItemsOf P xs n)
    K hh (K.keep _ _ hok fun b _ o e => Heap.get?_push_of_some _ e) s.heap.objs.size (Nat.ne_of_gt l1) (Nat.ne_of_gt l2) (.ref s.heap.objs.size) 0 at0
    (fun h' tk xs c k1 k2 k3 => ⟨h', tk, xs, c, rfl, rfl, fun b o e => k1 b o (Nat.ne_of_lt (Heap.lt_size e)) (Heap.get?_push_of_some _ e), k2, k3⟩) hn
  have done : ∀ {h' : Heap} {tk : Nat} {xs : Array Value} {c : Nat}, (∀ b o, s.heap.get? b = some o → h'.get? b = some o) → h'.get? s.heap.objs.size = some { cls := .type "list", dict := none, data := .seq xs c, slots := #[] } → ItemsOf P xs n → Q xs.toList { s with heap := h', toks := tk } :=
    fun {h' tk xs c} k1 k2 k3 => h h' tk xs k1 (Nat.le_of_lt (Heap.lt_size k2)) k3
  refine wpAny_mono fill (fun fin t z => ?_) fun e t z => ?_
  · cases fin with
    | done f =>
      obtain ⟨h', tk, xs, c, eq, rfl, k1, k2, k3⟩ := z
      cases eq
      show wpAny _ A (load s.heap.objs.size >>= _) _ _ _
      exact wpAny_bind (wpAny_load k2 (wpAny_pure (done k1 k2 k3)))
    | again c1 =>
      refine ⟨z.1, codeAny_mono z.2 fun q t2 y => ?_⟩
      obtain ⟨h', tk, xs, c, rfl, rfl, k1, k2, k3⟩ := y
      show wpAny _ A (load s.heap.objs.size >>= _) _ _ _
      exact wpAny_bind (wpAny_load k2 (wpAny_pure (done k1 k2 k3)))
  · obtain ⟨_, _, _, _, eq, _⟩ := z
    cases eq
/-- sorted(r) of whatever collects to a list of alike data -/
theorem call_sortedC {r : Value} {Q : Value → Shared → Prop} (Cv : List Value → Prop) (hcol : ∀ (Q : List Value → Shared → Prop), (∀ vs h' tk, Cv vs → (∀ b o, s.heap.get? b = some o → h'.get? b = some o) → s.heap.objs.size ≤ h'.objs.size → Q vs { s with heap := h', toks := tk }) → wpAny (model prog w) A.in1 (collect r) Q E s)
    (e : ∀ vs, Cv vs → EachIs R vs bs) (er : ∀ vs, Cv vs → EachIs (fun v b => ∃ as, Reads s.heap v (enc b) as) vs bs) (hal : AllAlike (bs.map enc)) (hk : Sortable (bs.map enc)) (hL : bs.length ≤ sizeLine)
    (hu : ∀ b, b ∈ bs → A.units + 2 + (enc b).depth < cLine)
    (h : ∀ (D : Addr) (h' : Heap) (tk : Nat) (out : List Value) (ep : Nat), (∀ b o, s.heap.get? b = some o → h'.get? b = some o) → s.heap.objs.size ≤ D → h'.get? D = some (seqObj "list" out.toArray ep) → out.length = bs.length → EachIs R out (bs.mergeSort (dataLe false enc)) → Q (.ref D) { s with heap := h', toks := tk }) :
    wpAny (model prog w) A (call (.builtin "sorted") [r]) Q E s := by
  refine call_function_entry kind_sorted plain_sorted entry_sorted (args_sorted1 _) ?_
  unfold Builtin.«sorted»
  refine wpAny_bind (m := checkCount "sorted" 1 1 _) (wpAny_pure ?_)
  refine wpAny_bind (hcol _ fun vs h1 tk hC k1 hle => ?_)
  replace e := e vs hC
  replace er := er vs hC
  have hlv : vs.length ≤ sizeLine := by rw [e.length]; exact hL
  refine wpAny_bind (wpAny_newList ?_ hlv)
  have ho : (h1.push { cls := .type "list", data := .seq vs.toArray }).get? h1.objs.size = some (seqObj "list" vs.toArray 0) := Heap.get?_push_size _ rfl
  have k2 : ∀ b o, s.heap.get? b = some o → (sortingHeap (h1.push { cls := .type "list", data := .seq vs.toArray }) h1.objs.size vs).get? b = some o := fun b o q =>
    sortingHeap_old (fun z => absurd (Heap.lt_size (k1 b o q)) (by rw [z]; exact Nat.lt_irrefl _)) (Heap.get?_push_of_some _ (k1 b o q))
  have er' : EachIs (fun v b => ∃ as, Reads (sortingHeap (h1.push { cls := .type "list", data := .seq vs.toArray }) h1.objs.size vs) v (enc b) as) vs bs := er.mono fun _ _ ⟨as, r⟩ => ⟨as, PyProof.Rows.Reads.keeps k2 r⟩
  refine wpAny_bind (wpAny_holding (wpAny_call_entry slot_list_sort ⟨_, ho, rfl⟩ entry_list_sort (list_sort_vals (κ := dataKind (sortingHeap (h1.push { cls := .type "list", data := .seq vs.toArray }) h1.objs.size vs) (bs.map enc)) ho
    (SortsAt.data (s := { s with heap := sortingHeap (h1.push { cls := .type "list", data := .seq vs.toArray }) h1.objs.size vs, toks := tk }) (each_map (R := fun v d => ∃ as, Reads (sortingHeap (h1.push { cls := .type "list", data := .seq vs.toArray }) h1.objs.size vs) v d as) enc er') hal hk (bound_map hu)) hlv ⟨.none, rfl, ?_⟩) (args_list_sort _)))
  obtain ⟨ep, he⟩ := sortedHeap_at (out := (sortVals (dataKind (sortingHeap (h1.push { cls := .type "list", data := .seq vs.toArray }) h1.objs.size vs) (bs.map enc)) false vs vs).toArray) ho
  refine wpAny_pure ⟨_, rfl, h _ _ _ _ ep (fun b o q => ?_) hle he (by rw [sortVals_length false rfl]; exact e.length) (sortVals_data false e er' hal)⟩
  have q1 := k1 b o q
  have hlt := Heap.lt_size q1
  rw [sortedHeap_old (Nat.ne_of_lt hlt) (by rw [Heap.size_push]; exact Nat.lt_succ_of_lt hlt)]
  exact Heap.get?_push_of_some _ q1
end
/-! sorting that the kernel can work out -/
def mgF {α : Type} (le : α → α → Bool) : Nat → List α → List α → List α
  | 0, _, _ => []
  | _ + 1, [], ys => ys
  | _ + 1, x :: xs, [] => x :: xs
  | n + 1, x :: xs, y :: ys => if le x y = true then x :: mgF le n xs (y :: ys) else y :: mgF le n (x :: xs) ys
theorem mgF_eq {α : Type} (le : α → α → Bool) : ∀ (n : Nat) (xs ys : List α), xs.length + ys.length < n → mgF le n xs ys = xs.merge ys le
  | n + 1, [], ys, _ => by simp [mgF]
  | n + 1, x :: xs, [], _ => by simp [mgF]
  | n + 1, x :: xs, y :: ys, h => by
    simp only [List.length_cons] at h
    rw [mgF, List.cons_merge_cons, mgF_eq le n xs (y :: ys) (by simp only [List.length_cons]; omega), mgF_eq le n (x :: xs) ys (by simp only [List.length_cons]; omega)]
def msF {α : Type} (le : α → α → Bool) : Nat → List α → List α
  | 0, l => l
  | _ + 1, [] => []
  | _ + 1, [a] => [a]
  | n + 1, a :: b :: l => mgF le (l.length + 3) (msF le n ((a :: b :: l).take ((l.length + 3) / 2))) (msF le n ((a :: b :: l).drop ((l.length + 3) / 2)))
theorem msF_eq {α : Type} (le : α → α → Bool) : ∀ (n : Nat) (l : List α), l.length ≤ n → msF le n l = l.mergeSort le
  | 0, l, h => by rw [List.eq_nil_of_length_eq_zero (Nat.le_zero.mp h)]; simp [msF]
  | n + 1, [], _ => by simp [msF]
  | n + 1, [a], _ => by simp [msF]
  | n + 1, a :: b :: l, h => by
    simp only [List.length_cons] at h
    have e : (a :: b :: l).mergeSort le = List.merge (((a :: b :: l).take ((l.length + 3) / 2)).mergeSort le) (((a :: b :: l).drop ((l.length + 3) / 2)).mergeSort le) le := by
      rw [List.mergeSort]
      simp [List.MergeSort.Internal.splitInTwo, show l.length + 1 + 1 + 1 = l.length + 3 by omega]
    rw [e, msF, msF_eq le n _ (by simp only [List.length_take, List.length_cons]; omega), msF_eq le n _ (by simp only [List.length_drop, List.length_cons]; omega)]
    exact mgF_eq le _ _ _ (by simp only [List.length_mergeSort, List.length_take, List.length_drop, List.length_cons]; omega)
/-- the lesser one of two tuples of alike data -/
def ltD (d e : D) : Bool := PySem.W.dataLt (toPy d) (toPy e)
def likeD (d e : D) : Bool := pur d && pur e && PySem.W.alike (toPy d) (toPy e) && decide (dep d ≤ 60)
def dMinT : List D → Option D
  | [.tup l, .tup m] => if likeD (.tup m) (.tup l) = true then some (if ltD (.tup m) (.tup l) = true then .tup m else .tup l) else none
  | _ => none
def likeAll (l : List D) : Bool := l.all fun d => l.all fun e => PySem.W.alike (toPy d) (toPy e)
def allTup (l : List D) : Bool := l.all fun d => match d with
  | .tup (_ :: _) => true
  | _ => false
def allFlat (l : List D) : Bool := l.all fun d => match d with
  | .bl _ => true
  | .int _ => true
  | .str _ => true
  | .lst _ => true
  | _ => false
def leD : D → D → Bool := PySem.W.dataLe false toPy
def srt (l : List D) : List D := msF leD l.length l
theorem srt_eq (l : List D) : srt l = l.mergeSort leD := msF_eq leD _ l (Nat.le_refl _)
def dSorted : List D → Option D
  | [.lst l] => if (purs l && likeAll l && (allTup l || allFlat l) && decide (deps l ≤ 60)) = true then some (.lst (srt l)) else none
  | [.tup l] => if (purs l && likeAll l && (allTup l || allFlat l) && decide (deps l ≤ 60)) = true then some (.lst (srt l)) else none
  | [.dik l _] => if (l.all isIntD && (purs l && likeAll l && (allTup l || allFlat l) && decide (deps l ≤ 60))) = true then some (.lst (srt l)) else none
  | _ => none
theorem dep_mem : ∀ {l : List D} {d : D}, d ∈ l → dep d ≤ deps l
  | x :: l, d, h => by
    simp only [deps]
    rcases List.mem_cons.mp h with rfl | h
    · omega
    · have := dep_mem h; omega
theorem pur_mem : ∀ {l : List D} {d : D}, purs l = true → d ∈ l → pur d = true
  | x :: l, d, p, h => by
    simp only [purs, Bool.and_eq_true] at p
    rcases List.mem_cons.mp h with rfl | h
    · exact p.1
    · exact pur_mem p.2 h
section
variable {G : Cg} {X : Cx} {sh : List Addr} {N : Addr → Prop} {H : Hp}
theorem cA_minT (hK : X.K = G.K) (hu : X.A.units + 66 < cLine) (hc : X.calm = true) : CallR X (.builtin "min") (rAn G dMinT) := by
  intro pins s σ H xs us Q I r h
  obtain ⟨sh, N, ds, d, hN, hxs, e, q⟩ := h
  match ds, e with
  | [.tup l, .tup m], e =>
    simp only [dMinT] at e
    obtain ⟨hl, e⟩ := ite_some e
    simp only [likeD, Bool.and_eq_true, decide_eq_true_eq] at hl
    obtain ⟨⟨⟨p1, p2⟩, al⟩, hd⟩ := hl
    obtain ⟨x, y, rfl, hx, hy⟩ := rbs2 hxs
    obtain ⟨u, v, rfl, rx, ry⟩ := vals2 r
    have dx := (rb_dp p2 hx).1
    have dy := (rb_dp p1 hy).1
    obtain ⟨as, r1⟩ := Dp.reads I _ _ _ (hK ▸ dx) rx
    obtain ⟨bs, r2⟩ := Dp.reads I _ _ _ (hK ▸ dy) ry
    have e1 := dep_py (.tup m) p1
    refine call_minV (k := ltD (.tup m) (.tup l)) (I.ok.hd hc) (fun t Q E ht hq => ?_) fun h' tk hk => ?_
    · exact PySem.W.rcLt_alike (toPy (.tup m)) (toPy (.tup l)) X.A.in1 t v u bs as (PyProof.Rows.Reads.keeps (fun z o => ht z o) r2) (PyProof.Rows.Reads.keeps (fun z o => ht z o) r1) al (by simp [toPy]) (by
        rw [e1]
        have h1 : X.A.in1.units = X.A.units + 1 := rfl
        have h2 : min (dep (.tup m)) (toPy (.tup l)).depth ≤ dep (.tup m) := Nat.min_le_left _ _
        omega) _ _ _ _ hq
    · obtain ⟨a, vs, rfl, ta, ra⟩ := rb_tup hx
      obtain ⟨b, ws, rfl, tb, rb⟩ := rb_tup hy
      subst e
      by_cases hk2 : ltD (.tup m) (.tup l) = true
      · rw [if_pos hk2] at q ⊢
        exact ⟨.ref b, H, I.kept hk, ry, q _ H (fun _ _ z => z) (rv_tup tb rb)⟩
      · rw [if_neg hk2] at q ⊢
        exact ⟨.ref a, H, I.kept hk, rx, q _ H (fun _ _ z => z) (rv_tup ta ra)⟩
theorem each_of {l : List D} {vs : List V} {us : List Value} {R : Value → D → Prop} (r : G.rvs H N sh l vs) (rv : Vals vs us) (h : ∀ d v u, d ∈ l → G.rv H N sh d v → RelV v u → R u d) : PySem.W.EachIs R us l := by
  induction l generalizing vs us with
  | nil => rw [RVs.nil_iff.mp r] at rv; cases rv; exact .nil
  | cons d l ih =>
    obtain ⟨v, ws, rfl, h1, h2⟩ := RVs.inv r
    cases rv with
    | cons a b => exact .cons (h d v _ (List.mem_cons_self ..) h1 a) (ih h2 b fun d v u hd => h d v u (List.mem_cons_of_mem _ hd))
theorem each_back {l : List D} {us : List Value} (e : PySem.W.EachIs (fun u d => ∃ v, RelV v u ∧ G.rv H N sh d v) us l) : ∃ vs, Vals vs us ∧ G.rvs H N sh l vs := by
  induction e with
  | nil => exact ⟨[], .nil, .nil⟩
  | cons h _ ih =>
    obtain ⟨v, h1, h2⟩ := h
    obtain ⟨vs, h3, h4⟩ := ih
    exact ⟨v :: vs, .cons h1 h3, .cons h2 h4⟩
theorem cF_sorted (hK : X.K = G.K) (hu : X.A.units + 66 < cLine) (hc : X.calm = true) : CallR X (.builtin "sorted") (rFn G dSorted) := by
  intro pins s σ H xs us Q I r h
  obtain ⟨sh, N, ds, d, hN, hS, hxs, e, q⟩ := h
  match ds, e with
  | [.lst l], e =>
    simp only [dSorted] at e
    obtain ⟨hl, rfl⟩ := ite_some e
    rw [srt_eq] at q
    simp only [Bool.and_eq_true, decide_eq_true_eq] at hl
    obtain ⟨⟨⟨p1, al⟩, ho⟩, hd⟩ := hl
    obtain ⟨x, rfl, hx⟩ := rbs1 hxs
    obtain ⟨a, vs, rfl, t, rr⟩ := rb_lst hx
    obtain ⟨u, rfl, ru⟩ := vals1 r
    cases ru
    obtain ⟨its, rv, hls, hz⟩ := I.list (show SqL X.K H a vs from .inl t)
    have E1 : PySem.W.EachIs (fun u d => ∃ v, RelV v u ∧ G.rv H N sh d v) its l := each_of rr rv fun d v u _ h1 h2 => ⟨v, h2, h1⟩
    have E2 : PySem.W.EachIs (fun u d => ∃ as, Reads s.heap u (toPy d) as) its l := each_of rr rv fun d v u hm h1 h2 => Dp.reads I _ _ _ (hK ▸ (rv_dp d v (pur_mem p1 hm) h1).1) h2
    have hal : PySem.W.AllAlike (l.map toPy) := by
      intro d hd d' hd'
      obtain ⟨x, hx, rfl⟩ := List.mem_map.mp hd
      obtain ⟨y, hy, rfl⟩ := List.mem_map.mp hd'
      exact List.all_eq_true.mp (List.all_eq_true.mp al x hx) y hy
    have hso : PySem.W.Sortable (l.map toPy) := by
      rcases Bool.or_eq_true _ _ ▸ ho with ho | ho
      · left
        intro d hd
        obtain ⟨x, hx, rfl⟩ := List.mem_map.mp hd
        have := List.all_eq_true.mp ho x hx
        split at this
        · exact ⟨_, _, rfl⟩
        · cases this
      · right
        intro d hd
        obtain ⟨x, hx, rfl⟩ := List.mem_map.mp hd
        have := List.all_eq_true.mp ho x hx
        split at this <;> first | (cases this; done) | exact ⟨by simp [toPy], by simp [toPy]⟩
    refine PySem.W.sorted_data (R := fun u d => ∃ v, RelV v u ∧ G.rv H N sh d v) (enc := toPy) hls.isList E1 E2 hal hso (by rw [RVs.length rr]; exact hz) (fun b hb => ?_) fun out h1 h2 => ?_
    · rw [dep_py b (pur_mem p1 hb)]
      have := dep_mem hb
      omega
    · obtain ⟨ws, w1, w2⟩ := each_back h2
      obtain ⟨ep, he'⟩ := PyProof.Rows.sortedAll_at s.heap its out.toArray
      have hlen : ws.length ≤ sizeLine := by
        rw [← RVs.length w2, List.length_mergeSort, RVs.length rr]; exact hz
      have hn := I.hok.fresh (Nat.le_succ s.heap.objs.size)
      exact ⟨.ref _, upd H (s.heap.objs.size + 1) (.lst ws), I.laid (t' := s.toks) (fun _ _ => PyProof.Rows.sortedAll_old) (Nat.le_succ _) ⟨hlen, out, ep, w1, he'⟩, rfl, q _ _ (grows hn) hn (rf_newlst hn (nN hN hn) (fun z => nN hN hn (hS _ z)) w2)⟩
  | [.tup l], e =>
    simp only [dSorted] at e
    obtain ⟨hl, rfl⟩ := ite_some e
    rw [srt_eq] at q
    simp only [Bool.and_eq_true, decide_eq_true_eq] at hl
    obtain ⟨⟨⟨p1, al⟩, ho⟩, hd⟩ := hl
    obtain ⟨x, rfl, hx⟩ := rbs1 hxs
    obtain ⟨a, vs, rfl, t, rr⟩ := rb_tup hx
    obtain ⟨u, rfl, ru⟩ := vals1 r
    cases ru
    obtain ⟨its, rv, hls, hz⟩ := I.tuple (show SqT X.K H a vs from hK ▸ t.sq)
    have E1 : PySem.W.EachIs (fun u d => ∃ v, RelV v u ∧ G.rv H N sh d v) its l := each_of rr rv fun d v u _ h1 h2 => ⟨v, h2, h1⟩
    have E2 : PySem.W.EachIs (fun u d => ∃ as, Reads s.heap u (toPy d) as) its l := each_of rr rv fun d v u hm h1 h2 => Dp.reads I _ _ _ (hK ▸ (rv_dp d v (pur_mem p1 hm) h1).1) h2
    have hal : PySem.W.AllAlike (l.map toPy) := by
      intro d hd d' hd'
      obtain ⟨x, hx, rfl⟩ := List.mem_map.mp hd
      obtain ⟨y, hy, rfl⟩ := List.mem_map.mp hd'
      exact List.all_eq_true.mp (List.all_eq_true.mp al x hx) y hy
    have hso : PySem.W.Sortable (l.map toPy) := by
      rcases Bool.or_eq_true _ _ ▸ ho with ho | ho
      · left
        intro d hd
        obtain ⟨x, hx, rfl⟩ := List.mem_map.mp hd
        have := List.all_eq_true.mp ho x hx
        split at this
        · exact ⟨_, _, rfl⟩
        · cases this
      · right
        intro d hd
        obtain ⟨x, hx, rfl⟩ := List.mem_map.mp hd
        have := List.all_eq_true.mp ho x hx
        split at this <;> first | (cases this; done) | exact ⟨by simp [toPy], by simp [toPy]⟩
    refine call_sortedC (fun vs => vs = its) (R := fun u d => ∃ v, RelV v u ∧ G.rv H N sh d v) (enc := toPy) (fun Q' hq => collect_tupl hls (by rw [← Vals.length rv]; exact hz) fun h' k1 k2 => hq its h' s.toks rfl k1 k2) (fun _ z => z ▸ E1) (fun _ z => z ▸ E2) hal hso (by rw [RVs.length rr]; exact hz) (fun b hb => ?_) fun D h' tk out ep k1 k2 k3 h1 h2 => ?_
    · rw [dep_py b (pur_mem p1 hb)]
      have := dep_mem hb
      omega
    · obtain ⟨ws, w1, w2⟩ := each_back h2
      have hlen : ws.length ≤ sizeLine := by
        rw [← RVs.length w2, List.length_mergeSort, RVs.length rr]; exact hz
      have hn := I.hok.fresh k2
      exact ⟨.ref _, upd H D (.lst ws), I.laid (t' := tk) k1 k2 ⟨hlen, out, ep, w1, k3⟩, rfl, q _ _ (grows hn) hn (rf_newlst hn (nN hN hn) (fun z => nN hN hn (hS _ z)) w2)⟩
  | [.dik l us'], e =>
    simp only [dSorted] at e
    obtain ⟨hl, rfl⟩ := ite_some e
    rw [srt_eq] at q
    simp only [Bool.and_eq_true, decide_eq_true_eq] at hl
    obtain ⟨hi, ⟨⟨p1, al⟩, ho⟩, hd⟩ := hl
    obtain ⟨x, rfl, hx⟩ := rbs1 hxs
    obtain ⟨a, kk, ws, rfl, er, ek, nd, hlw, ru⟩ := rb_dik hx
    obtain ⟨u, rfl, ru'⟩ := vals1 r
    cases ru'
    obtain ⟨z, lo, wv, rk, hdd⟩ := dk_rd I.hok er
    obtain ⟨ep, hat⟩ := hdd.dictAt
    have rr : G.rvs H N sh l (kk.map kV) := ints_keys hi (by simpa using ek)
    have hz : (kk.map kV).length ≤ sizeLine := by
      rw [List.length_map]
      rw [List.length_zip, ← hlw, Nat.min_self] at z; exact z
    have E1 : ∀ its, Vals (kk.map kV) its → PySem.W.EachIs (fun u d => ∃ v, RelV v u ∧ G.rv H N sh d v) its l := fun its rv => each_of rr rv fun d v u _ h1 h2 => ⟨v, h2, h1⟩
    have E2 : ∀ its, Vals (kk.map kV) its → PySem.W.EachIs (fun u d => ∃ as, Reads s.heap u (toPy d) as) its l := fun its rv => each_of rr rv fun d v u hm h1 h2 => Dp.reads I _ _ _ (hK ▸ (rv_dp d v (pur_mem p1 hm) h1).1) h2
    have hal : PySem.W.AllAlike (l.map toPy) := by
      intro d hd d' hd'
      obtain ⟨x, hx, rfl⟩ := List.mem_map.mp hd
      obtain ⟨y, hy, rfl⟩ := List.mem_map.mp hd'
      exact List.all_eq_true.mp (List.all_eq_true.mp al x hx) y hy
    have hso : PySem.W.Sortable (l.map toPy) := by
      rcases Bool.or_eq_true _ _ ▸ ho with ho | ho
      · left
        intro d hd
        obtain ⟨x, hx, rfl⟩ := List.mem_map.mp hd
        have := List.all_eq_true.mp ho x hx
        split at this
        · exact ⟨_, _, rfl⟩
        · cases this
      · right
        intro d hd
        obtain ⟨x, hx, rfl⟩ := List.mem_map.mp hd
        have := List.all_eq_true.mp ho x hx
        split at this <;> first | (cases this; done) | exact ⟨by simp [toPy], by simp [toPy]⟩
    have hlw2 : (kk.zip ws).length = wv.length := KV.length rk
    refine call_sortedC (Vals (kk.map kV)) (R := fun u d => ∃ v, RelV v u ∧ G.rv H N sh d v) (enc := toPy) (fun Q' hq => collect_src (A := X.A.in1) (PySem.W.kdl_dict (knd := mixKind X.prog X.w) (kvs := wv) (ep := ep) lo) (show X.A.in1.handled = none from I.ok.hd hc) hat (by rw [← hlw2]; exact z) fun h' tk acc k1 k4 k3 => hq _ h' tk (vals_keys rk hlw k3) k1 k4) E1 E2 hal hso (by rw [RVs.length rr]; exact hz) (fun b hb => ?_) fun D h' tk out ep k1 k2 k3 h1 h2 => ?_
    · rw [dep_py b (pur_mem p1 hb)]
      have := dep_mem hb
      omega
    · obtain ⟨us2, w1, w2⟩ := each_back h2
      have hlen : us2.length ≤ sizeLine := by
        rw [← RVs.length w2, List.length_mergeSort, RVs.length rr]; exact hz
      have hn := I.hok.fresh k2
      exact ⟨.ref _, upd H D (.lst us2), I.laid (t' := tk) k1 k2 ⟨hlen, out, ep, w1, k3⟩, rfl, q _ _ (grows hn) hn (rf_newlst hn (nN hN hn) (fun z => nN hN hn (hS _ z)) w2)⟩
end
end Mi

/-! exceptions: classes, raise, try .. except -/
namespace Mi
open PySem PySem.Spec PyProof.Rows L2

/-- an exception class: its name, its fields in the order of the stores in __init__, the law's classes that it is under -/
structure Ec where
  nm : Str
  fl : List Str
  sup : List Nat
def subC (cs : List (Nat × Ec)) (c d : Nat) : Bool := c == d || (match cs.lookup c with | some e => e.sup.contains d | none => false)
def flC (cs : List (Nat × Ec)) (c : Nat) : List Str := match cs.lookup c with | some e => e.fl.reverse | none => []
/-- the check of a class in the written part -/
def oexB (K : PySem.W.Frag) (C : Addr) : Bool := match K.lookup C with
  | some ⟨.type t, _, .cls cd, sl⟩ => decide (t = "type") && (match cd.mro, sl.toList with
    | .ref B :: bm, [_, _, _, _, some (.builtin n), _] => decide (B = C) && decide (n = "ValueError.__new__") && !cd.hasDel && cd.hasDict && PySem.HandSPX.refsVE bm
    | _, _ => false)
  | _ => false
def eqB (a b : Option (Option Value)) : Bool := decide (a = b)
/-- what isinstance asks of an instance's class -/
structure IsC (K : PySem.W.Frag) (C : Addr) : Prop where
  cl : (PySem.W.clsIn K C).isSome = true
  ca : PySem.W.findIn K (.ref C) "__class__" = some (some (.builtin "object.__class__"))
  gt : PySem.W.specialIn K (.builtin "object.__class__") "__get__" = some (some (.builtin "getset_descriptor.__get__"))
  tk : PySem.W.takesIn K (.builtin "object.__class__") = some true
  ob : PySem.W.mroIn K C (.type "object") = some true
def clsB (K : PySem.W.Frag) (C : Addr) : Bool := oexB K C && xfB K C && eqB (PySem.W.findIn K (.ref C) "__setattr__") (some (some (.builtin "object.__setattr__"))) && decide (PySem.W.typeIn K (.ref C) = some (.type "type")) && PySem.W.keepIn K (.ref C) &&
  eqB (PySem.W.findIn K (.ref C) "__class__") (some (some (.builtin "object.__class__"))) && eqB (PySem.W.specialIn K (.builtin "object.__class__") "__get__") (some (some (.builtin "getset_descriptor.__get__"))) && decide (PySem.W.takesIn K (.builtin "object.__class__") = some true) && decide (PySem.W.mroIn K C (.type "object") = some true)
theorem ban {a b : Bool} (h : (a && b) = true) : a = true ∧ b = true := by cases a <;> cases b <;> first | exact ⟨rfl, rfl⟩ | cases h
theorem eqB_ok {a b : Option (Option Value)} (h : eqB a b = true) : a = b := of_decide_eq_true h
theorem clsB_ok {K : PySem.W.Frag} {C : Addr} (h : clsB K C = true) : OexC K C ∧ XfC K C ∧ IsC K C := by
  unfold clsB at h
  obtain ⟨h, h9⟩ := ban h
  obtain ⟨h, h8⟩ := ban h
  obtain ⟨h, h7⟩ := ban h
  obtain ⟨h, h6⟩ := ban h
  obtain ⟨h, h5⟩ := ban h
  obtain ⟨h, h4⟩ := ban h
  obtain ⟨h, h3⟩ := ban h
  obtain ⟨h1, h2⟩ := ban h
  have xf := xfB_ok h2
  have cl : (PySem.W.clsIn K C).isSome = true := by
    have q := xf.hdC
    unfold PySem.W.hasDictIn at q
    cases e : PySem.W.clsIn K C with
    | none => rw [e] at q; cases q
    | some cd => rfl
  refine ⟨⟨?_, eqB_ok h3, xf.exC, of_decide_eq_true h4, h5⟩, xf, cl, eqB_ok h6, eqB_ok h7, of_decide_eq_true h8, of_decide_eq_true h9⟩
  unfold oexB at h1
  split at h1
  · rename_i t dd cd sl hq
    obtain ⟨t1, t2⟩ := ban h1
    have et := of_decide_eq_true t1
    split at t2
    · rename_i B bm k0 k1 k2 k3 n k5 em es
      obtain ⟨t2, u5⟩ := ban t2
      obtain ⟨t2, u4⟩ := ban t2
      obtain ⟨t2, u3⟩ := ban t2
      obtain ⟨u1, u2⟩ := ban t2
      have e1 := of_decide_eq_true u1
      have e2 := of_decide_eq_true u2
      obtain ⟨a1, a2, a3, a4, a5, a6, a7, a8, a9, a10, a11⟩ := cd
      obtain ⟨ls⟩ := sl
      simp only at em es u3 u4
      subst em es e1 e2 u4
      have u3' : a11 = false := by cases a11 <;> first | rfl | cases u3
      subst u3' et
      exact ⟨a1, a5, a4, a2, bm, a7, a8, a9, a10, dd, k0, k1, k2, k3, k5, hq, u5⟩
    · cases t2
  · cases h1
/-- what the top must say of the law's exception classes -/
structure EcOk (G : Cg) (mg : Str → Option Value) (cs : List (Nat × Ec)) : Prop where
  fl : ∀ c : Nat, G.fl c = flC cs c
  cl : ∀ (c : Nat) (C : Addr), G.cl c = some C → ∃ e, cs.lookup c = some e
  at_ : ∀ (c : Nat) (e : Ec), cs.lookup c = some e → ∃ C, G.cl c = some C ∧ mg e.nm = some (.ref C) ∧ OexC G.K C ∧ XfC G.K C ∧ IsC G.K C ∧ (∀ f ∈ e.fl, PySem.W.findIn G.K (.ref C) f = some none) ∧
    PySem.W.kitOne G.K (.ref C) (.type "ValueError") = some true
  sub : ∀ (c d : Nat) (C E : Addr), G.cl c = some C → G.cl d = some E → PySem.W.exmOne G.K (.ref C) (.ref E) = some (subC cs c d) ∧ PySem.W.kitOne G.K (.ref C) (.ref E) = some (subC cs c d)

theorem rev_zip {α β : Type} : ∀ {xs : List α} {ys : List β}, xs.length = ys.length → (xs.zip ys).reverse = xs.reverse.zip ys.reverse
  | [], [], _ => rfl
  | x :: xs, y :: ys, h => by
    have h' : xs.length = ys.length := by simpa using h
    rw [List.zip_cons_cons, List.reverse_cons, List.reverse_cons, List.reverse_cons, rev_zip h', List.zip_append (by simpa using h')]
    rfl
  | [], _ :: _, h => by cases h
  | _ :: _, [], h => by cases h

/-! ### raise -/
/-- the promise of a class's __init__ -/
def spInit (K : PySem.W.Frag) (C : Addr) (fl : List Str) : Sp := fun vs H Q _ => ∃ a ys, vs = .ref a :: ys ∧ ys.length = fl.length ∧ H a = some (exo a C none) ∧
  ∀ (dx : Addr) (H2 : Hp), H dx = none → dx ≠ a → H2 a = some (exo a C (some dx)) → H2 dx = some (exd dx (fl.zip ys).reverse) → (∀ b, b ≠ a → b ≠ dx → H2 b = H b) → Q .non H2
/-- raise C(..) -/
def rRaise (pr : Bool) (c : Nat) (rs : AE → R (List D)) : AE → R Fl := fun ρ => if pr = true then (rs ρ).bind fun ds ρ1 => if ds.length ≤ 900 then .exc c ds.reverse ρ1 else .bad else .bad
section
variable {G : Cg} {W : WX} {X : Cx} {cs : List (Nat × Ec)} {rs : AE → R (List D)} {x : Str} {e : Expr} {es : List Expr} {p pos pos' : Pos}
theorem ps_raiseA {pr : Bool} {c : Nat} {C fI : Addr} {fl ps : List Str} {k : Nat} {fd : FuncData} (hK : X.K = G.K) (hc : X.calm = true) (tk : Takes X W) (T : OexC X.K C) (hcl : G.cl c = some C) (hfl : G.fl c = fl.reverse)
    (iC : PySem.W.findIn X.K (.ref C) "__init__" = some (some (.ref fI))) (tI : PySem.W.typeIn X.K (.ref fI) = some (.type "function")) (F1 : FnOk X.prog X.w X.K X.mg X.base (CX X.prog X.w) k fI fd ps (spInit X.K C fl)) (hr : pr = true → Room (k + 1) X.A)
    (hb : Binds X.K fd ps []) (hg : Gl X x) (hm : X.mg x = some (.ref C)) (hdb : (x == ("__debug__" : Str)) = false) (ha : PA X (e :: es) (tEv G W G.rvs rs)) (hl : ∀ ρ ds ρ1, rs ρ = .ok ds ρ1 → ds.length = fl.length) (hs : isStar e = false) (hpl : (backTo pos (starEach es X.env)).any (·.1) = false) :
    PS X (.Raise (some (.Call (.Name x p) (e :: es) [] pos)) none pos') (tSv G W (rRaise pr c rs)) := by
  by_cases hpr : pr = true
  · refine PS.imp (ps_raise hc tk (pmk_oex T iC tI F1 (hr hpr) hb .nil (passes_call (E := fun _ _ _ => False) tk fun _ _ _ _ z => z.elim) hg hm ha hdb (star_of hs) hpl)) fun D σ H t => ?_
    obtain ⟨sh, N, ρ, rp, q⟩ := t
    unfold rRaise at q
    rw [if_pos hpr] at q
    refine tEv.stmt rp q fun ds ρ1 sh1 N1 vs H1 e1 rp1 k1 hv q1 => ?_
    have hlen := hl _ _ _ e1
    have hvl : ds.length = vs.length := RVs.length hv
    by_cases h9 : ds.length ≤ 900
    · rw [if_pos h9] at q1
      refine ⟨by omega, fun a ha => ⟨a, vs ++ [], rfl, by rw [List.append_nil]; omega, upd_same, fun dx H2 hn hne h2a h2d h2o => ⟨rfl, dx, _, h2a, h2d, ?_, ?_⟩⟩⟩
      · rw [upd_ne hne] at hn; exact hn
      · have hn1 : H1 dx = none := by rw [upd_ne hne] at hn; exact hn
        have ef : ∀ b, b ≠ dx → upd (del H2 a) dx (.xd (fl.zip (vs ++ [])).reverse) b = H1 b := fun b hb => by
          rw [upd_ne hb]
          by_cases hba : b = a
          · rw [hba, del_same, ha]
          · rw [del_ne hba, h2o b hba hb, upd_ne hba]
        have gr : ∀ b o, H1 b = some o → upd (del H2 a) dx (.xd (fl.zip (vs ++ [])).reverse) b = some o := fun b o hb => by
          rw [ef b fun z => by rw [z, hn1] at hb; cases hb]; exact hb
        refine q1 (.ref C) (some dx) sh1 N1 σ _ (rp1.grow gr (fun _ z => z) (fun _ z => .inl z) fun b hb => ?_) ⟨fun b o z _ _ => gr b o z, fun _ _ _ z => z, fun _ _ _ z => z, fun _ _ _ z => z, List.prefix_rfl, fun b o z => ⟨o, gr b o z⟩, fun _ _ z => z, fun _ _ _ n _ => n, fun _ _ _ _ z => z⟩ ?_
        · obtain ⟨o, z⟩ := rp1.dom b hb
          exact ⟨o, gr b o z⟩
        · refine ⟨C, dx, vs.reverse, hcl, rfl, rfl, ?_, fun z => ?_, ?_, ?_⟩
          · rw [upd_same, hfl, List.append_nil, rev_zip (by omega)]
          · obtain ⟨o, z⟩ := rp1.dom dx z
            rw [hn1] at z; cases z
          · refine RVs.reverse (RVs.mono' (fun b u hb n => ⟨?_, n⟩) (fun _ _ z => z) _ _ hv)
            rcases hb with hb | ⟨o, hb⟩
            · exact .inl (gr b _ hb)
            · exact .inr ⟨o, gr b _ hb⟩
          · rw [hfl, List.length_reverse, List.length_reverse]; omega
    · rw [if_neg h9] at q1; exact q1.elim
  · refine PS.imp ps_never fun D σ H t => ?_
    obtain ⟨sh, N, ρ, rp, q⟩ := t
    unfold rRaise at q
    rw [if_neg hpr] at q
    exact q
end
end Mi

/-! a class's __init__; try .. except -/
namespace Mi
open PySem PySem.Spec PyProof.Rows L2

/-! ### __init__ -/
def initB1 (N : List Str) (f : Str) : List Stmt → Bool
  | [.Assign [.Attribute (.Name s p1) g p2] (.Name y p3) p4] => decide (N = [s, y]) && decide (g = f) && decide (y = f) && !(s == ("__debug__" : Str)) && !(s == ("__classdict__" : Str)) && !(y == ("__debug__" : Str)) && !(y == ("__classdict__" : Str))
  | _ => false
def initB2 (N : List Str) (f g : Str) : List Stmt → Bool
  | [.Assign [.Attribute (.Name s p1) f1 p2] (.Name y p3) p4, .Assign [.Attribute (.Name s2 p5) g1 p6] (.Name z p7) p8] => decide (N = [s, y, z]) && decide (s2 = s) && decide (f1 = f) && decide (g1 = g) && !(s == ("__debug__" : Str)) && !(s == ("__classdict__" : Str)) && !(y == ("__debug__" : Str)) && !(y == ("__classdict__" : Str)) && !(z == ("__debug__" : Str)) && !(z == ("__classdict__" : Str))
  | _ => false
def locB (sc : Scope) (N : List Str) : Bool := N.all fun x => match sc.names.lookup x with
  | some .local => true
  | some .cell => true
  | _ => false
def initB (N fl : List Str) (body : List Stmt) : Bool := match fl with
  | [f] => initB1 N f body
  | [f, g] => initB2 N f g body
  | _ => false
theorem locB_vis {sc : Scope} {N : List Str} (h : locB sc N = true) {x : Str} (hx : x ∈ N) : Vis sc x := by
  have := List.all_eq_true.mp h x hx
  split at this
  · exact .inl (by assumption)
  · exact .inr (.inl (by assumption))
  · cases this
theorem nb' {b : Bool} (h : (!b) = true) : b = false := by cases b <;> first | rfl | cases h
theorem initB1_inv {N : List Str} {f : Str} {body : List Stmt} (h : initB1 N f body = true) : ∃ s p1 p2 p3 p4, body = [.Assign [.Attribute (.Name s p1) f p2] (.Name f p3) p4] ∧ N = [s, f] ∧ (s == ("__debug__" : Str)) = false ∧ (s == ("__classdict__" : Str)) = false ∧ (f == ("__debug__" : Str)) = false ∧ (f == ("__classdict__" : Str)) = false := by
  unfold initB1 at h
  split at h
  · obtain ⟨h, b7⟩ := ban h
    obtain ⟨h, b6⟩ := ban h
    obtain ⟨h, b5⟩ := ban h
    obtain ⟨h, b4⟩ := ban h
    obtain ⟨h, b3⟩ := ban h
    obtain ⟨b1, b2⟩ := ban h
    have e1 := of_decide_eq_true b1
    have e2 := of_decide_eq_true b2
    have e3 := of_decide_eq_true b3
    subst e1
    subst e3
    subst e2
    exact ⟨_, _, _, _, _, rfl, rfl, nb' b4, nb' b5, nb' b6, nb' b7⟩
  · cases h
theorem initB2_inv {N : List Str} {f g : Str} {body : List Stmt} (h : initB2 N f g body = true) : ∃ s y z p1 p2 p3 p4 p5 p6 p7 p8, body = [.Assign [.Attribute (.Name s p1) f p2] (.Name y p3) p4, .Assign [.Attribute (.Name s p5) g p6] (.Name z p7) p8] ∧ N = [s, y, z] ∧ (s == ("__debug__" : Str)) = false ∧ (s == ("__classdict__" : Str)) = false ∧
    (y == ("__debug__" : Str)) = false ∧ (y == ("__classdict__" : Str)) = false ∧ (z == ("__debug__" : Str)) = false ∧ (z == ("__classdict__" : Str)) = false := by
  unfold initB2 at h
  split at h
  · obtain ⟨h, b10⟩ := ban h
    obtain ⟨h, b9⟩ := ban h
    obtain ⟨h, b8⟩ := ban h
    obtain ⟨h, b7⟩ := ban h
    obtain ⟨h, b6⟩ := ban h
    obtain ⟨h, b5⟩ := ban h
    obtain ⟨h, b4⟩ := ban h
    obtain ⟨h, b3⟩ := ban h
    obtain ⟨b1, b2⟩ := ban h
    have e1 := of_decide_eq_true b1
    have e2 := of_decide_eq_true b2
    have e3 := of_decide_eq_true b3
    have e4 := of_decide_eq_true b4
    subst e1
    subst e3
    subst e4
    subst e2
    exact ⟨_, _, _, _, _, _, _, _, _, _, _, rfl, rfl, nb' b5, nb' b6, nb' b7, nb' b8, nb' b9, nb' b10⟩
  · cases h
theorem initFn {P : Program} {w : World} {K : PySem.W.Frag} {mg : Str → Option Value} {base : Heap} {C : Addr} {fl N : List Str} {nm qual : Str} {args : Arguments} {body : List Stmt} {sc : Scope} {fa : Addr} {fd : FuncData} (F : FunD K nm qual args body sc [] [] fa fd) (S : FnScope N N sc) (hl : locB sc N = true) (hN : N.length = fl.length + 1)
    (hi : initB N fl body = true) (T : OexC K C) (hno : ∀ f ∈ fl, PySem.W.findIn K (.ref C) f = some none) (k : Nat) : FnOk P w K mg base (CX P w) (k + 1) fa fd N (spInit K C fl) := by
  refine F.ok S (fun vs H Q E ⟨a, ys, e, h, _⟩ => by rw [e, List.length_cons, h, hN]) fun cdv A outer s H vs Q E hr hsp => ?_
  obtain ⟨a, ys, rfl, hy, ha, q⟩ := hsp
  match fl, hy, hi, hno, q with
  | [f], hy, hi, hno, q =>
    match ys, hy with
    | [y], _ =>
    obtain ⟨s', p1, p2, p3, p4, eb, eN, d1, d2, d3, d4⟩ := initB1_inv (show initB1 N f body = true from hi)
    subst eb eN
    have v1 := locB_vis hl (x := s') (by simp)
    have v2 := locB_vis hl (x := f) (by simp)
    refine ⟨_, pss_cons (ps_ost (pe_var (i := 0) rfl v1 d1 d2) (pe_var (i := 1) rfl v2 d3 d4) rfl) pss_nil, ?_⟩
    refine ⟨y, rfl, .ref a, rfl, a, C, rfl, T, hno f (by simp), .inl ⟨ha, fun dx hn hne => ?_⟩⟩
    exact q dx _ hn hne upd_same (by rw [upd_ne hne, upd_same]; rfl) fun b h1 h2 => by rw [upd_ne h1, upd_ne h2]
  | [f, g], hy, hi, hno, q =>
    match ys, hy with
    | [y, z], _ =>
    obtain ⟨s', y', z', p1, p2, p3, p4, p5, p6, p7, p8, eb, eN, d1, d2, d3, d4, d5, d6⟩ := initB2_inv (show initB2 N f g body = true from hi)
    subst eb eN
    have v1 := locB_vis hl (x := s') (by simp)
    have v2 := locB_vis hl (x := y') (by simp)
    have v3 := locB_vis hl (x := z') (by simp)
    refine ⟨_, pss_cons (ps_ost (pe_var (i := 0) rfl v1 d1 d2) (pe_var (i := 1) rfl v2 d3 d4) rfl) (pss_cons (ps_ost (pe_var (i := 0) rfl v1 d1 d2) (pe_var (i := 2) rfl v3 d5 d6) rfl) pss_nil), ?_⟩
    refine ⟨y, rfl, .ref a, rfl, a, C, rfl, T, hno f (by simp), .inl ⟨ha, fun dx hn hne => ?_⟩⟩
    refine ⟨z, rfl, .ref a, rfl, a, C, rfl, T, hno g (by simp), .inr ⟨dx, [(f, y)], upd_same, by rw [upd_ne hne, upd_same], by simp, ?_⟩⟩
    exact q dx _ hn hne (by rw [upd_ne (Ne.symm hne), upd_same]) (by rw [upd_same]; rfl) fun b h1 h2 => by rw [upd_ne h2, upd_ne h1, upd_ne h2]
  | [], hy, hi, hno, q => cases hi
  | _ :: _ :: _ :: _, hy, hi, hno, q => cases hi

/-! ### what an except suite says -/
mutual
inductive HE where
  | attr (f : Str) (tb : List (Nat × Nat)) | str (s : Str) | non | isi (k : Nat) (cs : List Nat) | isv | tup (l : HL) | lst (l : HL) | ite (t : HL) (a b : HE)
inductive HL where | nil | cons (a : HE) (l : HL)
end
inductive HB where | ret (a : HE) | if_ (t : HL) (a : HB) (r : HB)
mutual
def hE (c : Nat) (ds : List D) : HE → Option D
  | .attr _ tb => (tb.lookup c).bind fun k => ds[k]?
  | .str s => some (.str s)
  | .non => some .non
  | .isi _ cs => some (.bl (cs.contains c))
  | .isv => some (.bl true)
  | .tup l => (hL c ds l).map .tup
  | .lst l => (hL c ds l).map .lst
  | .ite t a b => (hT c ds t).bind fun q => if q = true then hE c ds a else hE c ds b
def hL (c : Nat) (ds : List D) : HL → Option (List D)
  | .nil => some []
  | .cons a l => (hE c ds a).bind fun d => (hL c ds l).map (d :: ·)
/-- all of them -/
def hT (c : Nat) (ds : List D) : HL → Option Bool
  | .nil => some true
  | .cons a l => (hE c ds a).bind fun d => match d with | .bl q => if q = true then hT c ds l else some false | _ => none
end
def hB (c : Nat) (ds : List D) : HB → Option D
  | .ret a => hE c ds a
  | .if_ t a r => (hT c ds t).bind fun q => if q = true then hB c ds a else hB c ds r
def hll : HL → Nat | .nil => 0 | .cons _ l => hll l + 1
/-- the state of a suite -/
structure Hs (G : Cg) (i : Option Nat) (a dd C : Addr) (c : Nat) (ds : List D) (N : Addr → Prop) (sh : List Addr) (σ : Sg) (H : Hp) : Prop where
  sl : ∀ j, i = some j → σ[j]? = some (some (.ref a))
  cl : G.cl c = some C
  xd : ∃ vs, H dd = some (.xd ((G.fl c).zip vs)) ∧ G.rvs H N sh ds vs ∧ (G.fl c).length = vs.length
theorem Hs.grow {G : Cg} {i : Option Nat} {a dd C : Addr} {c : Nat} {ds : List D} {N : Addr → Prop} {sh : List Addr} {σ : Sg} {H H' : Hp} (h : Hs G i a dd C c ds N sh σ H) (gr : ∀ b o, H b = some o → H' b = some o) : Hs G i a dd C c ds N sh σ H' := by
  obtain ⟨vs, h1, h2, h3⟩ := h.xd
  refine ⟨h.sl, h.cl, vs, gr _ _ h1, RVs.mono' (fun b u hb n => ⟨?_, n⟩) (fun _ _ z => z) _ _ h2, h3⟩
  rcases hb with hb | ⟨o, hb⟩
  · exact .inl (gr b _ hb)
  · exact .inr ⟨o, gr b _ hb⟩
section
variable (G : Cg) (i : Option Nat) (a : Addr) (cls : Value) (d : Option Addr)
def tHx {α β : Type} (rel : Rel α β) (r : Nat → List D → Option α) : Sg → Hp → (β → Hp → Prop) → Prop := fun σ H Q => ∃ dd C c ds N sh x, cls = .ref C ∧ d = some dd ∧ (∀ b, N b → ∃ o, H b = some o) ∧ Hs G i a dd C c ds N sh σ H ∧ r c ds = some x ∧ ∀ v H', (∀ b o, H b = some o → H' b = some o) → rel H' N sh x v → Q v H'
/-- .. with the state told -/
def tHs (r : Nat → List D → Option D) : TS := fun E σ H => ∃ dd C c ds N sh x, cls = .ref C ∧ d = some dd ∧ (∀ b, N b → ∃ o, H b = some o) ∧ Hs G i a dd C c ds N sh σ H ∧ r c ds = some x ∧ ∀ v H', (∀ b o, H b = some o → H' b = some o) → G.rv H' N sh x v → E.rt v H'
end
end Mi

/-! the walk of an except suite -/
namespace Mi
open PySem PySem.Spec PyProof.Rows L2

/-! ### isinstance of the caught one -/
def rIsX (K : PySem.W.Frag) (a dd C : Addr) : List V → Hp → VK → Prop := fun xs H Q => ∃ (c : V) (cv : Value) (fs : List (Str × V)) (b : Bool), xs = [.ref a, c] ∧ (∀ u, RelV c u → u = cv) ∧ H dd = some (.xd fs) ∧ PySem.W.kitOne K (.ref C) cv = some b ∧ Q (.bl b) H
theorem call_isX {X : Cx} {a dd C : Addr} {oe : Obj} {pn : List (Addr × Obj)} (T : XfC X.K C) (S : IsC X.K C) (hz : Zc (.ref C) (some dd) oe) (hf : ∃ vs, oe.data = .fields vs) : CallR (X.suite a ((a, oe) :: pn)) (.builtin "isinstance") (rIsX X.K a dd C) := by
  intro pins s σ H xs us Q I rel h
  obtain ⟨c, cv, fs, b, ex, hcv, hd, hk, hq⟩ := h
  subst ex
  match us, rel with
  | _, .cons r1 (.cons r2 .nil) =>
    have e2 := hcv _ r2
    subst e2
    have e1 : _ = Value.ref a := r1
    subst e1
    have hg := (I.pin (a, oe) (List.mem_append_left _ (List.mem_cons_self ..))).1
    have hx : ObjOk X.prog X.w H s.heap dd (.xd fs) := I.hok dd _ hd
    obtain ⟨m, hns, _⟩ := hx
    obtain ⟨od, ho, _⟩ := lookIn_ns hns
    obtain ⟨vs, hv⟩ := hf
    have ia : PySem.W.InstAt s.heap a oe C (some od) := ⟨hg, hz.1, by (unfold PySem.W.notCls; rw [hv]), by (rw [hz.2]; exact ho)⟩
    have kx := PySem.W.kitx_exc (x := a) (ox := oe) (od := some od) S.cl T.ga T.gg T.exC S.ca S.gt S.tk S.ob
    exact PySem.W.kia_one kx I.kIn ia hk (by intro z; cases z) fun tk => ⟨.bl b, H, I.tok tk, rfl, hq⟩

/-! ### the check -/
def ckNm (N : List Str) (sc : Scope) (i : Option Nat) (x : Str) : Bool := match i with
  | some j => decide (N[j]? = some x) && (match sc.names.lookup x with | some .local => true | _ => false) && !(x == ("__debug__" : Str)) && !(x == ("__classdict__" : Str))
  | none => false
def ckGl (sc : Scope) (x : Str) : Bool := decide (sc.names.lookup x = some .globalImplicit) && !(x == ("__debug__" : Str))
def plE : Expr → Bool | .UnaryOp .Not _ _ => false | .BoolOp .. => false | .IfExp .. => false | .Compare .. => false | _ => true
def isNil : HL → Bool | .nil => true | _ => false
def nStar : Expr → Bool | .Starred .. => false | _ => true
section
variable (cs : List (Nat × Ec)) (N : List Str) (sc : Scope) (i : Option Nat)
def nmC (k : Nat) (y : Str) : Bool := match cs.lookup k with | some e => decide (e.nm = y) | none => false
mutual
def ckHE : HE → Expr → Bool
  | .attr f tb, e => (match e with
    | .Attribute (.Name x _) g _ => decide (f = g) && ckNm N sc i x && tb.all fun p => (cs.lookup p.1).isNone || (decide ((flC cs p.1).Nodup) && decide ((flC cs p.1)[p.2]? = some f))
    | _ => false)
  | .str s, e => (match e with | .Constant (.str z) _ _ => decide (s = z) && PyData.strOk s && decide (s.length ≤ 10000) | _ => false)
  | .non, e => (match e with | .Constant .none _ _ => true | _ => false)
  | .isi k l, e => (match e with
    | .Call (.Name x _) [.Name n _, .Name y _] [] _ => decide (x = ("isinstance" : Str)) && ckGl sc x && ckNm N sc i n && ckGl sc y && nmC cs k y && cs.all fun p => l.contains p.1 == subC cs p.1 k
    | _ => false)
  | .isv, e => (match e with
    | .Call (.Name x _) [.Name n _, .Name y _] [] _ => decide (x = ("isinstance" : Str)) && ckGl sc x && ckNm N sc i n && ckGl sc y && decide (y = ("ValueError" : Str))
    | _ => false)
  | .tup l, e => (match e with | .Tuple es _ _ => ckHL l es && decide (hll l ≤ 100) | _ => false)
  | .lst l, e => (match e with | .List es _ => ckHL l es && decide (hll l ≤ 100) | _ => false)
  | .ite t a b, e => (match e with | .IfExp c x y _ => ckHT t c && ckHE a x && ckHE b y | _ => false)
def ckHL : HL → List Expr → Bool
  | .nil, es => es.isEmpty
  | .cons a l, es => (match es with | x :: es => nStar x && ckHE a x && ckHL l es | [] => false)
/-- one plain test, or several with and -/
def ckHT : HL → Expr → Bool
  | .cons a l, e => (match e with | .BoolOp .And (x :: es) _ => plE x && ckHE a x && ckHA l es | _ => isNil l && plE e && ckHE a e)
  | .nil, e => false
def ckHA : HL → List Expr → Bool
  | .nil, es => es.isEmpty
  | .cons a l, es => (match es with | x :: es => plE x && ckHE a x && ckHA l es | [] => false)
end
def ckHB : HB → List Stmt → Bool
  | .ret a, ss => (match ss with | [.Return (some e) _] => ckHE cs N sc i a e | _ => false)
  | .if_ t a r, ss => (match ss with | .If c x [] _ :: rest => ckHT cs N sc i t c && ckHB a x && ckHB r rest | _ => false)
end
theorem plE_ok {e : Expr} {env : PySem.Env} (h : plE e = true) : ∀ whole, isTrue e env whole = (do let v ← whole; standAt e.pos; holding [v] (truthy v)) := by
  intro w
  cases e with
  | UnaryOp o _ _ => cases o <;> first | rfl | cases h
  | _ => first | rfl | cases h
theorem nstar_ok {e : Expr} {es : List Expr} {env : PySem.Env} (h : nStar e = true) : starEach (e :: es) env = (false, eval e env) :: starEach es env := by
  cases e <;> first | rfl | cases h
theorem growU {H H1 : Hp} {p : Addr} {o : HO} (gr : ∀ b o, H b = some o → H1 b = some o) (hp : H1 p = none) : ∀ b u, H b = some u → upd H1 p o b = some u := fun b u z => by
  have z1 := gr b u z
  rw [upd_ne fun e => by rw [e, hp] at z1; cases z1]; exact z1
theorem look_in {α : Type} {c : Nat} {e : α} : ∀ {l : List (Nat × α)}, l.lookup c = some e → (c, e) ∈ l
  | [], h => by cases h
  | y :: l, h => by
    rw [List.lookup_cons] at h
    cases w : c == y.1 with
    | true =>
      rw [w] at h
      have e3 : y.2 = e := Option.some.inj h
      rw [eq_of_beq w, ← e3]; exact List.mem_cons_self ..
    | false => rw [w] at h; exact List.mem_cons_of_mem _ (look_in h)
theorem hL_len {c : Nat} {ds : List D} : ∀ {l : HL} {xs : List D}, hL c ds l = some xs → xs.length = hll l
  | .nil, xs, h => by simp only [hL] at h; cases h; rfl
  | .cons a l, xs, h => by
    simp only [hL] at h
    obtain ⟨d, _, h⟩ := Option.bind_eq_some_iff.mp h
    obtain ⟨ys, hy, e⟩ := Option.map_eq_some_iff.mp h
    rw [← e, List.length_cons, hL_len hy]; rfl
theorem grd {H H' : Hp} (gr : ∀ b o, H b = some o → H' b = some o) {b : Addr} {u : HO} (h : Rd H b u) : Rd H' b u := by
  rcases h with h | ⟨o, h⟩
  · exact .inl (gr b _ h)
  · exact .inr ⟨o, gr b _ h⟩
theorem look_nd : ∀ {l : List Str} {vs : List V} {k : Nat} {f : Str} {v : V}, l.Nodup → l[k]? = some f → vs[k]? = some v → (l.zip vs).lookup f = some v
  | [], _, _, _, _, _, h, _ => by simp at h
  | _ :: _, [], _, _, _, _, _, h => by simp at h
  | x :: l, v :: vs, 0, f, u, nd, h1, h2 => by
    simp at h1 h2
    subst h1 h2
    simp [List.lookup]
  | x :: l, v :: vs, k + 1, f, u, nd, h1, h2 => by
    rw [List.nodup_cons] at nd
    have h1' : l[k]? = some f := by simpa using h1
    have hne : (f == x) = false := by
      cases q : f == x with
      | false => rfl
      | true => exact absurd (eq_of_beq q ▸ List.mem_of_getElem? h1') nd.1
    rw [List.zip_cons_cons, List.lookup_cons, hne]
    exact look_nd nd.2 h1' (by simpa using h2)

section
variable {G : Cg} {X : Cx} {cs : List (Nat × Ec)} {N : List Str} {sc : Scope} {i : Option Nat} {a : Addr} {oe : Obj} {cls : Value} {d : Option Addr} {pn : List (Addr × Obj)}
/-- what a suite's walk needs -/
structure Hx (G : Cg) (X : Cx) (cs : List (Nat × Ec)) (N : List Str) (sc : Scope) (cls : Value) (d : Option Addr) (oe : Obj) : Prop where
  hK : X.K = G.K
  hN : X.N = N
  sc : X.env.scope = sc
  ec : EcOk G X.mg cs
  fr : X.mg ("isinstance" : Str) = none ∧ X.mg ("ValueError" : Str) = none
  hz : Zc cls d oe
  hf : ∃ vs, oe.data = .fields vs
theorem Hx.nm (h : Hx G X cs N sc cls d oe) {x : Str} {p : Pos} (c : ckNm N sc i x = true) : ∃ j, i = some j ∧ PE (X.suite a ((a, oe) :: pn)) (.Name x p) (tVar j) := by
  unfold ckNm at c
  cases i with
  | none => cases c
  | some j =>
    obtain ⟨c, c4⟩ := ban c
    obtain ⟨c, c3⟩ := ban c
    obtain ⟨c1, c2⟩ := ban c
    refine ⟨j, rfl, pe_var (X := X.suite a ((a, oe) :: pn)) (by show X.N[j]? = some x; rw [h.hN]; exact of_decide_eq_true c1) (.inl ?_) (nb' c3) (nb' c4)⟩
    show X.env.scope.names.lookup x = some .local
    rw [h.sc]
    split at c2
    · assumption
    · cases c2
theorem Hx.gl (h : Hx G X cs N sc cls d oe) {x : Str} (c : ckGl sc x = true) : Gl (X.suite a ((a, oe) :: pn)) x ∧ (x == ("__debug__" : Str)) = false := by
  obtain ⟨c1, c2⟩ := ban c
  refine ⟨?_, nb' c2⟩
  show X.env.kindOf x = some .globalImplicit
  unfold Env.kindOf
  rw [h.sc]
  exact of_decide_eq_true c1
theorem hA_ok2 {b : HE} {x : Expr} (p1 : PT (X.suite a ((a, oe) :: pn)) x (tB (tHx G i a cls d G.rv fun c ds => hE c ds b))) (l : HL) (es : List Expr) (p : Pos) (k3 : ckHA cs N sc i l es = true)
    (ih : es ≠ [] → PW (X.suite a ((a, oe) :: pn)) (.BoolOp .And es p) (tHx G i a cls d rl fun c ds => hT c ds l)) : PW (X.suite a ((a, oe) :: pn)) (.BoolOp .And (x :: es) p) (tHx G i a cls d rl fun c ds => hT c ds (.cons b l)) := by
  cases es with
  | nil =>
    cases l with
    | cons _ _ => simp only [ckHA] at k3; cases k3
    | nil =>
      refine PW.imp (pw_and1 p1) fun σ H Q t => ?_
      obtain ⟨dd, C, c, ds, M, sh, x, e1, e2, dm, hs, hx, q⟩ := t
      simp only [hT] at hx
      obtain ⟨d1, hd1, hx⟩ := Option.bind_eq_some_iff.mp hx
      cases d1 with
      | bl w =>
        refine ⟨dd, C, c, ds, M, sh, .bl w, e1, e2, dm, hs, hd1, fun v H1 gr hv => ?_⟩
        simp only [Cg.rv, RV] at hv
        have ex : x = w := by cases w <;> simp_all
        exact ⟨w, hv, q w H1 gr ex⟩
      | _ => cases hx
  | cons y es =>
    refine PW.imp (pw_and p1 (ih (by simp))) fun σ H Q t => ?_
    obtain ⟨dd, C, c, ds, M, sh, x, e1, e2, dm, hs, hx, q⟩ := t
    simp only [hT] at hx
    obtain ⟨d1, hd1, hx⟩ := Option.bind_eq_some_iff.mp hx
    cases d1 with
    | bl w =>
      refine ⟨dd, C, c, ds, M, sh, .bl w, e1, e2, dm, hs, hd1, fun v H1 gr hv => ?_⟩
      simp only [Cg.rv, RV] at hv
      refine ⟨w, hv, ?_⟩
      cases w with
      | true =>
        rw [if_pos rfl]
        simp only [if_true] at hx
        exact ⟨dd, C, c, ds, M, sh, x, e1, e2, fun b z => by
          obtain ⟨o, z⟩ := dm b z
          exact ⟨o, gr b o z⟩, hs.grow gr, hx, fun v H2 gr2 => q v H2 fun b o z => gr2 b o (gr b o z)⟩
      | false =>
        rw [if_neg (by decide)]
        simp at hx
        exact q false H1 gr hx
    | _ => cases hx
mutual
theorem hE_ok (h : Hx G X cs N sc cls d oe) : ∀ (b : HE) (e : Expr), ckHE cs N sc i b e = true → PE (X.suite a ((a, oe) :: pn)) e (tHx G i a cls d G.rv fun c ds => hE c ds b)
  | .attr f tb, e, k => by
    simp only [ckHE] at k
    split at k
    · rename_i x p1 g p2
      obtain ⟨k, k3⟩ := ban k
      obtain ⟨k1, k2⟩ := ban k
      have ef := of_decide_eq_true k1
      subst ef
      obtain ⟨j, rfl, pv⟩ := h.nm (a := a) (pn := pn) (p := p1) k2
      refine ⟨fun pins s σ H Q I t => ?_⟩
      obtain ⟨dd, C, c, ds, M, sh, x, e1, e2, dm, hs, hx, q⟩ := t
      obtain ⟨ec, he⟩ := h.ec.cl c C hs.cl
      obtain ⟨C', hC', _, _, xf, _, hno, _⟩ := h.ec.at_ c ec he
      rw [hs.cl] at hC'; cases hC'
      simp only [hE] at hx
      obtain ⟨n, hn, hd⟩ := Option.bind_eq_some_iff.mp hx
      have hp : (c, n) ∈ tb := look_in hn
      have k34 := List.all_eq_true.mp k3 _ hp
      simp only [he, Option.isNone_some, Bool.false_or] at k34
      obtain ⟨k4, k5⟩ := ban k34
      have nd := of_decide_eq_true k4
      have hfn := of_decide_eq_true k5
      obtain ⟨vs, hxd, hrv, hlen⟩ := hs.xd
      obtain ⟨v, hv1, hv2⟩ := RVs.get hrv hd
      have hmem : f ∈ ec.fl := by
        have := List.mem_of_getElem? hfn
        unfold flC at this
        rw [he] at this
        simpa using this
      refine (pe_xf (X := X) (T := h.hK ▸ xf) (h.hK ▸ hno f hmem) h.hz h.hf pv rfl).run pins s σ H Q I ⟨.ref a, hs.sl j rfl, rfl, e1, dd, _, v, e2, hxd, ?_, q v H (fun _ _ z => z) hv2⟩
      rw [h.ec.fl]
      exact look_nd nd hfn hv1
    · cases k
  | .str s, e, k => by
    simp only [ckHE] at k
    split at k
    · obtain ⟨k, k3⟩ := ban k
      obtain ⟨k1, k2⟩ := ban k
      have es := of_decide_eq_true k1
      subst es
      refine PE.imp pe_str fun σ H Q t => ?_
      obtain ⟨dd, C, c, ds, M, sh, x, e1, e2, dm, hs, hx, q⟩ := t
      simp only [hE] at hx
      cases hx
      exact q _ H (fun _ _ z => z) (by simp only [Cg.rv, RV]; exact ⟨trivial, k2, Nat.le_trans (of_decide_eq_true k3) (by rw [sizeLine_eq]; decide)⟩)
    · cases k
  | .non, e, k => by
    simp only [ckHE] at k
    split at k
    · refine PE.imp pe_non fun σ H Q t => ?_
      obtain ⟨dd, C, c, ds, M, sh, x, e1, e2, dm, hs, hx, q⟩ := t
      simp only [hE] at hx
      cases hx
      exact q _ H (fun _ _ z => z) (by simp only [Cg.rv, RV])
    · cases k
  | .isi kk l, e, k => by
    simp only [ckHE] at k
    split at k
    · rename_i x p1 n p2 y p3 p4
      obtain ⟨k, k6⟩ := ban k
      obtain ⟨k, k5⟩ := ban k
      obtain ⟨k, k4⟩ := ban k
      obtain ⟨k, k3⟩ := ban k
      obtain ⟨k1, k2⟩ := ban k
      have ex := of_decide_eq_true k1
      subst ex
      obtain ⟨j, rfl, pv⟩ := h.nm (a := a) (pn := pn) (p := p2) k3
      refine ⟨fun pins s σ H Q I t => ?_⟩
      obtain ⟨dd, C, c, ds, M, sh, x, e1, e2, dm, hs, hx, q⟩ := t
      simp only [hE] at hx
      cases hx
      obtain ⟨ec, he⟩ := h.ec.cl c C hs.cl
      obtain ⟨C', hC', _, _, xf, isc, _, _⟩ := h.ec.at_ c ec he
      rw [hs.cl] at hC'; cases hC'
      unfold nmC at k5
      cases hk : cs.lookup kk with
      | none => rw [hk] at k5; cases k5
      | some e3 =>
        rw [hk] at k5
        have en := of_decide_eq_true k5
        obtain ⟨B, hB, mB, _⟩ := h.ec.at_ kk e3 hk
        rw [en] at mB
        have sb := (h.ec.sub c kk C B hs.cl hB).2
        obtain ⟨gg, gd⟩ := h.gl (a := a) (oe := oe) (pn := pn) k4
        obtain ⟨gi, gid⟩ := h.gl (a := a) (oe := oe) (pn := pn) k2
        obtain ⟨vs, hxd, _, _⟩ := hs.xd
        have hm : (c, ec) ∈ cs := look_in he
        have hb : l.contains c = subC cs c kk := eq_of_beq (List.all_eq_true.mp k6 _ hm)
        refine (pe_callB (X := X.suite a ((a, oe) :: pn)) (call_isX (X := X) (C := C) (dd := dd) (h.hK ▸ xf) (h.hK ▸ isc) ⟨h.hz.1.trans e1, h.hz.2.trans e2⟩ h.hf) gi h.fr.1 (by decide +kernel) (pa_cons pv (pa_cons (pe_glob (v := V.ref B) gg mB rfl gd) pa_nil (by rfl)) (by rfl)) (by decide) gid (by rfl) (by rfl)).run pins s σ H Q I ?_
        exact ⟨.ref a, hs.sl j rfl, .ref B, .ref B, _, l.contains c, rfl, fun u r => r, hxd, by rw [hb, h.hK]; exact sb, q _ H (fun _ _ z => z) (by simp only [Cg.rv, RV])⟩
    · cases k
  | .isv, e, k => by
    simp only [ckHE] at k
    split at k
    · rename_i x p1 n p2 y p3 p4
      obtain ⟨k, k5⟩ := ban k
      obtain ⟨k, k4⟩ := ban k
      obtain ⟨k, k3⟩ := ban k
      obtain ⟨k1, k2⟩ := ban k
      have ex := of_decide_eq_true k1
      have ey := of_decide_eq_true k5
      subst ex ey
      obtain ⟨j, rfl, pv⟩ := h.nm (a := a) (pn := pn) (p := p2) k3
      refine ⟨fun pins s σ H Q I t => ?_⟩
      obtain ⟨dd, C, c, ds, M, sh, x, e1, e2, dm, hs, hx, q⟩ := t
      simp only [hE] at hx
      cases hx
      obtain ⟨ec, he⟩ := h.ec.cl c C hs.cl
      obtain ⟨C', hC', _, _, xf, isc, _, kv⟩ := h.ec.at_ c ec he
      rw [hs.cl] at hC'; cases hC'
      obtain ⟨gg, gd⟩ := h.gl (a := a) (oe := oe) (pn := pn) k4
      obtain ⟨gi, gid⟩ := h.gl (a := a) (oe := oe) (pn := pn) k2
      obtain ⟨vs, hxd, _, _⟩ := hs.xd
      refine (pe_callB (X := X.suite a ((a, oe) :: pn)) (call_isX (X := X) (C := C) (dd := dd) (h.hK ▸ xf) (h.hK ▸ isc) ⟨h.hz.1.trans e1, h.hz.2.trans e2⟩ h.hf) gi h.fr.1 (by decide +kernel) (pa_cons pv (pa_cons (pe_bltn (v := V.ty "ValueError") gg h.fr.2 PyProof.Rows.Boot.«ValueError» rfl (by decide) gd) pa_nil (by rfl)) (by rfl)) (by decide) gid (by rfl) (by rfl)).run pins s σ H Q I ?_
      exact ⟨.ref a, hs.sl j rfl, .ty "ValueError", .type "ValueError", _, true, rfl, fun u r => r, hxd, by rw [h.hK]; exact kv, q _ H (fun _ _ z => z) (by simp only [Cg.rv, RV])⟩
    · cases k
  | .tup l, e, k => by
    simp only [ckHE] at k
    split at k
    · obtain ⟨k1, k2⟩ := ban k
      refine PE.imp (pe_tup (hL_ok h l _ k1)) fun σ H Q t => ?_
      obtain ⟨dd, C, c, ds, M, sh, x, e1, e2, dm, hs, hx, q⟩ := t
      simp only [hE] at hx
      obtain ⟨xs, hxs, ex⟩ := Option.map_eq_some_iff.mp hx
      subst ex
      refine ⟨dd, C, c, ds, M, sh, xs, e1, e2, dm, hs, hxs, fun vs H1 gr hv => ⟨?_, fun p hp => ?_⟩⟩
      · rw [← RVs.length hv, hL_len hxs, sizeLine_eq]
        have := of_decide_eq_true k2
        omega
      · have np : ¬ M p := fun z => by
          obtain ⟨o, z⟩ := dm p z
          rw [gr p o z] at hp; cases hp
        exact q (.ref p) _ (growU gr hp) (rv_newtup hp np hv)
    · cases k
  | .lst l, e, k => by
    simp only [ckHE] at k
    split at k
    · obtain ⟨k1, k2⟩ := ban k
      refine PE.imp (pe_lst (hL_ok h l _ k1)) fun σ H Q t => ?_
      obtain ⟨dd, C, c, ds, M, sh, x, e1, e2, dm, hs, hx, q⟩ := t
      simp only [hE] at hx
      obtain ⟨xs, hxs, ex⟩ := Option.map_eq_some_iff.mp hx
      subst ex
      refine ⟨dd, C, c, ds, M, sh, xs, e1, e2, dm, hs, hxs, fun vs H1 gr hv => ⟨?_, fun p hp => ?_⟩⟩
      · rw [← RVs.length hv, hL_len hxs, sizeLine_eq]
        have := of_decide_eq_true k2
        omega
      · have np : ¬ M p := fun z => by
          obtain ⟨o, z⟩ := dm p z
          rw [gr p o z] at hp; cases hp
        refine q (.ref p) _ (growU gr hp) ?_
        simp only [Cg.rv, RV]
        exact ⟨p, vs, rfl, ⟨.inl upd_same, np⟩, rvs_grow hp hv⟩
    · cases k
  | .ite t b1 b2, e, k => by
    simp only [ckHE] at k
    split at k
    · obtain ⟨k, k3⟩ := ban k
      obtain ⟨k1, k2⟩ := ban k
      refine PE.imp (pe_ifExp (hT_ok h t _ k1) (hE_ok h b1 _ k2) (hE_ok h b2 _ k3)) fun σ H Q t => ?_
      obtain ⟨dd, C, c, ds, M, sh, x, e1, e2, dm, hs, hx, q⟩ := t
      simp only [hE] at hx
      obtain ⟨w, hw, hx⟩ := Option.bind_eq_some_iff.mp hx
      refine ⟨dd, C, c, ds, M, sh, w, e1, e2, dm, hs, hw, fun v H1 gr hv => ?_⟩
      have ev : w = v := hv
      subst ev
      have dm1 : ∀ b, M b → ∃ o, H1 b = some o := fun b z => by
        obtain ⟨o, z⟩ := dm b z
        exact ⟨o, gr b o z⟩
      cases w with
      | true =>
        simp only [if_true] at hx ⊢
        exact ⟨dd, C, c, ds, M, sh, x, e1, e2, dm1, hs.grow gr, hx, fun v H2 gr2 => q v H2 fun b o z => gr2 b o (gr b o z)⟩
      | false =>
        simp only [Bool.false_eq_true, if_false] at hx ⊢
        exact ⟨dd, C, c, ds, M, sh, x, e1, e2, dm1, hs.grow gr, hx, fun v H2 gr2 => q v H2 fun b o z => gr2 b o (gr b o z)⟩
    · cases k
theorem hL_ok (h : Hx G X cs N sc cls d oe) : ∀ (l : HL) (es : List Expr), ckHL cs N sc i l es = true → PA (X.suite a ((a, oe) :: pn)) es (tHx G i a cls d G.rvs fun c ds => hL c ds l)
  | .nil, es, k => by
    simp only [ckHL] at k
    cases es with
    | nil =>
      refine PA.imp pa_nil fun σ H Q t => ?_
      obtain ⟨dd, C, c, ds, M, sh, x, e1, e2, dm, hs, hx, q⟩ := t
      simp only [hL] at hx
      cases hx
      exact q [] H (fun _ _ z => z) .nil
    | cons _ _ => cases k
  | .cons b l, es, k => by
    simp only [ckHL] at k
    split at k
    · obtain ⟨k, k3⟩ := ban k
      obtain ⟨k1, k2⟩ := ban k
      refine PA.imp (pa_cons (hE_ok h b _ k2) (hL_ok h l _ k3) (nstar_ok k1)) fun σ H Q t => ?_
      obtain ⟨dd, C, c, ds, M, sh, x, e1, e2, dm, hs, hx, q⟩ := t
      simp only [hL] at hx
      obtain ⟨d1, hd1, hx⟩ := Option.bind_eq_some_iff.mp hx
      obtain ⟨xs, hxs, ex⟩ := Option.map_eq_some_iff.mp hx
      subst ex
      refine ⟨dd, C, c, ds, M, sh, d1, e1, e2, dm, hs, hd1, fun v H1 gr hv => ⟨dd, C, c, ds, M, sh, xs, e1, e2, fun b z => ?_, hs.grow gr, hxs, fun vs H2 gr2 hvs => q _ H2 (fun b o z => gr2 b o (gr b o z)) (.cons (RV.mono' (fun b u z n => ⟨grd gr2 z, n⟩) (fun _ _ z => z) _ _ hv) hvs)⟩⟩
      obtain ⟨o, z⟩ := dm b z
      exact ⟨o, gr b o z⟩
    · cases k
theorem hT_ok (h : Hx G X cs N sc cls d oe) : ∀ (l : HL) (e : Expr), ckHT cs N sc i l e = true → PT (X.suite a ((a, oe) :: pn)) e (tHx G i a cls d rl fun c ds => hT c ds l)
  | .nil, e, k => by simp only [ckHT] at k; cases k
  | .cons b l, e, k => by
    simp only [ckHT] at k
    split at k
    · rename_i x es p
      obtain ⟨k, k3⟩ := ban k
      obtain ⟨k1, k2⟩ := ban k
      exact (hA_ok2 (pt_val (hE_ok h b _ k2) (plE_ok k1)) l es p k3 (fun ne => hA_ok h l es p k3 ne)).pt
    · obtain ⟨k, k2⟩ := ban k
      obtain ⟨k0, k1⟩ := ban k
      cases l with
      | cons _ _ => cases k0
      | nil =>
        refine PT.imp (pt_val (hE_ok h b _ k2) (plE_ok k1)) fun σ H Q t => ?_
        obtain ⟨dd, C, c, ds, M, sh, x, e1, e2, dm, hs, hx, q⟩ := t
        simp only [hT] at hx
        obtain ⟨d1, hd1, hx⟩ := Option.bind_eq_some_iff.mp hx
        cases d1 with
        | bl w =>
          refine ⟨dd, C, c, ds, M, sh, .bl w, e1, e2, dm, hs, hd1, fun v H1 gr hv => ?_⟩
          simp only [Cg.rv, RV] at hv
          have ex : x = w := by cases w <;> simp_all
          exact ⟨w, hv, q w H1 gr ex⟩
        | _ => cases hx
theorem hA_ok (h : Hx G X cs N sc cls d oe) : ∀ (l : HL) (es : List Expr) (p : Pos), ckHA cs N sc i l es = true → es ≠ [] → PW (X.suite a ((a, oe) :: pn)) (.BoolOp .And es p) (tHx G i a cls d rl fun c ds => hT c ds l)
  | .nil, es, p, k, ne => by
    simp only [ckHA] at k
    cases es with
    | nil => exact absurd rfl ne
    | cons _ _ => cases k
  | .cons b l, es, p, k, ne => by
    simp only [ckHA] at k
    split at k
    · rename_i x es
      obtain ⟨k, k3⟩ := ban k
      obtain ⟨k1, k2⟩ := ban k
      exact hA_ok2 (pt_val (hE_ok h b _ k2) (plE_ok k1)) l es p k3 (fun ne => hA_ok h l es p k3 ne)
    · cases k
end
theorem hB_ok (h : Hx G X cs N sc cls d oe) : ∀ (b : HB) (ss : List Stmt), ckHB cs N sc i b ss = true → PSs (X.suite a ((a, oe) :: pn)) ss (tHs G i a cls d fun c ds => hB c ds b) ∧ ∃ s r, ss = s :: r
  | .ret b, ss, k => by
    simp only [ckHB] at k
    split at k
    · refine ⟨PSs.imp (pss_cons (ps_ret (hE_ok h b _ k)) pss_nil) fun D σ H t => ?_, _, _, rfl⟩
      obtain ⟨dd, C, c, ds, M, sh, x, e1, e2, dm, hs, hx, q⟩ := t
      exact ⟨dd, C, c, ds, M, sh, x, e1, e2, dm, hs, hx, q⟩
    · cases k
  | .if_ t b r, ss, k => by
    simp only [ckHB] at k
    split at k
    · obtain ⟨k, k3⟩ := ban k
      obtain ⟨k1, k2⟩ := ban k
      refine ⟨PSs.imp (pss_cons (ps_if (hT_ok h t _ k1) (hB_ok h b _ k2).1 pss_nil) (hB_ok h r _ k3).1) fun D σ H t => ?_, _, _, rfl⟩
      obtain ⟨dd, C, c, ds, M, sh, x, e1, e2, dm, hs, hx, q⟩ := t
      simp only [hB] at hx
      obtain ⟨w, hw, hx⟩ := Option.bind_eq_some_iff.mp hx
      refine ⟨dd, C, c, ds, M, sh, w, e1, e2, dm, hs, hw, fun v H1 gr hv => ?_⟩
      have ev : w = v := hv
      subst ev
      have dm1 : ∀ b, M b → ∃ o, H1 b = some o := fun b z => by
        obtain ⟨o, z⟩ := dm b z
        exact ⟨o, gr b o z⟩
      cases w with
      | true =>
        simp only [if_true] at hx ⊢
        exact ⟨dd, C, c, ds, M, sh, x, e1, e2, dm1, hs.grow gr, hx, fun v H2 gr2 => q v H2 fun b o z => gr2 b o (gr b o z)⟩
      | false =>
        simp only [Bool.false_eq_true, if_false] at hx ⊢
        exact ⟨dd, C, c, ds, M, sh, x, e1, e2, dm1, hs.grow gr, hx, fun v H2 gr2 => q v H2 fun b o z => gr2 b o (gr b o z)⟩
    · cases k
end
end Mi

namespace Mi
open PySem PySem.Spec PyProof.Rows L2
/-! ### try: body / except C as n: suite -/
def inS (i : Option Nat) (ρ : AE) : Bool := match i with | some j => decide (j < ρ.sl.length) | none => true
def rTry (i : Option Nat) (l : List Nat) (h : HB) (rb : AE → R Fl) : AE → R Fl := fun ρ => match rb ρ with
  | .exc c ds ρ1 => if l.contains c = true then (if inS i ρ1 = true then (match hB c ds h with | some d => .ok (.ret d) ρ1 | none => .bad) else .bad) else .exc c ds ρ1
  | r => r
section
variable {G : Cg} {W : WX} {X : Cx} {cs : List (Nat × Ec)} {N : List Str} {sc : Scope} {sh sh' : List Addr} {M M' : Addr → Prop} {ρ ρ1 : AE} {σ σ' : Sg} {H H' : Hp} {D : Ends} {rb : AE → R Fl}
/-- a suite's promise, from what is wanted behind the try -/
theorem suite_tHs {i : Option Nat} {a : Addr} {c : Nat} {ds : List Mi.D} {C d : Addr} {vs : List V} {h : HB} {τ : Sg} (hi : inS i ρ1 = true) (hτ : ∀ j, i = some j → j < σ'.length → τ[j]? = some (some (.ref a))) (rp' : G.rp sh' M' ρ1 σ' H') (kp' : Kp (OwnS ρ σ) (OwnS ρ σ) (OwnS ρ1 σ') sh sh' M M' H H')
    (hcl : G.cl c = some C) (hxd : H' d = some (.xd ((G.fl c).zip vs))) (hrv : G.rvs H' M' sh' ds vs) (hlen : (G.fl c).length = vs.length) {E : Ends} (hE : E.rt = D.rt)
    (p : PostS G W sh M ρ σ H (match hB c ds h with | some d => .ok (.ret d) ρ1 | none => .bad) D) : tHs G i a (.ref C) (some d) (fun c ds => hB c ds h) E τ H' := by
  cases q : hB c ds h with
  | none => rw [q] at p; exact p.elim
  | some x =>
    rw [q] at p
    refine ⟨d, C, c, ds, M', sh', x, rfl, rfl, rp'.dom, ⟨fun j hj => hτ j hj ?_, hcl, vs, hxd, hrv, hlen⟩, q, fun v H2 gr hv => ?_⟩
    · subst hj
      have := of_decide_eq_true (show decide (j < ρ1.sl.length) = true from hi)
      rw [← rp'.len]; exact this
    · rw [hE]
      refine p sh' M' σ' H2 (rp'.grow gr (fun _ z => z) (fun _ z => .inl z) fun b z => ?_) (kp'.transS (M' := none1) ⟨fun b o z _ _ => gr b o z, fun _ _ _ z => z, fun _ _ _ z => z, fun _ _ _ z => z, List.prefix_rfl, fun b o z => ⟨o, gr b o z⟩, fun _ _ z => z, fun _ _ _ n _ => n, fun _ _ _ _ z => z⟩ (fun _ z => z) fun _ z => z.elim) v hv
      obtain ⟨o, z⟩ := rp'.dom b z
      exact ⟨o, gr b o z⟩
theorem ps_tryA {k j : Nat} {l : List Nat} {h : HB} {x n : Str} {E : Addr} {body suite : List Stmt} {np pos pos' : Pos} (hs : X.stack = X.env :: X.outer) (hf : X.env.frame = some X.env.locals) (hK : X.K = G.K) (hN : X.N = N) (nd : N.Nodup) (hsc : X.env.scope = sc) (ec : EcOk G X.mg cs) (fr : X.mg ("isinstance" : Str) = none ∧ X.mg ("ValueError" : Str) = none)
    (hi : N[j]? = some n) (hln : sc.names.lookup n = some .local) (hg : Gl X x) (hdb : (x == ("__debug__" : Str)) = false) (hm : X.mg x = some (.ref E)) (hE : G.cl k = some E) (hl : ∀ c C, G.cl c = some C → l.contains c = subC cs c k) (tk : Takes X W)
    (hb : ∀ (W : WX) (pn : List (Addr × Obj)) (xe : Value → Shared → Prop), Takes (X.tr pn xe) W → PassesOwn (model X.prog X.w) X.A X.env xe → PSs (X.tr pn xe) body (tSv G W rb)) (hck : ckHB cs N sc (some j) h suite = true) :
    PS X (.Try body [.ExceptHandler (some (.Name x np)) (some n) suite pos'] [] [] pos) (tSv G W (rTry (some j) l h rb)) := by
  have sne : ∃ s r, suite = s :: r := by
    cases suite with
    | nil => cases h <;> simp [ckHB] at hck
    | cons s r => exact ⟨s, r, rfl⟩
  obtain ⟨s0, r0, rfl⟩ := sne
  refine PS.imp (ps_try_as (tb := fun W => tSv G W rb) (ts := fun a cls d => tHs G (some j) a cls d fun c ds => hB c ds h) (c := .ref E) (i := j) hs hf (hN ▸ nd) (hN ▸ hi) (by unfold Env.kindOf; rw [hsc]; exact hln) ⟨hg, hdb, .inl hm⟩ tk hb fun a oe cls d pn hz hf' => (hB_ok ⟨hK, hN, hsc, ec, fr, hz, hf'⟩ h _ hck).1) fun D σ H t => ?_
  obtain ⟨sh, M, ρ, rp, p⟩ := t
  refine ⟨sh, M, ρ, rp, ?_⟩
  unfold rTry at p
  revert p
  cases rb ρ with
  | ok f ρ1 => exact fun p => p
  | bad => exact fun p => p
  | exc c ds ρ1 =>
    intro p cls dx sh' M' σ' H' rp' kp' hx
    have hx0 := hx
    obtain ⟨C, d, vs, hcl, rfl, rfl, hxd, nN, hrv, hlen⟩ := hx
    have sb := (ec.sub c k C E hcl hE).1
    have hc := hl c C hcl
    refine ⟨subC cs c k, hK ▸ sb, fun yes a ha => ?_, fun no => ?_⟩
    · rw [yes] at hc
      have p' : PostS G W sh M ρ σ H (if l.contains c = true then (if inS (some j) ρ1 = true then (match hB c ds h with | some d => .ok (.ret d) ρ1 | none => .bad) else .bad) else .exc c ds ρ1) D := p
      rw [if_pos hc] at p'
      by_cases h2 : inS (some j) ρ1 = true
      · rw [if_pos h2] at p'
        exact suite_tHs (D := D) h2 (fun j' e hj => by cases e; exact List.getElem?_set_self hj) rp' kp' hcl hxd hrv hlen rfl p'
      · rw [if_neg h2] at p'; exact p'.elim
    · rw [no] at hc
      have p' : PostS G W sh M ρ σ H (if l.contains c = true then (if inS (some j) ρ1 = true then (match hB c ds h with | some d => .ok (.ret d) ρ1 | none => .bad) else .bad) else .exc c ds ρ1) D := p
      rw [if_neg (by rw [hc]; decide)] at p'
      exact p' _ _ sh' M' σ' H' rp' kp' hx0
theorem ps_tryO {k : Nat} {l : List Nat} {h : HB} {x : Str} {E : Addr} {body suite : List Stmt} {np pos pos' : Pos} (hs : X.stack = X.env :: X.outer) (hf : X.env.frame = some X.env.locals) (hK : X.K = G.K) (hN : X.N = N) (hsc : X.env.scope = sc) (ec : EcOk G X.mg cs) (fr : X.mg ("isinstance" : Str) = none ∧ X.mg ("ValueError" : Str) = none)
    (hg : Gl X x) (hdb : (x == ("__debug__" : Str)) = false) (hm : X.mg x = some (.ref E)) (hE : G.cl k = some E) (hl : ∀ c C, G.cl c = some C → l.contains c = subC cs c k) (tk : Takes X W)
    (hb : ∀ (W : WX) (pn : List (Addr × Obj)) (xe : Value → Shared → Prop), Takes (X.tr pn xe) W → PassesOwn (model X.prog X.w) X.A X.env xe → PSs (X.tr pn xe) body (tSv G W rb)) (hck : ckHB cs N sc none h suite = true) :
    PS X (.Try body [.ExceptHandler (some (.Name x np)) none suite pos'] [] [] pos) (tSv G W (rTry none l h rb)) := by
  have sne : ∃ s r, suite = s :: r := by
    cases suite with
    | nil => cases h <;> simp [ckHB] at hck
    | cons s r => exact ⟨s, r, rfl⟩
  obtain ⟨s0, r0, rfl⟩ := sne
  refine PS.imp (ps_try_only (tb := fun W => tSv G W rb) (ts := fun a cls d => tHs G none a cls d fun c ds => hB c ds h) (c := .ref E) hs hf ⟨hg, hdb, .inl hm⟩ tk hb fun a oe cls d pn hz hf' => (hB_ok ⟨hK, hN, hsc, ec, fr, hz, hf'⟩ h _ hck).1) fun D σ H t => ?_
  obtain ⟨sh, M, ρ, rp, p⟩ := t
  refine ⟨sh, M, ρ, rp, ?_⟩
  unfold rTry at p
  revert p
  cases rb ρ with
  | ok f ρ1 => exact fun p => p
  | bad => exact fun p => p
  | exc c ds ρ1 =>
    intro p cls dx sh' M' σ' H' rp' kp' hx
    have hx0 := hx
    obtain ⟨C, d, vs, hcl, rfl, rfl, hxd, nN, hrv, hlen⟩ := hx
    have sb := (ec.sub c k C E hcl hE).1
    have hc := hl c C hcl
    refine ⟨subC cs c k, hK ▸ sb, fun yes a ha => ?_, fun no => ?_⟩
    · rw [yes] at hc
      have p' : PostS G W sh M ρ σ H (if l.contains c = true then (if inS none ρ1 = true then (match hB c ds h with | some d => .ok (.ret d) ρ1 | none => .bad) else .bad) else .exc c ds ρ1) D := p
      rw [if_pos hc] at p'
      rw [if_pos (show inS none ρ1 = true from rfl)] at p'
      exact suite_tHs (D := D) (i := none) rfl (fun j' e hj => by cases e) rp' kp' hcl hxd hrv hlen rfl p'
    · rw [no] at hc
      have p' : PostS G W sh M ρ σ H (if l.contains c = true then (if inS none ρ1 = true then (match hB c ds h with | some d => .ok (.ret d) ρ1 | none => .bad) else .bad) else .exc c ds ρ1) D := p
      rw [if_neg (by rw [hc]; decide)] at p'
      exact p' _ _ sh' M' σ' H' rp' kp' hx0
end
end Mi

namespace Mi
open PySem PySem.Spec PyProof.Rows L2
/-! ### several except clauses, each with a name -/
abbrev Cls4 : Type := Value × Nat × (Addr → Value → Option Addr → TS)
def endsAs (D : Ends) (i : Nat) : Ends := { nx := fun τ Hx => D.nx (τ.set i none) Hx, rt := D.rt, bk := fun τ Hx => D.bk (τ.set i none) Hx, ct := fun τ Hx => D.ct (τ.set i none) Hx }
def wNamed (K : PySem.W.Frag) (Wo : WX) (D : Ends) : List Cls4 → WX
  | [] => Wo
  | p :: r => fun cls d τ Hx => ∃ q, PySem.W.exmOne K cls p.1 = some q ∧ (q = true → ∀ e, Hx e = none → p.2.2 e cls d (endsAs D p.2.1) (τ.set p.2.1 (some (.ref e))) Hx) ∧ (q = false → wNamed K Wo D r cls d τ Hx)
inductive Named (X : Cx) : List ExceptHandler → List Cls4 → Prop
  | nil : Named X [] []
  | cons {x n : Str} {c : Value} {i : Nat} {ts : Addr → Value → Option Addr → TS} {s0 : Stmt} {sr : List Stmt} {p1 p2 : Pos} {hs : List ExceptHandler} {l : List Cls4} (hc : Names X x c) (hi : X.N[i]? = some n) (hn : X.env.kindOf n = some .local)
      (hsu : ∀ (e : Addr) (oe : Obj) (cls : Value) (d : Option Addr) (pn : List (Addr × Obj)), Zc cls d oe → (∃ vs, oe.data = .fields vs) → PSs (X.suite e ((e, oe) :: pn)) (s0 :: sr) (ts e cls d)) (r : Named X hs l) :
      Named X (.ExceptHandler (some (.Name x p1)) (some n) (s0 :: sr) p2 :: hs) ((c, i, ts) :: l)
section
variable {X : Cx} {pins : List (Addr × Obj)} {D : Ends} {Wo : WX}
theorem notFrame {h B : Heap} {l : List Env} {e : Addr} {o : Obj} {vs : Array Value} (ff : h.FunFrames B l) (g : h.get? e = some o) (dd : o.data = .fields vs) : e ∉ frs l := fun hm => by
  obtain ⟨_, o2, g2, hno⟩ := ff.mem hm
  have : o2 = o := by rw [g] at g2; exact (Option.some.inj g2).symm
  exact hno _ (this ▸ dd)
/-- the clauses looked through, the exception landed -/
theorem clauses_ok (hN : X.N.Nodup) (tk : Takes X Wo) (ok : X.Ok) (hst : X.stack = X.env :: X.outer) (hfr : X.env.frame = some X.env.locals) {e : Addr} {B : Heap} {sI : Shared} {cls : Value} {d : Option Addr} {τ : L2.St} {Hx : Hp}
    (J : Inv X pins τ Hx sI) (nb : ∀ b o, sI.heap.get? b = some o → b ∉ frs X.stack → B.get? b = some o) (na : Hx e = none) :
    ∀ {hs : List ExceptHandler} {l : List Cls4}, Named X hs l → wNamed X.K Wo D l cls d τ Hx → ∀ (h3 : Heap) (sh : Shared), sI.heap.UpToSlots h3 → HandSPX.FlyingZ B (X.env :: X.outer) e (Zc cls d) h3 → sh.os = sI.os → AllBare sh.gens →
      wpAny (model X.prog X.w) X.A (handleBy (.ref e) X.env hs) (SP X pins D) X.xe { sh with heap := h3 } := by
  intro hs l hk
  induction hk with
  | nil =>
    intro w h3 sh up fl os ag
    have w' : Wo cls d τ Hx := w
    refine wpAny_handleBy_nil ?_
    have fl2 := fl
    obtain ⟨_, _, _, o, va, T, oT, tv, g1, _, g3, g4, _⟩ := fl
    have last : wpAny (model X.prog X.w) X.A (setFlight (.ref e) X.env.frame) (fun _ s4 => wpAny (model X.prog X.w) X.A (throw (.ref e) : Sem Flow) (SP X pins D) X.xe s4) X.xe { sh with heap := h3 } := by
      rw [hfr]; exact HandSPX.setFlight_upZ fl2 fun h4 k4 u4 => wpAny_throw (tk _ _ ⟨e, B, sI, pins, τ, Hx, cls, d, rfl, J, nb, up.trans u4, .inr (.inr (by rw [hst]; exact k4)), na, os, ag, w'⟩)
    unfold PySem.passOn
    refine wpAny_bind (wpAny_field g1 g3 g4 (by
      rw [if_neg (show ¬ ((Value.ref T == Value.none) = true) by simp)]
      first | exact wpAny_bind (wpAny_pure (wpAny_bind last)) | exact wpAny_bind last))
  | @cons x n c i ts s0 sr p1 p2 hs2 l2 hc hi hn hsu r ih =>
    intro w h3 sh up fl os ag
    obtain ⟨q, m1, m2, m3⟩ := w
    have J3 : Inv X pins τ Hx { sh with heap := h3 } := J.landed nb fl.1 up os ag
    obtain ⟨o3, v3, g3, z3, f3⟩ := fl.there
    have nfr := notFrame fl.2.2.1 g3 f3
    have nL : e ≠ X.env.locals := fun z => nfr (List.mem_filterMap.mpr ⟨X.env, List.mem_cons_self, by rw [hfr, z]⟩)
    have nF : e ∉ X.fs := fun hm => by
      obtain ⟨en, hen, eq⟩ := List.mem_filterMap.mp hm
      exact nfr (List.mem_filterMap.mpr ⟨en, List.mem_cons_of_mem _ hen, eq⟩)
    have S3 := J3.suite g3 f3 na nL nF
    have ty : PySem.W.Looks (model X.prog X.w) h3 (typeOf (.ref e)) cls := fun A Q E s k hq => wpAny_typeOf_ref (k _ _ g3) (z3.1 ▸ hq)
    have mt := PySem.W.exm_one (M := model X.prog X.w) J3.kIn ty m1
    refine wpAny_handleBy_cons (codeAny_handlers_test ?_) (fun z => by cases z)
    have nm : ∀ {Q : Value → Shared → Prop} {E : Value → Shared → Prop}, Q c { sh with heap := h3 } → wpAny (model X.prog X.w) (X.A.mark (some (.ref e))) (eval (.Name x p1) X.env) Q E { sh with heap := h3 } := fun {Q E} hq => by
      rcases hc with ⟨a1, a2, a3 | ⟨a3, a4, a5⟩⟩
      · exact ld_glob (X := X.suite e ((e, o3) :: (X.pn ++ pins))) S3 a1 a3 hq a2
      · exact ld_blt (X := X.suite e ((e, o3) :: (X.pn ++ pins))) S3 a1 a3 a4 hq a5 a2
    refine nm (mt.here ?_)
    cases q with
    | false => exact ih (m3 rfl) h3 sh up fl os ag
    | true =>
      refine codeAny_handlers_suite_as (HandSPX.lands_againZ fl fun h4 fl4 u4 => ?_)
      have J4 : Inv X pins τ Hx { sh with heap := h4 } := J.landed nb fl4.1 (up.trans u4) os ag
      obtain ⟨o4, v4, g4, z4, f4⟩ := fl4.there
      have S4 := J4.suite g4 f4 na nL nF
      refine store_ok (X := X.suite e ((e, o4) :: (X.pn ++ pins))) (v := .ref e) S4 hN hi (.inl hn) rfl (fun s5 S5 => ?_) (.inr hn)
      refine wpAny_mono ((hsu e o4 cls d (X.pn ++ pins) z4 ⟨_, f4⟩).run [] s5 _ Hx _ S5 (m2 rfl e na)) (fun f s6 hp => ?_) (fun _ _ z => z.elim)
      have gone : ∀ {t6 : L2.St} {H6 : Hp} {Q : Shared → Prop}, Inv (X.suite e ((e, o4) :: (X.pn ++ pins))) [] t6 H6 s6 → (∀ s7, Inv X pins (t6.set i none) H6 s7 → Q s7) → wpAny (model X.prog X.w) X.A (do bindName X.env n .none; unbindBehindTheSuite X.env n p2) (fun _ s7 => Q s7) X.xe s6 :=
        fun {t6 H6 Q} I6 hq => gone_ok (I6.unsuite ok) hN hi hn hq
      cases f with
      | ret u =>
        obtain ⟨v6, t6, H6, I6, r6, q6⟩ := hp
        exact gone I6 fun s7 I7 => ⟨_, _, _, I7, r6, q6⟩
      | next =>
        obtain ⟨t6, H6, I6, q6⟩ := hp
        exact gone I6 fun s7 I7 => ⟨_, _, I7, q6⟩
      | brk =>
        obtain ⟨t6, H6, I6, q6⟩ := hp
        exact gone I6 fun s7 I7 => ⟨_, _, I7, q6⟩
      | cont =>
        obtain ⟨t6, H6, I6, q6⟩ := hp
        exact gone I6 fun s7 I7 => ⟨_, _, I7, q6⟩
theorem ps_try_named {body : List Stmt} {h0 : ExceptHandler} {hs : List ExceptHandler} {l : List Cls4} {pos : Pos} {tb : WX → TS} (hst : X.stack = X.env :: X.outer) (hfr : X.env.frame = some X.env.locals) (hN : X.N.Nodup) (tk : Takes X Wo)
    (hb : ∀ (W : WX) (pn : List (Addr × Obj)) (xe : Value → Shared → Prop), Takes (X.tr pn xe) W → PassesOwn (model X.prog X.w) X.A X.env xe → PSs (X.tr pn xe) body (tb W)) (hh : Named X (h0 :: hs) l) :
    PS X (.Try body (h0 :: hs) [] [] pos) (fun D σ H => tb (wNamed X.K Wo D l) D σ H) := by
  refine ⟨fun pins s σ H D I t => ?_⟩
  have ok := I.ok
  have frm : X.A.frames = some (X.env :: X.outer) := by rw [ok.frames, hst]
  let K3 : Value → Shared → Prop := fun e s1 => wpAny (model X.prog X.w) X.A (noteFrame e X.env) (fun _ s2 => wpAny (model X.prog X.w) X.A (setFlight e none) (fun _ s3 => wpAny (model X.prog X.w) X.A (handleBy e X.env (h0 :: hs)) (SP X pins D) X.xe s3) X.xe s2) X.xe s1
  have tk3 : Takes (X.tr (X.pn ++ pins) K3) (wNamed X.K Wo D l) := fun u s' ⟨e, B, sI, pn2, τ, Hx, cls, d, eu, J2, nb, up, sky, na, os, ag, w⟩ => by
    subst eu
    have J : Inv X pins τ Hx sI := J2.ofTry ok
    have sky2 : Sky B (X.env :: X.outer) e (Zc cls d) X.env.locals s'.heap := by rw [← hst]; exact sky
    show wpAny (model X.prog X.w) X.A (noteFrame (.ref e) X.env) _ _ _
    exact Sky.land Zc.steady frm hfr sky2 fun h3 fl3 u3 => clauses_ok hN tk ok hst hfr J nb na hh w h3 s' (up.trans u3) fl3 os ag
  refine wpAny_Try_except (wpAny_mono ((hb (wNamed X.K Wo D l) (X.pn ++ pins) K3 tk3 PassesOwn.looking).run [] s σ H D (I.toTry _) t) (fun f s1 hp => ?_) fun e s1 he => he)
  cases f with
  | ret u =>
    obtain ⟨v, τ, Hx, J, r, q⟩ := hp
    exact ⟨v, τ, Hx, J.ofTry ok, r, q⟩
  | next =>
    obtain ⟨τ, Hx, J, q⟩ := hp
    exact wpAny_execs_nil ⟨τ, Hx, J.ofTry ok, q⟩
  | brk =>
    obtain ⟨τ, Hx, J, q⟩ := hp
    exact ⟨τ, Hx, J.ofTry ok, q⟩
  | cont =>
    obtain ⟨τ, Hx, J, q⟩ := hp
    exact ⟨τ, Hx, J.ofTry ok, q⟩
end
end Mi

namespace Mi
open PySem PySem.Spec PyProof.Rows L2
/-! ### try with several clauses -/
abbrev Hn : Type := Nat × Nat × List Nat × HB
def tryL : List Hn → Nat → List D → AE → R Fl
  | [], c, ds, ρ => .exc c ds ρ
  | h :: r, c, ds, ρ => if h.2.2.1.contains c = true then (if inS (some h.2.1) ρ = true then (match hB c ds h.2.2.2 with | some d => .ok (.ret d) ρ | none => .bad) else .bad) else tryL r c ds ρ
def rTrys (cl : List Hn) (rb : AE → R Fl) : AE → R Fl := fun ρ => match rb ρ with
  | .exc c ds ρ1 => tryL cl c ds ρ1
  | r => r
section
variable {G : Cg} {W : WX} {X : Cx} {cs : List (Nat × Ec)} {N : List Str} {sc : Scope} {sh sh' : List Addr} {M M' : Addr → Prop} {ρ ρ1 : AE} {σ σ' : Sg} {H H' : Hp} {D : Ends} {rb : AE → R Fl}
def c4 (G : Cg) (h : Hn) (E : Addr) : Cls4 := (.ref E, h.2.1, fun a cls d => tHs G (some h.2.1) a cls d fun c ds => hB c ds h.2.2.2)
/-- the clauses' classes -/
def ClOk (G : Cg) (cs : List (Nat × Ec)) : List Hn → List Addr → Prop
  | [], [] => True
  | h :: r, E :: Es => G.cl h.1 = some E ∧ (∀ c C, G.cl c = some C → h.2.2.1.contains c = subC cs c h.1) ∧ ClOk G cs r Es
  | _, _ => False
theorem named_of (ec : EcOk G X.mg cs) (hK : X.K = G.K) {c : Nat} {ds : List Mi.D} {cls : Value} {dx : Option Addr} (hx : G.xr H' M' sh' c ds cls dx) (rp' : G.rp sh' M' ρ1 σ' H') (kp' : Kp (OwnS ρ σ) (OwnS ρ σ) (OwnS ρ1 σ') sh sh' M M' H H') :
    ∀ {cl : List Hn} {Es : List Addr}, ClOk G cs cl Es → PostS G W sh M ρ σ H (tryL cl c ds ρ1) D → wNamed X.K W D ((cl.zip Es).map fun p => c4 G p.1 p.2) cls dx σ' H'
  | [], [], _, p => p cls dx sh' M' σ' H' rp' kp' hx
  | h :: r, E :: Es, hc, p => by
    obtain ⟨hE, hl, hr⟩ := hc
    have hx2 := hx
    obtain ⟨C, d, vs, hcl, rfl, rfl, hxd, nN, hrv, hlen⟩ := hx
    have sb := (ec.sub c h.1 C E hcl hE).1
    have hc := hl c C hcl
    have p' : PostS G W sh M ρ σ H (if h.2.2.1.contains c = true then (if inS (some h.2.1) ρ1 = true then (match hB c ds h.2.2.2 with | some d => .ok (.ret d) ρ1 | none => .bad) else .bad) else tryL r c ds ρ1) D := p
    refine ⟨subC cs c h.1, hK ▸ sb, fun yes a ha => ?_, fun no => ?_⟩
    · rw [yes] at hc
      rw [if_pos hc] at p'
      by_cases h2 : inS (some h.2.1) ρ1 = true
      · rw [if_pos h2] at p'
        exact suite_tHs (D := D) h2 (fun j' e hj => by cases e; exact List.getElem?_set_self hj) rp' kp' hcl hxd hrv hlen rfl p'
      · rw [if_neg h2] at p'; exact p'.elim
    · rw [no] at hc
      rw [if_neg (by rw [hc]; decide)] at p'
      exact named_of ec hK hx2 rp' kp' hr p'
  | [], _ :: _, hc, _ => hc.elim
  | _ :: _, [], hc, _ => hc.elim
theorem ps_tryM {cl : List Hn} {Es : List Addr} {h0 : ExceptHandler} {hs : List ExceptHandler} {body : List Stmt} {pos : Pos} (hst : X.stack = X.env :: X.outer) (hfr : X.env.frame = some X.env.locals) (hK : X.K = G.K) (nd : X.N.Nodup) (ec : EcOk G X.mg cs) (ok : ClOk G cs cl Es)
    (hh : Named X (h0 :: hs) ((cl.zip Es).map fun p => c4 G p.1 p.2)) (tk : Takes X W)
    (hb : ∀ (W : WX) (pn : List (Addr × Obj)) (xe : Value → Shared → Prop), Takes (X.tr pn xe) W → PassesOwn (model X.prog X.w) X.A X.env xe → PSs (X.tr pn xe) body (tSv G W rb)) :
    PS X (.Try body (h0 :: hs) [] [] pos) (tSv G W (rTrys cl rb)) := by
  refine PS.imp (ps_try_named (tb := fun W => tSv G W rb) hst hfr nd tk hb hh) fun D σ H t => ?_
  obtain ⟨sh, M, ρ, rp, p⟩ := t
  refine ⟨sh, M, ρ, rp, ?_⟩
  unfold rTrys at p
  revert p
  cases rb ρ with
  | ok f ρ1 => exact fun p => p
  | bad => exact fun p => p
  | exc c ds ρ1 => exact fun p cls dx sh' M' σ' H' rp' kp' hx => named_of ec hK hx rp' kp' ok p
end

/-- an expression that is never reached -/
theorem pe_badE {G : Cg} {W : WX} {X : Cx} {e : Expr} : PE X e (tEvF G W fun _ => .bad) := ⟨fun pins s σ H Q I h => by
  obtain ⟨sh, N, ρ, rp, p⟩ := h
  exact p.elim⟩
theorem pe_badV {G : Cg} {W : WX} {X : Cx} {rel : Rel Mi.D V} {e : Expr} : PE X e (tEv G W rel fun _ => .bad) := ⟨fun pins s σ H Q I h => by
  obtain ⟨sh, N, ρ, rp, p⟩ := h
  exact p.elim⟩
end Mi

namespace Mi
open PySem PySem.Spec PyProof.Rows L2
/-! ### writing dicts whose keys are tuples -/
section
variable {G : Cg} {W : WX} {X : Cx} {pins : List (Addr × Obj)} {s : Shared} {σ : Sg} {sh : List Addr} {N : Addr → Prop} {H : Hp}
/-- d[k] = v, the raw way -/
def rSetT (G : Cg) : V → V → V → Hp → (Hp → Prop) → Prop := fun o i v H Q => ∃ (a : Addr) (ob : Obj) (xs : List (NestedKey × Addr × Value)) (ks : List D) (sh : List Addr) (N : Addr → Prop) (κ : NestedKey) (dk : D), o = .ref a ∧ H a = some (.ext (rawAt a ob)) ∧ DitRaw G.P G.w a ob xs ∧
  ks.map nkD = xs.map (fun x => some x.1) ∧ G.rvs H N sh ks (xs.map fun x => V.ref x.2.1) ∧ keyN dk = some κ ∧ G.rb H N sh dk i ∧ xs.length < sizeLine ∧
  ∀ (b : Addr) (u : Value) (ob' : Obj), i = .ref b → RelV v u → DitRaw G.P G.w a ob' (storedH xs κ b u) → Q (upd H a (.ext (rawAt a ob')))
theorem storedH_len {xs : List (NestedKey × Addr × Value)} {κ : NestedKey} {b : Addr} {u : Value} : (storedH xs κ b u).length ≤ xs.length + 1 := by
  unfold storedH; split <;> simp
theorem set_dit (hK : X.K = G.K) (hP : X.prog = G.P) (hW : X.w = G.w) (hu : X.A.units + 66 < cLine) : PSet X (rSetT G) := by
  intro pins s σ H o i v ov iv u Q I ro ri rv h
  obtain ⟨a, ob, xs, ks, sh, N, κ, dk, rfl, hH, dr, ek, rk, hk, hi, hl, q⟩ := h
  cases ro
  obtain ⟨b, rfl, hb⟩ := keyN_is hK I hk hi ri
  have hm := dit_of hK hP hW I (.inl hH) dr ek rk
  refine wpAny_setItem_heap (hsz := Nat.le_of_lt hl) (show X.A.in1.units + 8 < cLine by have : X.A.in1.units = X.A.units + 1 := rfl; omega) hb hm fun h' hm' hs => ?_
  obtain ⟨o', es, ep, ho', oe, od, oes, his, nd⟩ := hm'
  have dr' : DitRaw G.P G.w a o' (storedH xs κ b u) := ⟨oe, ⟨es, ep, od, by rw [← hP, ← hW]; exact oes⟩, nd, Nat.le_trans storedH_len hl, dr.2.2.2.2.1, fun x hx => (his x hx).2⟩
  have ib : i = .ref b := by
    cases dk with
    | tup l =>
      obtain ⟨a2, vs2, rfl, _, _⟩ := rb_tup hi
      cases ri; rfl
    | _ => cases hk
  refine ⟨_, I.write (o := .ext (rawAt a o')) (t' := s.toks + (nestedKind X.prog X.w).draws κ) (by rw [hH]; exact True.intro) (.inl rfl) (fun c w hc e => (hs.2 c hc).trans e) ⟨o', ho'⟩ ⟨ho', ⟨o', ho'⟩, fun h1 h2 p k => k _ p⟩, q b u o' ib rv dr'⟩
def repK : List D → List D → NestedKey → D → List D
  | k :: ks, u :: us, κ, d => (if nkD k = some κ then d else u) :: repK ks us κ d
  | _, _, _, _ => []
/-- d[k] = v -/
def putD (k d : D) : D → Option D
  | .dit ks us => (keyN k).bind fun κ => if ks.length < many then some (if hasK ks κ = true then .dit ks (repK ks us κ d) else .dit (ks ++ [k]) (us ++ [d])) else none
  | _ => none
theorem repK_at {d : D} {v : V} {u : Value} {κ : NestedKey} (rv : RelV v u) (hd : G.rv H N sh d v) : ∀ {ks us : List D} {xs : List (NestedKey × Addr × Value)} {vs : List V}, ks.map nkD = xs.map (fun x => some x.1) → Vals vs (xs.map fun x => x.2.2) → G.rvs H N sh us vs →
    ∃ vs', Vals vs' ((xs.map (putAt κ u)).map fun x => x.2.2) ∧ G.rvs H N sh (repK ks us κ d) vs'
  | [], us, [], vs, _, q, r => ⟨[], .nil, .nil⟩
  | [], _, _ :: _, _, ek, _, _ => by simp at ek
  | _ :: _, _, [], _, ek, _, _ => by simp at ek
  | k :: ks, [], x :: xs, vs, _, q, r => by
    rw [RVs.nil_iff.mp r] at q; cases q
  | k :: ks, z :: us, x :: xs, vs, ek, q, r => by
    obtain ⟨y, ys, rfl, r1, r2⟩ := RVs.inv r
    simp only [List.map_cons, List.cons.injEq] at ek
    cases q with
    | cons q1 q2 =>
      obtain ⟨vs', w1, w2⟩ := repK_at rv hd ek.2 q2 r2
      by_cases h : nkD k = some κ
      · have hx : x.1 = κ := by rw [ek.1] at h; exact Option.some.inj h
        refine ⟨v :: vs', ?_, ?_⟩
        · simp only [List.map_cons]
          refine .cons ?_ w1
          rw [putAt, if_pos hx]; exact rv
        · rw [repK, if_pos h]; exact RVs.cons hd w2
      · have hx : ¬ x.1 = κ := fun z => h (by rw [ek.1, z])
        refine ⟨y :: vs', ?_, ?_⟩
        · simp only [List.map_cons]
          refine .cons ?_ w1
          rw [putAt, if_neg hx]; exact q1
        · rw [repK, if_neg h]; exact RVs.cons r1 w2
theorem putAt_fst {xs : List (NestedKey × Addr × Value)} {κ : NestedKey} {u : Value} : (xs.map (putAt κ u)).map (fun x => some x.1) = xs.map (fun x => some x.1) ∧ (xs.map (putAt κ u)).map (fun x => V.ref x.2.1) = xs.map fun x => V.ref x.2.1 := by
  rw [List.map_map, List.map_map]
  exact ⟨List.map_congr_left fun x _ => by simp only [Function.comp_def, putAt]; split <;> rfl, List.map_congr_left fun x _ => by simp only [Function.comp_def, putAt]; split <;> rfl⟩
/-- what stands there after it -/
theorem own_put {a b : Addr} {ob' : Obj} {xs : List (NestedKey × Addr × Value)} {ks us : List D} {vs : List V} {κ : NestedKey} {dk d d' : D} {v : V} {u : Value} (hH : H a = some (.ext (rawAt a ob'))) (dr : DitRaw G.P G.w a ob' (storedH xs κ b u)) (ek : ks.map nkD = xs.map fun x => some x.1) (rk : G.rvs H N sh ks (xs.map fun x => V.ref x.2.1))
    (rv : Vals vs (xs.map fun x => x.2.2)) (ru : G.rvs H N sh us vs) (hk : keyN dk = some κ) (hb : G.rv H N sh dk (.ref b)) (hv : RelV v u) (hd : G.rv H N sh d v) (e : putD dk d (.dit ks us) = some d') : OwnAt G.P G.w G.K H N sh d' a := by
  simp only [putD, hk, Option.bind_some] at e
  obtain ⟨_, rfl⟩ := ite_some e
  have hs := hasK_eq ek κ
  rw [valueAt_pairsH, Option.isSome_map] at hs
  have nk : nkD dk = some κ := by
    cases dk with
    | tup l =>
      obtain ⟨κ', e1, e2⟩ := Option.bind_eq_some_iff.mp (show (nkD (.tup l)).bind _ = _ from hk)
      obtain ⟨_, rfl⟩ := ite_some e2
      exact e1
    | _ => cases hk
  by_cases h : hasK ks κ = true
  · rw [if_pos h]
    have e2 : storedH xs κ b u = xs.map (putAt κ u) := by rw [storedH, if_pos (by rw [← hs]; exact h)]
    rw [e2] at dr
    obtain ⟨vs', w1, w2⟩ := repK_at (κ := κ) hv hd ek rv ru
    exact ⟨ob', _, vs', hH, dr, by rw [putAt_fst.1]; exact ek, by rw [putAt_fst.2]; exact rk, w1, w2⟩
  · rw [if_neg h]
    have e2 : storedH xs κ b u = xs ++ [(κ, b, u)] := by rw [storedH, if_neg (by rw [← hs]; exact h)]
    rw [e2] at dr
    refine ⟨ob', _, vs ++ [v], hH, dr, ?_, ?_, ?_, RVs.append ru (RVs.cons hd .nil)⟩
    · simp [ek, nk]
    · rw [List.map_append]; exact RVs.append rk (RVs.cons hb .nil)
    · rw [List.map_append]; exact Vals.append rv (.cons hv .nil)
def isOwnT (ρ : AE) (i : Nat) : Bool := match ρ.sl[i]? with
  | some (.own (.dit _ _)) => true
  | _ => false
theorem isOwnT_inv {ρ : AE} {i : Nat} (h : isOwnT ρ i = true) : ∃ ks us, ρ.sl[i]? = some (.own (.dit ks us)) := by
  unfold isOwnT at h
  split at h
  · rename_i ks us q; exact ⟨ks, us, q⟩
  · cases h
/-- x[k] = e, x a dict -/
def rPut (i : Nat) (rk ra : AE → R D) : AE → R Fl := fun ρ => (ra ρ).bind fun d ρ1 => if isOwnT ρ1 i = true then (rk ρ1).bind fun k ρ2 => updOwn i (putD k d) ρ2 else .bad
variable {ra rb : AE → R D} {e e2 : Expr} {pos : Pos} {ρ : AE}
theorem ps_putA (hK : X.K = G.K) (hP : X.prog = G.P) (hW : X.w = G.w) (hu : X.A.units + 66 < cLine) {i : Nat} {x : Str} {xp sp : Pos} (hN : X.N[i]? = some x) (hv : Vis X.env.scope x) (hd : (x == ("__debug__" : Str)) = false) (hcd : (x == ("__classdict__" : Str)) = false) (he : PE X e (tEv G W G.rv ra)) (hj : PE X e2 (tEv G W G.rv rb))
    (ha : ∀ v, assign (.Subscript (.Name x xp) e2 sp) X.env v = (do
      let ov ← holding [v] (eval (.Name x xp) X.env)
      let iv ← holding [v, ov] (eval e2 X.env)
      standAt sp
      holding [v, ov, iv] (setItem ov iv v)
      release [v, ov, iv] [])) (hs : swapsWithSole [.Subscript (.Name x xp) e2 sp] e pos.line X.env = pure false) (hw : swappedStores [.Subscript (.Name x xp) e2 sp] e X.env = pure none)
    (h1 : (assignEach [.Subscript (.Name x xp) e2 sp] X.env).map (·.2) = [assign (.Subscript (.Name x xp) e2 sp) X.env]) : PS X (.Assign [.Subscript (.Name x xp) e2 sp] e pos) (tSv G W (rPut i rb ra)) := by
  refine PS.imp (ps_asg he (pg_sub (pe_var hN hv hd hcd) hj (set_dit hK hP hW hu) ha) hs hw h1) fun D σ H t => ?_
  obtain ⟨sh, N, ρ, rp, p⟩ := t
  refine tEv.stmt rp p fun d ρ1 sh1 N1 y H1 _ rp1 k1 hy p1 => ?_
  obtain ⟨hc, p1⟩ := ifbad p1
  obtain ⟨ks0, us0, q⟩ := isOwnT_inv hc
  obtain ⟨a, ha, _, _, _⟩ := rp1.own i _ q
  refine ⟨.ref a, ha, ?_⟩
  refine tEv.stmt rp1 p1 fun kd ρ2 sh2 N2 z H2 _ rp2 k2 hz p2 => ?_
  obtain ⟨d1, d2, q1, e1, p3⟩ := updOwn_inv p2
  cases d1 with
  | dit ks us =>
    obtain ⟨a', ha', hN', hsh, ob, xs, vs, eH, dr, ek, rk, rv, ru⟩ := rp2.own i _ q1
    rw [ha] at ha'; cases ha'
    have hy2 := Cg.rv_mono hy k2 rp1.shN
    obtain ⟨κ, hk, e2'⟩ := Option.bind_eq_some_iff.mp (show (keyN kd).bind _ = some d2 from e1)
    obtain ⟨hlen, _⟩ := ite_some e2'
    have hl : ks.length = xs.length := by have := congrArg List.length ek; simpa using this
    refine ⟨a, ob, xs, ks, sh2, N2, κ, kd, rfl, eH, dr, ek, rk, hk, .inl hz, by rw [← hl]; exact many_lt hlen, fun b u ob' hb hu' dr' => ?_⟩
    subst hb
    obtain ⟨r2, k3⟩ := rp2.upown (d' := d2) (o := .ext (rawAt a ob')) q1 ha fun H' hkp e => own_put e dr' ek (rvs_up hkp rk) rv (rvs_up hkp ru) hk (RV.mono' (fun b u x n => ⟨hkp b u x n, n⟩) (fun _ _ e => e) _ _ hz) hu' (RV.mono' (fun b u x n => ⟨hkp b u x n, n⟩) (fun _ _ e => e) _ _ hy2) e1
    exact p3 sh2 N2 σ _ r2 k3
  | _ => cases e1
end
section
variable {G : Cg} {W : WX} {X : Cx} {pins : List (Addr × Obj)} {s : Shared} {σ : Sg} {sh : List Addr} {N : Addr → Prop} {H : Hp} {pos : Pos}
/-- {} -/
def rNewT : AE → R D := fun ρ => .ok (.dit [] []) ρ
theorem pe_newT : PE X (.Dict [] [] pos) (tEvF G W rNewT) := ⟨fun pins s σ H Q I h => by
  obtain ⟨sh, N, ρ, rp, p⟩ := h
  have hn := I.hok.fresh (Nat.le_refl s.heap.objs.size)
  have hg : (s.heap.push { cls := .type "dict", data := .dict #[] }).get? s.heap.objs.size = some { cls := .type "dict", data := .dict #[] } := Heap.get?_push_size _ rfl
  refine wpAny_Dict_empty ⟨.ref s.heap.objs.size, _, I.laid (a := s.heap.objs.size) (o := .ext (rawAt s.heap.objs.size { cls := .type "dict", data := .dict #[] })) (t' := s.toks) (fun _ _ q => Heap.get?_push_of_some _ q) (Nat.le_refl _) ⟨hg, ⟨_, hg⟩, fun h1 h2 p k => k _ p⟩, rfl, ?_⟩
  refine PostF.ret' p rp (grows hn) hn ⟨nofree rp hn, fun z => nofree rp hn (rp.shN _ z), { cls := .type "dict", data := .dict #[] }, [], [], upd_same, ⟨⟨rfl, rfl, rfl⟩, ⟨#[], 0, rfl, rfl⟩, .nil, Nat.zero_le _, ?_, fun x hx => by simp at hx⟩, rfl, RVs.nil, .nil, RVs.nil⟩
  exact beq_eq_false_iff_ne.mpr (Nat.ne_of_gt I.big)⟩
end
end Mi

/-! ### dicts whose keys are ints and texts (read in G5-G7) -/
namespace Mi
open PySem PySem.Spec PyProof.Rows L2
section
variable {G : Cg} {W : WX} {X : Cx} {pins : List (Addr × Obj)} {s : Shared} {σ : Sg} {sh : List Addr} {N : Addr → Prop} {H : Hp}
/-- d[k] = v -/
def rSetI : V → V → V → Hp → (Hp → Prop) → Prop := fun o i v H Q => ∃ (a : Addr) (kvs : List (Key × V)) (k : Key), o = .ref a ∧ H a = some (.dK kvs) ∧ i = kV k ∧ kvs.length < sizeLine ∧ Q (upd H a (.dK (putK kvs k v)))
theorem set_dik (hu : X.A.units + 66 < cLine) : PSet X rSetI := by
  intro pins s σ H o i v ov iv u Q I ro ri rv h
  obtain ⟨a, kvs, k, rfl, hH, rfl, hl, q⟩ := h
  cases ro
  exact d_setItem (by omega) I (DPut.k hH hl) ri rv fun s' I' => ⟨_, I', q⟩
def repI : List D → List D → Key → D → List D
  | k :: ks, u :: us, q, d => (if keyD k = some q then d else u) :: repI ks us q d
  | _, _, _, _ => []
def putI (k d : D) : D → Option D
  | .dik ks us => (keyD k).bind fun q => if ks.length < many then some (if hasI ks q = true then .dik ks (repI ks us q d) else .dik (ks ++ [k]) (us ++ [d])) else none
  | _ => none
theorem repI_at {d : D} {v : V} {k : Key} (hd : G.rv H N sh d v) : ∀ {ks us : List D} {kk : List Key} {vs : List V}, ks.map keyD = kk.map some → kk.length = vs.length → G.rvs H N sh us vs →
    ∃ vs', (kk.zip vs).map (fun kv => if kv.1 = k then (kv.1, v) else kv) = kk.zip vs' ∧ kk.length = vs'.length ∧ G.rvs H N sh (repI ks us k d) vs'
  | [], us, [], vs, _, l, r => ⟨[], rfl, rfl, by simp only [repI]; exact RVs.nil⟩
  | [], _, _ :: _, _, e, _, _ => by simp at e
  | _ :: _, _, [], _, e, _, _ => by simp at e
  | x :: ks, [], q :: kk, vs, _, l, r => by
    rw [RVs.nil_iff.mp r] at l; simp at l
  | x :: ks, u :: us, q :: kk, vs, e, l, r => by
    obtain ⟨w, ws, rfl, r1, r2⟩ := RVs.inv r
    simp only [List.map_cons, List.cons.injEq] at e
    obtain ⟨vs', a1, a2, a3⟩ := repI_at hd e.2 (by simpa using l) r2
    by_cases h : q = k
    · refine ⟨v :: vs', ?_, by simpa using a2, ?_⟩
      · rw [List.zip_cons_cons, List.map_cons, a1, if_pos h, List.zip_cons_cons]
      · rw [repI, if_pos (by rw [e.1, h])]; exact RVs.cons hd a3
    · refine ⟨w :: vs', ?_, by simpa using a2, ?_⟩
      · rw [List.zip_cons_cons, List.map_cons, a1, if_neg h, List.zip_cons_cons]
      · rw [repI, if_neg (by rw [e.1]; exact fun z => h (Option.some.inj z))]; exact RVs.cons r1 a3
theorem any_zip {kk : List Key} {vs : List V} (k : Key) : ((kk.zip vs).any fun kv => decide (kv.1 = k)) = (valV (kk.zip vs) k).isSome := by
  unfold valV
  rw [Option.isSome_map, Bool.eq_iff_iff, List.any_eq_true, List.find?_isSome]
/-- what stands there after it -/
theorem own_putI {a : Addr} {kk : List Key} {ks us : List D} {vs : List V} {k : Key} {dk d d' : D} {v : V} (hH : H a = some (.dK (putK (kk.zip vs) k v))) (ek : ks.map keyD = kk.map some) (nd : kk.Nodup) (hl : kk.length = vs.length) (ru : G.rvs H N sh us vs) (hk : keyD dk = some k) (hd : G.rv H N sh d v) (e : putI dk d (.dik ks us) = some d') : OwnAt G.P G.w G.K H N sh d' a := by
  simp only [putI, hk, Option.bind_some] at e
  obtain ⟨_, rfl⟩ := ite_some e
  have hs := hasI_eq (vs := vs) k ek hl
  by_cases h : hasI ks k = true
  · rw [if_pos h]
    obtain ⟨vs', a1, a2, a3⟩ := repI_at (k := k) hd ek hl ru
    refine ⟨kk, vs', ?_, ek, nd, a2, a3⟩
    rw [hH, putK, if_pos (by rw [any_zip, ← hs]; exact h), a1]
  · rw [if_neg h]
    have hn : k ∉ kk := fun z => h (by
      obtain ⟨j, hj⟩ := List.getElem?_of_mem z
      have h1 : (kk.map some)[j]? = some (some k) := by rw [List.getElem?_map, hj]; rfl
      rw [← ek, List.getElem?_map] at h1
      obtain ⟨x, x1, x2⟩ := Option.map_eq_some_iff.mp h1
      exact List.any_eq_true.mpr ⟨x, List.mem_of_getElem? x1, by simpa using x2⟩)
    refine ⟨kk ++ [k], vs ++ [v], ?_, by simp [ek, hk], ?_, by simp [hl], RVs.append ru (RVs.cons hd RVs.nil)⟩
    · rw [hH, putK, if_neg (by rw [any_zip, ← hs]; exact h), List.zip_append hl]; rfl
    · rw [List.nodup_append]
      exact ⟨nd, by simp, fun x hx y hy => by rw [List.mem_singleton] at hy; subst hy; exact fun z => hn (z ▸ hx)⟩
def isOwnI (ρ : AE) (i : Nat) : Bool := match ρ.sl[i]? with
  | some (.own (.dik _ _)) => true
  | _ => false
theorem isOwnI_inv {ρ : AE} {i : Nat} (h : isOwnI ρ i = true) : ∃ ks us, ρ.sl[i]? = some (.own (.dik ks us)) := by
  unfold isOwnI at h
  split at h
  · rename_i ks us q; exact ⟨ks, us, q⟩
  · cases h
variable {ra rb : AE → R D} {e e2 : Expr} {pos : Pos} {ρ : AE}
/-- x[k] = e, x a dict -/
def rPutI (i : Nat) (rk ra : AE → R D) : AE → R Fl := fun ρ => (ra ρ).bind fun d ρ1 => if isOwnI ρ1 i = true then (rk ρ1).bind fun k ρ2 => updOwn i (putI k d) ρ2 else .bad
variable {ra rb : AE → R D} {e e2 : Expr} {pos : Pos} {ρ : AE}
theorem ps_putI (hu : X.A.units + 66 < cLine) {i : Nat} {x : Str} {xp sp : Pos} (hN : X.N[i]? = some x) (hv : Vis X.env.scope x) (hd : (x == ("__debug__" : Str)) = false) (hcd : (x == ("__classdict__" : Str)) = false) (he : PE X e (tEv G W G.rv ra)) (hj : PE X e2 (tEv G W G.rv rb))
    (ha : ∀ v, assign (.Subscript (.Name x xp) e2 sp) X.env v = (do
      let ov ← holding [v] (eval (.Name x xp) X.env)
      let iv ← holding [v, ov] (eval e2 X.env)
      standAt sp
      holding [v, ov, iv] (setItem ov iv v)
      release [v, ov, iv] [])) (hs : swapsWithSole [.Subscript (.Name x xp) e2 sp] e pos.line X.env = pure false) (hw : swappedStores [.Subscript (.Name x xp) e2 sp] e X.env = pure none)
    (h1 : (assignEach [.Subscript (.Name x xp) e2 sp] X.env).map (·.2) = [assign (.Subscript (.Name x xp) e2 sp) X.env]) : PS X (.Assign [.Subscript (.Name x xp) e2 sp] e pos) (tSv G W (rPutI i rb ra)) := by
  refine PS.imp (ps_asg he (pg_sub (pe_var hN hv hd hcd) hj (set_dik hu) ha) hs hw h1) fun D σ H t => ?_
  obtain ⟨sh, N, ρ, rp, p⟩ := t
  refine tEv.stmt rp p fun d ρ1 sh1 N1 y H1 _ rp1 k1 hy p1 => ?_
  obtain ⟨hc, p1⟩ := ifbad p1
  obtain ⟨ks0, us0, q⟩ := isOwnI_inv hc
  obtain ⟨a, ha, _, _, _⟩ := rp1.own i _ q
  refine ⟨.ref a, ha, ?_⟩
  refine tEv.stmt rp1 p1 fun kd ρ2 sh2 N2 z H2 _ rp2 k2 hz p2 => ?_
  obtain ⟨d1, d2, q1, e1, p3⟩ := updOwn_inv p2
  cases d1 with
  | dik ks us =>
    obtain ⟨a', ha', hN', hsh, kk, vs, eH, ek, nd, hl, ru⟩ := rp2.own i _ q1
    rw [ha] at ha'; cases ha'
    have hy2 := Cg.rv_mono hy k2 rp1.shN
    obtain ⟨k, hk, e2'⟩ := Option.bind_eq_some_iff.mp (show (keyD kd).bind _ = some d2 from e1)
    obtain ⟨hlen, _⟩ := ite_some e2'
    have hll : ks.length = kk.length := by have := congrArg List.length ek; simpa using this
    have hz2 := keyD_is hk (.inl hz)
    obtain ⟨r2, k3⟩ := rp2.upown (d' := d2) (o := .dK (putK (kk.zip vs) k y)) q1 ha fun H' hkp e => own_putI e ek nd hl (rvs_up hkp ru) hk (RV.mono' (fun b u x n => ⟨hkp b u x n, n⟩) (fun _ _ e => e) _ _ hy2) e1
    exact ⟨a, kk.zip vs, k, rfl, eH, hz2, by rw [List.length_zip, ← hl, Nat.min_self, ← hll]; exact many_lt hlen, p3 sh2 N2 σ _ r2 k3⟩
  | _ => cases e1
/-- {} -/
def rNewI : AE → R D := fun ρ => .ok (.dik [] []) ρ
theorem pe_newI : PE X (.Dict [] [] pos) (tEvF G W rNewI) := PE.imp pe_dnewK fun σ H Q t => by
  obtain ⟨sh, N, ρ, rp, p⟩ := t
  exact fun q hq => PostF.ret' p rp (grows hq) hq ⟨nofree rp hq, fun z => nofree rp hq (rp.shN _ z), [], [], upd_same, rfl, .nil, rfl, RVs.nil⟩
theorem len_dik {ks us : List D} {a : Addr} {kk : List Key} {vs : List V} (ek : ks.map keyD = kk.map some) (hl : kk.length = vs.length) : (kk.zip vs).length = ks.length := by
  have := congrArg List.length ek
  rw [List.length_zip, ← hl, Nat.min_self]; simpa using this.symm
end
end Mi

/-! ### dict comprehensions -/
namespace Mi
open PySem PySem.Spec PyProof.Rows L2
/-- how a dict takes a pair: the dict, the key, the value -/
abbrev RS := V → V → V → Hp → (Hp → Prop) → Prop
/-- the dict of a comprehension takes pairs so -/
def DSet (X : Cx) (rS : RS) : Prop := ∀ (pins : List (Addr × Obj)) (s : Shared) (σ : Sg) (H : Hp) (D : Addr) (y z : V) (u r : Value) (Y : Hp → Prop) (E : Value → Shared → Prop) (Q : Unit → Shared → Prop),
  Inv X pins σ H s → RelV y u → RelV z r → rS (.ref D) y z H Y → (∀ s' H', Inv X pins σ H' s' → Y H' → Q () s') → wpAny (model X.prog X.w) X.A (dictSet D u r) Q E s
/-- in every block of the comprehension -/
def InB (X : Cx) (scope : Scope) (P : Cx → Prop) : Prop := ∀ (s : Shared) (H : Hp) (C : Addr) (cl : List (Str × Addr)) (fp : List Addr), P (X.blk s H scope (compEnvC scope cl C X.env) fp)
/-- the turns of the block; D the new dict, o0 what it is at first -/
def tDg (rS : RS) (o0 : Addr → HO) (wi : TI) (g : TG) (tt : TT) (tk tv : TE) (ws : List Nat) : TE := fun σ H Q => wi σ H fun J HJ => ∀ D, HJ D = none → (D == sysModules) = false → ∃ Z : Nat → Nat → Hp → Prop, (∃ m, Z 0 m (upd HJ D (o0 D))) ∧
  ∀ k n Hk, Z k n Hk → (J.stop k Hk ∧ Q (.ref D) Hk) ∨ (J.go k Hk ∧ ∃ Y : Hp → Prop, (∀ h, Y h → ∃ n', n' < n ∧ Z (k + 1) n' h) ∧
    ∀ x Hx, J.yld k Hk x Hx → g x (wipe σ ws) Hx fun τ Ht => wipe τ ws = wipe σ ws ∧ tt τ Ht fun c Hc => if c = true then tk τ Hc fun kx Hq => tv τ Hq fun vx Hv => rS (.ref D) kx vx Hv Y else Y Hc)
section
variable {X : Cx} {rS : RS} {o0 : Addr → HO} {kx vx tg iter : Expr} {ifs : List Expr} {scope : Scope} {own : List (Str × Nat)} {pos : Pos} {wi : TI} {g : TG} {tt : TT} {tk tv : TE}
theorem dg_core {pins : List (Addr × Obj)} {s : Shared} {σ : Sg} {H : Hp} {Q : VK} {pos' : Pos} {use : Option (Value → Sem Unit)} {Qf : Value → Shared → Prop}
    (hc : X.calm = true) (nd : X.N.Nodup) (I0 : Inv X pins σ H s) (pI : PI X tg iter wi) (ok : BlkOk X.N X.env.scope scope own)
    (pG : InB X scope fun B => PG B tg g) (pT : InB X scope fun B => PTs B ifs tt) (pK : InB X scope fun B => PE B kx tk) (pV : InB X scope fun B => PE B vx tv) (pD : InB X scope fun B => DSet B rS)
    (hfs : ∀ x, foldedSetIterable iter X.env x = pure x) (hnew : ∀ (H : Hp) (h : Heap), sysModules < h.objs.size → ObjOk X.prog X.w H (h.push { cls := .type "dict", data := .dict #[] }) h.objs.size (o0 h.objs.size))
    (t : tDg rS o0 wi g tt tk tv (own.map (·.2)) σ H Q)
    (last : ∀ D C s' m H', Inv X pins σ H' s' → Q (.ref D) H' → s'.heap.Ns C m → FpOk X pins H' C → compPost (model X.prog X.w) X.A X.xe use Qf (.ref D) C (.ok .next) s') :
    wpAny (model X.prog X.w) X.A (comprehension (.DictComp kx vx [⟨tg, iter, ifs, 0⟩] scope pos) scope X.env pos' newDict false (eval iter X.env) use) Qf X.xe s := by
  have caught : ∀ y ∈ scope.names, y.2 = .free → ∃ c, X.env.cells.lookup y.1 = some c := fun y my ey => by
    rcases ok.free y my ey with z | z
    · exact I0.ok.has _ (.inl z)
    · exact I0.ok.has _ (.inr z)
  refine wpAny_comprehension_free (use := use) rfl hfs (closure_ok caught) ok.kind (fun y my ey => by rw [ok.uniq y my, ey])
    (thn (pI.run pins s σ H _ I0 t) fun v1 s1 h1 => thn h1 fun v2 s2 h2 => ?_)
  obtain ⟨it, fp, pl, J, HJ, rfl, IJ, T, stJ, fpJ, bt⟩ := h2
  refine wpAny_newObj_type (newEnv_comp ?_)
  generalize eD : s2.heap.objs.size = D
  have freeD : HJ D = none := IJ.hok.fresh (Nat.le_of_eq eD)
  obtain ⟨Z, ⟨n0, z0⟩, turns⟩ := bt D freeD (by rw [← eD]; exact beq_eq_false_iff_ne.mpr (Nat.ne_of_gt IJ.big))
  generalize e3 : ({ s2 with heap := s2.heap.push { cls := .type "dict", data := .dict #[] } } : Shared) = s3
  have p3 : s3.heap = s2.heap.push { cls := .type "dict", data := .dict #[] } := by rw [← e3]
  have ID : Inv X pins σ (upd HJ D (o0 D)) s3 := by
    rw [← e3]
    refine IJ.laid (t' := s2.toks) (fun b o q => Heap.get?_push_of_some _ q) (Nat.le_of_eq eD) ?_
    rw [← eD]
    exact hnew _ s2.heap IJ.big
  have there : ∀ b ∈ fp, b < s2.heap.objs.size := fun b mb => by
    obtain ⟨o, q, _⟩ := T.obj _ _ stJ b mb
    exact Heap.lt_size q
  have fpD : ∀ b ∈ fp, FpOk X pins (upd HJ D (o0 D)) b ∧ b < s3.heap.objs.size := fun b mb => by
    have lt := there b mb
    refine ⟨⟨?_, (fpJ b mb).2⟩, by rw [p3, Heap.size_push]; exact Nat.lt_succ_of_lt lt⟩
    rw [upd_ne (by rw [← eD]; exact Nat.ne_of_lt lt)]
    exact (fpJ b mb).1
  have stD : pl 0 s3.heap := T.keep _ _ _ stJ fun b _ o q => by rw [p3]; exact Heap.get?_push_of_some _ q
  have IB := block_start ID ok nd fpD
  have free0 : ∀ b ∈ fp, (upd HJ D (o0 D)) b = none := fun b mb => (fpD b mb).1.1
  generalize eH : upd HJ D (o0 D) = HD at ID IB z0 free0 fpD
  have bG := pG s3 HD s3.heap.objs.size (cellsFrom (s3.heap.objs.size + 1) scope.names (cloFrom X.env.cells scope.names [])) fp
  have bT := pT s3 HD s3.heap.objs.size (cellsFrom (s3.heap.objs.size + 1) scope.names (cloFrom X.env.cells scope.names [])) fp
  have bK := pK s3 HD s3.heap.objs.size (cellsFrom (s3.heap.objs.size + 1) scope.names (cloFrom X.env.cells scope.names [])) fp
  have bV := pV s3 HD s3.heap.objs.size (cellsFrom (s3.heap.objs.size + 1) scope.names (cloFrom X.env.cells scope.names [])) fp
  have bD := pD s3 HD s3.heap.objs.size (cellsFrom (s3.heap.objs.size + 1) scope.names (cloFrom X.env.cells scope.names [])) fp
  show codeAny _ _ (.compStart (.DictComp kx vx [⟨tg, iter, ifs, 0⟩] scope pos) 0 (.ref it) (.ref D) (compEnvC scope (cellsFrom (s3.heap.objs.size + 1) scope.names (cloFrom X.env.cells scope.names [])) s3.heap.objs.size X.env))
    (compPost (model X.prog X.w) X.A X.xe use Qf (.ref D) s3.heap.objs.size) { s3 with heap := pushCells (s3.heap.push { cls := .type "dict", data := .dict #[] }) scope.names }
  generalize eB : compEnvC scope (cellsFrom (s3.heap.objs.size + 1) scope.names (cloFrom X.env.cells scope.names [])) s3.heap.objs.size X.env = be at IB bG bT bK bV bD ⊢
  have lB : be.locals = s3.heap.objs.size := by rw [← eB]; rfl
  generalize e4 : ({ s3 with heap := pushCells (s3.heap.push { cls := .type "dict", data := .dict #[] }) scope.names } : Shared) = s4 at IB ⊢
  have stB : pl 0 s4.heap := T.keep _ _ _ stD fun b _ o q => by rw [← e4]; exact pushCells_keeps _ _ _ _ (Heap.get?_push_of_some _ q)
  have stays : ∀ {τ : Sg} {H' : Hp} {s' : Shared}, Inv (X.blk s3 HD scope be fp) [] τ H' s' → (∀ b ∈ fp, H' b = none) → ∀ b ∈ fp, FpOk (X.blk s3 HD scope be fp) [] H' b := fun {τ H' s'} I' hn b mb =>
    ⟨hn b mb, (I'.ok.exf b mb).1, I'.ok.exfs b mb, .inl mb, fun x c q => (I'.ok.exf b mb).2 x c q, fun p mp => absurd (show p ∈ ([] : List (Addr × Obj)) ++ [] from mp) (by simp)⟩
  have goes : codeAny (model X.prog X.w) X.A (.compLoop (.DictComp kx vx [⟨tg, iter, ifs, 0⟩] scope pos) 0 (.ref it) (.ref D) be) (compPost (model X.prog X.w) X.A X.xe use Qf (.ref D) s3.heap.objs.size) s4 := by
    refine compLoop_anyD (fun n s' => ∃ k Hk, Inv (X.blk s3 HD scope be fp) [] (wipe σ (own.map (·.2))) Hk s' ∧ pl k s'.heap ∧ (∀ b ∈ fp, Hk b = none) ∧ Z k n Hk) ?_ n0 ⟨0, HD, IB, stB, free0, z0⟩
    rintro n s5 ⟨k, Hk, Ik, stk, nk, zk⟩
    rcases turns k n Hk zk with ⟨halt, q⟩ | ⟨go, Y, hY, step⟩
    · refine thnF (T.done (X.blk s3 HD scope be fp) rfl rfl rfl hc k [] s5 _ Hk (fun _ _ => False) Ik (stays Ik nk) stk halt) fun r s6 ⟨er, I6⟩ => ?_
      subst er
      have Iout : Inv X pins σ Hk s6 := ID.call' (ch := fp) I6.os I6.base I6.hok I6.bare fun b mb => ⟨(fpD b mb).1.2.2.2.1, (fpD b mb).1.2.1, (fpD b mb).1.2.2.2.2.1, (fpD b mb).1.2.2.2.2.2⟩
      have freeC : Hk s3.heap.objs.size = none := by
        have q1 : Hk be.locals = none := I6.free
        rwa [lB] at q1
      obtain ⟨mm, hm, _⟩ := I6.loc
      replace hm : s6.heap.Ns be.locals mm := hm
      rw [lB] at hm
      exact last D s3.heap.objs.size s6 mm Hk Iout q hm (ID.fpOk (Nat.le_refl _) freeC)
    · refine thnF (T.item (X.blk s3 HD scope be fp) rfl rfl rfl hc k [] s5 _ Hk (fun _ _ => False) Ik (stays Ik nk) stk go) fun r s6 ⟨u, er, h6⟩ => ?_
      subst er
      refine thnF h6 fun _ s7 ⟨x, Hx, Ix, rx, yx, stx, nx⟩ => ?_
      have Ip := Ix.pinned (stays Ix nx) (T.obj _ _ stx)
      refine thnF (bG.run _ s7 _ Hx x u _ Ip rx (step x Hx yx)) fun _ s8 ⟨τ, Ht, It, wt, qt⟩ => ?_
      refine thnF (bT.run _ s8 τ Ht _ It qt) fun c s9 ⟨Hc, Ic, qc⟩ => ?_
      have turn : ∀ {s' : Shared} {H' : Hp}, Inv (X.blk s3 HD scope be fp) ([] ++ pinsAt fp s7.heap) τ H' s' → Y H' → ∃ m, m < n ∧ ∃ k Hk, Inv (X.blk s3 HD scope be fp) [] (wipe σ (own.map (·.2))) Hk s' ∧ pl k s'.heap ∧ (∀ b ∈ fp, Hk b = none) ∧ Z k m Hk := fun {s' H'} I' y => by
        obtain ⟨m, lt, z⟩ := hY H' y
        have held : ∀ b ∈ fp, ∀ o, s7.heap.get? b = some o → s'.heap.get? b = some o ∧ H' b = none := fun b mb o q =>
          let w := I'.pin (b, o) (List.mem_append_right _ (List.mem_append_right _ (mem_pinsAt mb q)))
          ⟨w.1, w.2.1⟩
        refine ⟨m, lt, k + 1, H', (I'.unpinned (pins := [])).weak (by rw [← wt, wipe_length]) (fun j v q => ?_), T.keep _ _ _ stx fun b mb o q => (held b mb o q).1, fun b mb => ?_, z⟩
        · rw [← wt] at q
          exact (wipe_some q).1
        · obtain ⟨o, q, _⟩ := T.obj _ _ stx b mb
          exact (held b mb o q).2
      cases c with
      | false =>
        rw [if_neg Bool.false_ne_true] at qc ⊢
        exact turn Ic qc
      | true =>
        rw [if_pos rfl] at qc ⊢
        refine thnF (bK.run _ s9 τ Hc _ Ic qc) fun w1 s10 ⟨kd, Hq, Iq, rq, qq⟩ => ?_
        refine thnF (bV.run _ s10 τ Hq _ Iq qq) fun w2 s11 ⟨vd, Hv, Iv, rv, qv⟩ => ?_
        exact bD _ s11 τ Hv D kd vd w1 w2 Y _ _ Iv rq rv qv fun s' H' I' y => turn I' y
  exact codeAny_compStart_dict goes (T.self X.A 0 _ _ _ stB goes)
/-- as a value -/
theorem pe_dg (hc : X.calm = true) (nd : X.N.Nodup) (pI : PI X tg iter wi) (ok : BlkOk X.N X.env.scope scope own)
    (pG : InB X scope fun B => PG B tg g) (pT : InB X scope fun B => PTs B ifs tt) (pK : InB X scope fun B => PE B kx tk) (pV : InB X scope fun B => PE B vx tv) (pD : InB X scope fun B => DSet B rS)
    (hfs : ∀ x, foldedSetIterable iter X.env x = pure x) (hnew : ∀ (H : Hp) (h : Heap), sysModules < h.objs.size → ObjOk X.prog X.w H (h.push { cls := .type "dict", data := .dict #[] }) h.objs.size (o0 h.objs.size)) :
    PE X (.DictComp kx vx [⟨tg, iter, ifs, 0⟩] scope pos) (tDg rS o0 wi g tt tk tv (own.map (·.2))) := ⟨fun pins s σ H Q I t => by
  rw [arm_eval_DictComp]
  refine dg_core hc nd I pI ok pG pT pK pV pD hfs hnew t fun D C s' m H' I' q hm f => ⟨m, hm, fun h'' sb => ?_⟩
  obtain ⟨a0, a1, a2, a3, a4, a5⟩ := f
  exact ⟨.ref D, H', I'.turned (t' := s'.toks) (fun b o nb q1 => (sb.2 b nb).trans q1) a0 a1 a3 a4 a5, rfl, q⟩⟩
/-- name = {..}, the name a local -/
theorem ps_setDg {i : Nat} {y : Str} {py spos : Pos} (hc : X.calm = true) (nd : X.N.Nodup) (hy : X.N[i]? = some y) (hyl : X.env.scope.names.lookup y = some .local) (hsw : swapsWith (.DictComp kx vx [⟨tg, iter, ifs, 0⟩] scope pos) (some (.Name y py)) spos.line X.env = pure true)
    (pI : PI X tg iter wi) (ok : BlkOk X.N X.env.scope scope own)
    (pG : InB X scope fun B => PG B tg g) (pT : InB X scope fun B => PTs B ifs tt) (pK : InB X scope fun B => PE B kx tk) (pV : InB X scope fun B => PE B vx tv) (pD : InB X scope fun B => DSet B rS)
    (hfs : ∀ x, foldedSetIterable iter X.env x = pure x) (hnew : ∀ (H : Hp) (h : Heap), sysModules < h.objs.size → ObjOk X.prog X.w H (h.push { cls := .type "dict", data := .dict #[] }) h.objs.size (o0 h.objs.size)) :
    PS X (.Assign [.Name y py] (.DictComp kx vx [⟨tg, iter, ifs, 0⟩] scope pos) spos) (tAsg (tDg rS o0 wi g tt tk tv (own.map (·.2))) (gName i)) := ⟨fun pins s σ H D0 I t => by
  rw [exec_Assign_Name_used _ _ _ _ hsw]
  refine wpAny_bind (wpAny_standAt (wpAny_bind ?_))
  show wpAny _ X.A (do let _ ← comprehension (.DictComp kx vx [⟨tg, iter, ifs, 0⟩] scope pos) scope X.env (firstIterPos [⟨tg, iter, ifs, 0⟩] pos) newDict false (eval iter X.env) (some (assign (.Name y py) X.env))) _ _ s
  replace t : tDg rS o0 wi g tt tk tv (own.map (·.2)) σ H (fun x H1 => gName i x σ H1 D0.nx) := t
  refine wpAny_bind (thn (dg_core (Qf := fun _ s' => SP X pins D0 .next s') hc nd I pI ok pG pT pK pV pD hfs hnew t fun D C s' m H' I' q hm f => ?_) fun _ s' q => wpAny_pure (wpAny_pure q))
  obtain ⟨a0, a1, a2, a3, a4, a5⟩ := f
  show wpAny _ _ (assign (.Name y py) X.env (.ref D)) _ _ _
  refine wpAny_assign_Name (store_ok2 (v := V.ref D) I' nd hy (.inl hyl) rfl (fun s2 I2 ⟨a, sb, ha⟩ => ?_) (.inr hyl))
  have na : C ≠ a := by
    rcases ha with z | z
    · rw [z]; exact a1
    · exact fun q1 => a4 y a z q1.symm
  exact ⟨m, hm.sameBut sb na, fun h3 sb3 => ⟨_, H', I2.turned (t' := s2.toks) (fun b o nb q1 => (sb3.2 b nb).trans q1) a0 a1 a3 a4 a5, q⟩⟩⟩
end
theorem sw_dict {kx vx : Expr} {gs : List Comprehension} {scope : Scope} {pos py : Pos} {y : Str} {l : Nat} {env : PySem.Env} (hk : env.scope.kind = .function) (hy : env.scope.names.lookup y = some .local) (hl : (py.line == pos.line) = true)
    (ha : (scope.names.any fun (n, k) => n == y && (k == .local || k == .cell)) = false) : swapsWith (.DictComp kx vx gs scope pos) (some (.Name y py)) l env = pure true := by
  have k1 : env.kindOf y = some .local := hy
  have k2 : env.blockKind = .function := by unfold Env.blockKind; rw [hk]; rfl
  unfold swapsWith
  simp only [k1, k2, ha, Expr.pos, hl]
  rfl
/-! the two sorts of dicts -/
section
variable {G : Cg} {X : Cx}
theorem dset_dik : DSet X rSetI := by
  intro pins s σ H D y z u r Y E Q I ry rz h k
  obtain ⟨a, kvs, q, e, hH, rfl, hl, y⟩ := h
  cases e
  exact d_dictSet I hH hl ry rz fun s' I' => k s' _ I' y
theorem dset_dit (hK : X.K = G.K) (hP : X.prog = G.P) (hW : X.w = G.w) (hu : X.A.units + 66 < cLine) : DSet X (rSetT G) := by
  intro pins s σ H D y z u r Y E Q I ry rz h k
  obtain ⟨a, ob, xs, ks, sh, N, κ, dk, e, hH, dr, ek, rk, hk, hi, hl, q⟩ := h
  cases e
  obtain ⟨b, rfl, hb⟩ := keyN_is hK I hk hi ry
  have hm := dit_of hK hP hW I (.inl hH) dr ek rk
  refine wpAny_dictSet_heap (hsz := Nat.le_of_lt hl) (show X.A.units + 8 < cLine by omega) hb hm fun h' hm' hs => ?_
  obtain ⟨o', es, ep, ho', oe, od, oes, his, nd⟩ := hm'
  have dr' : DitRaw G.P G.w D o' (storedH xs κ b r) := ⟨oe, ⟨es, ep, od, by rw [← hP, ← hW]; exact oes⟩, nd, Nat.le_trans storedH_len hl, dr.2.2.2.2.1, fun x hx => (his x hx).2⟩
  have ib : y = .ref b := by
    cases dk with
    | tup l =>
      obtain ⟨a2, vs2, rfl, _, _⟩ := rb_tup hi
      cases ry; rfl
    | _ => cases hk
  exact k _ _ (I.write (o := .ext (rawAt D o')) (t' := s.toks + (nestedKind X.prog X.w).draws κ) (by rw [hH]; exact True.intro) (.inl rfl) (fun c w hc e => (hs.2 c hc).trans e) ⟨o', ho'⟩ ⟨ho', ⟨o', ho'⟩, fun h1 h2 p k => k _ p⟩) (q b r o' ib rz dr')
/-- a new empty one -/
def ditO (a : Addr) : HO := .ext (rawAt a { cls := .type "dict", data := .dict #[] })
theorem new_dit (H : Hp) (h : Heap) : ObjOk X.prog X.w H (h.push { cls := .type "dict", data := .dict #[] }) h.objs.size (ditO h.objs.size) := by
  have hg : (h.push { cls := .type "dict", data := .dict #[] }).get? h.objs.size = some { cls := .type "dict", data := .dict #[] } := Heap.get?_push_size _ rfl
  exact ⟨hg, ⟨_, hg⟩, fun h1 h2 p k => k _ p⟩
/-- what a step of the comprehension keeps: put is the abstract step -/
structure PutOk (G : Cg) (rS : RS) (o0 : Addr → HO) (d0 : Mi.D) (put : Mi.D → Mi.D → Mi.D → Option Mi.D) : Prop where
  start : ∀ (H : Hp) (N : Addr → Prop) (sh : List Addr) (a : Addr), (a == sysModules) = false → OwnAt G.P G.w G.K (upd H a (o0 a)) N sh d0 a
  step : ∀ (H : Hp) (N : Addr → Prop) (sh : List Addr) (a : Addr) (k d acc acc' : Mi.D) (y z : V) (Y : Hp → Prop), N a → OwnAt G.P G.w G.K H N sh acc a → G.rv H N sh k y → G.rv H N sh d z → put k d acc = some acc' →
    (∀ o, OwnAt G.P G.w G.K (upd H a o) N sh acc' a → Y (upd H a o)) → rS (.ref a) y z H Y
theorem rdup {H : Hp} {N : Addr → Prop} {a : Addr} {o : HO} (hN : N a) : ∀ b u, Rd H b u → ¬ N b → Rd (upd H a o) b u := fun b u r n => by
  have h : b ≠ a := fun z => n (z ▸ hN)
  rcases r with r | ⟨q, r⟩
  · exact .inl ((upd_ne h).trans r)
  · exact .inr ⟨q, (upd_ne h).trans r⟩
theorem putOk_dit : PutOk G (rSetT G) ditO (.dit [] []) putD where
  start := fun H N sh a ha => ⟨_, [], [], upd_same, ⟨⟨rfl, rfl, rfl⟩, ⟨#[], 0, rfl, rfl⟩, .nil, Nat.zero_le _, ha, fun x hx => by simp at hx⟩, rfl, RVs.nil, .nil, RVs.nil⟩
  step := fun H N sh a k d acc acc' y z Y hN ho hk hd e q => by
    cases acc with
    | dit ks us =>
      obtain ⟨ob, xs, vs, eH, dr, ek, rk, rv, ru⟩ := ho
      obtain ⟨κ, hκ, e2⟩ := Option.bind_eq_some_iff.mp (show (keyN k).bind _ = some acc' from e)
      obtain ⟨hlen, _⟩ := ite_some e2
      have hl : ks.length = xs.length := by have := congrArg List.length ek; simpa using this
      refine ⟨a, ob, xs, ks, sh, N, κ, k, rfl, eH, dr, ek, rk, hκ, .inl hk, by rw [← hl]; exact many_lt hlen, fun b u ob' hb hu dr' => ?_⟩
      subst hb
      have hkp := rdup (H := H) (o := .ext (rawAt a ob')) hN
      refine q _ (own_put upd_same dr' ek (rvs_up hkp rk) rv (rvs_up hkp ru) hκ (RV.mono' (fun b u x n => ⟨hkp b u x n, n⟩) (fun _ _ e => e) _ _ hk) hu (RV.mono' (fun b u x n => ⟨hkp b u x n, n⟩) (fun _ _ e => e) _ _ hd) e)
    | _ => cases e
theorem putOk_dik : PutOk G rSetI (fun _ => .dK []) (.dik [] []) putI where
  start := fun H N sh a ha => ⟨[], [], upd_same, rfl, .nil, rfl, RVs.nil⟩
  step := fun H N sh a k d acc acc' y z Y hN ho hk hd e q => by
    cases acc with
    | dik ks us =>
      obtain ⟨kk, vs, eH, ek, nd, hl, ru⟩ := ho
      obtain ⟨c, hc, e2⟩ := Option.bind_eq_some_iff.mp (show (keyD k).bind _ = some acc' from e)
      obtain ⟨hlen, _⟩ := ite_some e2
      have hll : ks.length = kk.length := by have := congrArg List.length ek; simpa using this
      have hkp := rdup (H := H) (o := .dK (putK (kk.zip vs) c z)) hN
      exact ⟨a, kk.zip vs, c, rfl, eH, keyD_is hc (.inl hk), by rw [List.length_zip, ← hl, Nat.min_self, ← hll]; exact many_lt hlen, q _ (own_putI upd_same ek nd hl (rvs_up hkp ru) hc (RV.mono' (fun b u x n => ⟨hkp b u x n, n⟩) (fun _ _ e => e) _ _ hd) e)⟩
    | _ => cases e
end
end Mi

/-! ### dict comprehensions, read -/
namespace Mi
open PySem PySem.Spec PyProof.Rows L2
def dcL (put : D → D → D → Option D) (g : D → AE → R Unit) (t : AE → R Bool) (rk rv : AE → R D) (vs : List Nat) : List D → D → AE → R D
  | [], acc, ρ => .ok acc ρ
  | d :: ds, acc, ρ => match g d ρ with
    | .ok _ ρ1 => (noX (t ρ1)).bind fun c ρ2 => if c = true then (noX (rk ρ2)).bind fun k ρ3 => (noX (rv ρ3)).bind fun v ρ4 => (match put k v acc with
      | some acc' => dcL put g t rk rv vs ds acc' (wipeA vs ρ4)
      | none => .bad) else dcL put g t rk rv vs ds acc (wipeA vs ρ2)
    | _ => .bad
def rDc (put : D → D → D → Option D) (d0 : D) (bi : Option Nat) (it : AE → R (List D)) (vs : List Nat) (g : D → AE → R Unit) (t : AE → R Bool) (rk rv : AE → R D) : AE → R D := fun ρ => (it ρ).bind fun l ρ1 =>
  if okV vs ρ1 = true then (dcL put g t rk rv vs l d0 (wipeA vs ρ1)).bind fun acc ρ2 => .ok acc (unl bi ρ ρ1 (restA vs ρ1 ρ2)) else .bad
section
variable {G : Cg} {W : WX} {sh sh1 sh2 : List Addr} {N N1 N2 : Addr → Prop} {ρ ρ1 ρ2 : AE} {σ σ2 : Sg} {H H1 H2 : Hp}
variable {X : Cx} {kx vx tg iter : Expr} {ifs : List Expr} {it : AE → R (List Mi.D)} {g : Mi.D → AE → R Unit} {rt : AE → R Bool} {rk rv : AE → R Mi.D} {tgr : TG} {ts vs : List Nat}
/-- the state of the walk; o: the new dict at first -/
structure DSt (G : Cg) (ρ1 : AE) (σ : Sg) (vs : List Nat) (sh1 : List Addr) (N1 : Addr → Prop) (H1 : Hp) (D : Addr) (o : HO) (sh' : List Addr) (N' : Addr → Prop) (ρ' : AE) (σ' : Sg) (H' : Hp) : Prop where
  rp : G.rp sh' N' ρ' σ' H'
  kp : Kp ⟨(· = D), fun _ _ => False⟩ (OwnS (wipeA vs ρ1) (wipe σ vs)) (OwnS ρ' σ') sh1 sh' (fun b => N1 b ∨ b = D) N' (upd H1 D o) H'
  nd : N' D
  no : ¬ OwnS ρ' σ' D
  nb : ∀ i, ¬ (OwnS ρ' σ').b i D
  ns : D ∉ sh'
  al : ∃ u, H' D = some u
theorem DSt.step {D : Addr} {o : HO} {sh' sh'' : List Addr} {N' N'' : Addr → Prop} {ρ' ρ'' : AE} {σ' σ'' : Sg} {H' H'' : Hp} (c : DSt G ρ1 σ vs sh1 N1 H1 D o sh' N' ρ' σ' H') (rp : G.rp sh'' N'' ρ'' σ'' H'') (k : Kp none1 (OwnS ρ' σ') (OwnS ρ'' σ'') sh' sh'' N' N'' H' H'') : DSt G ρ1 σ vs sh1 N1 H1 D o sh'' N'' ρ'' σ'' H'' := by
  obtain ⟨u, e⟩ := c.al
  exact ⟨rp, c.kp.transM (k.weak fun _ z => z.elim), k.st D u e c.nd c.no, k.own D u e c.no, k.mt D u e c.no c.nb, k.shn D u e c.ns, k.there D u e⟩
theorem DSt.walk {D : Addr} {o : HO} {sh' : List Addr} {N' : Addr → Prop} {ρ' : AE} {σ' : Sg} {H' : Hp} (c : DSt G ρ1 σ vs sh1 N1 H1 D o sh' N' ρ' σ' H') (hv : okV vs ρ1 = true) (hD : H1 D = none) : Kp none1 (OwnS ρ1 σ) (OwnS ρ' σ') sh1 sh' N1 N' H1 H' := by
  have e1 : ∀ a u, H1 a = some u → upd H1 D o a = some u := grows hD
  have ne : ∀ a u, H1 a = some u → a ≠ D := fun a u e z => by rw [z, hD] at e; cases e
  exact ⟨fun a u e n _ => c.kp.keep a u (e1 a u e) n (ne a u e), fun a u e n => c.kp.shn a u (e1 a u e) n, fun a u e n => c.kp.av a u (e1 a u e) fun z => z.elim n (ne a u e),
    fun a u e n => c.kp.own a u (e1 a u e) fun z => n (OwnS.wipe z), c.kp.pre, fun a u e => c.kp.there a u (e1 a u e), fun i a b => c.kp.bo i a (BorS.wiped hv b),
    fun a u e n no => c.kp.st a u (e1 a u e) (.inl n) fun z => no (OwnS.wipe z), fun a u e n h => c.kp.mt a u (e1 a u e) (fun z => n (OwnS.wipe z)) fun i z => h i (BorS.wipe z)⟩
/-- the block's slots are forgotten ahead of the next turn -/
theorem DSt.wiped {D : Addr} {o : HO} {shx : List Addr} {Nx : Addr → Prop} {ρx : AE} {σ3 : Sg} {Hx : Hp} (ws : wipe σ3 vs = wipe σ vs) (c : DSt G ρ1 σ vs sh1 N1 H1 D o shx Nx ρx σ3 Hx) : DSt G ρ1 σ vs sh1 N1 H1 D o shx Nx (wipeA vs ρx) (wipe σ vs) Hx := by
  have rw1 := c.rp.wipe (vs := vs)
  rw [ws] at rw1
  have oo : ∀ a, OwnS (wipeA vs ρx) (wipe σ vs) a → OwnS ρx σ3 a := fun a z => by rw [← ws] at z; exact OwnS.wipe z
  have bb : ∀ i a, (OwnS (wipeA vs ρx) (wipe σ vs)).b i a → (OwnS ρx σ3).b i a := fun i a z => by rw [← ws] at z; exact BorS.wipe z
  refine ⟨rw1, ⟨c.kp.keep, c.kp.shn, c.kp.av, fun a u e n z => c.kp.own a u e n (oo a z), c.kp.pre, c.kp.there, fun i a b => ?_, c.kp.st, fun a u e n h i z => c.kp.mt a u e n h i (bb i a z)⟩, c.nd, fun z => c.no (oo D z), fun i z => c.nb i (bb i D z), c.ns, c.al⟩
  obtain ⟨d, g1, g2⟩ := c.kp.bo i a b
  obtain ⟨d0, g0, _⟩ := b
  have n : i ∉ vs := fun z => by
    rcases getW g0 with ⟨n, _⟩ | ⟨_, q⟩
    · exact n z
    · cases q
  exact ⟨d, by show (wipeL vs ρx.sl)[i]? = _; rw [wipeL_out n]; exact g1, by rw [← ws, wipe_out' n]; exact g2⟩
/-- the dict is written -/
theorem DSt.put {D : Addr} {o u : HO} {sh5 : List Addr} {N5 : Addr → Prop} {ρ5 : AE} {σ3 : Sg} {H5 : Hp} (cs5 : DSt G ρ1 σ vs sh1 N1 H1 D o sh5 N5 ρ5 σ3 H5) : DSt G ρ1 σ vs sh1 N1 H1 D o sh5 N5 ρ5 σ3 (upd H5 D u) := by
  have nD5 := cs5.nd
  have up : ∀ b, b ≠ D → upd H5 D u b = H5 b := fun b h => upd_ne h
  have hk : ∀ b w, Rd H5 b w → ¬ N5 b → Rd (upd H5 D u) b w ∧ ¬ N5 b := fun b w r n => ⟨rdup nD5 b w r n, n⟩
  have hs : ∀ (n : Nat) (b : Addr), sh5[n]? = some b → sh5[n]? = some b := fun _ _ e => e
  have al : ∀ b w, H5 b = some w → ∃ w', upd H5 D u b = some w' := fun b w e => by
    by_cases h : b = D
    · exact ⟨_, by rw [h]; exact upd_same⟩
    · exact ⟨w, (up b h).trans e⟩
  have rp5 := cs5.rp
  refine ⟨⟨rp5.len, fun j e g => ?_, fun j e g => ?_, fun j e g => ?_, rp5.dis, fun a z => ?_, rp5.nd, rp5.shN, rp5.shl, fun n ob a e1 e2 => ?_⟩, ⟨fun a w e n z => by rw [up a z]; exact cs5.kp.keep a w e n z, cs5.kp.shn, cs5.kp.av, cs5.kp.own, cs5.kp.pre, fun a w e => ?_, cs5.kp.bo, cs5.kp.st, cs5.kp.mt⟩, cs5.nd, cs5.no, cs5.nb, cs5.ns, ⟨_, upd_same⟩⟩
  · obtain ⟨v, q1, q2⟩ := rp5.val j e g
    exact ⟨v, q1, RV.mono' hk hs _ _ q2⟩
  · obtain ⟨a, q1, q2, q3, q4⟩ := rp5.own j e g
    have h : a ≠ D := fun z => cs5.no (z ▸ ⟨j, e, g, q1⟩)
    exact ⟨a, q1, q2, q3, OwnAt.mono hk hs (fun w z => (up a h).trans z) q4⟩
  · obtain ⟨a, q1, q2, q3, q4⟩ := rp5.bor j e g
    have h : a ≠ D := fun z => cs5.nb j (z ▸ ⟨e, g, q1⟩)
    exact ⟨a, q1, q2, q3, OwnAt.mono hk hs (fun w z => (up a h).trans z) q4⟩
  · obtain ⟨w, e⟩ := rp5.dom a z
    exact al a w e
  · have h : a ≠ D := fun z => cs5.ns (by rw [← z]; exact List.mem_of_getElem? e2)
    exact ObAt.mono hk hs (fun w z => (up a h).trans z) (rp5.obs n ob a e1 e2)
  · obtain ⟨w', e'⟩ := cs5.kp.there a w e
    exact al a w' e'
theorem readDc {rS : RS} {o0 : Addr → HO} {d0 : Mi.D} {put : Mi.D → Mi.D → Mi.D → Option Mi.D} (po : PutOk G rS o0 d0 put) {bi : Option Nat} {Q : VK} (hg : TgRd G tgr ts g) (hts : ∀ j ∈ ts, j ∈ vs) (t : tEvF G W (rDc put d0 bi it vs g rt rk rv) σ H Q) :
    tDg rS o0 (tEvI G W it) tgr (tEv G W0 rl rt) (tEv G W0 G.rv rk) (tEv G W0 G.rv rv) vs σ H Q := by
  obtain ⟨sh, N, ρ, rp, p⟩ := t
  refine ⟨sh, N, ρ, rp, postFIter (l := it) p fun l ρ1 sh1 N1 J H1 _ rp1 k1 wk p1 => ?_⟩
  obtain ⟨hv, p1⟩ := ifbadF p1
  intro D hD hsys
  have nD : ¬ N1 D := nofree rp1 hD
  have dS : D ∉ sh1 := fun z => nD (rp1.shN _ z)
  refine ⟨fun i m H' => m = l.length - i ∧ i ≤ l.length ∧ ∃ sh' N' ρ' acc, DSt G ρ1 σ vs sh1 N1 H1 D (o0 D) sh' N' ρ' (wipe σ vs) H' ∧ OwnAt G.P G.w G.K H' N' sh' acc D ∧
    PostF G W sh N ρ σ H ((dcL put g rt rk rv vs (l.drop i) acc ρ').bind fun a ρ2 => .ok a (unl bi ρ ρ1 (restA vs ρ1 ρ2))) Q, ⟨l.length, by simp, Nat.zero_le _, sh1, fun b => N1 b ∨ b = D, wipeA vs ρ1, d0, ?_, po.start _ _ _ _ hsys, by simpa using p1⟩, ?_⟩
  · have r2 : G.rp sh1 (fun b => N1 b ∨ b = D) ρ1 σ (upd H1 D (o0 D)) := rp1.grow (grows hD) (fun _ z => .inl z) (fun b z => z.imp id fun (e : b = D) => by rw [e]; exact hD) fun b z => by
      rcases z with z | rfl
      · obtain ⟨o, e⟩ := rp1.dom b z; exact ⟨o, grows hD b o e⟩
      · exact ⟨_, upd_same⟩
    refine ⟨r2.wipe, .refl, .inr rfl, fun z => ?_, fun i z => ?_, dS, ⟨_, upd_same⟩⟩
    · exact nD (rp1.ownN D (OwnS.wipe z))
    · obtain ⟨d, g1, g2⟩ := BorS.wipe z
      exact nD (rp1.mutN g1 rfl g2)
  rintro i m H' ⟨rfl, hle, sh', N', ρ', acc, cs, hacc, p2⟩
  obtain ⟨w1, w2⟩ := wk.2 none1 _ _ _ _ (fun _ z => z.elim) (cs.walk hv hD) cs.rp.dom i
  by_cases hlt : i < l.length
  · have ed : l.drop i = l[i] :: l.drop (i + 1) := List.drop_eq_getElem_cons hlt
    rw [ed] at p2
    obtain ⟨hgo, hy⟩ := w1 l[i] (List.getElem?_eq_getElem hlt)
    refine .inr ⟨hgo, fun H3 => i + 1 ≤ l.length ∧ ∃ sh' N' ρ' acc, DSt G ρ1 σ vs sh1 N1 H1 D (o0 D) sh' N' ρ' (wipe σ vs) H3 ∧ OwnAt G.P G.w G.K H3 N' sh' acc D ∧
      PostF G W sh N ρ σ H ((dcL put g rt rk rv vs (l.drop (i + 1)) acc ρ').bind fun a ρ2 => .ok a (unl bi ρ ρ1 (restA vs ρ1 ρ2))) Q, fun H3 h3 => ⟨l.length - (i + 1), by omega, rfl, h3⟩, fun x H2 hx => ?_⟩
    obtain ⟨hgr, hvx⟩ := hy x H2 hx
    have rp2 : G.rp sh' N' ρ' (wipe σ vs) H2 := cs.rp.grow hgr (fun _ z => z) (fun _ z => .inl z) fun a z => by obtain ⟨o, e⟩ := cs.rp.dom a z; exact ⟨o, hgr a o e⟩
    have kg : Kp none1 (OwnS ρ' (wipe σ vs)) (OwnS ρ' (wipe σ vs)) sh' sh' N' N' H' H2 := Kp.ext hgr
    have cs2 := cs.step rp2 kg
    refine hg l[i] x sh' N' ρ' (wipe σ vs) H2 _ rp2 hvx ?_
    have p3 : PostF G W sh N ρ σ H ((match g l[i] ρ' with
      | .ok _ ρ1 => (noX (rt ρ1)).bind fun c ρ2 => if c = true then (noX (rk ρ2)).bind fun k ρ3 => (noX (rv ρ3)).bind fun v ρ4 => (match put k v acc with
        | some acc' => dcL put g rt rk rv vs (l.drop (i + 1)) acc' (wipeA vs ρ4)
        | none => .bad) else dcL put g rt rk rv vs (l.drop (i + 1)) acc (wipeA vs ρ2)
      | _ => .bad : R Mi.D).bind fun a ρ2 => .ok a (unl bi ρ ρ1 (restA vs ρ1 ρ2))) Q := p2
    revert p3
    cases g l[i] ρ' with
    | ok u ρ3 =>
      intro p3 σ3 rp3 k3 o3
      have p3' : PostF G W sh N ρ σ H (((noX (rt ρ3)).bind fun c ρ2 => if c = true then (noX (rk ρ2)).bind fun k ρ3 => (noX (rv ρ3)).bind fun v ρ4 => (match put k v acc with
        | some acc' => dcL put g rt rk rv vs (l.drop (i + 1)) acc' (wipeA vs ρ4)
        | none => .bad) else dcL put g rt rk rv vs (l.drop (i + 1)) acc (wipeA vs ρ2)).bind fun a ρ2 => .ok a (unl bi ρ ρ1 (restA vs ρ1 ρ2))) Q := p3
      rw [bind_bind] at p3'
      have ws : wipe σ3 vs = wipe σ vs := by rw [wipe_same o3 hts, wipe_wipe]
      have cs3 := cs2.step rp3 k3
      have ow3 : OwnAt G.P G.w G.K H2 N' sh' acc D := OwnAt.mono (fun b u r n => ⟨by
        rcases r with r | ⟨q, r⟩
        · exact .inl (hgr _ _ r)
        · exact .inr ⟨q, hgr _ _ r⟩, n⟩) (fun _ _ e => e) (fun u e => hgr _ _ e) hacc
      refine ⟨ws, sh', N', ρ3, rp3, Post.noX (rel := rl) p3' fun c ρ4 sh4 N4 b H4 _ rp4 k4 hb p4 => ?_⟩
      cases hb
      have cs4 := cs3.step rp4 k4
      have ow4 : OwnAt G.P G.w G.K H4 N4 sh4 acc D := OwnAt.mono (k4.rd (fun _ z => z.elim) rp3.shN) (fun n a e => pre_get k4.pre e) (fun u e => k4.keep D u e cs3.ns id) ow3
      cases c with
      | false => exact ⟨hlt, sh4, N4, _, acc, DSt.wiped ws cs4, ow4, p4⟩
      | true =>
        have p4' : PostF G W sh N ρ σ H (((noX (rk ρ4)).bind fun k ρ3 => (noX (rv ρ3)).bind fun v ρ4 => (match put k v acc with
          | some acc' => dcL put g rt rk rv vs (l.drop (i + 1)) acc' (wipeA vs ρ4)
          | none => .bad)).bind fun a ρ2 => .ok a (unl bi ρ ρ1 (restA vs ρ1 ρ2))) Q := p4
        rw [bind_bind] at p4'
        refine ⟨sh4, N4, ρ4, rp4, Post.noX (rel := G.rv) p4' fun y ρ5 sh5 N5 v H5 _ rp5 k5 hyv p5 => ?_⟩
        rw [bind_bind] at p5
        have cs5 := cs4.step rp5 k5
        have ow5 : OwnAt G.P G.w G.K H5 N5 sh5 acc D := OwnAt.mono (k5.rd (fun _ z => z.elim) rp4.shN) (fun n a e => pre_get k5.pre e) (fun u e => k5.keep D u e cs4.ns id) ow4
        refine ⟨sh5, N5, ρ5, rp5, Post.noX (rel := G.rv) p5 fun z ρ6 sh6 N6 w H6 _ rp6 k6 hzv p6 => ?_⟩
        have cs6 := cs5.step rp6 k6
        have ow6 : OwnAt G.P G.w G.K H6 N6 sh6 acc D := OwnAt.mono (k6.rd (fun _ z => z.elim) rp5.shN) (fun n a e => pre_get k6.pre e) (fun u e => k6.keep D u e cs5.ns id) ow5
        have hy6 := Cg.rv_mono hyv k6 rp5.shN
        cases eput : put y z acc with
        | none => rw [eput] at p6; exact p6.elim
        | some acc' =>
          rw [eput] at p6
          exact po.step H6 N6 sh6 D y z acc acc' v w _ cs6.nd ow6 hy6 hzv eput fun o ow => ⟨hlt, sh6, N6, wipeA vs ρ6, acc', DSt.wiped ws cs6.put, ow, p6⟩
    | exc _ _ _ => exact fun z => z.elim
    | bad => exact fun z => z.elim
  · have e : i = l.length := by omega
    subst e
    rw [List.drop_length] at p2
    refine .inl ⟨w2 (Nat.le_refl _), ?_⟩
    have p3 : PostF G W sh N ρ σ H (.ok acc (unl bi ρ ρ1 (restA vs ρ1 ρ'))) Q := p2
    have cD := cs.rp.drop cs.no cs.nb cs.ns
    have e1 : ∀ a o, H1 a = some o → upd H1 D (o0 D) a = some o := grows hD
    have ne : ∀ a o, H1 a = some o → a ≠ D := fun a o e z => by rw [z, hD] at e; cases e
    have kD : Kp none1 (OwnS (wipeA vs ρ1) (wipe σ vs)) (OwnS ρ' (wipe σ vs)) sh1 sh' N1 (fun b => N' b ∧ b ≠ D) H1 H' :=
      ⟨fun a o e n _ => cs.kp.keep a o (e1 a o e) n (ne a o e), fun a o e n => cs.kp.shn a o (e1 a o e) n, fun a o e n z => cs.kp.av a o (e1 a o e) (fun z => z.elim n (ne a o e)) z.1,
        fun a o e n => cs.kp.own a o (e1 a o e) n, cs.kp.pre, fun a o e => cs.kp.there a o (e1 a o e), cs.kp.bo,
        fun a o e n no => ⟨cs.kp.st a o (e1 a o e) (.inl n) no, ne a o e⟩, fun a o e n h => cs.kp.mt a o (e1 a o e) n h⟩
    have kD2 : Kp none1 (OwnS (wipeA vs ρ1) (wipe σ vs)) (OwnS ρ' (wipe σ vs)) sh1 sh' N1 N' H1 H' :=
      ⟨fun a o e n _ => cs.kp.keep a o (e1 a o e) n (ne a o e), fun a o e n => cs.kp.shn a o (e1 a o e) n, fun a o e n => cs.kp.av a o (e1 a o e) (fun z => z.elim n (ne a o e)),
        fun a o e n => cs.kp.own a o (e1 a o e) n, cs.kp.pre, fun a o e => cs.kp.there a o (e1 a o e), cs.kp.bo,
        fun a o e n no => cs.kp.st a o (e1 a o e) (.inl n) no, fun a o e n h => cs.kp.mt a o (e1 a o e) n h⟩
    obtain ⟨r6, k6⟩ := Rp.rest hv rp1 cD kD fun _ z => z.elim
    obtain ⟨r7, k7⟩ := Rp.rest hv rp1 cs.rp kD2 fun _ z => z.elim
    obtain ⟨r8, k8⟩ := Rp.back (bi := bi) rp rp1 r6 (k1.trans k6) k6
    obtain ⟨r9, _⟩ := Rp.back (bi := bi) rp rp1 r7 (k1.trans k7) k7
    have hD0 : H D = none := by
      cases q : H D with
      | none => rfl
      | some o => obtain ⟨o', e'⟩ := k1.there D o q; rw [hD] at e'; cases e'
    have eN := prop_ext cs.nd
    exact p3 sh' _ D H' r8 k8 hD0 (by rw [eN]; exact r9) ⟨fun z => z.2 rfl, cs.ns, by rw [eN]; exact hacc⟩
end
section
variable {G : Cg} {W : WX} {X : Cx} {kx vx tg iter : Expr} {ifs : List Expr} {it : AE → R (List D)} {g : D → AE → R Unit} {rt : AE → R Bool} {rk rv : AE → R D} {ts : List Nat} {scope : Scope} {own : List (Str × Nat)} {pos spos py : Pos} {bi : Option Nat} {rS : RS} {o0 : Addr → HO} {d0 : D} {put : D → D → D → Option D}
theorem pe_dcA (po : PutOk G rS o0 d0 put) (pD : InB X scope fun B => DSet B rS) (hnew : ∀ (H : Hp) (h : Heap), sysModules < h.objs.size → ObjOk X.prog X.w H (h.push { cls := .type "dict", data := .dict #[] }) h.objs.size (o0 h.objs.size))
    (hc : X.calm = true) (hN : X.N.Nodup) (hi : PI X tg iter (tEvI G W it)) (ok : BlkOk X.N X.env.scope scope own) (hg : TgAll X G scope tg ts g) (hts : ∀ j ∈ ts, j ∈ own.map (·.2))
    (ht : InB X scope fun B => PTs B ifs (tEv G W0 rl rt)) (hk : InB X scope fun B => PE B kx (tEv G W0 G.rv rk)) (hv : InB X scope fun B => PE B vx (tEv G W0 G.rv rv)) (hs : ∀ x, foldedSetIterable iter X.env x = pure x) :
    PE X (.DictComp kx vx [⟨tg, iter, ifs, 0⟩] scope pos) (tEvF G W (rDc put d0 bi it (own.map (·.2)) g rt rk rv)) := by
  obtain ⟨t, h1, h2⟩ := hg
  exact PE.imp (pe_dg hc hN hi ok h2 ht hk hv pD hs hnew) fun _ _ _ => readDc po h1 hts
/-- name = {..} -/
theorem ps_dcB (po : PutOk G rS o0 d0 put) (pD : InB X scope fun B => DSet B rS) (hnew : ∀ (H : Hp) (h : Heap), sysModules < h.objs.size → ObjOk X.prog X.w H (h.push { cls := .type "dict", data := .dict #[] }) h.objs.size (o0 h.objs.size)) {i : Nat} {y : Str}
    (hc : X.calm = true) (hN : X.N.Nodup) (hy : X.N[i]? = some y) (hyl : X.env.scope.names.lookup y = some .local) (hsw : swapsWith (.DictComp kx vx [⟨tg, iter, ifs, 0⟩] scope pos) (some (.Name y py)) spos.line X.env = pure true)
    (hi : PI X tg iter (tEvI G W it)) (ok : BlkOk X.N X.env.scope scope own) (hg : TgAll X G scope tg ts g) (hts : ∀ j ∈ ts, j ∈ own.map (·.2))
    (ht : InB X scope fun B => PTs B ifs (tEv G W0 rl rt)) (hk : InB X scope fun B => PE B kx (tEv G W0 G.rv rk)) (hv : InB X scope fun B => PE B vx (tEv G W0 G.rv rv)) (hs : ∀ x, foldedSetIterable iter X.env x = pure x) :
    ∃ te : TE, PS X (.Assign [.Name y py] (.DictComp kx vx [⟨tg, iter, ifs, 0⟩] scope pos) spos) (tAsg te (gName i)) ∧ ∀ σ H Q, tEvF G W (rDc put d0 bi it (own.map (·.2)) g rt rk rv) σ H Q → te σ H Q := by
  obtain ⟨t, h1, h2⟩ := hg
  exact ⟨_, ps_setDg hc hN hy hyl hsw hi ok h2 ht hk hv pD hs hnew, fun _ _ _ => readDc po h1 hts⟩
end
def putB : Bool → D → D → D → Option D
  | true => putI
  | false => putD
def d0B : Bool → D
  | true => .dik [] []
  | false => .dit [] []
end Mi

/-! ### a display of a dict, as a new dict -/
namespace Mi
open PySem PySem.Spec PyProof.Rows L2
def dK : Key → D
  | .inl i => .int i
  | .inr s => .str s
theorem dK_key (k : Key) : keyD (dK k) = some k := by cases k <;> rfl
def rDspD (kk : List Key) (rl : AE → R (List D)) : AE → R D := fun ρ => (rl ρ).bind fun ds ρ1 => .ok (.dik (kk.map dK) ds) ρ1
section
variable {G : Cg} {W : WX} {X : Cx} {sh sh1 : List Addr} {N N1 : Addr → Prop} {ρ ρ1 : AE} {σ : Sg} {H H1 : Hp}
theorem DSt.start {D : Addr} {o : HO} (rp : G.rp sh N ρ σ H) (hD : H D = none) : DSt G ρ σ [] sh N H D o sh (fun b => N b ∨ b = D) ρ σ (upd H D o) := by
  have nD : ¬ N D := nofree rp hD
  have r2 : G.rp sh (fun b => N b ∨ b = D) ρ σ (upd H D o) := rp.grow (grows hD) (fun _ z => .inl z) (fun b z => z.imp id fun (e : b = D) => by rw [e]; exact hD) fun b z => by
    rcases z with z | rfl
    · obtain ⟨o, e⟩ := rp.dom b z; exact ⟨o, grows hD b o e⟩
    · exact ⟨_, upd_same⟩
  exact ⟨r2, .refl, .inr rfl, fun z => nD (rp.ownN D z), fun i ⟨d, g1, g2⟩ => nD (rp.mutN g1 rfl g2), fun z => nD (rp.shN _ z), ⟨_, upd_same⟩⟩
/-- the end: D is the new dict -/
theorem DSt.fin {D : Addr} {o : HO} {d : Mi.D} {Q : VK} (rp : G.rp sh N ρ σ H) (hD : H D = none) (cs : DSt G ρ σ [] sh N H D o sh1 N1 ρ1 σ H1) (ow : OwnAt G.P G.w G.K H1 N1 sh1 d D) (p : PostF G W sh N ρ σ H (.ok d ρ1) Q) : Q (.ref D) H1 := by
  have e1 : ∀ a u, H a = some u → upd H D o a = some u := grows hD
  have ne : ∀ a u, H a = some u → a ≠ D := fun a u e z => by rw [z, hD] at e; cases e
  have eN := prop_ext cs.nd
  exact p sh1 (fun b => N1 b ∧ b ≠ D) D H1 (cs.rp.drop cs.no cs.nb cs.ns)
    ⟨fun a u e n _ => cs.kp.keep a u (e1 a u e) n (ne a u e), fun a u e n => cs.kp.shn a u (e1 a u e) n, fun a u e n z => cs.kp.av a u (e1 a u e) (fun z => z.elim n (ne a u e)) z.1,
      fun a u e n => cs.kp.own a u (e1 a u e) n, cs.kp.pre, fun a u e => cs.kp.there a u (e1 a u e), cs.kp.bo,
      fun a u e n no => ⟨cs.kp.st a u (e1 a u e) (.inl n) no, ne a u e⟩, fun a u e n h => cs.kp.mt a u (e1 a u e) n h⟩ hD (by rw [eN]; exact cs.rp) ⟨fun z => z.2 rfl, cs.ns, by rw [eN]; exact ow⟩
/-- what a display's pairs are -/
structure PpK (G : Cg) (W : WX) (X : Cx) (pos : Pos) (kk : List Key) (keys : List (Option Expr)) (values : List Expr) (rl : AE → R (List Mi.D)) : Prop where
  ex : ∃ trs, PPs X pos keys values trs ∧ ∀ σ H (Q : List (V × V) → Hp → Prop), tEv G W G.rvs rl σ H (fun vs H' => Q ((kk.map kV).zip vs) H') → tPairs trs σ H Q
  all : keys.all (·.isSome) = true
  len : keys.length = values.length
  kl : kk.length = values.length
theorem ppk_nil {pos : Pos} : PpK G W X pos [] [] [] rNil := ⟨⟨[], pps_nil, fun σ H Q t => by
  obtain ⟨sh, N, ρ, rp, p⟩ := t
  exact Post.ret p rp .nil⟩, rfl, rfl, rfl⟩
theorem ppk_cons {pos : Pos} {k : Key} {ke e : Expr} {kk : List Key} {keys : List (Option Expr)} {values : List Expr} {ra : AE → R Mi.D} {rs : AE → R (List Mi.D)} (hk : PE X ke (tC (kV k))) (ha : PE X e (tEv G W G.rv ra)) (h : PpK G W X pos kk keys values rs) :
    PpK G W X pos (k :: kk) (some ke :: keys) (e :: values) (rCons ra rs) := by
  obtain ⟨trs, h1, h2⟩ := h.ex
  refine ⟨⟨(tC (kV k), tEv G W G.rv ra) :: trs, pps_cons hk ha h1, fun σ H Q t => ?_⟩, ?_, ?_, ?_⟩
  · obtain ⟨sh, N, ρ, rp, p⟩ := t
    refine tEv.run rp p fun dx ρ1 sh1 N1 x H1 _ rp1 k1 hx p1 => h2 _ _ _ (tEv.run rp1 p1 fun dy ρ2 sh2 N2 y H2 _ rp2 k2 hy p2 => ?_)
    exact Post.ret p2 rp2 (.cons (Cg.rv_mono hx k2 rp1.shN) hy)
  · simp only [List.all_cons, Option.isSome_some, Bool.true_and, h.all]
  · simp only [List.length_cons, h.len]
  · simp only [List.length_cons, h.kl]
theorem pe_dspD {pos : Pos} {kk : List Key} {keys : List (Option Expr)} {values : List Expr} {rl : AE → R (List Mi.D)} (hp : PpK G W X pos kk keys values rl) (nd : kk.Nodup) (h0 : keys ≠ []) (h15 : keys.length ≤ 15) (hlen : ∀ ρ ds ρ1, rl ρ = .ok ds ρ1 → ds.length = kk.length) :
    PE X (.Dict keys values pos) (tEvF G W (rDspD kk rl)) := by
  obtain ⟨trs, h1, h2⟩ := hp.ex
  refine PE.imp (pe_disp h1 hp.all hp.len h0 h15) fun σ H Q t => ?_
  obtain ⟨sh, N, ρ, rp, p⟩ := t
  intro D hD
  have c0 := DSt.start (o := .dK []) rp hD
  have nD : ¬ N D := nofree rp hD
  have kD : Kp none1 (OwnS ρ σ) (OwnS ρ σ) sh sh N (fun b => N b ∨ b = D) H (upd H D (.dK [])) :=
    ⟨fun a o e _ _ => grows hD a o e, fun _ _ _ n => n, fun a o e n z => z.elim n fun q => (by rw [q, hD] at e; cases e), fun _ _ _ n => n, List.prefix_rfl, fun a o e => ⟨o, grows hD a o e⟩, fun _ _ z => z, fun _ _ _ n _ => .inl n, fun _ _ _ _ z => z⟩
  refine h2 σ _ _ ⟨sh, _, ρ, c0.rp, ?_⟩
  have p0 : PostF G W sh N ρ σ H ((rl ρ).bind fun ds ρ1 => .ok (.dik (kk.map dK) ds) ρ1) Q := p
  cases e1 : rl ρ with
  | bad => rw [e1] at p0; exact p0.elim
  | exc c fs ρ1 => rw [e1] at p0; exact fun cls dx sh1 N1 H1 rp1 k1 hx => p0 cls dx sh1 N1 H1 rp1 (kD.trans k1) hx
  | ok ds ρ1 =>
    rw [e1] at p0
    intro sh1 N1 vs H1 rp1 k1 hvs
    have hl := hlen _ _ _ e1
    have hv : kk.length = vs.length := by rw [← RVs.length hvs]; exact hl.symm
    have c1 := c0.step rp1 k1
    have eD : H1 D = some (.dK []) := k1.keep D _ upd_same c0.ns id
    have zz : ∀ (kk : List Key) (vs : List V), (kk.map kV).zip vs = (kk.zip vs).map fun kv => (kV kv.1, kv.2) := fun kk => by
      induction kk with
      | nil => intro vs; rfl
      | cons k kk ih => intro vs; cases vs with
        | nil => rfl
        | cons v vs => rw [List.map_cons, List.zip_cons_cons, ih]; rfl
    refine ⟨eD, kk.zip vs, zz kk vs, ?_, ?_⟩
    · rw [List.length_zip, ← hv, Nat.min_self, hp.kl, ← hp.len]; exact h15
    rw [merge_nil (by rw [List.map_fst_zip (Nat.le_of_eq hv)]; exact nd)]
    have c2 := c1.put (u := .dK (kk.zip vs))
    have ow : OwnAt G.P G.w G.K (upd H1 D (.dK (kk.zip vs))) N1 sh1 (.dik (kk.map dK) ds) D := by
      refine ⟨kk, vs, upd_same, ?_, nd, hv, rvs_up (rdup c1.nd) hvs⟩
      rw [List.map_map]
      exact List.map_congr_left fun k _ => dK_key k
    exact DSt.fin rp hD c2 ow p0
end
end Mi

/-! ### dict(d), the keys pairs of small numbers -/
namespace Mi
open PySem PySem.Spec PyProof.Rows L2
def pairs64 : List NestedKey := (List.range 64).map fun n => .tup [.num (n / 8 : Nat), .num (n % 8 : Nat)]
theorem hash64 (w : World) : (pairs64.map (NestedKey.hash w)).Nodup := of_decide_eq_true (by kernel_rfl)
theorem inj_of_nd {α β : Type} {f : α → β} : ∀ {l : List α}, (l.map f).Nodup → ∀ x ∈ l, ∀ y ∈ l, f x = f y → x = y
  | z :: l, h, x, hx, y, hy, e => by
    rw [List.map_cons, List.nodup_cons] at h
    rcases List.mem_cons.mp hx with ex | hx
    · rcases List.mem_cons.mp hy with ey | hy
      · rw [ex, ey]
      · exact absurd (show f z ∈ l.map f by rw [← ex, e]; exact List.mem_map_of_mem hy) h.1
    · rcases List.mem_cons.mp hy with ey | hy
      · exact absurd (show f z ∈ l.map f by rw [← ey, ← e]; exact List.mem_map_of_mem hx) h.1
      · exact inj_of_nd h.2 x hx y hy e
theorem nd_map {α β : Type} {f : α → β} : ∀ {l : List α}, l.Nodup → (∀ x ∈ l, ∀ y ∈ l, f x = f y → x = y) → (l.map f).Nodup
  | [], _, _ => List.nodup_nil
  | z :: l, h, k => by
    rw [List.nodup_cons] at h
    rw [List.map_cons, List.nodup_cons]
    refine ⟨fun q => ?_, nd_map h.2 fun x hx y hy => k x (List.mem_cons_of_mem _ hx) y (List.mem_cons_of_mem _ hy)⟩
    obtain ⟨x, hx, e⟩ := List.mem_map.mp q
    exact h.1 (k x (List.mem_cons_of_mem _ hx) z (List.mem_cons_self ..) e ▸ hx)
def smallP : D → Bool
  | .tup [.int x, .int y] => decide (0 ≤ x ∧ x < 8 ∧ 0 ≤ y ∧ y < 8)
  | _ => false
theorem small_in {d : D} {κ : NestedKey} (h : smallP d = true) (e : nkD d = some κ) : κ ∈ pairs64 := by
  unfold smallP at h
  split at h
  · rename_i x y
    obtain ⟨h1, h2, h3, h4⟩ := of_decide_eq_true h
    simp only [nkD, nksD, Option.bind_some, Option.map_some, Option.some.injEq] at e
    subst e
    obtain ⟨a, rfl⟩ := Int.eq_ofNat_of_zero_le h1
    obtain ⟨b, rfl⟩ := Int.eq_ofNat_of_zero_le h3
    refine List.mem_map.mpr ⟨8 * a + b, by rw [List.mem_range]; omega, ?_⟩
    have q1 : (8 * a + b) / 8 = a := by omega
    have q2 : (8 * a + b) % 8 = b := by omega
    rw [q1, q2]
  · cases h
def dDict : List D → Option D
  | [.dit ks us] => if ks.all smallP = true then some (.dit ks us) else none
  | _ => none
section
variable {G : Cg} {X : Cx}
theorem cF_dict (hK : X.K = G.K) (hP : X.prog = G.P) (hW : X.w = G.w) (hu : X.A.units + 66 < cLine) : CallR X (.type "dict") (rFn G dDict) := by
  intro pins s σ H xs us Q I r h
  obtain ⟨sh, N, ds, d, hN, hS, hxs, e, q⟩ := h
  match ds, e with
  | [.dit ks us'], e =>
    obtain ⟨hsm, rfl⟩ := ite_some e
    obtain ⟨x, rfl, hx⟩ := rbs1 hxs
    obtain ⟨a, o, ys, vs, rfl, er, dr, ek, rk, rv, ru⟩ := rb_dit hx
    obtain ⟨u, rfl, ru'⟩ := vals1 r
    cases ru'
    have hn := I.hok.fresh (Nat.le_refl s.heap.objs.size)
    have big : (s.heap.objs.size == sysModules) = false := beq_eq_false_iff_ne.mpr (Nat.ne_of_gt I.big)
    have I1 : Inv X pins σ (upd H s.heap.objs.size (ditO s.heap.objs.size)) { s with heap := s.heap.push { cls := .type "dict", data := .dict #[] } } :=
      I.laid (t' := s.toks) (fun _ _ z => Heap.get?_push_of_some _ z) (Nat.le_refl _) (new_dit (X := X) H s.heap)
    have hne : s.heap.objs.size ≠ a := fun z => by
      obtain ⟨o', eo⟩ := Rd.dom' er
      rw [← z, hn] at eo; cases eo
    have er1 : Rd (upd H s.heap.objs.size (ditO s.heap.objs.size)) a (.ext (rawAt a o)) := rdgrows hn a _ er
    have rk1 : G.rvs (upd H s.heap.objs.size (ditO s.heap.objs.size)) N sh ks (ys.map fun x => V.ref x.2.1) := rvs_grow hn rk
    have src := dit_of hK hP hW I1 er1 dr ek rk1
    have new : (s.heap.push { cls := .type "dict", data := .dict #[] }).DictOfH (nestedKind X.prog X.w) s.heap.objs.size [] := Heap.DictOfH.new s.heap
    refine callType_codes (Q₁ := fun obj s₁ => obj = .ref s.heap.objs.size ∧ s₁ = { s with heap := s.heap.push { cls := .type "dict", data := .dict #[] } }) F.kt_called_dict (F.kt_typeCall_dict_1 _) F.entry_dict_init (kt_code_dict_new _ ⟨rfl, rfl⟩) ?_
    rintro obj s₁ ⟨rfl, rfl⟩
    refine ⟨new.typeIs, F.args_dict_init_2 _ _, ?_⟩
    unfold Builtin.«dict.__init__»
    refine wpAny_bind ?_
    unfold Builtin.Dict.selfAndRest
    refine wpAny_bind (wpAny_notOrdered_dict new.typeIs (wpAny_pure ?_))
    show wpAny _ _ (Builtin.Dict.updateFrom "dict.__init__" s.heap.objs.size (.ref a) [] .none) _ _ _
    refine updateFrom_dictH (A := X.A.in1) .none (show X.A.in1.in1.units + 8 < cLine by have : X.A.in1.in1.units = X.A.units + 2 := rfl; omega) hne dr.2.2.2.2.1 new src (.inr ⟨fun y hy => ?_, ?_⟩) (by simpa using dr.2.2.2.1) fun h' hd' ho' hs' => ?_
    · obtain ⟨_, _, _, _, _, _, _, his, _⟩ := src
      have ht := (his y hy).1
      generalize y.1 = κ at ht
      cases ht with
      | tup ho hc hd _ => exact ⟨_, ho, hc⟩
    · have key : ∀ κ ∈ ys.map (·.1), κ ∈ pairs64 := fun κ hκ => by
        obtain ⟨y, hy, rfl⟩ := List.mem_map.mp hκ
        obtain ⟨j, hj⟩ := List.getElem?_of_mem hy
        have h1 : (ys.map fun x => some x.1)[j]? = some (some y.1) := by rw [List.getElem?_map, hj]; rfl
        rw [← ek, List.getElem?_map] at h1
        obtain ⟨dk, hd, hnk⟩ := Option.map_eq_some_iff.mp h1
        exact small_in (List.all_eq_true.mp hsm dk (List.mem_of_getElem? hd)) hnk
      have := nd_map (f := NestedKey.hash X.w) dr.2.2.1 fun x hx y hy e => inj_of_nd (hash64 X.w) x (key x hx) y (key y hy) e
      rw [List.map_map] at this
      exact this
    · rw [storedAllH_nil_of_nodup ys dr.2.2.1] at hd'
      obtain ⟨o', es, ep, go, oe, od, oes, his, nd⟩ := hd'
      have dr' : DitRaw G.P G.w s.heap.objs.size o' ys := ⟨oe, ⟨es, ep, od, by rw [← hP, ← hW]; exact oes⟩, nd, dr.2.2.2.1, big, fun x hx => (his x hx).2⟩
      have I2 := I1.write (o := .ext (rawAt s.heap.objs.size o')) (h' := h') (t' := s.toks) (by rw [upd_same]; exact True.intro) (.inl rfl) (fun c w hc e => (hs'.2 c hc).trans e) ⟨o', go⟩ ⟨go, ⟨o', go⟩, fun h1 h2 p k => k _ p⟩
      have e2 : upd (upd H s.heap.objs.size (ditO s.heap.objs.size)) s.heap.objs.size (.ext (rawAt s.heap.objs.size o')) = upd H s.heap.objs.size (.ext (rawAt s.heap.objs.size o')) := by
        funext b
        by_cases hb : b = s.heap.objs.size
        · subst hb; rw [upd_same, upd_same]
        · rw [upd_ne hb, upd_ne hb, upd_ne hb]
      rw [e2] at I2
      have nD := nN hN hn
      have hkp : ∀ b u, Rd H b u → ¬ N b → Rd (upd H s.heap.objs.size (.ext (rawAt s.heap.objs.size o'))) b u ∧ ¬ (N b ∨ b = s.heap.objs.size) := fun b u rd n => ⟨rdgrows hn b u rd, fun z => z.elim n fun z => by
        obtain ⟨o2, e3⟩ := Rd.dom' rd
        rw [z, hn] at e3; cases e3⟩
      exact ⟨rfl, .ref s.heap.objs.size, _, I2, rfl, q _ _ (grows hn) hn ⟨nD, fun z => nD (hS _ z), o', ys, vs, upd_same, dr', ek, RVs.mono' hkp (fun _ _ e => e) _ _ rk, rv, RVs.mono' hkp (fun _ _ e => e) _ _ ru⟩⟩
end
end Mi

/-! ### sorted(set(a list of whole numbers)) -/
namespace Mi
open PySem PySem.Spec PyProof.Rows L2
/-- a new set -/
abbrev set0 (w : World) : Obj := { cls := .type "set", dict := none, data := .set #[] 0 (.fresh 0 0 (!w.params.followText "set-order")) }
section
variable {P : Program} {w : World} {A : Around} {E : Value → Shared → Prop} {s : Shared}
/-- what the new set holds in the end -/
def SetEnd (w : World) (s : Shared) (ns : List Int) (s2 : Shared) : Prop := ∃ (hz : Heap) (tz c : Nat), s2 = { s with heap := hz, toks := tz } ∧ SetR w hz s.heap.objs.size (fun j => decide (j ∈ ns)) c ∧ c ≤ ns.length ∧ ∀ b o, s.heap.get? b = some o → hz.get? b = some o
theorem init_setL {l : Addr} {xs : Array Value} (ns : List Int) (nh : A.handled = none) (hl : s.heap.IsList l xs) (hi : IntsAre xs.toList ns) (hb : ns.length + 1 < scanBound) :
    wpAny (model P w) A.in1.in1 (Builtin.«set.__init__» ⟨[.ref s.heap.objs.size, .ref l], []⟩)
      (fun fin s' => match fin with | .done f => wants (fun r s₂ => r = .none ∧ SetEnd w s ns s₂) E (.ok f) s' | .again c' => c'.quiet = true ∧ codeAny (model P w) A.in1 c' (wants (fun r s₂ => r = .none ∧ SetEnd w s ns s₂) E) s')
      (fun e s' => wants (fun r s₂ => r = .none ∧ SetEnd w s ns s₂) E (.error e) s') { s with heap := s.heap.push (set0 w) } := by
  have sz : xs.size = ns.length := by
    have q := IntsAre.length hi
    rwa [Array.length_toList] at q
  have g0 : (s.heap.push (set0 w)).get? s.heap.objs.size = some (set0 w) := Heap.get?_push_size _ rfl
  have t0 : Shared.TypeIs { s with heap := s.heap.push (set0 w) } (.ref s.heap.objs.size) "set" := ⟨_, g0, rfl⟩
  obtain ⟨⟨cc, dd, da, sl⟩, gl0, c0, nn, d0⟩ := hl
  replace c0 : cc = .type "list" := c0
  replace d0 : da = .seq xs nn := d0
  subst c0 d0
  have gl1 : (s.heap.push (set0 w)).get? l = some { cls := .type "list", dict := dd, data := .seq xs nn, slots := sl } := Heap.get?_push_of_some _ gl0
  have y1 := F.sub_list_set
  have y2 := F.sub_list_frozenset
  have y3 : (Value.type "list" == Value.type "dict") = false := by decide
  have y4 : (s.heap.push (set0 w)).IsList l xs := ⟨_, gl1, rfl, nn, rfl⟩
  unfold Builtin.«set.__init__» noKeywords Builtin.Frozenset.updateFrom
  generalize eI : pyIter = itr
  wp_walk
  subst eI
  refine wpAny_pyIter_list y4 (wpAny_bind (wpAny_runValue ?_))
  have ll : l < s.heap.objs.size := Heap.lt_size gl0
  have z1 : (s.heap.push (set0 w)).objs.size = s.heap.objs.size + 1 := Heap.size_push ..
  have n1 : l ≠ (s.heap.push (set0 w)).objs.size := by rw [z1]; exact Nat.ne_of_lt (Nat.lt_succ_of_lt ll)
  have n2 : s.heap.objs.size ∉ [(s.heap.push (set0 w)).objs.size, l] := by
    rw [z1]
    intro q
    rcases List.mem_cons.mp q with q | q
    · exact absurd q (Nat.ne_of_lt (Nat.lt_succ_self _))
    · exact absurd (List.mem_singleton.mp q) (Nat.ne_of_gt ll)
  have vals : ∀ (i : Nat) (v : Value), xs[i]? = some v → ∃ k t, ns[i]? = some k ∧ v = .int k t := fun i v hv => by
    have il : i < ns.length := by rw [← sz]; exact (Array.getElem?_eq_some_iff.mp hv).1
    obtain ⟨t, e⟩ := IntsAre.int_at hi i v (by rw [Array.getElem?_toList]; exact hv)
    refine ⟨ns[i], t, List.getElem?_eq_getElem il, ?_⟩
    rw [e, List.getD_eq_getElem?_getD, List.getElem?_eq_getElem il] <;> rfl
  refine set_update_ints ((Walks.list (show A.in1.in1.in1.handled = none from nh) _ l n1 xs).toS) s.heap.objs.size n2 ns sz hb vals (xs.size - 0) 0 _ (by omega) (Nat.zero_le _)
    ⟨⟨_, Heap.get?_push_size _ rfl, rfl, rfl⟩, y4.push _⟩ ⟨0, Nat.le_refl 0, setR_new_at (Heap.get?_push_of_some _ g0)⟩ fun t c mv cl R => ?_
  obtain ⟨hz, gz, dz, tz, oz⟩ := t
  have e1 : gz = s.gens := mv.gens
  have e2 : dz = s.drawn := mv.drawn
  have e3 : oz = s.os := mv.os
  subst e1 e2 e3
  show wpAny _ _ _ _ _ _
  refine wpAny_pure ?_
  show wpAny _ _ (ret Value.none) _ _ _
  refine wpAny_pure ⟨rfl, hz, tz, c, rfl, R, by rw [← sz]; exact cl, fun b o q => ?_⟩
  have lb : b < s.heap.objs.size := Heap.lt_size q
  refine mv.heap b o (fun m => ?_) (Heap.get?_push_of_some _ (Heap.get?_push_of_some _ q))
  rcases List.mem_cons.mp m with m | m
  · exact absurd m (Nat.ne_of_lt lb)
  · rw [List.mem_singleton.mp m, z1] at lb
    exact absurd lb (Nat.not_lt.mpr (Nat.le_succ _))
theorem call_setL {l : Addr} {xs : Array Value} (ns : List Int) {Q : Value → Shared → Prop} (nh : A.handled = none) (hl : s.heap.IsList l xs) (hi : IntsAre xs.toList ns) (hb : ns.length + 1 < scanBound)
    (k : ∀ s2, SetEnd w s ns s2 → Q (.ref s.heap.objs.size) s2) : wpAny (model P w) A (call (.type "set") [.ref l]) Q E s := by
  obtain ⟨c, tl, e0⟩ := F.called_set.mro
  have e1 := F.called_set.made
  have e2 := F.called_set.sub
  refine wpAny_call (codeAny_of_tree ?_)
  show wpAny _ _ (callAny (.type "set") _) _ _ _
  refine wpAny_pure ⟨Code.quiet_builtin _ (by decide +kernel), codeAny_builtin F.entry_type_call ?_⟩
  rw [Around.under_plain (weight_type_call_type "set" [.ref l] []) rfl]
  have e3 := F.called_set.notType
  have e4 := F.called_set.canCreate
  have e5 := F.typeCall_set_1 (.ref l)
  repeat (any_goals (first | assumption | wp_step))
  refine codeAny_mono (code_set_led1 (.ref l) (E := E) (Q₁ := fun ob t => ob = .ref s.heap.objs.size ∧ t = { s with heap := s.heap.push (set0 w) }) ⟨rfl, rfl⟩) fun r t hr => ?_
  cases r with
  | error e => exact hr
  | ok fl =>
    cases fl with
    | ret ob =>
      obtain ⟨rfl, rfl⟩ := hr
      have g0 : (s.heap.push (set0 w)).get? s.heap.objs.size = some (set0 w) := Heap.get?_push_size _ rfl
      have t0 : Shared.TypeIs { s with heap := s.heap.push (set0 w) } (.ref s.heap.objs.size) "set" := ⟨_, g0, rfl⟩
      have e6 := F.called_set.init.lookup
      have e7 := F.called_set.init.bind (.ref s.heap.objs.size)
      repeat (any_goals (first | assumption | wp_step))
      refine codeAny_mono (codeAny_call_builtin (R := wants (fun r s₂ => r = .none ∧ SetEnd w s ns s₂) E) F.called_set.init.plain F.entry_set_init (check_set_init_1 t0 (init_setL ns nh hl hi hb))) fun r2 t2 hr2 => ?_
      cases r2 with
      | error e => exact hr2
      | ok f2 =>
        cases f2 with
        | ret r =>
          obtain ⟨rfl, z⟩ := hr2
          repeat (any_goals (first | assumption | wp_step))
          exact k _ z
        | _ => exact hr2.elim
    | _ => exact hr.elim
end
/-! the plain side: sorted, each once -/
def insU (x : Int) : List Int → List Int
  | [] => [x]
  | y :: l => if x < y then x :: y :: l else if x = y then y :: l else y :: insU x l
def sortU : List Int → List Int
  | [] => []
  | x :: l => insU x (sortU l)
theorem insU_mem {x : Int} : ∀ {l : List Int} {k : Int}, k ∈ insU x l ↔ k = x ∨ k ∈ l
  | [], k => by simp [insU]
  | y :: l, k => by
    unfold insU
    split
    · simp
    · split
      · rename_i h; subst h; simp
      · rw [List.mem_cons, insU_mem, List.mem_cons]
        constructor
        · rintro (h | h | h)
          · exact .inr (.inl h)
          · exact .inl h
          · exact .inr (.inr h)
        · rintro (h | h | h)
          · exact .inr (.inl h)
          · exact .inl h
          · exact .inr (.inr h)
theorem insU_lt {x : Int} : ∀ {l : List Int}, l.Pairwise (· < ·) → (insU x l).Pairwise (· < ·)
  | [], _ => by simp [insU]
  | y :: l, h => by
    obtain ⟨h1, h2⟩ := List.pairwise_cons.mp h
    unfold insU
    split
    · rename_i hx
      refine List.pairwise_cons.mpr ⟨fun z hz => ?_, h⟩
      rcases List.mem_cons.mp hz with rfl | hz
      · exact hx
      · have := h1 z hz; omega
    · split
      · exact h
      · refine List.pairwise_cons.mpr ⟨fun z hz => ?_, insU_lt h2⟩
        rcases insU_mem.mp hz with rfl | hz
        · omega
        · exact h1 z hz
theorem sortU_mem {k : Int} : ∀ {l : List Int}, k ∈ sortU l ↔ k ∈ l
  | [] => by simp [sortU]
  | x :: l => by rw [sortU, insU_mem, sortU_mem, List.mem_cons]
theorem sortU_lt : ∀ {l : List Int}, (sortU l).Pairwise (· < ·)
  | [] => by simp [sortU]
  | x :: l => insU_lt sortU_lt
theorem asc_eq : ∀ {a b : List Int}, a.Pairwise (· < ·) → b.Pairwise (· < ·) → (∀ k, k ∈ a ↔ k ∈ b) → a = b
  | [], [], _, _, _ => rfl
  | [], y :: b, _, _, h => absurd ((h y).mpr (List.mem_cons_self ..)) (by simp)
  | x :: a, [], _, _, h => absurd ((h x).mp (List.mem_cons_self ..)) (by simp)
  | x :: a, y :: b, ha, hb, h => by
    obtain ⟨a1, a2⟩ := List.pairwise_cons.mp ha
    obtain ⟨b1, b2⟩ := List.pairwise_cons.mp hb
    have e : x = y := by
      rcases List.mem_cons.mp ((h x).mp (List.mem_cons_self ..)) with q | q
      · exact q
      · rcases List.mem_cons.mp ((h y).mpr (List.mem_cons_self ..)) with q2 | q2
        · exact q2.symm
        · have := b1 x q; have := a1 y q2; omega
    subst e
    rw [asc_eq a2 b2 fun k => ?_]
    constructor
    · intro hk
      rcases List.mem_cons.mp ((h k).mp (List.mem_cons_of_mem _ hk)) with q | q
      · subst q; have := a1 _ hk; omega
      · exact q
    · intro hk
      rcases List.mem_cons.mp ((h k).mpr (List.mem_cons_of_mem _ hk)) with q | q
      · subst q; have := b1 _ hk; omega
      · exact q
def dSortSet : D → Option D
  | .lst l => (intsD l).bind fun ns => if ns.length < 60 then some (.lst ((sortU ns).map .int)) else none
  | _ => none
def rSrt (ra : AE → R D) : AE → R D := rOp1 dSortSet ra
section
variable {G : Cg} {W : WX} {X : Cx} {pins : List (Addr × Obj)} {s : Shared} {σ : Sg} {sh : List Addr} {N : Addr → Prop} {H : Hp} {e : Expr} {ra : AE → R D} {p1 p2 pos pos2 : Pos}
theorem rvs_ints : ∀ (l : List Int), G.rvs H N sh (l.map D.int) (l.map V.int)
  | [] => RVs.nil
  | x :: l => RVs.cons (rv_int (i := x)) (rvs_ints l)
/-- set(a list of whole numbers) -/
def rSetNew (w : World) : List V → Hp → VK → Prop := fun xs H Q => ∃ (a : Addr) (ns : List Int), xs = [.ref a] ∧ Rd H a (.lst (ns.map V.int)) ∧ ns.length < 60 ∧ ∀ p c, H p = none → c ≤ ns.length → Q (.ref p) (upd H p (SetO w p (fun j => decide (j ∈ ns)) c))
theorem cr_setNew (hc : X.calm = true) : CallR X (.type "set") (rSetNew X.w) := by
  intro pins s σ H xs us Q I r h
  obtain ⟨a, ns, rfl, ha, hl, q⟩ := h
  obtain ⟨u, rfl, ru⟩ := vals1 r
  cases ru
  obtain ⟨z, its, n, rv, hlen, e⟩ := lstR I ha
  have hi : IntsAre its.toArray.toList ns := ints_of_vals rv
  refine call_setL ns (I.ok.hd hc) ⟨_, e, rfl, n, rfl⟩ hi (by unfold scanBound; omega) fun s2 ⟨hz, tz, c, es, R, hc', k⟩ => ?_
  subst es
  have hn := I.hok.fresh (Nat.le_refl s.heap.objs.size)
  exact ⟨.ref _, _, I.laid (t' := tz) k (Nat.le_refl _) (setO_new R), rfl, q _ c hn hc'⟩
theorem pe_srt (hc : X.calm = true) (hg1 : Gl X "sorted") (hm1 : X.mg "sorted" = none) (hg2 : Gl X "set") (hm2 : X.mg "set" = none) (he : PE X e (tEv G W G.rb ra)) (hs : isStar e = false) :
    PE X (.Call (.Name "sorted" p1) [.Call (.Name "set" p2) [e] [] pos2] [] pos) (tEvF G W (rSrt ra)) := by
  have inner := pe_callTy (p := p2) (pos := pos2) (cr_setNew hc) hg2 hm2 (by decide +kernel) (pa_cons he pa_nil (star_of hs)) (by decide) (by decide) (star_of hs) rfl
  refine PE.imp (pe_callB (cr_sortedSet hc) hg1 hm1 (by decide +kernel) (pa_cons inner pa_nil rfl) (by decide) (by decide) rfl rfl) fun σ H Q t => ?_
  obtain ⟨sh, N, ρ, rp, p⟩ := t
  refine tEv.runF rp p fun dx ρ1 sh1 N1 x H1 _ rp1 k1 hx p1 => ?_
  obtain ⟨d, e, q⟩ := post_ofF p1 rp1
  cases dx with
  | lst l =>
    obtain ⟨ns, e1, e2⟩ := Option.bind_eq_some_iff.mp (show (intsD l).bind _ = some d from e)
    obtain ⟨hl, rfl⟩ := ite_some e2
    obtain ⟨a, vs, rfl, ha, rr⟩ := rb_lst hx
    obtain rfl := ints_rvs e1 rr
    refine ⟨a, ns, rfl, ha, hl, fun p c hp hc' => ⟨p, _, c, rfl, upd_same, by omega, fun ns' p' h1 h2 h3 hp' => ?_⟩⟩
    have en : ns' = sortU ns := asc_eq h1 sortU_lt fun k => by rw [h2 k, sortU_mem, decide_eq_true_eq]
    subst en
    have ne : p' ≠ p := fun z => by rw [z, upd_same] at hp'; cases hp'
    have hp1 : H1 p' = none := by rw [upd_ne ne] at hp'; exact hp'
    have nD := nofree rp1 hp1
    exact q p' _ (fun b o z => grows hp' b o (grows hp b o z)) hp1 (rf_newlst hp' nD (fun z => nD (rp1.shN _ z)) (rvs_ints _))
  | _ => cases e
end
end Mi

/-! ### range(i, j, -1) -/
namespace Mi
open PySem PySem.Spec PyProof.Rows L2
def dnD (hi : Int) (n : Nat) : List D := (List.range n).map fun i => .int (hi + (i : Nat) * (-1))
def rRng3 (rs : AE → R (List D)) : AE → R (List D) := fun ρ => (rs ρ).bind fun l ρ1 => match l with
  | [.int i, .int j, .int (-1)] => if -sml ≤ i ∧ i < sml ∧ -sml ≤ j ∧ j < sml ∧ i - j ≤ many then .ok (dnD i (i - j).toNat) ρ1 else .bad
  | _ => .bad
section
variable {G : Cg} {W : WX} {X : Cx} {sh : List Addr} {N : Addr → Prop} {ρ : AE} {σ : Sg} {H : Hp} {tg a b c : Expr} {p pos : Pos} {rs : AE → R (List D)}
theorem wk_down {hi : Int} {n : Nat} (hn : n ≤ many) : Wk G (Itc hi (-1) n) (dnD hi n) (OwnS ρ σ) sh N H := by
  refine ⟨by simpa [dnD] using many_le hn, ?_⟩
  intro M O2 sh2 N2 H2 hM k hd i
  refine ⟨fun d e => ?_, fun hl => by show n ≤ i; simpa [dnD] using hl⟩
  unfold dnD at e
  rw [List.getElem?_map] at e
  cases q : (List.range n)[i]? with
  | none => rw [q] at e; cases e
  | some c =>
    rw [q] at e; cases e
    have h := List.getElem?_eq_some_iff.mp q
    have hi : i < n := by simpa using h.1
    have hc : c = i := by have := h.2; simp at this; exact this.symm
    subst hc
    refine ⟨hi, fun x H3 y => ?_⟩
    obtain ⟨rfl, rfl⟩ := y
    exact ⟨fun _ _ z => z, rv_int⟩
theorem rbs3 {d e f : D} {xs : List V} (h : Rbs G H N sh [d, e, f] xs) : ∃ x y z, xs = [x, y, z] ∧ G.rb H N sh d x ∧ G.rb H N sh e y ∧ G.rb H N sh f z := by
  cases h with
  | cons h t =>
    obtain ⟨y, z, rfl, hy, hz⟩ := rbs2 t
    exact ⟨_, _, _, rfl, h, hy, hz⟩
theorem pi_rng3A (hg : Gl X "range") (hm : X.mg "range" = none) (hs : isStar a = false) (hpl : (backTo pos (starEach [b, c] X.env)).any (·.1) = false) (ha : PA X [a, b, c] (tEv G W G.rbs rs)) : PI X tg (.Call (.Name "range" p) [a, b, c] [] pos) (tEvI G W (rRng3 rs)) :=
  PI.imp (pi_range3 hg hm ha (star_of hs) hpl) fun σ H Q t => by
    obtain ⟨sh, N, ρ, rp, p⟩ := t
    refine tEvIter rp p fun d ρ1 sh1 N1 x H1 _ rp1 k1 hx p1 => ?_
    match d, p1 with
    | [.int i, .int j, .int (-1)], p1 =>
      obtain ⟨v, u, z, rfl, hv, hu, hz⟩ := rbs3 hx
      obtain ⟨⟨c1, c2, c3, c4, c5⟩, p2⟩ := ifbadI p1
      exact ⟨i, j, -1, (i - j).toNat, by rw [rb_int hv, rb_int hu, rb_int hz], RgC.neg c1 c2 c3 c4, PostI.ret p2 rp1 (wk_down (by omega))⟩
end
end Mi

/-! ### lists that are shared: made of a new list, len, pop(i) -/
namespace Mi
open PySem PySem.Spec PyProof.Rows L2
def rNewOF (ra : AE → R D) : AE → R D := fun ρ => (ra ρ).bind fun d ρ1 => match d with
  | .lst l => .ok (.obj ρ1.st.length) { ρ1 with st := ρ1.st ++ [.lst l] }
  | _ => .bad
def lstO (st : List Ob) : D → Option (List D)
  | .obj n => (match st[n]? with
    | some (.lst l) => some l
    | _ => none)
  | _ => none
def rLenO (ra : AE → R D) : AE → R D := fun ρ => (ra ρ).bind fun d ρ1 => match lstO ρ1.st d with
  | some l => .ok (.int l.length) ρ1
  | none => .bad
def dPop (l : List D) : D → Option (D × List D)
  | .int i => if -sml ≤ i ∧ i < sml then (PySem.seqIndex? i l.length).bind fun k => (l[k]?).map fun d => (d, l.eraseIdx k) else none
  | _ => none
def rPopO (ra rb : AE → R D) : AE → R D := fun ρ => (ra ρ).bind fun d ρ1 => match d with
  | .obj n => if (lstO ρ1.st (.obj n)).isSome = true then (rb ρ1).bind fun j ρ2 => (match lstO ρ2.st (.obj n) with
    | some l => (match dPop l j with
      | some p => .ok p.1 { ρ2 with st := ρ2.st.set n (.lst p.2) }
      | none => .bad)
    | none => .bad) else .bad
  | _ => .bad
section
variable {G : Cg} {W : WX} {X : Cx} {sh : List Addr} {N : Addr → Prop} {ρ : AE} {σ : Sg} {H : Hp} {o e : Expr} {p apos cpos pos : Pos} {ra rb : AE → R D}
/-- a thing that is nobody's becomes a shared one -/
theorem Rp.share {ob : Ob} {a : Addr} (rp : G.rp sh N ρ σ H) (hN : N a) (ns : a ∉ sh) (no : ¬ OwnS ρ σ a) (nb : ∀ i, ¬ (OwnS ρ σ).b i a) (h : ObAt G.P G.w G.K G.cl H N (sh ++ [a]) ob a) : G.rp (sh ++ [a]) N { ρ with st := ρ.st ++ [ob] } σ H := by
  have rd : ∀ b u, Rd H b u → ¬ N b → Rd H b u ∧ ¬ N b := fun b u r n => ⟨r, n⟩
  have hs : ∀ (n : Nat) (b : Addr), sh[n]? = some b → (sh ++ [a])[n]? = some b := fun n b e => pre_get (List.prefix_append _ _) e
  refine ⟨rp.len, fun j d g => ?_, fun j d g => ?_, fun j d g => ?_, rp.dis, rp.dom, ?_, fun b z => ?_, by simp [rp.shl], fun n ob' b e1 e2 => ?_⟩
  · obtain ⟨v, q1, q2⟩ := rp.val j d g
    exact ⟨v, q1, RV.mono' rd hs _ _ q2⟩
  · obtain ⟨b, q1, q2, q3, q4⟩ := rp.own j d g
    refine ⟨b, q1, q2, fun z => ?_, OwnAt.mono rd hs (fun _ z => z) q4⟩
    rcases List.mem_append.mp z with z | z
    · exact q3 z
    · rw [List.mem_singleton] at z; exact no (z ▸ ⟨j, d, g, q1⟩)
  · obtain ⟨b, q1, q2, q3, q4⟩ := rp.bor j d g
    refine ⟨b, q1, q2, fun z => ?_, OwnAt.mono rd hs (fun _ z => z) q4⟩
    rcases List.mem_append.mp z with z | z
    · exact q3 z
    · rw [List.mem_singleton] at z; exact nb j (z ▸ ⟨d, g, q1⟩)
  · rw [List.nodup_append]; exact ⟨rp.nd, by simp, fun b hb c hc => by rw [List.mem_singleton] at hc; rw [hc]; exact fun z => ns (z ▸ hb)⟩
  · rcases List.mem_append.mp z with z | z
    · exact rp.shN b z
    · rw [List.mem_singleton] at z; rw [z]; exact hN
  · by_cases hn : n < ρ.st.length
    · rw [List.getElem?_append_left hn] at e1
      rw [List.getElem?_append_left (by rw [rp.shl]; exact hn)] at e2
      exact ObAt.mono rd hs (fun _ z => z) (rp.obs n ob' b e1 e2)
    · have : n < (ρ.st ++ [ob]).length := (List.getElem?_eq_some_iff.mp e1).1
      have hn2 : n = ρ.st.length := by simp at this; omega
      subst hn2
      rw [List.getElem?_append_right (Nat.le_refl _)] at e1
      rw [List.getElem?_append_right (by rw [rp.shl]; exact Nat.le_refl _), rp.shl] at e2
      simp at e1 e2
      subst e1 e2
      exact h
theorem pe_newOF (h : PE X e (tEvF G W ra)) : PE X e (tEv G W G.rv (rNewOF ra)) := PE.imp h fun σ H Q t => by
  obtain ⟨sh, N, ρ, rp, p⟩ := t
  refine ⟨sh, N, ρ, rp, ?_⟩
  have p0 : Post G W G.rv sh N ρ σ H ((ra ρ).bind fun d ρ1 => match d with
    | .lst l => .ok (.obj ρ1.st.length) { ρ1 with st := ρ1.st ++ [.lst l] }
    | _ => .bad) Q := p
  cases q : ra ρ with
  | bad => rw [q] at p0; exact p0.elim
  | exc c fs ρ1 => rw [q] at p0; exact p0
  | ok d ρ1 =>
    rw [q] at p0
    intro sh1 N1 a H1 rp1 k1 hn rpa hrf
    obtain ⟨nN1, ns, ow⟩ := hrf
    cases d with
    | lst l =>
      obtain ⟨vs, e1, r1⟩ := ow
      have p1 : Post G W G.rv sh N ρ σ H (.ok (.obj ρ1.st.length) { ρ1 with st := ρ1.st ++ [.lst l] }) Q := p0
      have ne : ∀ {b : Addr} {u : HO}, H b = some u → b ≠ a := fun e z => by rw [z, hn] at e; cases e
      have rp2 := rpa.share (ob := .lst l) (.inr rfl) ns (fun z => nN1 (rp1.ownN a z)) (fun i ⟨d, g1, g2⟩ => nN1 (rp1.mutN g1 rfl g2)) ⟨vs, e1, RVs.mono' (fun b u r n => ⟨r, n⟩) (fun n a e => pre_get (List.prefix_append _ _) e) _ _ r1⟩
      refine p1 (sh1 ++ [a]) (fun b => N1 b ∨ b = a) (.ref a) H1 rp2 ⟨k1.keep, fun b u e n z => ?_, fun b u e n z => z.elim (k1.av b u e n) (ne e), k1.own, k1.pre.trans (List.prefix_append _ _), k1.there, k1.bo, fun b u e n no => .inl (k1.st b u e n no), k1.mt⟩ ?_
      · rcases List.mem_append.mp z with z | z
        · exact k1.shn b u e n z
        · rw [List.mem_singleton] at z; exact ne e z
      · show G.rv _ _ _ (.obj ρ1.st.length) _
        simp only [Cg.rv, RV]
        exact ⟨a, rfl, by rw [← rp1.shl]; simp⟩
    | _ => exact p0.elim
theorem lstO_inv {d : D} {st : List Ob} {l : List D} (h : lstO st d = some l) : ∃ n, d = .obj n ∧ st[n]? = some (.lst l) := by
  cases d with
  | obj n =>
    simp only [lstO] at h
    split at h
    · rename_i m e; cases h; exact ⟨n, rfl, e⟩
    · cases h
  | _ => cases h
theorem rb_obj {n : Nat} {v : V} (h : G.rb H N sh (.obj n) v) : ∃ a, v = .ref a ∧ sh[n]? = some a := by
  rcases h with h | ⟨a, _, _, h⟩
  · simpa only [Cg.rv, RV] using h
  · exact h.elim
theorem pe_lenO (hg : Gl X "len") (hm : X.mg "len" = none) (he : PE X e (tEv G W G.rb ra)) (hs : isStar e = false) : PE X (.Call (.Name "len" p) [e] [] pos) (tEv G W G.rv (rLenO ra)) :=
  PE.imp (pe_callB call_len_seq hg hm (by decide +kernel) (pa_cons he pa_nil (star_of hs)) (by decide) (by decide) (star_of hs) rfl) fun σ H Q t => by
    obtain ⟨sh, N, ρ, rp, p⟩ := t
    refine tEv.run rp p fun d ρ1 sh1 N1 x H1 _ rp1 k1 hx p1 => ?_
    cases q : lstO ρ1.st d with
    | none => rw [q] at p1; exact p1.elim
    | some l =>
      rw [q] at p1
      obtain ⟨n, rfl, e1⟩ := lstO_inv q
      obtain ⟨a, rfl, ha⟩ := rb_obj hx
      obtain ⟨vs, h1, h2⟩ := rp1.obs n _ a e1 ha
      refine ⟨a, vs, rfl, .inl (.inl (.inl h1)), Post.ret p1 rp1 ?_⟩
      rw [RVs.length h2]; exact rv_int
theorem pe_popO (ho : PE X o (tEv G W G.rb ra)) (he : PE X e (tEv G W G.rb rb)) (hs : isStar e = false) (hl : (apos.endLine == cpos.line) = true) (hb : attributeBase o "pop" X.env (eval o X.env) = eval o X.env) :
    PE X (.Call (.Attribute o "pop" apos) [e] [] cpos) (tEv G W G.rv (rPopO ra rb)) := by
  refine PE.imp (pe_bm PySem.F.plainAttrs_list PySem.F.slot_list_pop PySem.F.type_list_pop mt_popAt ho (pa_cons he pa_nil (star_of hs)) hb (by rw [star_of hs]; rfl) hl (star_of hs) rfl) fun σ H Q t => ?_
  obtain ⟨sh, N, ρ, rp, p⟩ := t
  refine tEv.run rp p fun dx ρ1 sh1 N1 x H1 _ rp1 k1 hx p1 => ?_
  cases dx with
  | obj n =>
    obtain ⟨a, rfl, ha⟩ := rb_obj hx
    have p1' : Post G W G.rv sh1 N1 ρ1 σ H1 (if (lstO ρ1.st (.obj n)).isSome = true then (rb ρ1).bind fun j ρ2 => (match lstO ρ2.st (.obj n) with
      | some l => (match dPop l j with
        | some p => .ok p.1 { ρ2 with st := ρ2.st.set n (.lst p.2) }
        | none => .bad)
      | none => .bad) else .bad) Q := p1
    obtain ⟨hs1, p1'⟩ := ifbadV p1'
    obtain ⟨l1, el1⟩ := Option.isSome_iff_exists.mp hs1
    obtain ⟨m1, em1, e1⟩ := lstO_inv el1
    cases em1
    obtain ⟨vs1, h1, _⟩ := rp1.obs n _ a e1 ha
    refine ⟨.inl ⟨rfl, vs1, .inl (.inl h1)⟩, tEv.run rp1 p1' fun dj ρ2 sh2 N2 y H2 _ rp2 k2 hy p2 => ?_⟩
    cases q1 : lstO ρ2.st (.obj n) with
    | none => rw [q1] at p2; exact p2.elim
    | some l =>
      rw [q1] at p2
      dsimp only at p2
      cases q2 : dPop l dj with
      | none => rw [q2] at p2; exact p2.elim
      | some pr =>
        rw [q2] at p2
        obtain ⟨m, em, e1⟩ := lstO_inv q1
        cases em
        have ha2 : sh2[n]? = some a := pre_get k2.pre ha
        obtain ⟨vs, h1, h2⟩ := rp2.obs n _ a e1 ha2
        cases dj with
        | int i =>
          obtain ⟨hi, e3⟩ := ite_some' q2
          obtain ⟨k, ek, e4⟩ := Option.bind_eq_some_iff.mp e3
          obtain ⟨d, ed, rfl⟩ := Option.map_eq_some_iff.mp e4
          obtain ⟨w, ew, rw'⟩ := RVs.get h2 ed
          have hn : N2 a := rp2.shN a (List.mem_of_getElem? ha2)
          obtain ⟨r2, k3⟩ := rp2.upob (ob := .lst (l.eraseIdx k)) (o := .lst (vs.eraseIdx k)) ha2 fun ge => ⟨_, upd_same, RVs.mono' (fun b u r n => ⟨rdup hn b u r n, n⟩) (fun _ _ e => e) _ _ (RVs.eraseIdx k h2)⟩
          obtain ⟨b1, b2⟩ := hi
          exact ⟨a, vs, i, k, w, rfl, by rw [rb_int hy], h1, by unfold sml at b1; omega, by unfold sml at b2; omega, by rw [← RVs.length h2]; exact ek, ew, p2 sh2 N2 w _ r2 k3 (Cg.rv_mono rw' k3 rp2.shN)⟩
        | _ => cases q2
  | _ => exact p1.elim
end
end Mi

namespace Mi
open PySem PySem.Spec PyProof.Rows L2

/-! ### the core language -/
inductive Bf where | len | abs | int | max2 | min2 | all | any | sum | max1 | tuple | minT
inductive Ty where | int | bool | str | tuple | list
def Ty.nm : Ty → Str | .int => "int" | .bool => "bool" | .str => "str" | .tuple => "tuple" | .list => "list"
def Ty.s : Ty → String | .int => "int" | .bool => "bool" | .str => "str" | .tuple => "tuple" | .list => "list"
mutual
inductive Tg where
  | name (i : Nat) | tup (l : Tgs)
inductive Tgs where
  | nil | cons (t : Tg) (l : Tgs)
end
mutual
inductive C where
  | var (i : Nat) | varB (i : Nat) | non | bl (b : Bool) | int (i : Int) | str (s : Str) | glo (k : Nat)
  | bin (op : Operator) (a b : C) | addL (a b : C) | neg (a : C) | cmp (op : CmpOp) (a b : C) | chain (op op' : CmpOp) (a b c : C)
  | notV (a : C) | andV (a b : C) | orV (a b : C) | one (a : C) | ite (t : T) (a b : C)
  | tup (l : L) | lst (l : L) | newO (l : L) | ix (a b : C) | sl (a : C) (lo hi : Op)
  | bi (f : Bf) (l : L) | list (l : L) | isi (t : Ty) (a : C) | call (g : Nat) (l : A)
  | comp (elt : C) (own : List (Str × Nat)) (tg : Tg) (it : I) (t : Ts)
  | repT (a b : C) | repL (a b : C) | lstR (a : C) | tupR (a : C)
  | dsp (ks : List Str) (l : L) (c : C) | cget (k : Nat) (c : C) | idx (a b : C) | sorted (l : L)
  | comp2 (elt : C) (own : List (Str × Nat)) (own1 : List Nat) (tg : Tg) (it : I) (t : Ts) (tg1 : Tg) (it1 : I) (t1 : Ts)
  | badE | newT | newI | dspD (kk : List Key) (l : L) | dict (l : L) | srt (c : C) | newOF (c : C) | lenO (c : C) | popO (a b : C)
  | dc (k : Bool) (kx vx : C) (own : List (Str × Nat)) (tg : Tg) (it : I) (t : Ts)
inductive Op where | none | some (c : C)
inductive T where
  | tru (c : C) | cmp (op : CmpOp) (a b : C) | not (t : T) | and (a b : T) | or (a b : T) | one (t : T) | chain (op op' : CmpOp) (a b c : C)
inductive Ts where | nil | one (t : T)
inductive L where | nil | cons (c : C) (l : L)
inductive A where | nil | val (c : C) (l : A) | bor (i : Nat) (l : A)
inductive I where | expr (c : C) | name (i : Nat) | rng1 (a : C) | rng2 (a b : C) | rng3 (a b c : C) | enum (c : C) | enumN (i : Nat) | zip (a b : C)
end
mutual
inductive S where
  | pass | brk | cont | ret (c : C) | retN | expr (c : C) | asg (tg : Tg) (c : C) | own (i : Nat) (c : C)
  | ownLc (i : Nat) (elt : C) (own : List (Str × Nat)) (tg : Tg) (it : I) (t : Ts)
  | ownLc2 (i : Nat) (elt : C) (own : List (Str × Nat)) (own1 : List Nat) (tg : Tg) (it : I) (t : Ts) (tg1 : Tg) (it1 : I) (t1 : Ts)
  | ownDc (i : Nat) (k : Bool) (kx vx : C) (own : List (Str × Nat)) (tg : Tg) (it : I) (t : Ts)
  | app (i : Nat) (c : C) | ext (i : Nat) (c : C) | set (i : Nat) (j c : C) | put (i : Nat) (j c : C) | putI (i : Nat) (j c : C) | setO (i : Nat) (j c : C)
  | if_ (t : T) (a b : Ss) | while_ (t : T) (b : Ss) | for_ (tg : Tg) (it : I) (b : Ss) | never
  | raise_ (c : Nat) (l : L) | try_ (b : Ss) (k : Nat) (i : Option Nat) (l : List Nat) (h : HB) | tryM (b : Ss) (cl : List Hn)
inductive Ss where | nil | cons (s : S) (l : Ss)
end

/-! ### what it does -/
/-- the functions, the global constants -/
structure Ev where
  fn : Nat → List Sl → List Ob → Res
  gl : List (Nat × Str × D)
/-- the depth is told by a function of its own -/
def isOk : Res → Bool | .ok _ _ => true | _ => false
def nop : D → D → Option D := fun _ _ => none
def binD : Operator → D → D → Option D
  | .Add => dAdd | .Sub => dSub | .Mult => dMul | .FloorDiv => dFdiv | .Mod => dMod | .Pow => dPow | .LShift => dShl | .BitAnd => dBand | _ => nop
def cmpD : CmpOp → D → D → Option D
  | .Eq => dEq | .NotEq => dNe | .Lt => dLt | .LtE => dLe | .Gt => dGt | .GtE => dGe | .Is => dIs | .IsNot => dIsNot | .In => dIn | .NotIn => dNotIn
def Bf.f : Bf → List D → Option D
  | .len => dLen | .abs => dAbs | .int => dInt | .max2 => dMax2 | .min2 => dMin2 | .all => dAll | .any => dAny | .sum => dSum | .max1 => dMax1 | .tuple => dTuple | .minT => dMinT
def Bf.nm : Bf → Str
  | .len => "len" | .abs => "abs" | .int => "int" | .max2 => "max" | .min2 => "min" | .all => "all" | .any => "any" | .sum => "sum" | .max1 => "max" | .tuple => "tuple" | .minT => "min"
mutual
def evG : Tg → D → AE → R Unit
  | .name i => gSet i
  | .tup l => gTupD (evGs l)
def evGs : Tgs → List (D → AE → R Unit)
  | .nil => []
  | .cons t l => evG t :: evGs l
end
mutual
def tsG : Tg → List Nat
  | .name i => [i]
  | .tup l => tsGs l
def tsGs : Tgs → List Nat
  | .nil => []
  | .cons t l => tsG t ++ tsGs l
end
def I.bi : I → Option Nat
  | .name i => some i
  | .enumN i => some i
  | _ => none
mutual
def ev (E : Ev) : C → AE → R D
  | .var i => rVar i
  | .varB i => rVarB i
  | .non => rC .non
  | .bl b => rC (.bl b)
  | .int i => rC (.int i)
  | .str s => rC (.str s)
  | .glo k => fun ρ => match E.gl.lookup k with
    | some p => .ok p.2 ρ
    | none => .bad
  | .bin op a b => rOp2 (binD op) (ev E a) (ev E b)
  | .addL a b => rOp2 dAddL (ev E a) (ev E b)
  | .neg a => rOp1 dNeg (ev E a)
  | .cmp op a b => rOp2 (cmpD op) (ev E a) (ev E b)
  | .chain op op' a b c => rChain (cmpD op) (cmpD op') (ev E a) (ev E b) (ev E c)
  | .notV a => rNotV (ev E a)
  | .andV a b => rAnd (ev E a) (ev E b)
  | .orV a b => rOr (ev E a) (ev E b)
  | .one a => ev E a
  | .ite t a b => rIte (evT E t) (ev E a) (ev E b)
  | .tup l => rTup (evL E l)
  | .lst l => rLst (evL E l)
  | .newT => rNewT
  | .newI => rNewI
  | .dspD kk l => rDspD kk (evL E l)
  | .dict l => rOpn dDict (evL E l)
  | .srt c => rSrt (ev E c)
  | .newOF c => rNewOF (ev E c)
  | .lenO c => rLenO (ev E c)
  | .popO a b => rPopO (ev E a) (ev E b)
  | .dc k kx vx own tg it t => rDc (putB k) (d0B k) it.bi (evI E it) (own.map (·.2)) (evG tg) (evTs E t) (ev E kx) (ev E vx)
  | .newO l => rNewO (evL E l)
  | .ix a b => rIx (ev E a) (ev E b)
  | .sl a lo hi => rSl dSl (ev E a) (evO E lo) (evO E hi)
  | .bi f l => rOpn f.f (evL E l)
  | .list l => rOpn dList (evL E l)
  | .isi t a => rOp1 (dIsi t.s) (ev E a)
  | .call g l => rCall (E.fn g) (evA E l)
  | .comp elt own tg it t => rComp it.bi (evI E it) (own.map (·.2)) (evG tg) (evTs E t) (ev E elt)
  | .repT a b => rOp2 dRepT (ev E a) (ev E b)
  | .repL a b => rOp2 dRepL (ev E a) (ev E b)
  | .lstR a => rOp1 dLstR (ev E a)
  | .tupR a => rOp1 dTupR (ev E a)
  | .dsp ks l c => rDsp ks (evL E l) (ev E c)
  | .cget k c => fun ρ => match E.gl.lookup k with
    | some p => rOp1 (lookC p.2) (ev E c) ρ
    | none => .bad
  | .idx a b => rIdx (ev E a) (ev E b)
  | .sorted l => rOpn dSorted (evL E l)
  | .comp2 elt own own1 tg it t tg1 it1 t1 => rComp2 it.bi (evI E it) (own.map (·.2)) own1 (evG tg) (evTs E t) (evI E it1) (evG tg1) (evTs E t1) (ev E elt)
  | .badE => fun _ => .bad
def evO (E : Ev) : Op → AE → R (Option Int)
  | .none => rNoP
  | .some c => rP (ev E c)
def evT (E : Ev) : T → AE → R Bool
  | .tru c => rTv dTru (ev E c)
  | .cmp op a b => rTv dBl (rOp2 (cmpD op) (ev E a) (ev E b))
  | .not t => tNot' (evT E t)
  | .and a b => tAnd' (evT E a) (evT E b)
  | .or a b => tOr' (evT E a) (evT E b)
  | .one t => evT E t
  | .chain op op' a b c => rTv dBl (rChain (cmpD op) (cmpD op') (ev E a) (ev E b) (ev E c))
def evTs (E : Ev) : Ts → AE → R Bool
  | .nil => fun ρ => .ok true ρ
  | .one t => evT E t
def evL (E : Ev) : L → AE → R (List D)
  | .nil => rNil
  | .cons c l => rCons (ev E c) (evL E l)
def evA (E : Ev) : A → AE → R (List Arg)
  | .nil => rANil
  | .val c l => rAVal (ev E c) (evA E l)
  | .bor i l => rABor i (evA E l)
def evI (E : Ev) : I → AE → R (List D)
  | .expr c => rIt (ev E c)
  | .name i => rIt (rVarL i)
  | .rng1 a => rRng1 (rCons (ev E a) rNil)
  | .rng2 a b => rRng2 (rCons (ev E a) (rCons (ev E b) rNil))
  | .rng3 a b c => rRng3 (rCons (ev E a) (rCons (ev E b) (rCons (ev E c) rNil)))
  | .enum c => rEn (ev E c)
  | .enumN i => rEn (rVarL i)
  | .zip a b => rZip (ev E a) (ev E b)
end
mutual
def evS (E : Ev) : S → AE → R Fl
  | .pass => rNx
  | .brk => fun ρ => .ok .brk ρ
  | .cont => fun ρ => .ok .cont ρ
  | .ret c => rRet (ev E c)
  | .retN => fun ρ => .ok (.ret .non) ρ
  | .expr c => rDrop (ev E c)
  | .asg tg c => rAsg (evG tg) (ev E c)
  | .own i c => rOwn i (ev E c)
  | .ownLc i elt own tg it t => rOwn i (rComp it.bi (evI E it) (own.map (·.2)) (evG tg) (evTs E t) (ev E elt))
  | .ownLc2 i elt own own1 tg it t tg1 it1 t1 => rOwn i (rComp2 it.bi (evI E it) (own.map (·.2)) own1 (evG tg) (evTs E t) (evI E it1) (evG tg1) (evTs E t1) (ev E elt))
  | .app i c => rApp i (ev E c)
  | .ext i c => rExt i (ev E c)
  | .set i j c => rSet i (ev E j) (ev E c)
  | .put i j c => rPut i (ev E j) (ev E c)
  | .putI i j c => rPutI i (ev E j) (ev E c)
  | .ownDc i k kx vx own tg it t => rOwn i (rDc (putB k) (d0B k) it.bi (evI E it) (own.map (·.2)) (evG tg) (evTs E t) (ev E kx) (ev E vx))
  | .setO i j c => rSetO i (ev E j) (ev E c)
  | .if_ t a b => rIf (evT E t) (evSs E a) (evSs E b)
  | .while_ t b => rWhile (evT E t) (evSs E b)
  | .for_ tg it b => rFor it.bi (evI E it) (evG tg) (evSs E b)
  | .never => fun _ => .bad
  | .raise_ c l => rRaise (isOk (E.fn 1000000 [] [])) c (evL E l)
  | .try_ b _ i l h => rTry i l h (evSs E b)
  | .tryM b cl => rTrys cl (evSs E b)
def evSs (E : Ev) : Ss → AE → R Fl
  | .nil => rNx
  | .cons s l => rSeq (evS E s) (evSs E l)
end

/-! ### the check against the program's text -/
/-- the functions' names and numbers of parameters, the global constants' names -/
structure Gs where
  fns : List (Nat × Str × Nat)
  gl : List (Nat × Str × D)
  cs : List (Nat × Ec)
def mlen : A → Nat
  | .nil => 0
  | .val _ l => mlen l + 1
  | .bor _ l => mlen l + 1
def isNilA : A → Bool
  | .nil => true
  | _ => false
def nmB (N : List Str) (sc : Scope) (i : Nat) (x : Str) : Bool :=
  decide (N[i]? = some x) && (match sc.names.lookup x with
    | some .local => true
    | some .cell => true
    | some .free => true
    | _ => false) && !(x == ("__debug__" : Str)) && !(x == ("__classdict__" : Str))
def glB (sc : Scope) (x : Str) : Bool := decide (sc.names.lookup x = some .globalImplicit) && !(x == ("__debug__" : Str))
def frs : C → Bool
  | .lst _ => true
  | .newT => true
  | .newI => true
  | .dspD _ _ => true
  | .dict _ => true
  | .srt _ => true
  | .dc _ _ _ _ _ _ _ => true
  | .list _ => true
  | .addL _ _ => true
  | .comp _ _ _ _ _ => true
  | .comp2 _ _ _ _ _ _ _ _ _ => true
  | .sorted _ => true
  | .repL _ _ => true
  | .lstR _ => true
  | _ => false
def esc : C → Bool
  | .varB _ => false
  | .one c => esc c
  | _ => true
def binB : Operator → Bool
  | .Add | .Sub | .Mult | .FloorDiv | .Mod | .Pow | .LShift | .BitAnd => true
  | _ => false
def plainIx : Expr → Bool | .Slice .. => false | _ => true
/-- a test that is no comparison, no not, and, or, if else -/
def plainT : Expr → Bool | .UnaryOp .Not _ _ => false | .BoolOp .. => false | .IfExp .. => false | .Compare .. => false | _ => true
def isComp : Expr → Bool | .ListComp .. => true | .SetComp .. => true | .DictComp .. => true | _ => false
/-- no swap at `x = e` -/
def swapE (sc : Scope) (x : Str) (e : Expr) : Bool := !isComp e || decide (sc.names.lookup x = some .cell)
def isTupE : Expr → Bool | .Tuple .. => true | .List .. => true | _ => false
/-- the form of the target that the walk wants -/
def tgI : I → Expr → Bool
  | .enum _, e => isTup1 e
  | .enumN _, e => isTup1 e
  | .zip _ _, e => isTup1 e
  | _, _ => true
where isTup1 : Expr → Bool
  | .Tuple .. => true
  | _ => false
def asOk (N : List Str) (sc : Scope) : Option Str → Option Nat → Bool
  | some n, some j => decide (N[j]? = some n) && decide (sc.names.lookup n = some .local)
  | none, none => true
  | _, _ => false
def asOk2 (N : List Str) (sc : Scope) (j : Nat) : Option Str → Bool
  | some n => decide (N[j]? = some n) && decide (sc.names.lookup n = some .local)
  | none => false
def ckHn (cs : List (Nat × Ec)) (N : List Str) (sc : Scope) : List Hn → List ExceptHandler → Bool
  | [], hs => hs.isEmpty
  | h :: r, hs => (match hs with
    | .ExceptHandler (some (.Name x _)) nm suite _ :: hs => decide (sc.names.lookup x = some .globalImplicit) && !(x == ("__debug__" : Str)) && asOk2 N sc h.2.1 nm && nmC cs h.1 x && (cs.all fun p => h.2.2.1.contains p.1 == subC cs p.1 h.1) && ckHB cs N sc (some h.2.1) h.2.2.2 suite && ckHn cs N sc r hs
    | _ => false)
def keysB : List Str → List (Option Expr) → Bool
  | [], es => es.isEmpty
  | k :: ks, es => (match es with
    | some (.Constant (.str z) _ _) :: es => decide (k = z) && keysB ks es
    | _ => false)
def keysK : List Key → List (Option Expr) → Bool
  | [], es => es.isEmpty
  | .inl i :: ks, es => (match es with
    | some (.Constant (.int z) _ _) :: es => decide (i = z) && keysK ks es
    | _ => false)
  | .inr k :: ks, es => (match es with
    | some (.Constant (.str z) _ _) :: es => decide (k = z) && keysK ks es
    | _ => false)
def llen : L → Nat
  | .nil => 0
  | .cons _ l => llen l + 1
def ndK : List Str → Bool
  | [] => true
  | x :: l => !l.contains x && ndK l
def nameOk : Expr → Bool
  | .Name .. => true
  | .Call _ (_ :: _) _ _ => true
  | .List .. => true
  | .ListComp .. => true
  | _ => false
def isSet : Expr → Bool | .Set .. => true | _ => false
def tgB (sc : Scope) (cf : Str → Bool) (x : Str) : Bool := match sc.names.lookup x with
  | some .local => true
  | some .cell => cf x
  | _ => false
mutual
def ckG (N : List Str) (sc : Scope) (cf : Str → Bool) : Tg → Expr → Bool
  | .name i, e => (match e with
    | .Name x _ => decide (N[i]? = some x) && tgB sc cf x
    | _ => false)
  | .tup l, e => (match e with
    | .Tuple es _ _ => ckGs N sc cf l es
    | _ => false)
def ckGs (N : List Str) (sc : Scope) (cf : Str → Bool) : Tgs → List Expr → Bool
  | .nil, es => es.isEmpty
  | .cons t l, es => (match es with
    | e :: es => !isStar e && ckG N sc cf t e && ckGs N sc cf l es
    | [] => false)
end
def cfB (scope : Scope) : Str → Bool := fun x => scope.names.lookup x == some .cell
section
variable (g : Gs) (N : List Str)
mutual
def ck : C → Scope → (Str → Bool) → Expr → Bool
  | .var i, sc, cf, e => (match e with | .Name x _ => nmB N sc i x | _ => false)
  | .varB i, sc, cf, e => (match e with | .Name x _ => nmB N sc i x | _ => false)
  | .non, sc, cf, e => (match e with | .Constant .none _ _ => true | _ => false)
  | .bl b, sc, cf, e => (match e with | .Constant (.bool c) _ _ => b == c | _ => false)
  | .int i, sc, cf, e => (match e with | .Constant (.int j) _ _ => decide (i = j) | _ => false)
  | .str s, sc, cf, e => (match e with | .Constant (.str z) _ _ => decide (s = z) && PyData.strOk s && decide (s.length ≤ 10000) | _ => false)
  | .glo k, sc, cf, e => (match e with
    | .Name x _ => glB sc x && (match g.gl.lookup k with | some p => decide (p.1 = x) && !isDik p.2 | none => false)
    | _ => false)
  | .bin op a b, sc, cf, e => (match e with
    | .BinOp x o y _ => decide (op = o) && binB op && ck a sc cf x && ck b sc cf y
    | _ => false)
  | .addL a b, sc, cf, e => (match e with
    | .BinOp x o y _ => decide (Operator.Add = o) && ck a sc cf x && ck b sc cf y
    | _ => false)
  | .neg a, sc, cf, e => (match e with
    | .UnaryOp o x _ => decide (UnaryOp.USub = o) && ck a sc cf x
    | _ => false)
  | .cmp op a b, sc, cf, e => (match e with
    | .Compare x [o] [y] _ => decide (op = o) && !behindInMarks op y && ck a sc cf x && ck b sc cf y
    | _ => false)
  | .chain op op' a b c, sc, cf, e => (match e with
    | .Compare x [o, o'] [y, z] _ => decide (op = o) && decide (op' = o') && !lastMarks [op, op'] [y, z] && ck a sc cf x && ck b sc cf y && ck c sc cf z
    | _ => false)
  | .notV a, sc, cf, e => (match e with
    | .UnaryOp o x _ => decide (UnaryOp.Not = o) && ck a sc cf x
    | _ => false)
  | .andV a b, sc, cf, e => (match e with
    | .BoolOp o (x :: y :: r) p => decide (BoolOp.And = o) && esc a && esc b && ck a sc cf x && ck b sc cf (.BoolOp .And (y :: r) p)
    | _ => false)
  | .orV a b, sc, cf, e => (match e with
    | .BoolOp o (x :: y :: r) p => decide (BoolOp.Or = o) && esc a && esc b && ck a sc cf x && ck b sc cf (.BoolOp .Or (y :: r) p)
    | _ => false)
  | .one a, sc, cf, e => (match e with
    | .BoolOp _ [x] _ => ck a sc cf x
    | _ => false)
  | .ite t a b, sc, cf, e => (match e with
    | .IfExp c x y _ => ckT t sc cf c && esc a && esc b && ck a sc cf x && ck b sc cf y
    | _ => false)
  | .tup l, sc, cf, e => (match e with
    | .Tuple es _ _ => ckL l sc cf true es
    | _ => false)
  | .newT, sc, cf, e => (match e with
    | .Dict [] [] _ => true
    | _ => false)
  | .newI, sc, cf, e => (match e with
    | .Dict [] [] _ => true
    | _ => false)
  | .dspD kk l, sc, cf, e => (match e with
    | .Dict keys values _ => decide kk.Nodup && decide (kk.length ≤ 15) && !kk.isEmpty && decide (llen l = kk.length) && keysK kk keys && ckL l sc cf true values
    | _ => false)
  | .dict l, sc, cf, e => (match e with
    | .Call (.Name x _) (y :: es) [] _ => decide (x = ("dict" : Str)) && glB sc x && ckL l sc cf false (y :: es)
    | _ => false)
  | .srt c, sc, cf, e => (match e with
    | .Call (.Name x _) [.Call (.Name y _) [z] [] _] [] _ => decide (x = ("sorted" : Str)) && decide (y = ("set" : Str)) && glB sc x && glB sc y && !isStar z && ck c sc cf z
    | _ => false)
  | .newOF c, sc, cf, e => frs c && ck c sc cf e
  | .lenO c, sc, cf, e => (match e with
    | .Call (.Name x _) [y] [] _ => decide (x = ("len" : Str)) && glB sc x && !isStar y && ck c sc cf y
    | _ => false)
  | .popO a b, sc, cf, e => (match e with
    | .Call (.Attribute x m ap) [y] [] cp => decide (m = ("pop" : Str)) && nameOk x && !isStar y && (ap.endLine == cp.line) && ck a sc cf x && ck b sc cf y
    | _ => false)
  | .dc k kx vx own tg it t, sc, cf, e => (match e with
    | .DictComp x y [⟨tx, ix, ifs, asy⟩] scope _ => decide (asy = 0) && !isSet ix && ckI it sc cf ix && tgI it tx && blkC N sc scope own && ckG N (relS scope sc) (cfB scope) tg tx && (tsG tg).all (fun j => (own.map (·.2)).contains j) &&
      ckTs t (relS scope sc) (cfB scope) ifs && esc kx && ck kx (relS scope sc) (cfB scope) x && esc vx && ck vx (relS scope sc) (cfB scope) y
    | _ => false)
  | .lst l, sc, cf, e => (match e with
    | .List es _ => ckL l sc cf true es
    | _ => false)
  | .newO l, sc, cf, e => (match e with
    | .List es _ => ckL l sc cf true es
    | _ => false)
  | .ix a b, sc, cf, e => (match e with
    | .Subscript x y _ => plainIx y && ck a sc cf x && ck b sc cf y
    | _ => false)
  | .sl a lo hi, sc, cf, e => (match e with
    | .Subscript x (.Slice l h none _) _ => ck a sc cf x && ckO lo sc cf l && ckO hi sc cf h
    | _ => false)
  | .bi f l, sc, cf, e => (match e with
    | .Call (.Name x _) (y :: es) [] _ => decide (x = f.nm) && glB sc x && ckL l sc cf false (y :: es)
    | _ => false)
  | .list l, sc, cf, e => (match e with
    | .Call (.Name x _) (y :: es) [] _ => decide (x = ("list" : Str)) && glB sc x && ckL l sc cf false (y :: es)
    | _ => false)
  | .isi t a, sc, cf, e => (match e with
    | .Call (.Name x _) [y, .Name z _] [] _ => decide (x = ("isinstance" : Str)) && decide (z = t.nm) && glB sc x && glB sc z && !isStar y && ck a sc cf y
    | _ => false)
  | .call f l, sc, cf, e => (match e with
    | .Call (.Name x _) (y :: es) [] _ => glB sc x && decide (g.fns.lookup f = some (x, mlen l)) && ckA l sc cf (y :: es)
    | .Call (.Name x _) [] [] _ => glB sc x && decide (g.fns.lookup f = some (x, 0)) && isNilA l
    | _ => false)
  | .comp elt own tg it t, sc, cf, e => (match e with
    | .ListComp x [⟨tx, ix, ifs, asy⟩] scope _ => decide (asy = 0) && !isSet ix && ckI it sc cf ix && tgI it tx && blkC N sc scope own && ckG N (relS scope sc) (cfB scope) tg tx && (tsG tg).all (fun j => (own.map (·.2)).contains j) &&
      ckTs t (relS scope sc) (cfB scope) ifs && esc elt && ck elt (relS scope sc) (cfB scope) x
    | _ => false)
  | .repT a b, sc, cf, e => (match e with
    | .BinOp x o y _ => decide (Operator.Mult = o) && ck a sc cf x && ck b sc cf y
    | _ => false)
  | .repL a b, sc, cf, e => (match e with
    | .BinOp x o y _ => decide (Operator.Mult = o) && frs a && ck a sc cf x && ck b sc cf y
    | _ => false)
  | .lstR a, sc, cf, e => (match e with
    | .Call (.Name x _) [.Call (.Name y _) [z] [] _] [] _ => decide (x = ("list" : Str)) && decide (y = ("range" : Str)) && glB sc x && glB sc y && !isStar z && ck a sc cf z
    | _ => false)
  | .tupR a, sc, cf, e => (match e with
    | .Call (.Name x _) [.Call (.Name y _) [z] [] _] [] _ => decide (x = ("tuple" : Str)) && decide (y = ("range" : Str)) && glB sc x && glB sc y && !isStar z && ck a sc cf z
    | _ => false)
  | .dsp ks l c, sc, cf, e => (match e with
    | .Subscript (.Dict keys values _) i _ => plainIx i && ndK ks && decide (ks.length ≤ 15) && !ks.isEmpty && decide (llen l = ks.length) && keysB ks keys && ckL l sc cf true values && ck c sc cf i
    | _ => false)
  | .cget k c, sc, cf, e => (match e with
    | .Subscript (.Name x _) i _ => plainIx i && glB sc x && (match g.gl.lookup k with | some p => decide (p.1 = x) && isDik p.2 | none => false) && ck c sc cf i
    | _ => false)
  | .idx a b, sc, cf, e => (match e with
    | .Call (.Attribute x m ap) [y] [] cp => decide (m = ("index" : Str)) && nameOk x && !isStar y && (ap.endLine == cp.line) && ck a sc cf x && ck b sc cf y
    | _ => false)
  | .sorted l, sc, cf, e => (match e with
    | .Call (.Name x _) (y :: es) [] _ => decide (x = ("sorted" : Str)) && glB sc x && ckL l sc cf false (y :: es)
    | _ => false)
  | .comp2 elt own own1 tg it t tg1 it1 t1, sc, cf, e => (match e with
    | .ListComp x [⟨tx, ix, ifs, asy⟩, ⟨tx1, ix1, ifs1, asy1⟩] scope _ => decide (asy = 0) && decide (asy1 = 0) && !isSet ix && !isSet ix1 && ckI it sc cf ix && tgI it tx && blkC N sc scope own && (own1.all fun j => (own.map (·.2)).contains j) && ckG N (relS scope sc) (cfB scope) tg tx && (tsG tg).all (fun j => (own.map (·.2)).contains j) &&
      ckG N (relS scope sc) (cfB scope) tg1 tx1 && (tsG tg1).all (fun j => own1.contains j) && ckTs t (relS scope sc) (cfB scope) ifs && ckI it1 (relS scope sc) (cfB scope) ix1 && tgI it1 tx1 && ckTs t1 (relS scope sc) (cfB scope) ifs1 && esc elt && ck elt (relS scope sc) (cfB scope) x
    | _ => false)
  | .badE, sc, cf, e => true
def ckO : Op → Scope → (Str → Bool) → Option Expr → Bool
  | .none, sc, cf, e => e.isNone
  | .some c, sc, cf, e => (match e with | some x => esc c && ck c sc cf x | none => false)
def ckT : T → Scope → (Str → Bool) → Expr → Bool
  | .tru c, sc, cf, e => plainT e && ck c sc cf e
  | .cmp op a b, sc, cf, e => (match e with
    | .Compare x [o] [y] _ => decide (op = o) && !behindInMarks op y && ck a sc cf x && ck b sc cf y
    | _ => false)
  | .not t, sc, cf, e => (match e with
    | .UnaryOp o x _ => decide (UnaryOp.Not = o) && ckT t sc cf x
    | _ => false)
  | .and a b, sc, cf, e => (match e with
    | .BoolOp o (x :: y :: r) p => decide (BoolOp.And = o) && ckT a sc cf x && ckT b sc cf (.BoolOp .And (y :: r) p)
    | _ => false)
  | .or a b, sc, cf, e => (match e with
    | .BoolOp o (x :: y :: r) p => decide (BoolOp.Or = o) && ckT a sc cf x && ckT b sc cf (.BoolOp .Or (y :: r) p)
    | _ => false)
  | .one t, sc, cf, e => (match e with
    | .BoolOp o [x] _ => ckT t sc cf x
    | _ => false)
  | .chain op op' a b c, sc, cf, e => (match e with
    | .Compare x [o, o'] [y, z] _ => decide (op = o) && decide (op' = o') && !lastMarks [op, op'] [y, z] && ck a sc cf x && ck b sc cf y && ck c sc cf z
    | _ => false)
def ckTs : Ts → Scope → (Str → Bool) → List Expr → Bool
  | .nil, sc, cf, es => es.isEmpty
  | .one t, sc, cf, es => (match es with | [x] => ckT t sc cf x | _ => false)
/-- vl: the values must not be borrowed -/
def ckL : L → Scope → (Str → Bool) → Bool → List Expr → Bool
  | .nil, sc, cf, vl, es => es.isEmpty
  | .cons c l, sc, cf, vl, es => (match es with
    | x :: es => !isStar x && (!vl || esc c) && ck c sc cf x && ckL l sc cf vl es
    | [] => false)
def ckA : A → Scope → (Str → Bool) → List Expr → Bool
  | .nil, sc, cf, es => es.isEmpty
  | .val c l, sc, cf, es => (match es with
    | x :: es => !isStar x && esc c && ck c sc cf x && ckA l sc cf es
    | [] => false)
  | .bor i l, sc, cf, es => (match es with
    | .Name x _ :: es => nmB N sc i x && ckA l sc cf es
    | _ => false)
def ckI : I → Scope → (Str → Bool) → Expr → Bool
  | .expr c, sc, cf, e => esc c && ck c sc cf e
  | .name i, sc, cf, e => (match e with | .Name x _ => nmB N sc i x | _ => false)
  | .rng1 a, sc, cf, e => (match e with
    | .Call (.Name x _) [y] [] _ => decide (x = ("range" : Str)) && glB sc x && !isStar y && ck a sc cf y
    | _ => false)
  | .rng2 a b, sc, cf, e => (match e with
    | .Call (.Name x _) [y, z] [] _ => decide (x = ("range" : Str)) && glB sc x && !isStar y && !isStar z && ck a sc cf y && ck b sc cf z
    | _ => false)
  | .rng3 a b c, sc, cf, e => (match e with
    | .Call (.Name x _) [y, z, w] [] _ => decide (x = ("range" : Str)) && glB sc x && !isStar y && !isStar z && !isStar w && ck a sc cf y && ck b sc cf z && ck c sc cf w
    | _ => false)
  | .enum c, sc, cf, e => (match e with
    | .Call (.Name x _) [y] [] _ => decide (x = ("enumerate" : Str)) && glB sc x && !isStar y && esc c && ck c sc cf y
    | _ => false)
  | .enumN i, sc, cf, e => (match e with
    | .Call (.Name x _) [.Name y _] [] _ => decide (x = ("enumerate" : Str)) && glB sc x && nmB N sc i y
    | _ => false)
  | .zip a b, sc, cf, e => (match e with
    | .Call (.Name x _) [y, z] [] _ => decide (x = ("zip" : Str)) && glB sc x && !isStar y && !isStar z && esc a && esc b && ck a sc cf y && ck b sc cf z
    | _ => false)
end
mutual
def ckS : S → Scope → (Str → Bool) → Stmt → Bool
  | .pass, sc, cf, s => (match s with | .Pass _ => true | _ => false)
  | .brk, sc, cf, s => (match s with | .Break _ => true | _ => false)
  | .cont, sc, cf, s => (match s with | .Continue _ => true | _ => false)
  | .ret c, sc, cf, s => (match s with | .Return (some e) _ => esc c && ck g N c sc cf e | _ => false)
  | .retN, sc, cf, s => (match s with | .Return none _ => true | _ => false)
  | .expr c, sc, cf, s => (match s with | .Expr e _ => !isComp e && esc c && ck g N c sc cf e | _ => false)
  | .asg tg c, sc, cf, s => (match s with
    | .Assign [t] e _ => !isComp e && !(isTupE t && isTupE e) && !isStar t && ckG N sc cf tg t && esc c && ck g N c sc cf e
    | _ => false)
  | .own i c, sc, cf, s => (match s with
    | .Assign [.Name x _] e _ => swapE sc x e && decide (N[i]? = some x) && tgB sc cf x && frs c && ck g N c sc cf e
    | _ => false)
  | .ownLc i elt own tg it t, sc, cf, s => (match s with
    | .Assign [.Name y py] (.ListComp x [⟨tx, ix, ifs, asy⟩] scope pos) _ => decide (N[i]? = some y) && decide (sc.kind = .function) && decide (sc.names.lookup y = some .local) && (py.line == pos.line) && !(scope.names.any fun (n, k) => n == y && (k == .local || k == .cell)) &&
      (decide (asy = 0) && !isSet ix && ckI g N it sc cf ix && tgI it tx && blkC N sc scope own && ckG N (relS scope sc) (cfB scope) tg tx && (tsG tg).all (fun j => (own.map (·.2)).contains j) &&
      ckTs g N t (relS scope sc) (cfB scope) ifs && esc elt && ck g N elt (relS scope sc) (cfB scope) x)
    | _ => false)
  | .ownLc2 i elt own own1 tg it t tg1 it1 t1, sc, cf, s => (match s with
    | .Assign [.Name y py] (.ListComp x [⟨tx, ix, ifs, asy⟩, ⟨tx1, ix1, ifs1, asy1⟩] scope pos) _ => decide (N[i]? = some y) && decide (sc.kind = .function) && decide (sc.names.lookup y = some .local) && (py.line == pos.line) && !(scope.names.any fun (n, k) => n == y && (k == .local || k == .cell)) &&
      (decide (asy = 0) && decide (asy1 = 0) && !isSet ix && !isSet ix1 && ckI g N it sc cf ix && tgI it tx && blkC N sc scope own && (own1.all fun j => (own.map (·.2)).contains j) && ckG N (relS scope sc) (cfB scope) tg tx && (tsG tg).all (fun j => (own.map (·.2)).contains j) &&
      ckG N (relS scope sc) (cfB scope) tg1 tx1 && (tsG tg1).all (fun j => own1.contains j) && ckTs g N t (relS scope sc) (cfB scope) ifs && ckI g N it1 (relS scope sc) (cfB scope) ix1 && tgI it1 tx1 && ckTs g N t1 (relS scope sc) (cfB scope) ifs1 && esc elt && ck g N elt (relS scope sc) (cfB scope) x)
    | _ => false)
  | .app i c, sc, cf, s => (match s with
    | .Expr (.Call (.Attribute (.Name x _) m ap) [e] [] cp) _ => decide (m = ("append" : Str)) && nmB N sc i x && !isStar e && (ap.endLine == cp.line) && esc c && ck g N c sc cf e
    | _ => false)
  | .ext i c, sc, cf, s => (match s with
    | .Expr (.Call (.Attribute (.Name x _) m ap) [e] [] cp) _ => decide (m = ("extend" : Str)) && nmB N sc i x && !isStar e && (ap.endLine == cp.line) && ck g N c sc cf e
    | _ => false)
  | .set i j c, sc, cf, s => (match s with
    | .Assign [.Subscript (.Name x _) y _] e _ => nmB N sc i x && !isComp e && plainIx y && ck g N j sc cf y && esc j && esc c && ck g N c sc cf e
    | _ => false)
  | .put i j c, sc, cf, s => (match s with
    | .Assign [.Subscript (.Name x _) y _] e _ => nmB N sc i x && !isComp e && plainIx y && ck g N j sc cf y && esc j && esc c && ck g N c sc cf e
    | _ => false)
  | .putI i j c, sc, cf, s => (match s with
    | .Assign [.Subscript (.Name x _) y _] e _ => nmB N sc i x && !isComp e && plainIx y && ck g N j sc cf y && esc j && esc c && ck g N c sc cf e
    | _ => false)
  | .ownDc i k kx vx own tg it t, sc, cf, s => (match s with
    | .Assign [.Name y py] (.DictComp x z [⟨tx, ix, ifs, asy⟩] scope pos) _ => decide (N[i]? = some y) && decide (sc.kind = .function) && decide (sc.names.lookup y = some .local) && (py.line == pos.line) && !(scope.names.any fun (n, k) => n == y && (k == .local || k == .cell)) &&
      (decide (asy = 0) && !isSet ix && ckI g N it sc cf ix && tgI it tx && blkC N sc scope own && ckG N (relS scope sc) (cfB scope) tg tx && (tsG tg).all (fun j => (own.map (·.2)).contains j) &&
      ckTs g N t (relS scope sc) (cfB scope) ifs && esc kx && ck g N kx (relS scope sc) (cfB scope) x && esc vx && ck g N vx (relS scope sc) (cfB scope) z)
    | _ => false)
  | .setO i j c, sc, cf, s => (match s with
    | .Assign [.Subscript (.Name x _) y _] e _ => nmB N sc i x && !isComp e && plainIx y && ck g N j sc cf y && esc j && esc c && ck g N c sc cf e
    | _ => false)
  | .if_ t a b, sc, cf, s => (match s with
    | .If c x y _ => ckT g N t sc cf c && ckSs a sc cf x && ckSs b sc cf y
    | _ => false)
  | .while_ t b, sc, cf, s => (match s with
    | .While c x [] _ => ckT g N t sc cf c && ckSs b sc cf x
    | _ => false)
  | .for_ tg it b, sc, cf, s => (match s with
    | .For tx ix x [] _ => !isSet ix && ckG N sc cf tg tx && ckI g N it sc cf ix && tgI it tx && ckSs b sc cf x
    | _ => false)
  | .never, sc, cf, s => true
  | .raise_ c l, sc, cf, s => (match s with
    | .Raise (some (.Call (.Name x _) (y :: es) [] _)) none _ => glB sc x && (match g.cs.lookup c with | some e => decide (e.nm = x) && decide (llen l = e.fl.length) && !e.fl.isEmpty | none => false) && ckL g N l sc cf true (y :: es)
    | _ => false)
  | .try_ b k i l h, sc, cf, s => (match s with
    | .Try body [.ExceptHandler (some (.Name x _)) nm suite _] [] [] _ => glB sc x && asOk N sc nm i && nmC g.cs k x && (g.cs.all fun p => l.contains p.1 == subC g.cs p.1 k) && ckHB g.cs N sc i h suite && ckSs b sc cf body
    | _ => false)
  | .tryM b cl, sc, cf, s => (match s with
    | .Try body hs [] [] _ => !cl.isEmpty && ckHn g.cs N sc cl hs && ckSs b sc cf body
    | _ => false)
def ckSs : Ss → Scope → (Str → Bool) → List Stmt → Bool
  | .nil, sc, cf, ss => ss.isEmpty
  | .cons s l, sc, cf, ss => (match ss with
    | x :: ss => ckS s sc cf x && ckSs l sc cf ss
    | [] => false)
end
end
end Mi

namespace Mi
open PySem PySem.Spec PyProof.Rows L2

/-- the built-in names that the program does not bind -/
def frees : List Str := ["len", "abs", "int", "max", "min", "all", "any", "sum", "tuple", "list", "isinstance", "bool", "str", "range", "sorted", "enumerate", "zip", "set", "dict", "ValueError", "min"]
structure Dy (G : Cg) (g : Gs) (E : Ev) (N : List Str) (sc : Scope) (cf : Str → Bool) (W : WX) (X : Cx) : Prop where
  hK : X.K = G.K
  hP : X.prog = G.P
  hw : X.w = G.w
  hN : X.N = N
  nd : N.Nodup
  sc : X.env.scope = sc
  fn : X.fn = cf
  calm : X.calm = true
  un : X.A.units + 66 < cLine
  tk : Takes X W
  free : ∀ x ∈ frees, X.mg x = none
  gl : E.gl = g.gl ∧ (∀ (k : Nat) (p : Str × D), g.gl.lookup k = some p → isDik p.2 = false → ∃ v u, X.mg p.1 = some u ∧ RelV v u ∧ ∀ H N sh, G.rv H N sh p.2 v) ∧ ∀ (k : Nat) (p : Str × D), g.gl.lookup k = some p → isDik p.2 = true → ∃ a, X.mg p.1 = some (.ref a) ∧ DikSays G p.2 a
  fns : ∀ (i : Nat) (x : Str) (n : Nat), g.fns.lookup i = some (x, n) → ∃ (f : Addr) (fd : FuncData) (ps : List Str) (k : Nat),
    FnOk X.prog X.w X.K X.mg X.base (CX X.prog X.w) k f fd ps (spF G (E.fn i) n) ∧ Room k X.A ∧ X.mg x = some (.ref f) ∧ PySem.W.keepIn X.K (.ref f) = true ∧ Binds X.K fd ps []
  ec : EcOk G X.mg g.cs
  ini : ∀ (c : Nat) (e : Ec) (C : Addr), g.cs.lookup c = some e → e.fl.isEmpty = false → G.cl c = some C → ∃ (fI : Addr) (fd : FuncData) (ps : List Str) (k : Nat), PySem.W.findIn X.K (.ref C) "__init__" = some (some (.ref fI)) ∧ PySem.W.typeIn X.K (.ref fI) = some (.type "function") ∧
    FnOk X.prog X.w X.K X.mg X.base (CX X.prog X.w) k fI fd ps (spInit X.K C e.fl) ∧ (isOk (E.fn 1000000 [] []) = true → Room (k + 1) X.A) ∧ Binds X.K fd ps []
section
variable {G : Cg} {g : Gs} {E : Ev} {N : List Str} {sc : Scope} {cf : Str → Bool} {W : WX} {X : Cx}
theorem Dy.blk (d : Dy G g E N sc cf W X) (s : Shared) (H : Hp) (scope : Scope) (C : Addr) (cl : List (Str × Addr)) (fp : List Addr) :
    Dy G g E N (relS scope sc) (cfB scope) W0 (X.blk s H scope (compEnvC scope cl C X.env) fp) where
  hK := d.hK
  hP := d.hP
  hw := d.hw
  hN := d.hN
  nd := d.nd
  sc := by rw [← d.sc]; rfl
  fn := rfl
  calm := d.calm
  un := d.un
  tk := fun u s' ⟨a, B, sI, pins, σ, H, cls, dx, e, I, h1, h2, h3, h4, h5, h6, w⟩ => w.elim
  free := d.free
  gl := d.gl
  fns := d.fns
  ec := d.ec
  ini := d.ini
theorem Dy.tr (d : Dy G g E N sc cf W X) {W' : WX} {pn : List (Addr × Obj)} {xe : Value → Shared → Prop} (tk : Takes (X.tr pn xe) W') : Dy G g E N sc cf W' (X.tr pn xe) where
  hK := d.hK
  hP := d.hP
  hw := d.hw
  hN := d.hN
  nd := d.nd
  sc := d.sc
  fn := d.fn
  calm := d.calm
  un := d.un
  tk := tk
  free := d.free
  gl := d.gl
  fns := d.fns
  ec := d.ec
  ini := d.ini
theorem Dy.nm (d : Dy G g E N sc cf W X) {i : Nat} {x : Str} (h : nmB N sc i x = true) : X.N[i]? = some x ∧ Vis X.env.scope x ∧ (x == ("__debug__" : Str)) = false ∧ (x == ("__classdict__" : Str)) = false := by
  unfold nmB at h
  simp only [Bool.and_eq_true, decide_eq_true_eq, Bool.not_eq_true'] at h
  obtain ⟨⟨⟨h1, h2⟩, h3⟩, h4⟩ := h
  refine ⟨d.hN ▸ h1, ?_, h3, h4⟩
  rw [d.sc]
  split at h2
  · exact .inl (by assumption)
  · exact .inr (.inl (by assumption))
  · exact .inr (.inr (by assumption))
  · cases h2
theorem Dy.glo (d : Dy G g E N sc cf W X) {x : Str} (h : glB sc x = true) : Gl X x ∧ (x == ("__debug__" : Str)) = false := by
  unfold glB at h
  simp only [Bool.and_eq_true, decide_eq_true_eq, Bool.not_eq_true'] at h
  refine ⟨?_, h.2⟩
  unfold Gl Env.kindOf
  rw [d.sc]; exact h.1
theorem Dy.tg (d : Dy G g E N sc cf W X) {x : Str} (h : tgB sc cf x = true) : Loc X.env.scope x ∧ (X.fn x = true ∨ X.env.scope.names.lookup x = some .local) := by
  unfold tgB at h
  rw [d.sc, d.fn]
  split at h
  · exact ⟨.inl (by assumption), .inr (by assumption)⟩
  · exact ⟨.inr (by assumption), .inl h⟩
  · cases h

/-! ### syntax -/
theorem noswap {e : Expr} {t : Option Expr} {l : Nat} {env : PySem.Env} (h : isComp e = false) : swapsWith e t l env = pure false := by
  cases e <;> first | rfl | cases h
theorem noswapN {e : Expr} {x : Str} {xp : Pos} {l : Nat} {env : PySem.Env} (h : swapE env.scope x e = true) : swapsWith e (some (.Name x xp)) l env = pure false := by
  unfold swapE at h
  rw [Bool.or_eq_true] at h
  rcases h with h | h
  · exact noswap (by simpa using h)
  · have k : env.kindOf x = some .cell := of_decide_eq_true h
    have k2 : (some NameKind.cell == some NameKind.local) = false := by decide
    cases e <;> first
      | rfl
      | (unfold swapsWith; simp only [k, k2, Bool.and_false, Bool.false_and] <;> rfl)
theorem noswapS {e t : Expr} {l : Nat} {env : PySem.Env} (h : isComp e = false) : swapsWithSole [t] e l env = pure false := noswap h
theorem nostores {e t : Expr} {env : PySem.Env} (h : (isTupE t && isTupE e) = false) : swappedStores [t] e env = pure none := by
  cases t <;> first | rfl | (cases e <;> first | rfl | cases h)
theorem asg1 {t : Expr} {env : PySem.Env} (h : isStar t = false) : (assignEach [t] env).map (·.2) = [assign t env] := by
  cases t <;> first | rfl | cases h
theorem asg2 {t : Expr} {ts : List Expr} {env : PySem.Env} (h : isStar t = false) : assignEach (t :: ts) env = (false, assign t env) :: assignEach ts env := by
  cases t <;> first | rfl | cases h
theorem noset {e : Expr} {env : PySem.Env} (h : isSet e = false) : ∀ x, foldedSetIterable e env x = pure x := by
  intro x
  cases e <;> first | rfl | cases h
theorem plain_ix {e : Expr} (h : plainIx e = true) : PlainIx e := by
  intro o i
  cases e <;> first | rfl | cases h
theorem plain_t {e : Expr} {env : PySem.Env} (h : plainT e = true) : ∀ whole, isTrue e env whole = (do let v ← whole; standAt e.pos; holding [v] (truthy v)) := by
  intro w
  cases e with
  | UnaryOp o _ _ => cases o <;> first | rfl | cases h
  | _ => first | rfl | cases h
theorem nobt {pos : Pos} {env : PySem.Env} : ∀ {es : List Expr}, es.all (fun e => !isStar e) = true → (backTo pos (starEach es env)).any (·.1) = false
  | [], _ => rfl
  | e :: es, h => by
    simp only [List.all_cons, Bool.and_eq_true, Bool.not_eq_true'] at h
    rw [star_of h.1]
    unfold backTo
    simp only [List.map_cons, List.any_cons, Bool.false_or]
    exact nobt (env := env) h.2

/-! ### targets -/
mutual
def gT (K : PySem.W.Frag) : Tg → TG
  | .name i => gName i
  | .tup l => gTup K (evGs l).length (gTs K l)
def gTs (K : PySem.W.Frag) : Tgs → TGs
  | .nil => gNil
  | .cons t l => gCons (gT K t) (gTs K l)
end
def TgsRd (G : Cg) (t : TGs) (ts : List Nat) (gs : List (D → AE → R Unit)) : Prop := ∀ (l : List D) (vs : List V) (sh : List Addr) (N : Addr → Prop) (ρ : AE) (σ : Sg) (H : Hp) (Q : Sg → Hp → Prop), G.rp sh N ρ σ H → G.rvs H N sh l vs →
  (match gSets gs l ρ with
    | .ok _ ρ' => ∀ σ', G.rp sh N ρ' σ' H → Kp none1 (OwnS ρ σ) (OwnS ρ' σ') sh sh N N H H → OutS ts σ σ' → Q σ' H
    | _ => False) → t vs σ H Q
theorem gSets_len : ∀ (gs : List (D → AE → R Unit)) (ds : List D) (ρ : AE) (Z : AE → Prop), (match gSets gs ds ρ with | .ok _ ρ' => Z ρ' | _ => False) → ds.length = gs.length := by
  intro gs
  induction gs with
  | nil => intro ds ρ Z z; cases ds with
    | nil => rfl
    | cons _ _ => exact z.elim
  | cons g gs ih => intro ds ρ Z z; cases ds with
    | nil => exact z.elim
    | cons d ds =>
      have z' : (match (g d ρ).bind fun _ ρ1 => gSets gs ds ρ1 with | .ok _ ρ' => Z ρ' | _ => False) := z
      revert z'
      cases g d ρ with
      | ok x ρ1 => intro z'; simp [ih ds ρ1 Z z']
      | exc _ _ _ => exact fun z => z.elim
      | bad => exact fun z => z.elim
mutual
theorem rdG : ∀ t : Tg, TgRd G (gT G.K t) (tsG t) (evG t)
  | .name i => by
    intro d v sh N ρ σ H Q rp hv q
    simp only [evG, gSet] at q
    cases hb : isBor ρ i with
    | true => rw [hb] at q; exact q.elim
    | false => rw [hb] at q; exact q _ (rp.setval hv) (.setval hb) ⟨List.length_set, fun j h => getV (by simpa [tsG] using h)⟩
  | .tup l => by
    intro d v sh N ρ σ H Q rp hv qq
    simp only [evG] at qq
    cases d with
    | tup ds =>
      obtain ⟨a, vs, rfl, ht, hr⟩ := rb_tup (.inl hv)
      refine ⟨a, vs, rfl, ht.sq, ?_, rdGs l ds vs sh N ρ σ H Q rp hr qq⟩
      rw [← RVs.length hr]
      exact gSets_len _ ds ρ _ qq
    | _ => exact qq.elim
theorem rdGs : ∀ l : Tgs, TgsRd G (gTs G.K l) (tsGs l) (evGs l)
  | .nil => fun l vs sh N ρ σ H Q rp hr q => by
    cases l with
    | nil => rw [RVs.nil_iff.mp hr]; exact ⟨rfl, q σ rp .refl .refl⟩
    | cons d l => exact q.elim
  | .cons t l => fun ds vs sh N ρ σ H Q rp hr q => by
    cases ds with
    | nil => exact q.elim
    | cons d ds =>
      obtain ⟨v, r, rfl, hv, hr⟩ := RVs.inv hr
      refine ⟨v, r, rfl, rdG t d v sh N ρ σ H _ rp hv ?_⟩
      have q' : (match (evG t d ρ).bind fun _ ρ1 => gSets (evGs l) ds ρ1 with
        | .ok _ ρ' => ∀ σ', G.rp sh N ρ' σ' H → Kp none1 (OwnS ρ σ) (OwnS ρ' σ') sh sh N N H H → OutS (tsG t ++ tsGs l) σ σ' → Q σ' H
        | _ => False) := q
      revert q'
      cases evG t d ρ with
      | ok x ρ1 =>
        intro q' σ1 rp1 k1 o1
        refine rdGs l ds r sh N ρ1 σ1 H Q rp1 hr ?_
        have q'' : (match gSets (evGs l) ds ρ1 with
          | .ok _ ρ' => ∀ σ', G.rp sh N ρ' σ' H → Kp none1 (OwnS ρ σ) (OwnS ρ' σ') sh sh N N H H → OutS (tsG t ++ tsGs l) σ σ' → Q σ' H
          | _ => False) := q'
        revert q''
        cases gSets (evGs l) ds ρ1 with
        | ok x ρ2 => exact fun q'' σ2 rp2 k2 o2 => q'' σ2 rp2 (k1.trans k2) (o1.trans o2)
        | exc _ _ _ => exact fun z => z
        | bad => exact fun z => z
      | exc _ _ _ => exact fun z => z
      | bad => exact fun z => z
end
mutual
theorem pgG (d : Dy G g E N sc cf W X) : ∀ (t : Tg) (e : Expr), ckG N sc cf t e = true → PG X e (gT X.K t)
  | .name i, e, h => by
    simp only [ckG] at h
    split at h
    · simp only [Bool.and_eq_true, decide_eq_true_eq] at h
      obtain ⟨h1, h2⟩ := d.tg h.2
      exact pg_name (d.hN ▸ d.nd) (d.hN ▸ h.1) h1 h2
    · cases h
  | .tup l, e, h => by
    simp only [ckG] at h
    split at h
    · obtain ⟨p, q1, q2⟩ := pgGs d l _ h
      exact pg_tup d.calm p q1 q2
    · cases h
theorem pgGs (d : Dy G g E N sc cf W X) : ∀ (t : Tgs) (es : List Expr), ckGs N sc cf t es = true → PGs X es (gTs X.K t) ∧ (assignEach es X.env).length = (evGs t).length ∧ (assignEach es X.env).findIdx? (·.1) = none
  | .nil, es, h => by
    simp only [ckGs] at h
    cases es with
    | nil => exact ⟨pgs_nil, rfl, rfl⟩
    | cons _ _ => cases h
  | .cons t l, es, h => by
    simp only [ckGs] at h
    split at h
    · rename_i e es
      simp only [Bool.and_eq_true, Bool.not_eq_true'] at h
      obtain ⟨⟨h0, h1⟩, h2⟩ := h
      have p1 := pgG d t _ h1
      obtain ⟨p2, l2, n2⟩ := pgGs d l _ h2
      exact ⟨pgs_cons p1 p2 (by rw [asg2 h0]; rfl), by rw [asg2 h0]; simp [l2, evGs], by rw [asg2 h0]; simp [List.findIdx?_cons, n2]⟩
    · cases h
end
theorem tgOk (d : Dy G g E N sc cf W X) {t : Tg} {e : Expr} (h : ckG N sc cf t e = true) : TgOk X G W e (tsG t) (evG t) := ⟨gT X.K t, pgG d t e h, by rw [d.hK]; exact rdG t⟩
theorem tgAll (d : Dy G g E N sc cf W X) {scope : Scope} {t : Tg} {e : Expr} (h : ckG N (relS scope sc) (cfB scope) t e = true) : TgAll X G scope e (tsG t) (evG t) :=
  ⟨gT G.K t, rdG t, fun s H C cl fp => by have := pgG (d.blk s H scope C cl fp) t e h; rw [show (X.blk s H scope (compEnvC scope cl C X.env) fp).K = G.K from d.hK] at this; exact this⟩

/-! ### built-ins, operators -/
theorem Dy.op (d : Dy G g E N sc cf W X) {op : Operator} (h : binB op = true) : OpR X (binaryOp op) (rA2 G (binD op)) := by
  cases op <;> first | exact oA_add d.hK | exact oA_sub | exact oA_mul | exact oA_fdiv | exact oA_mod | exact oA_pow | exact oA_shl | exact oA_band | cases h
theorem Dy.cmp (d : Dy G g E N sc cf W X) (op : CmpOp) : OpR X (compareOp op) (rA2 G (cmpD op)) := by
  cases op
  · exact oA_eq d.hK d.un
  · exact oA_ne d.hK d.un
  · exact oA_lt
  · exact oA_le
  · exact oA_gt
  · exact oA_ge
  · exact oA_is
  · exact oA_isNot
  · exact oA_in d.hK d.hP d.hw d.un
  · exact oA_notIn d.hK d.hP d.hw d.un
theorem Dy.bf (d : Dy G g E N sc cf W X) (f : Bf) {e : Expr} {es : List Expr} {p pos : Pos} {r : AE → R (List D)} (hg : Gl X f.nm) (ha : PA X (e :: es) (tEv G W G.rbs r)) (hs : isStar e = false) (hpl : (backTo pos (starEach es X.env)).any (·.1) = false) :
    PE X (.Call (.Name f.nm p) (e :: es) [] pos) (tEv G W G.rv (rOpn f.f r)) := by
  cases f
  · exact PE.imp (pe_callB (cA_len d.hK d.hP d.hw) hg (d.free _ (by decide +kernel)) (by decide +kernel) ha (by decide) (by decide) (star_of hs) hpl) fun _ _ _ => readn
  · exact PE.imp (pe_callB cA_abs hg (d.free _ (by decide +kernel)) (by decide +kernel) ha (by decide) (by decide) (star_of hs) hpl) fun _ _ _ => readn
  · exact PE.imp (pe_callTy cA_int hg (d.free _ (by decide +kernel)) (by decide +kernel) ha (by decide) (by decide) (star_of hs) hpl) fun _ _ _ => readn
  · exact PE.imp (pe_callB (cA_max2 d.calm) hg (d.free _ (by decide +kernel)) (by decide +kernel) ha (by decide) (by decide) (star_of hs) hpl) fun _ _ _ => readn
  · exact PE.imp (pe_callB (cA_min2 d.calm) hg (d.free _ (by decide +kernel)) (by decide +kernel) ha (by decide) (by decide) (star_of hs) hpl) fun _ _ _ => readn
  · exact PE.imp (pe_callB (cA_all d.calm) hg (d.free _ (by decide +kernel)) (by decide +kernel) ha (by decide) (by decide) (star_of hs) hpl) fun _ _ _ => readn
  · exact PE.imp (pe_callB (cA_any d.calm) hg (d.free _ (by decide +kernel)) (by decide +kernel) ha (by decide) (by decide) (star_of hs) hpl) fun _ _ _ => readn
  · exact PE.imp (pe_callB (cA_sum d.calm) hg (d.free _ (by decide +kernel)) (by decide +kernel) ha (by decide) (by decide) (star_of hs) hpl) fun _ _ _ => readn
  · exact PE.imp (pe_callB (cA_max1 d.calm) hg (d.free _ (by decide +kernel)) (by decide +kernel) ha (by decide) (by decide) (star_of hs) hpl) fun _ _ _ => readn
  · exact PE.imp (pe_callTy (cA_tuple d.hK) hg (d.free _ (by decide +kernel)) (by decide +kernel) ha (by decide) (by decide) (star_of hs) hpl) fun _ _ _ => readn
  · exact PE.imp (pe_callB (cA_minT d.hK d.un d.calm) hg (d.free _ (by decide +kernel)) (by decide +kernel) ha (by decide) (by decide) (star_of hs) hpl) fun _ _ _ => readn
theorem Dy.sorted (d : Dy G g E N sc cf W X) {e : Expr} {es : List Expr} {p pos : Pos} {r : AE → R (List D)} (hg : Gl X ("sorted" : Str)) (ha : PA X (e :: es) (tEv G W G.rbs r)) (hs : isStar e = false) (hpl : (backTo pos (starEach es X.env)).any (·.1) = false) :
    PE X (.Call (.Name ("sorted" : Str) p) (e :: es) [] pos) (tEvF G W (rOpn dSorted r)) :=
  PE.imp (pe_callB (cF_sorted d.hK d.un d.calm) hg (d.free _ (by decide +kernel)) (by decide +kernel) ha (by decide) (by decide) (star_of hs) hpl) fun _ _ _ => readFn
theorem Dy.list (d : Dy G g E N sc cf W X) {e : Expr} {es : List Expr} {p pos : Pos} {r : AE → R (List D)} (hg : Gl X ("list" : Str)) (ha : PA X (e :: es) (tEv G W G.rbs r)) (hs : isStar e = false) (hpl : (backTo pos (starEach es X.env)).any (·.1) = false) :
    PE X (.Call (.Name ("list" : Str) p) (e :: es) [] pos) (tEvF G W (rOpn dList r)) :=
  PE.imp (pe_callTy (cF_list d.hK d.calm) hg (d.free _ (by decide +kernel)) (by decide +kernel) ha (by decide) (by decide) (star_of hs) hpl) fun _ _ _ => readFn
theorem Dy.dict (d : Dy G g E N sc cf W X) {e : Expr} {es : List Expr} {p pos : Pos} {r : AE → R (List D)} (hg : Gl X ("dict" : Str)) (ha : PA X (e :: es) (tEv G W G.rbs r)) (hs : isStar e = false) (hpl : (backTo pos (starEach es X.env)).any (·.1) = false) :
    PE X (.Call (.Name ("dict" : Str) p) (e :: es) [] pos) (tEvF G W (rOpn dDict r)) :=
  PE.imp (pe_callTy (cF_dict d.hK d.hP d.hw d.un) hg (d.free _ (by decide +kernel)) (by decide +kernel) ha (by decide) (by decide) (star_of hs) hpl) fun _ _ _ => readFn
theorem Dy.putOk (d : Dy G g E N sc cf W X) (k : Bool) : ∃ rS o0, PutOk G rS o0 (d0B k) (putB k) ∧ (∀ scope, InB X scope fun B => DSet B rS) ∧ ∀ (H : Hp) (h : Heap), sysModules < h.objs.size → ObjOk X.prog X.w H (h.push { cls := .type "dict", data := .dict #[] }) h.objs.size (o0 h.objs.size) := by
  cases k with
  | true => exact ⟨rSetI, fun _ => .dK [], putOk_dik, fun scope s H C cl fp => dset_dik, fun H h hb => dk_empty h hb⟩
  | false => exact ⟨rSetT G, ditO, putOk_dit, fun scope s H C cl fp => dset_dit d.hK d.hP d.hw d.un, fun H h _ => new_dit H h⟩
theorem Dy.isi (d : Dy G g E N sc cf W X) (t : Ty) {e : Expr} {p p' pos : Pos} {r : AE → R D} (hg : Gl X ("isinstance" : Str)) (hgT : Gl X t.nm) (ha : PE X e (tEv G W G.rb r)) (hs : isStar e = false) :
    PE X (.Call (.Name ("isinstance" : Str) p) [e, .Name t.nm p'] [] pos) (tEv G W G.rv (rOp1 (dIsi t.s) r)) := by
  cases t
  · exact pe_isiA d.hK hg (d.free _ (by decide +kernel)) hgT (d.free _ (by decide +kernel)) (by decide +kernel) .int (by decide) (by decide) hs ha
  · exact pe_isiA d.hK hg (d.free _ (by decide +kernel)) hgT (d.free _ (by decide +kernel)) (by decide +kernel) .bool (by decide) (by decide) hs ha
  · exact pe_isiA d.hK hg (d.free _ (by decide +kernel)) hgT (d.free _ (by decide +kernel)) (by decide +kernel) .str (by decide) (by decide) hs ha
  · exact pe_isiA d.hK hg (d.free _ (by decide +kernel)) hgT (d.free _ (by decide +kernel)) (by decide +kernel) .tuple (by decide) (by decide) hs ha
  · exact pe_isiA d.hK hg (d.free _ (by decide +kernel)) hgT (d.free _ (by decide +kernel)) (by decide +kernel) .list (by decide) (by decide) hs ha
end
end Mi

namespace Mi
open PySem PySem.Spec PyProof.Rows L2
section
variable {G : Cg} {g : Gs} {E : Ev} {N : List Str}
theorem PE.b {X : Cx} {W : WX} {e : Expr} {r : AE → R D} (h : PE X e (tEv G W G.rv r)) : PE X e (tEv G W G.rb r) := PE.imp h fun _ _ _ t => tEv.weak (fun _ _ _ _ _ z => .inl z) t
theorem PE.f {X : Cx} {W : WX} {e : Expr} {r : AE → R D} (h : PE X e (tEvF G W r)) : PE X e (tEv G W G.rv r) := PE.imp h fun _ _ _ => tEvF.v
/-- what the check of an expression gives -/
structure Snd (G : Cg) (W : WX) (X : Cx) (e : Expr) (c : C) (r : AE → R D) : Prop where
  b : PE X e (tEv G W G.rb r)
  v : esc c = true → PE X e (tEv G W G.rv r)
  f : frs c = true → PE X e (tEvF G W r)
theorem Snd.ofV {X : Cx} {W : WX} {e : Expr} {c : C} {r : AE → R D} (h : PE X e (tEv G W G.rv r)) (q : frs c = false) : Snd G W X e c r := ⟨PE.b h, fun _ => h, fun z => by rw [q] at z; cases z⟩
theorem Snd.ofF {X : Cx} {W : WX} {e : Expr} {c : C} {r : AE → R D} (h : PE X e (tEvF G W r)) : Snd G W X e c r := ⟨PE.b (PE.f h), fun _ => PE.f h, fun _ => h⟩
theorem Bool.n {b : Bool} (h : (!b) = true) : b = false := by cases b <;> first | rfl | cases h
theorem band {a b : Bool} (h : (a && b) = true) : a = true ∧ b = true := by cases a <;> cases b <;> first | exact ⟨rfl, rfl⟩ | cases h
theorem dec {p : Prop} [Decidable p] (h : decide p = true) : p := of_decide_eq_true h
theorem okS_of {s : Str} (h1 : PyData.strOk s = true) (h2 : s.length ≤ 10000) : okS s := ⟨h1, Nat.le_trans h2 (by rw [sizeLine_eq]; decide)⟩
theorem lstar {l : L} {sc : Scope} {cf : Str → Bool} {vl : Bool} : ∀ {es : List Expr}, ckL g N l sc cf vl es = true → es.all (fun e => !isStar e) = true := by
  intro es
  match l, es with
  | .nil, [] => intro _; rfl
  | .nil, _ :: _ => intro h; simp [ckL] at h
  | .cons c l, [] => intro h; simp [ckL] at h
  | .cons c l, e :: es =>
    intro h
    simp only [ckL] at h
    obtain ⟨h, h4⟩ := band h
    obtain ⟨h, h3⟩ := band h
    obtain ⟨h1, h2⟩ := band h
    simp only [List.all_cons, h1, Bool.true_and]
    exact lstar h4
theorem astar {l : A} {sc : Scope} {cf : Str → Bool} : ∀ {es : List Expr}, ckA g N l sc cf es = true → es.all (fun e => !isStar e) = true ∧ es.length = mlen l := by
  intro es
  match l, es with
  | .nil, [] => intro _; exact ⟨rfl, rfl⟩
  | .nil, _ :: _ => intro h; simp [ckA] at h
  | .val c l, [] => intro h; simp [ckA] at h
  | .val c l, e :: es =>
    intro h
    simp only [ckA] at h
    obtain ⟨h, h4⟩ := band h
    obtain ⟨h, h3⟩ := band h
    obtain ⟨h1, h2⟩ := band h
    obtain ⟨i1, i2⟩ := astar h4
    simp only [List.all_cons, h1, Bool.true_and, List.length_cons, mlen, i2]
    exact ⟨i1, trivial⟩
  | .bor i l, [] => intro h; simp [ckA] at h
  | .bor i l, e :: es =>
    intro h
    simp only [ckA] at h
    split at h
    · rename_i heq
      cases heq
      obtain ⟨h1, h4⟩ := band h
      obtain ⟨i1, i2⟩ := astar h4
      simp only [List.all_cons, isStar, Bool.not_false, Bool.true_and, List.length_cons, mlen, i2]
      exact ⟨i1, trivial⟩
    · cases h
theorem evA_len : ∀ (l : A) (ρ : AE) (as : List Arg) (ρ1 : AE), evA E l ρ = .ok as ρ1 → as.length = mlen l
  | .nil, ρ, as, ρ1, h => by simp only [evA, rANil] at h; cases h; rfl
  | .val c l, ρ, as, ρ1, h => by
    simp only [evA, rAVal] at h
    cases q : ev E c ρ with
    | ok d ρ2 =>
      rw [q] at h
      have h' : ((evA E l ρ2).bind fun l ρ2 => R.ok (Arg.val d :: l) ρ2) = R.ok as ρ1 := h
      cases q2 : evA E l ρ2 with
      | ok as2 ρ3 =>
        rw [q2] at h'
        have h2 : R.ok (Arg.val d :: as2) ρ3 = R.ok as ρ1 := h'
        cases h2
        simp [mlen, evA_len l _ _ _ q2]
      | exc _ _ _ => rw [q2] at h'; cases h'
      | bad => rw [q2] at h'; cases h'
    | exc _ _ _ => rw [q] at h; cases h
    | bad => rw [q] at h; cases h
  | .bor i l, ρ, as, ρ1, h => by
    simp only [evA, rABor] at h
    split at h
    · cases q2 : evA E l ρ with
      | ok as2 ρ3 =>
        rw [q2] at h
        have h2 : R.ok (Arg.bor i :: as2) ρ3 = R.ok as ρ1 := h
        cases h2
        simp [mlen, evA_len l _ _ _ q2]
      | exc _ _ _ => rw [q2] at h; cases h
      | bad => rw [q2] at h; cases h
    · cases h
theorem ndK_ok : ∀ {l : List Str}, ndK l = true → l.Nodup
  | [], _ => List.nodup_nil
  | x :: l, h => by
    obtain ⟨h1, h2⟩ := band h
    rw [List.nodup_cons]
    exact ⟨by simpa using h1, ndK_ok h2⟩
theorem nameOk_base {o : Expr} {x : Str} {env : PySem.Env} (h : nameOk o = true) : attributeBase o x env (eval o env) = eval o env := by
  cases o with
  | Call f as kws p => cases as with
    | nil => cases h
    | cons a as => cases f <;> rfl
  | _ => first | rfl | cases h
theorem tup1_of {e : Expr} (h : tgI.isTup1 e = true) : ∃ a b p, e = .Tuple a b p := by
  cases e <;> first | exact ⟨_, _, _, rfl⟩ | cases h
theorem evL_len : ∀ (l : L) (ρ : AE) (as : List D) (ρ1 : AE), evL E l ρ = .ok as ρ1 → as.length = llen l
  | .nil, ρ, as, ρ1, h => by simp only [evL, rNil] at h; cases h; rfl
  | .cons c l, ρ, as, ρ1, h => by
    simp only [evL, rCons] at h
    cases q : ev E c ρ with
    | ok d ρ2 =>
      rw [q] at h
      have h' : ((evL E l ρ2).bind fun xs ρ2 => R.ok (d :: xs) ρ2) = R.ok as ρ1 := h
      cases q2 : evL E l ρ2 with
      | ok as2 ρ3 =>
        rw [q2] at h'
        have h2 : R.ok (d :: as2) ρ3 = R.ok as ρ1 := h'
        cases h2
        simp [llen, evL_len l _ _ _ q2]
      | exc _ _ _ => rw [q2] at h'; cases h'
      | bad => rw [q2] at h'; cases h'
    | exc _ _ _ => rw [q] at h; cases h
    | bad => rw [q] at h; cases h
mutual
theorem sC {sc : Scope} {cf : Str → Bool} {W : WX} {X : Cx} (d : Dy G g E N sc cf W X) : ∀ (c : C) (e : Expr), ck g N c sc cf e = true → Snd G W X e c (ev E c)
  | .var i, e, h => by
    simp only [ck] at h
    split at h
    · obtain ⟨h1, h2, h3, h4⟩ := d.nm h
      simp only [ev]; exact .ofV (pe_varV h1 h2 h3 h4) rfl
    · cases h
  | .varB i, e, h => by
    simp only [ck] at h
    split at h
    · obtain ⟨h1, h2, h3, h4⟩ := d.nm h
      simp only [ev]; exact ⟨pe_varB h1 h2 h3 h4, (fun z => by cases z), (fun z => by cases z)⟩
    · cases h
  | .non, e, h => by
    simp only [ck] at h
    split at h
    · simp only [ev]; exact .ofV pe_nonV rfl
    · cases h
  | .bl b, e, h => by
    simp only [ck] at h
    split at h
    · cases eq_of_beq h; simp only [ev]; exact .ofV pe_blV rfl
    · cases h
  | .int i, e, h => by
    simp only [ck] at h
    split at h
    · cases dec h; simp only [ev]; exact .ofV pe_intV rfl
    · cases h
  | .str s, e, h => by
    simp only [ck] at h
    split at h
    · obtain ⟨h, h3⟩ := band h
      obtain ⟨h1, h2⟩ := band h
      cases dec h1; simp only [ev]; exact .ofV (pe_strV (okS_of h2 (dec h3))) rfl
    · cases h
  | .glo k, e, h => by
    simp only [ck] at h
    split at h
    · obtain ⟨h1, h2⟩ := band h
      obtain ⟨g1, g2⟩ := d.glo h1
      split at h2
      · rename_i p q
        obtain ⟨h2, h3⟩ := band h2
        cases dec h2
        obtain ⟨v, u, m1, m2, m3⟩ := d.gl.2.1 k p q (Bool.n h3)
        have e1 : ev E (.glo k) = rC p.2 := by
          simp only [ev, d.gl.1, q]; rfl
        rw [e1]
        exact .ofV (pe_gloA g1 m1 m2 g2 m3) rfl
      · cases h2
    · cases h
  | .bin op a b, e, h => by
    simp only [ck] at h
    split at h
    · obtain ⟨h, h4⟩ := band h
      obtain ⟨h, h3⟩ := band h
      obtain ⟨h1, h2⟩ := band h
      cases dec h1; simp only [ev]
      exact .ofV (pe_op2 (d.op h2) (sC d a _ h3).b (sC d b _ h4).b) rfl
    · cases h
  | .addL a b, e, h => by
    simp only [ck] at h
    split at h
    · obtain ⟨h, h3⟩ := band h
      obtain ⟨h1, h2⟩ := band h
      cases dec h1; simp only [ev]
      exact .ofF (pe_opF oF_addL (sC d a _ h2).b (sC d b _ h3).b)
    · cases h
  | .neg a, e, h => by
    simp only [ck] at h
    split at h
    · obtain ⟨h1, h2⟩ := band h
      cases dec h1; simp only [ev]
      exact .ofV (pe_op1 uA_neg (sC d a _ h2).b) rfl
    · cases h
  | .cmp op a b, e, h => by
    simp only [ck] at h
    split at h
    · obtain ⟨h, h4⟩ := band h
      obtain ⟨h, h3⟩ := band h
      obtain ⟨h1, h2⟩ := band h
      cases dec h1; simp only [ev]
      exact .ofV (pe_cmp2 (d.cmp op) (sC d a _ h3).b (sC d b _ h4).b (Bool.n h2)) rfl
    · cases h
  | .chain op op' a b c, e, h => by
    simp only [ck] at h
    split at h
    · obtain ⟨h, h6⟩ := band h
      obtain ⟨h, h5⟩ := band h
      obtain ⟨h, h4⟩ := band h
      obtain ⟨h, h3⟩ := band h
      obtain ⟨h1, h2⟩ := band h
      cases dec h1; cases dec h2; simp only [ev]
      exact .ofV (pe_chainA (d.cmp op) (d.cmp op') (sC d a _ h4).b (sC d b _ h5).b (sC d c _ h6).b (Bool.n h3)) rfl
    · cases h
  | .notV a, e, h => by
    simp only [ck] at h
    split at h
    · obtain ⟨h1, h2⟩ := band h
      cases dec h1; simp only [ev]
      exact .ofV (pe_notA d.hK (sC d a _ h2).b) rfl
    · cases h
  | .andV a b, e, h => by
    simp only [ck] at h
    split at h
    · obtain ⟨h, h5⟩ := band h
      obtain ⟨h, h4⟩ := band h
      obtain ⟨h, h3⟩ := band h
      obtain ⟨h1, h2⟩ := band h
      cases dec h1; simp only [ev]
      exact .ofV (pe_andA d.hK ((sC d a _ h4).v h2) ((sC d b _ h5).v h3)) rfl
    · cases h
  | .orV a b, e, h => by
    simp only [ck] at h
    split at h
    · obtain ⟨h, h5⟩ := band h
      obtain ⟨h, h4⟩ := band h
      obtain ⟨h, h3⟩ := band h
      obtain ⟨h1, h2⟩ := band h
      cases dec h1; simp only [ev]
      exact .ofV (pe_orA d.hK ((sC d a _ h4).v h2) ((sC d b _ h5).v h3)) rfl
    · cases h
  | .one a, e, h => by
    simp only [ck] at h
    split at h
    · have q := sC d a _ h
      simp only [ev]
      exact ⟨pe_one q.b, (fun z => pe_one (q.v z)), (fun z => by cases z)⟩
    · cases h
  | .ite t a b, e, h => by
    simp only [ck] at h
    split at h
    · obtain ⟨h, h5⟩ := band h
      obtain ⟨h, h4⟩ := band h
      obtain ⟨h, h3⟩ := band h
      obtain ⟨h1, h2⟩ := band h
      simp only [ev]
      exact .ofV (pe_iteA (sT d t _ h1) ((sC d a _ h4).v h2) ((sC d b _ h5).v h3)) rfl
    · cases h
  | .tup l, e, h => by
    simp only [ck] at h
    split at h
    · simp only [ev]; exact .ofV (pe_tupA (sLV d l _ h)) rfl
    · cases h
  | .newT, e, h => by
    simp only [ck] at h
    split at h
    · exact .ofF pe_newT
    · cases h
  | .newI, e, h => by
    simp only [ck] at h
    split at h
    · exact .ofF pe_newI
    · cases h
  | .dspD kk l, e, h => by
    simp only [ck] at h
    split at h
    · obtain ⟨h, h6⟩ := band h
      obtain ⟨h, h5⟩ := band h
      obtain ⟨h, h4⟩ := band h
      obtain ⟨h, h3⟩ := band h
      obtain ⟨h1, h2⟩ := band h
      simp only [ev]
      have hk : kk ≠ [] := by intro z; rw [z] at h3; cases h3
      have hp := fun dpos => sPK (dpos := dpos) d l kk _ _ h5 h6 (dec h4)
      have hkl := (hp ⟨0, 0, 0, 0⟩).kl.trans (hp ⟨0, 0, 0, 0⟩).len.symm
      refine .ofF (pe_dspD (hp _) (dec h1) (fun z => hk (by rw [z] at hkl; exact List.length_eq_zero_iff.mp hkl)) (by rw [← hkl]; exact dec h2) fun ρ ds ρ1 q => ?_)
      rw [evL_len l ρ ds ρ1 q]; exact dec h4
    · cases h
  | .dict l, e, h => by
    simp only [ck] at h
    split at h
    · obtain ⟨h, h3⟩ := band h
      obtain ⟨h1, h2⟩ := band h
      cases dec h1
      obtain ⟨g1, g2⟩ := d.glo h2
      have st := lstar h3
      simp only [List.all_cons] at st
      obtain ⟨s1, s2⟩ := band st
      simp only [ev]
      exact .ofF (d.dict g1 (sLB d l _ h3) (Bool.n s1) (nobt s2))
    · cases h
  | .srt c, e, h => by
    simp only [ck] at h
    split at h
    · obtain ⟨h, h6⟩ := band h
      obtain ⟨h, h5⟩ := band h
      obtain ⟨h, h4⟩ := band h
      obtain ⟨h, h3⟩ := band h
      obtain ⟨h1, h2⟩ := band h
      cases dec h1; cases dec h2
      simp only [ev]
      exact .ofF (pe_srt d.calm (d.glo h3).1 (d.free _ (by decide +kernel)) (d.glo h4).1 (d.free _ (by decide +kernel)) (sC d c _ h6).b (Bool.n h5))
    · cases h
  | .newOF c, e, h => by
    simp only [ck] at h
    obtain ⟨h1, h2⟩ := band h
    simp only [ev]
    exact .ofV (pe_newOF ((sC d c _ h2).f h1)) rfl
  | .lenO c, e, h => by
    simp only [ck] at h
    split at h
    · obtain ⟨h, h4⟩ := band h
      obtain ⟨h, h3⟩ := band h
      obtain ⟨h1, h2⟩ := band h
      cases dec h1
      simp only [ev]
      exact .ofV (pe_lenO (d.glo h2).1 (d.free _ (by decide +kernel)) (sC d c _ h4).b (Bool.n h3)) rfl
    · cases h
  | .popO a b, e, h => by
    simp only [ck] at h
    split at h
    · obtain ⟨h, h6⟩ := band h
      obtain ⟨h, h5⟩ := band h
      obtain ⟨h, h4⟩ := band h
      obtain ⟨h, h3⟩ := band h
      obtain ⟨h1, h2⟩ := band h
      cases dec h1
      simp only [ev]
      exact .ofV (pe_popO (sC d a _ h5).b (sC d b _ h6).b (Bool.n h3) h4 (nameOk_base h2)) rfl
    · cases h
  | .dc k kx vx own tg it t, e, h => by
    simp only [ck] at h
    split at h
    · obtain ⟨h, h12⟩ := band h
      obtain ⟨h, h11⟩ := band h
      obtain ⟨h, h10⟩ := band h
      obtain ⟨h, h9⟩ := band h
      obtain ⟨h, h7⟩ := band h
      obtain ⟨h, h6⟩ := band h
      obtain ⟨h, h5⟩ := band h
      obtain ⟨h, h4⟩ := band h
      obtain ⟨h, ht⟩ := band h
      obtain ⟨h, h3⟩ := band h
      obtain ⟨h1, h2⟩ := band h
      cases dec h1
      simp only [ev]
      obtain ⟨rS, o0, po, pD, hn⟩ := d.putOk k
      refine .ofF (pe_dcA po (pD _) hn d.calm (d.hN ▸ d.nd) (sI d it _ _ h3 ht) (by rw [d.hN, d.sc]; exact blkOk_by h4) (tgAll d h5) (fun j hj => ?_) (fun s H C cl fp => sTs (d.blk s H _ C cl fp) t _ h7) (fun s H C cl fp => (sC (d.blk s H _ C cl fp) kx _ h10).v h9) (fun s H C cl fp => (sC (d.blk s H _ C cl fp) vx _ h12).v h11) (noset (Bool.n h2)))
      simpa using List.all_eq_true.mp h6 j hj
    · cases h
  | .lst l, e, h => by
    simp only [ck] at h
    split at h
    · simp only [ev]; exact .ofF (pe_lstA (sLV d l _ h))
    · cases h
  | .newO l, e, h => by
    simp only [ck] at h
    split at h
    · simp only [ev]; exact .ofV (pe_newoA (sLV d l _ h)) rfl
    · cases h
  | .ix a b, e, h => by
    simp only [ck] at h
    split at h
    · obtain ⟨h, h3⟩ := band h
      obtain ⟨h1, h2⟩ := band h
      simp only [ev]
      exact .ofV (pe_ixS d.hK d.hP d.hw d.un (sC d a _ h2).b (sC d b _ h3).b (plain_ix h1)) rfl
    · cases h
  | .sl a lo hi, e, h => by
    simp only [ck] at h
    split at h
    · obtain ⟨h, h3⟩ := band h
      obtain ⟨h1, h2⟩ := band h
      simp only [ev]
      exact .ofV (pe_slA d.hK (sC d a _ h1).b (sO d lo _ h2) (sO d hi _ h3)) rfl
    · cases h
  | .bi f l, e, h => by
    simp only [ck] at h
    split at h
    · obtain ⟨h, h3⟩ := band h
      obtain ⟨h1, h2⟩ := band h
      cases dec h1
      obtain ⟨g1, g2⟩ := d.glo h2
      have st := lstar h3
      simp only [List.all_cons] at st
      obtain ⟨s1, s2⟩ := band st
      simp only [ev]
      exact .ofV (d.bf f g1 (sLB d l _ h3) (Bool.n s1) (nobt s2)) rfl
    · cases h
  | .list l, e, h => by
    simp only [ck] at h
    split at h
    · obtain ⟨h, h3⟩ := band h
      obtain ⟨h1, h2⟩ := band h
      cases dec h1
      obtain ⟨g1, g2⟩ := d.glo h2
      have st := lstar h3
      simp only [List.all_cons] at st
      obtain ⟨s1, s2⟩ := band st
      simp only [ev]
      exact .ofF (d.list g1 (sLB d l _ h3) (Bool.n s1) (nobt s2))
    · cases h
  | .sorted l, e, h => by
    simp only [ck] at h
    split at h
    · obtain ⟨h, h3⟩ := band h
      obtain ⟨h1, h2⟩ := band h
      cases dec h1
      obtain ⟨g1, g2⟩ := d.glo h2
      have st := lstar h3
      simp only [List.all_cons] at st
      obtain ⟨s1, s2⟩ := band st
      simp only [ev]
      exact .ofF (d.sorted g1 (sLB d l _ h3) (Bool.n s1) (nobt s2))
    · cases h
  | .isi t a, e, h => by
    simp only [ck] at h
    split at h
    · obtain ⟨h, h6⟩ := band h
      obtain ⟨h, h5⟩ := band h
      obtain ⟨h, h4⟩ := band h
      obtain ⟨h, h3⟩ := band h
      obtain ⟨h1, h2⟩ := band h
      cases dec h1; cases dec h2
      simp only [ev]
      exact .ofV (d.isi t (d.glo h3).1 (d.glo h4).1 (sC d a _ h6).b (Bool.n h5)) rfl
    · cases h
  | .call f l, e, h => by
    simp only [ck] at h
    split at h
    · obtain ⟨h, h3⟩ := band h
      obtain ⟨h1, h2⟩ := band h
      obtain ⟨g1, g2⟩ := d.glo h1
      obtain ⟨fa, fd, ps, k, F, hr, m1, m2, m3⟩ := d.fns _ _ _ (dec h2)
      obtain ⟨st, len⟩ := astar h3
      simp only [List.all_cons] at st
      obtain ⟨s1, s2⟩ := band st
      simp only [ev]
      exact .ofV (pe_callA F hr g1 m1 m2 m3 d.tk (sA d l _ h3) len (evA_len l) g2 (Bool.n s1) (nobt s2)) rfl
    · obtain ⟨h, h3⟩ := band h
      obtain ⟨h1, h2⟩ := band h
      obtain ⟨g1, g2⟩ := d.glo h1
      obtain ⟨fa, fd, ps, k, F, hr, m1, m2, m3⟩ := d.fns _ _ _ (dec h2)
      cases l with
      | nil =>
        simp only [ev, evA]
        exact .ofV (pe_callA0 F hr g1 m1 m2 m3 d.tk g2) rfl
      | val _ _ => cases h3
      | bor _ _ => cases h3
    · cases h
  | .comp elt own tg it t, e, h => by
    simp only [ck] at h
    split at h
    · obtain ⟨h, h9⟩ := band h
      obtain ⟨h, h8⟩ := band h
      obtain ⟨h, h7⟩ := band h
      obtain ⟨h, h6⟩ := band h
      obtain ⟨h, h5⟩ := band h
      obtain ⟨h, h4⟩ := band h
      obtain ⟨h, ht⟩ := band h
      obtain ⟨h, h3⟩ := band h
      obtain ⟨h1, h2⟩ := band h
      cases dec h1
      simp only [ev]
      refine .ofF (pe_compA d.calm (d.hN ▸ d.nd) (sI d it _ _ h3 ht) (by rw [d.hN, d.sc]; exact blkOk_by h4) (tgAll d h5) (fun j hj => ?_) (fun s H C cl fp => sTs (d.blk s H _ C cl fp) t _ h7) (fun s H C cl fp => (sC (d.blk s H _ C cl fp) elt _ h9).v h8) (noset (Bool.n h2)))
      simpa using List.all_eq_true.mp h6 j hj
    · cases h
  | .repT a b, e, h => by
    simp only [ck] at h
    split at h
    · obtain ⟨h, h3⟩ := band h
      obtain ⟨h1, h2⟩ := band h
      cases dec h1; simp only [ev]
      exact .ofV (pe_op2 (oA_repT d.hK) (sC d a _ h2).b (sC d b _ h3).b) rfl
    · cases h
  | .repL a b, e, h => by
    simp only [ck] at h
    split at h
    · obtain ⟨h, h4⟩ := band h
      obtain ⟨h, h3⟩ := band h
      obtain ⟨h1, h2⟩ := band h
      cases dec h1; simp only [ev]
      exact .ofF (pe_repL ((sC d a _ h3).f h2) (sC d b _ h4).b)
    · cases h
  | .lstR a, e, h => by
    simp only [ck] at h
    split at h
    · obtain ⟨h, h6⟩ := band h
      obtain ⟨h, h5⟩ := band h
      obtain ⟨h, h4⟩ := band h
      obtain ⟨h, h3⟩ := band h
      obtain ⟨h1, h2⟩ := band h
      cases dec h1; cases dec h2
      simp only [ev]
      exact .ofF (pe_listRgA d.calm (d.glo h3).1 (d.free _ (by decide +kernel)) (d.glo h4).1 (d.free _ (by decide +kernel)) (Bool.n h5) (sC d a _ h6).b)
    · cases h
  | .tupR a, e, h => by
    simp only [ck] at h
    split at h
    · obtain ⟨h, h6⟩ := band h
      obtain ⟨h, h5⟩ := band h
      obtain ⟨h, h4⟩ := band h
      obtain ⟨h, h3⟩ := band h
      obtain ⟨h1, h2⟩ := band h
      cases dec h1; cases dec h2
      simp only [ev]
      exact .ofV (pe_tupRgA d.calm (d.glo h3).1 (d.free _ (by decide +kernel)) (d.glo h4).1 (d.free _ (by decide +kernel)) (Bool.n h5) (sC d a _ h6).b) rfl
    · cases h
  | .dsp ks l c, e, h => by
    simp only [ck] at h
    split at h
    · obtain ⟨h, h8⟩ := band h
      obtain ⟨h, h7⟩ := band h
      obtain ⟨h, h6⟩ := band h
      obtain ⟨h, h5⟩ := band h
      obtain ⟨h, h4⟩ := band h
      obtain ⟨h, h3⟩ := band h
      obtain ⟨h1, h2⟩ := band h
      simp only [ev]
      have hk : ks ≠ [] := by intro z; rw [z] at h4; cases h4
      have hp := fun dpos => sP (dpos := dpos) d l ks _ _ h6 h7 (dec h5)
      have hkl := (hp ⟨0, 0, 0, 0⟩).kl.trans (hp ⟨0, 0, 0, 0⟩).len.symm
      refine .ofV (pe_dspA (Nat.lt_of_le_of_lt (by omega) d.un) (hp _) (ndK_ok h2) (fun z => hk (by rw [z] at hkl; exact List.length_eq_zero_iff.mp hkl)) (by rw [← hkl]; exact dec h3) (sC d c _ h8).b (plain_ix h1) fun ρ ds ρ1 q => ?_) rfl
      rw [evL_len l ρ ds ρ1 q]; exact dec h5
    · cases h
  | .cget k c, e, h => by
    simp only [ck] at h
    split at h
    · obtain ⟨h, h4⟩ := band h
      obtain ⟨h, h3⟩ := band h
      obtain ⟨h1, h2⟩ := band h
      obtain ⟨g1, g2⟩ := d.glo h2
      split at h3
      · rename_i p q
        obtain ⟨h3, h5⟩ := band h3
        cases dec h3
        obtain ⟨a, m1, m2⟩ := d.gl.2.2 k p q h5
        have e1 : ev E (.cget k c) = rOp1 (lookC p.2) (ev E c) := by
          simp only [ev, d.gl.1, q]
        rw [e1]
        exact .ofV (pe_cgetA d.hK d.hw g1 m1 g2 m2 (sC d c _ h4).b (plain_ix h1)) rfl
      · cases h3
    · cases h
  | .idx a b, e, h => by
    simp only [ck] at h
    split at h
    · obtain ⟨h, h6⟩ := band h
      obtain ⟨h, h5⟩ := band h
      obtain ⟨h, h4⟩ := band h
      obtain ⟨h, h3⟩ := band h
      obtain ⟨h1, h2⟩ := band h
      cases dec h1
      simp only [ev]
      exact .ofV (pe_idxA d.hK d.un (sC d a _ h5).b (sC d b _ h6).b (Bool.n h3) h4 (nameOk_base h2)) rfl
    · cases h
  | .badE, e, h => by
    simp only [ev]
    exact .ofF pe_badE
  | .comp2 elt own own1 tg it t tg1 it1 t1, e, h => by
    simp only [ck] at h
    split at h
    · obtain ⟨h, b18⟩ := band h
      obtain ⟨h, b17⟩ := band h
      obtain ⟨h, b16⟩ := band h
      obtain ⟨h, b15⟩ := band h
      obtain ⟨h, b14⟩ := band h
      obtain ⟨h, b13⟩ := band h
      obtain ⟨h, b12⟩ := band h
      obtain ⟨h, b11⟩ := band h
      obtain ⟨h, b10⟩ := band h
      obtain ⟨h, b9⟩ := band h
      obtain ⟨h, b8⟩ := band h
      obtain ⟨h, b7⟩ := band h
      obtain ⟨h, b6⟩ := band h
      obtain ⟨h, b5⟩ := band h
      obtain ⟨h, b4⟩ := band h
      obtain ⟨h, b3⟩ := band h
      obtain ⟨b1, b2⟩ := band h
      cases dec b1; cases dec b2
      simp only [ev]
      exact .ofF (pe_comp2A d.calm (d.hN ▸ d.nd) (sI d it _ _ b5 b6) (by rw [d.hN, d.sc]; exact blkOk_by b7) (fun j hj => by simpa using List.all_eq_true.mp b8 j hj) (tgAll d b9) (fun j hj => by simpa using List.all_eq_true.mp b10 j hj) (tgAll d b11) (fun j hj => by simpa using List.all_eq_true.mp b12 j hj)
        (fun s H C cl fp => sTs (d.blk s H _ C cl fp) t _ b13) (fun s H C cl fp => sI (d.blk s H _ C cl fp) it1 _ _ b14 b15) (fun s H C cl fp => sTs (d.blk s H _ C cl fp) t1 _ b16) (fun s H C cl fp => (sC (d.blk s H _ C cl fp) elt _ b18).v b17) (noset (Bool.n b3)) (fun _ => noset (Bool.n b4)))
    · cases h
/-- the pairs of a display -/
theorem sP {sc : Scope} {cf : Str → Bool} {W : WX} {X : Cx} (d : Dy G g E N sc cf W X) {dpos : Pos} : ∀ (l : L) (ks : List Str) (keys : List (Option Expr)) (es : List Expr), keysB ks keys = true → ckL g N l sc cf true es = true → llen l = ks.length → PpOk G W X dpos ks keys es (evL E l)
  | .nil, ks, keys, es, hk, h, hl => by
    cases ks with
    | cons _ _ => simp [llen] at hl
    | nil =>
      simp only [ckL] at h
      cases es with
      | cons _ _ => cases h
      | nil =>
        simp only [keysB] at hk
        cases keys with
        | cons _ _ => cases hk
        | nil => simp only [evL]; exact pp_nil
  | .cons c l, ks, keys, es, hk, h, hl => by
    cases ks with
    | nil => simp [llen] at hl
    | cons k ks =>
      simp only [ckL] at h
      split at h
      · obtain ⟨h, h4⟩ := band h
        obtain ⟨h, h3⟩ := band h
        obtain ⟨h1, h2⟩ := band h
        simp only [keysB] at hk
        split at hk
        · obtain ⟨k1, k2⟩ := band hk
          cases dec k1
          simp only [evL]
          exact pp_cons ((sC d c _ h3).v (by simpa using h2)) (sP d l ks _ _ k2 h4 (by simpa [llen] using hl))
        · cases hk
      · cases h
theorem sPK {sc : Scope} {cf : Str → Bool} {W : WX} {X : Cx} (d : Dy G g E N sc cf W X) {dpos : Pos} : ∀ (l : L) (kk : List Key) (keys : List (Option Expr)) (es : List Expr), keysK kk keys = true → ckL g N l sc cf true es = true → llen l = kk.length → PpK G W X dpos kk keys es (evL E l)
  | .nil, kk, keys, es, hk, h, hl => by
    cases kk with
    | cons _ _ => simp [llen] at hl
    | nil =>
      simp only [ckL] at h
      cases es with
      | cons _ _ => cases h
      | nil =>
        simp only [keysK] at hk
        cases keys with
        | cons _ _ => cases hk
        | nil => simp only [evL]; exact ppk_nil
  | .cons c l, kk, keys, es, hk, h, hl => by
    cases kk with
    | nil => simp [llen] at hl
    | cons k kk =>
      simp only [ckL] at h
      split at h
      · obtain ⟨h, h4⟩ := band h
        obtain ⟨h, h3⟩ := band h
        obtain ⟨h1, h2⟩ := band h
        cases k with
        | inl i =>
          simp only [keysK] at hk
          split at hk
          · obtain ⟨k1, k2⟩ := band hk
            cases dec k1
            simp only [evL]
            exact ppk_cons pe_int ((sC d c _ h3).v (by simpa using h2)) (sPK d l kk _ _ k2 h4 (by simpa [llen] using hl))
          · cases hk
        | inr x =>
          simp only [keysK] at hk
          split at hk
          · obtain ⟨k1, k2⟩ := band hk
            cases dec k1
            simp only [evL]
            exact ppk_cons pe_str ((sC d c _ h3).v (by simpa using h2)) (sPK d l kk _ _ k2 h4 (by simpa [llen] using hl))
          · cases hk
      · cases h
theorem sO {sc : Scope} {cf : Str → Bool} {W : WX} {X : Cx} (d : Dy G g E N sc cf W X) : ∀ (c : Op) (e : Option Expr), ckO g N c sc cf e = true → PO X e (tEv G W rlp (evO E c))
  | .none, e, h => by
    simp only [ckO] at h
    cases e with
    | none => simp only [evO]; exact po_noneA
    | some e => cases h
  | .some c, e, h => by
    simp only [ckO] at h
    split at h
    · obtain ⟨h1, h2⟩ := band h
      simp only [evO]; exact po_someA ((sC d c _ h2).v h1)
    · cases h
theorem sT {sc : Scope} {cf : Str → Bool} {W : WX} {X : Cx} (d : Dy G g E N sc cf W X) : ∀ (t : T) (e : Expr), ckT g N t sc cf e = true → PT X e (tEv G W rl (evT E t))
  | .tru c, e, h => by
    simp only [ckT] at h
    obtain ⟨h1, h2⟩ := band h
    simp only [evT]; exact pt_tru d.hK (sC d c _ h2).b (plain_t h1)
  | .cmp op a b, e, h => by
    simp only [ckT] at h
    split at h
    · obtain ⟨h, h4⟩ := band h
      obtain ⟨h, h3⟩ := band h
      obtain ⟨h1, h2⟩ := band h
      cases dec h1; simp only [evT]
      exact pt_cmp2 (d.cmp op) (sC d a _ h3).b (sC d b _ h4).b (Bool.n h2)
    · cases h
  | .not t, e, h => by
    simp only [ckT] at h
    split at h
    · obtain ⟨h1, h2⟩ := band h
      cases dec h1; simp only [evT]; exact pt_notA (sT d t _ h2)
    · cases h
  | .and a b, e, h => by
    simp only [ckT] at h
    split at h
    · obtain ⟨h, h3⟩ := band h
      obtain ⟨h1, h2⟩ := band h
      cases dec h1; simp only [evT]
      exact (pw_andA (sT d a _ h2) (sW d b _ _ _ h3)).pt
    · cases h
  | .or a b, e, h => by
    simp only [ckT] at h
    split at h
    · obtain ⟨h, h3⟩ := band h
      obtain ⟨h1, h2⟩ := band h
      cases dec h1; simp only [evT]
      exact (pw_orA (sT d a _ h2) (sW d b _ _ _ h3)).pt
    · cases h
  | .one t, e, h => by
    simp only [ckT] at h
    split at h
    · rename_i op x p
      simp only [evT]
      cases op with
      | And => exact (pw_and1 (sT d t _ h)).pt
      | Or => exact (pw_or1 (sT d t _ h)).pt
    · cases h
  | .chain op op' a b c, e, h => by
    simp only [ckT] at h
    split at h
    · obtain ⟨h, h6⟩ := band h
      obtain ⟨h, h5⟩ := band h
      obtain ⟨h, h4⟩ := band h
      obtain ⟨h, h3⟩ := band h
      obtain ⟨h1, h2⟩ := band h
      cases dec h1; cases dec h2; simp only [evT]
      exact pt_chainA (d.cmp op) (d.cmp op') (sC d a _ h4).b (sC d b _ h5).b (sC d c _ h6).b (Bool.n h3)
    · cases h
/-- behind and, or -/
theorem sW {sc : Scope} {cf : Str → Bool} {W : WX} {X : Cx} (d : Dy G g E N sc cf W X) : ∀ (t : T) (op : BoolOp) (es : List Expr) (p : Pos), ckT g N t sc cf (.BoolOp op es p) = true → PW X (.BoolOp op es p) (tEv G W rl (evT E t))
  | .tru c, op, es, p, h => by
    simp only [ckT] at h
    obtain ⟨h1, h2⟩ := band h
    cases h1
  | .cmp op a b, _, es, p, h => by simp only [ckT] at h; cases h
  | .not t, _, es, p, h => by simp only [ckT] at h; cases h
  | .chain op op' a b c, _, es, p, h => by simp only [ckT] at h; cases h
  | .and a b, op, es, p, h => by
    simp only [ckT] at h
    split at h
    · rename_i heq
      cases heq
      obtain ⟨h, h3⟩ := band h
      obtain ⟨h1, h2⟩ := band h
      cases dec h1; simp only [evT]
      exact pw_andA (sT d a _ h2) (sW d b _ _ _ h3)
    · cases h
  | .or a b, op, es, p, h => by
    simp only [ckT] at h
    split at h
    · rename_i heq
      cases heq
      obtain ⟨h, h3⟩ := band h
      obtain ⟨h1, h2⟩ := band h
      cases dec h1; simp only [evT]
      exact pw_orA (sT d a _ h2) (sW d b _ _ _ h3)
    · cases h
  | .one t, op, es, p, h => by
    simp only [ckT] at h
    split at h
    · rename_i heq
      cases heq
      simp only [evT]
      cases op with
      | And => exact pw_and1 (sT d t _ h)
      | Or => exact pw_or1 (sT d t _ h)
    · cases h
theorem sTs {sc : Scope} {cf : Str → Bool} {W : WX} {X : Cx} (d : Dy G g E N sc cf W X) : ∀ (t : Ts) (es : List Expr), ckTs g N t sc cf es = true → PTs X es (tEv G W rl (evTs E t))
  | .nil, es, h => by
    simp only [ckTs] at h
    cases es with
    | nil =>
      simp only [evTs]
      refine ⟨fun pins s σ H Q I t => pts_nil.run pins s σ H Q I ?_⟩
      obtain ⟨sh, N, ρ, rp, p⟩ := t
      exact Post.ret p rp rfl
    | cons _ _ => cases h
  | .one t, es, h => by
    simp only [ckTs] at h
    split at h
    · simp only [evTs]; exact pts_one (sT d t _ h)
    · cases h
theorem sLV {sc : Scope} {cf : Str → Bool} {W : WX} {X : Cx} (d : Dy G g E N sc cf W X) : ∀ (l : L) (es : List Expr), ckL g N l sc cf true es = true → PA X es (tEv G W G.rvs (evL E l))
  | .nil, es, h => by
    simp only [ckL] at h
    cases es with
    | nil => simp only [evL]; exact pa_nilV
    | cons _ _ => cases h
  | .cons c l, es, h => by
    simp only [ckL] at h
    split at h
    · obtain ⟨h, h4⟩ := band h
      obtain ⟨h, h3⟩ := band h
      obtain ⟨h1, h2⟩ := band h
      simp only [evL]; exact pa_consV ((sC d c _ h3).v (by simpa using h2)) (sLV d l _ h4) (star_of (Bool.n h1))
    · cases h
theorem sLB {sc : Scope} {cf : Str → Bool} {W : WX} {X : Cx} (d : Dy G g E N sc cf W X) : ∀ (l : L) (es : List Expr), ckL g N l sc cf false es = true → PA X es (tEv G W G.rbs (evL E l))
  | .nil, es, h => by
    simp only [ckL] at h
    cases es with
    | nil => simp only [evL]; exact pa_nilB
    | cons _ _ => cases h
  | .cons c l, es, h => by
    simp only [ckL] at h
    split at h
    · obtain ⟨h, h4⟩ := band h
      obtain ⟨h, h3⟩ := band h
      obtain ⟨h1, h2⟩ := band h
      simp only [evL]; exact pa_consB (sC d c _ h3).b (sLB d l _ h4) (star_of (Bool.n h1))
    · cases h
theorem sA {sc : Scope} {cf : Str → Bool} {W : WX} {X : Cx} (d : Dy G g E N sc cf W X) : ∀ (l : A) (es : List Expr), ckA g N l sc cf es = true → PA X es (tEvA G W (evA E l))
  | .nil, es, h => by
    simp only [ckA] at h
    cases es with
    | nil => simp only [evA]; exact pa_nilC
    | cons _ _ => cases h
  | .val c l, es, h => by
    simp only [ckA] at h
    split at h
    · obtain ⟨h, h4⟩ := band h
      obtain ⟨h, h3⟩ := band h
      obtain ⟨h1, h2⟩ := band h
      simp only [evA]; exact pa_valC ((sC d c _ h3).v h2) (sA d l _ h4) (Bool.n h1)
    · cases h
  | .bor i l, es, h => by
    simp only [ckA] at h
    split at h
    · obtain ⟨h1, h4⟩ := band h
      obtain ⟨a1, a2, a3, a4⟩ := d.nm h1
      simp only [evA]; exact pa_borC a1 a2 a3 a4 (sA d l _ h4)
    · cases h
theorem sI {sc : Scope} {cf : Str → Bool} {W : WX} {X : Cx} (d : Dy G g E N sc cf W X) : ∀ (i : I) (tg e : Expr), ckI g N i sc cf e = true → tgI i tg = true → PI X tg e (tEvI G W (evI E i))
  | .expr c, tg, e, h, _ => by
    simp only [ckI] at h
    obtain ⟨h1, h2⟩ := band h
    simp only [evI]; exact pi_exprA d.hK ((sC d c _ h2).v h1)
  | .name i, tg, e, h, _ => by
    simp only [ckI] at h
    split at h
    · obtain ⟨a1, a2, a3, a4⟩ := d.nm h
      simp only [evI]; exact pi_nameA d.hK a1 a2 a3 a4
    · cases h
  | .rng1 a, tg, e, h, _ => by
    simp only [ckI] at h
    split at h
    · obtain ⟨h, h4⟩ := band h
      obtain ⟨h, h3⟩ := band h
      obtain ⟨h1, h2⟩ := band h
      cases dec h1
      simp only [evI]; exact pi_rng1A (d.glo h2).1 (d.free _ (by decide +kernel)) (Bool.n h3) (pa_consB (sC d a _ h4).b pa_nilB (star_of (Bool.n h3)))
    · cases h
  | .rng2 a b, tg, e, h, _ => by
    simp only [ckI] at h
    split at h
    · obtain ⟨h, h6⟩ := band h
      obtain ⟨h, h5⟩ := band h
      obtain ⟨h, h4⟩ := band h
      obtain ⟨h, h3⟩ := band h
      obtain ⟨h1, h2⟩ := band h
      cases dec h1
      simp only [evI]; exact pi_rng2A (d.glo h2).1 (d.free _ (by decide +kernel)) (Bool.n h3) (Bool.n h4) (pa_consB (sC d a _ h5).b (pa_consB (sC d b _ h6).b pa_nilB (star_of (Bool.n h4))) (star_of (Bool.n h3)))
    · cases h
  | .rng3 a b c, tg, e, h, _ => by
    simp only [ckI] at h
    split at h
    · obtain ⟨h, h8⟩ := band h
      obtain ⟨h, h7⟩ := band h
      obtain ⟨h, h6⟩ := band h
      obtain ⟨h, h5⟩ := band h
      obtain ⟨h, h4⟩ := band h
      obtain ⟨h, h3⟩ := band h
      obtain ⟨h1, h2⟩ := band h
      cases dec h1
      simp only [evI]
      exact pi_rng3A (d.glo h2).1 (d.free _ (by decide +kernel)) (Bool.n h3) (nobt (by simp only [List.all_cons, List.all_nil, h4, h5, Bool.and_true])) (pa_consB (sC d a _ h6).b (pa_consB (sC d b _ h7).b (pa_consB (sC d c _ h8).b pa_nilB (star_of (Bool.n h5))) (star_of (Bool.n h4))) (star_of (Bool.n h3)))
    · cases h
  | .enum c, tg, e, h, ht => by
    simp only [ckI] at h
    split at h
    · obtain ⟨h, h5⟩ := band h
      obtain ⟨h, h4⟩ := band h
      obtain ⟨h, h3⟩ := band h
      obtain ⟨h1, h2⟩ := band h
      cases dec h1
      obtain ⟨_, _, _, rfl⟩ := tup1_of ht
      simp only [evI]; exact pi_enumA d.hK (d.glo h2).1 (d.free _ (by decide +kernel)) ((sC d c _ h5).v h4) (Bool.n h3)
    · cases h
  | .enumN i, tg, e, h, ht => by
    simp only [ckI] at h
    split at h
    · obtain ⟨h, h3⟩ := band h
      obtain ⟨h1, h2⟩ := band h
      cases dec h1
      obtain ⟨a1, a2, a3, a4⟩ := d.nm h3
      obtain ⟨_, _, _, rfl⟩ := tup1_of ht
      simp only [evI]; exact pi_enumNA d.hK (d.glo h2).1 (d.free _ (by decide +kernel)) a1 a2 a3 a4
    · cases h
  | .zip a b, tg, e, h, ht => by
    simp only [ckI] at h
    split at h
    · obtain ⟨h, h8⟩ := band h
      obtain ⟨h, h7⟩ := band h
      obtain ⟨h, h6⟩ := band h
      obtain ⟨h, h5⟩ := band h
      obtain ⟨h, h4⟩ := band h
      obtain ⟨h, h3⟩ := band h
      obtain ⟨h1, h2⟩ := band h
      cases dec h1
      obtain ⟨_, _, _, rfl⟩ := tup1_of ht
      simp only [evI]; exact pi_zipAA d.hK (d.glo h2).1 (d.free _ (by decide +kernel)) ((sC d a _ h7).v h5) ((sC d b _ h8).v h6) (Bool.n h3) (Bool.n h4)
    · cases h
end
end
end Mi

namespace Mi
open PySem PySem.Spec PyProof.Rows L2
section
variable {G : Cg} {g : Gs} {E : Ev} {N : List Str} {sc : Scope} {cf : Str → Bool} {W : WX} {X : Cx}
theorem tgtsub {x : Str} {p p2 : Pos} {y : Expr} {env : PySem.Env} (h : plainIx y = true) : ∀ v, assign (.Subscript (.Name x p) y p2) env v = (do
      let ov ← holding [v] (eval (.Name x p) env)
      let iv ← holding [v, ov] (eval y env)
      standAt p2
      holding [v, ov, iv] (setItem ov iv v)
      release [v, ov, iv] []) := by
  intro v
  cases y <;> first | rfl | cases h
theorem sNever {st : Stmt} : PS X st (tSv G W fun _ => .bad) := PS.imp ps_never fun D σ H t => by
  obtain ⟨sh, N, ρ, rp, p⟩ := t
  exact p
theorem asOk2_inv {N : List Str} {sc : Scope} {j : Nat} {nm : Option Str} (h : asOk2 N sc j nm = true) : ∃ n, nm = some n ∧ N[j]? = some n ∧ sc.names.lookup n = some .local := by
  cases nm with
  | none => cases h
  | some n =>
    obtain ⟨k1, k2⟩ := band h
    exact ⟨n, rfl, dec k1, dec k2⟩
theorem Dy.named (d : Dy G g E N sc cf W X) : ∀ (cl : List Hn) (hs : List ExceptHandler), ckHn g.cs N sc cl hs = true → ∃ Es, ClOk G g.cs cl Es ∧ Named X hs ((cl.zip Es).map fun p => c4 G p.1 p.2)
  | [], hs, h => by
    simp only [ckHn] at h
    cases hs with
    | nil => exact ⟨[], trivial, .nil⟩
    | cons _ _ => cases h
  | k :: cl, hs, h => by
    simp only [ckHn] at h
    split at h
    · obtain ⟨h, h7⟩ := band h
      obtain ⟨h, h6⟩ := band h
      obtain ⟨h, h5⟩ := band h
      obtain ⟨h, h4⟩ := band h
      obtain ⟨h, h3⟩ := band h
      obtain ⟨h1, h2⟩ := band h
      obtain ⟨Es, i1, i2⟩ := d.named cl _ h7
      have fr : X.mg ("isinstance" : Str) = none ∧ X.mg ("ValueError" : Str) = none := ⟨d.free _ (by decide +kernel), d.free _ (by decide +kernel)⟩
      unfold nmC at h4
      cases q : g.cs.lookup k.1 with
      | none => rw [q] at h4; cases h4
      | some e =>
        rw [q] at h4
        obtain ⟨C, hcl, hm, _⟩ := d.ec.at_ k.1 e q
        rw [dec h4] at hm
        have hl : ∀ c C, G.cl c = some C → k.2.2.1.contains c = subC g.cs c k.1 := fun c C hc => by
          obtain ⟨e', he⟩ := d.ec.cl c C hc
          exact eq_of_beq (List.all_eq_true.mp h5 _ (look_in he))
        obtain ⟨n, en, k1, k2⟩ := asOk2_inv h3
        subst en
        have hg : Gl X _ ∧ _ := d.glo (x := _) (show glB sc _ = true by
          unfold glB
          rw [h1, h2]; rfl)
        obtain ⟨g1, g2⟩ := hg
        have sne : ∃ s r, _ = s :: r := (hB_ok (G := G) (X := X) (cs := g.cs) (N := N) (sc := sc) (i := some k.2.1) (a := 0) (oe := ⟨.none, none, .fields #[], #[]⟩) (cls := .none) (d := none) (pn := []) ⟨d.hK, d.hN, d.sc, d.ec, fr, ⟨rfl, rfl⟩, ⟨_, rfl⟩⟩ k.2.2.2 _ h6).2
        obtain ⟨s0, r0, es⟩ := sne
        subst es
        refine ⟨C :: Es, ⟨hcl, hl, i1⟩, ?_⟩
        refine .cons ⟨g1, g2, .inl hm⟩ (d.hN ▸ k1) ?_ (fun e oe cls dd pn hz hf' => (hB_ok ⟨d.hK, d.hN, d.sc, d.ec, fr, hz, hf'⟩ k.2.2.2 _ h6).1) i2
        unfold Env.kindOf
        rw [d.sc]; exact k2
    · cases h
mutual
theorem sS {W : WX} {X : Cx} (d : Dy G g E N sc cf W X) (hp : PassesOwn (model X.prog X.w) X.A X.env X.xe) (hk : X.env.scope.kind = .function) (hs : X.stack = X.env :: X.outer) (hf : X.env.frame = some X.env.locals) : ∀ (s : S) (st : Stmt), ckS g N s sc cf st = true → PS X st (tSv G W (evS E s))
  | .pass, st, h => by
    simp only [ckS] at h
    split at h
    · simp only [evS]; exact ps_passA
    · cases h
  | .brk, st, h => by
    simp only [ckS] at h
    split at h
    · simp only [evS]; exact ps_breakA
    · cases h
  | .cont, st, h => by
    simp only [ckS] at h
    split at h
    · simp only [evS]; exact ps_contA
    · cases h
  | .ret c, st, h => by
    simp only [ckS] at h
    split at h
    · obtain ⟨h1, h2⟩ := band h
      simp only [evS]; exact ps_retA ((sC d c _ h2).v h1)
    · cases h
  | .retN, st, h => by
    simp only [ckS] at h
    split at h
    · simp only [evS]; exact ps_retNA
    · cases h
  | .expr c, st, h => by
    simp only [ckS] at h
    split at h
    · obtain ⟨h, h3⟩ := band h
      obtain ⟨h1, h2⟩ := band h
      simp only [evS]; exact ps_exprA ((sC d c _ h3).v h2) (noswap (Bool.n h1))
    · cases h
  | .asg tg c, st, h => by
    simp only [ckS] at h
    split at h
    · obtain ⟨h, h6⟩ := band h
      obtain ⟨h, h5⟩ := band h
      obtain ⟨h, h4⟩ := band h
      obtain ⟨h, h3⟩ := band h
      obtain ⟨h1, h2⟩ := band h
      simp only [evS]; exact ps_asgA ((sC d c _ h6).v h5) (tgOk d h4) (noswapS (Bool.n h1)) (nostores (Bool.n h2)) (asg1 (Bool.n h3))
    · cases h
  | .own i c, st, h => by
    simp only [ckS] at h
    split at h
    · obtain ⟨h, h5⟩ := band h
      obtain ⟨h, h4⟩ := band h
      obtain ⟨h, h3⟩ := band h
      obtain ⟨h1, h2⟩ := band h
      obtain ⟨a1, a2⟩ := d.tg h3
      simp only [evS]; exact ps_ownA (ps_set (d.hN ▸ d.nd) (d.hN ▸ dec h2) a1 ((sC d c _ h5).f h4) (noswapN (d.sc ▸ h1)) a2) fun _ _ _ z => z
    · cases h
  | .ownLc i elt own tg it t, st, h => by
    simp only [ckS] at h
    split at h
    · obtain ⟨h, k⟩ := band h
      obtain ⟨h, h5⟩ := band h
      obtain ⟨h, h4⟩ := band h
      obtain ⟨h, h3⟩ := band h
      obtain ⟨h1, h2⟩ := band h
      obtain ⟨k, k9⟩ := band k
      obtain ⟨k, k8⟩ := band k
      obtain ⟨k, k7⟩ := band k
      obtain ⟨k, k6⟩ := band k
      obtain ⟨k, k5⟩ := band k
      obtain ⟨k, k4⟩ := band k
      obtain ⟨k, kt⟩ := band k
      obtain ⟨k, k3⟩ := band k
      obtain ⟨k1, k2⟩ := band k
      cases dec k1
      have hl := dec h3
      rw [← d.sc] at hl
      obtain ⟨te, p, q⟩ := ps_compB (bi := it.bi) (G := G) (W := W) (it := evI E it) (g := evG tg) (rt := evTs E t) (re := ev E elt) (i := i) d.calm (d.hN ▸ d.nd) (d.hN ▸ dec h1) hl (sw_true hk hl h4 (Bool.n h5)) (sI d it _ _ k3 kt) (by rw [d.hN, d.sc]; exact blkOk_by k4) (tgAll d k5) (fun j hj => by
        simpa using List.all_eq_true.mp k6 j hj) (fun s H C cl fp => sTs (d.blk s H _ C cl fp) t _ k7) (fun s H C cl fp => (sC (d.blk s H _ C cl fp) elt _ k9).v k8) (noset (Bool.n k2))
      simp only [evS]; exact ps_ownA p q
    · cases h
  | .ownLc2 i elt own own1 tg it t tg1 it1 t1, st, h => by
    simp only [ckS] at h
    split at h
    · obtain ⟨h, k⟩ := band h
      obtain ⟨h, h5⟩ := band h
      obtain ⟨h, h4⟩ := band h
      obtain ⟨h, h3⟩ := band h
      obtain ⟨h1, h2⟩ := band h
      obtain ⟨k, b18⟩ := band k
      obtain ⟨k, b17⟩ := band k
      obtain ⟨k, b16⟩ := band k
      obtain ⟨k, b15⟩ := band k
      obtain ⟨k, b14⟩ := band k
      obtain ⟨k, b13⟩ := band k
      obtain ⟨k, b12⟩ := band k
      obtain ⟨k, b11⟩ := band k
      obtain ⟨k, b10⟩ := band k
      obtain ⟨k, b9⟩ := band k
      obtain ⟨k, b8⟩ := band k
      obtain ⟨k, b7⟩ := band k
      obtain ⟨k, b6⟩ := band k
      obtain ⟨k, b5⟩ := band k
      obtain ⟨k, b4⟩ := band k
      obtain ⟨k, b3⟩ := band k
      obtain ⟨b1, b2⟩ := band k
      cases dec b1; cases dec b2
      have hl := dec h3
      rw [← d.sc] at hl
      obtain ⟨te, p, q⟩ := ps_compB2 (bi := it.bi) (G := G) (W := W) (it := evI E it) (g := evG tg) (rt := evTs E t) (it1 := evI E it1) (g1 := evG tg1) (rt1 := evTs E t1) (re := ev E elt) (i := i) d.calm (d.hN ▸ d.nd) (d.hN ▸ dec h1) hl (sw_true hk hl h4 (Bool.n h5)) (sI d it _ _ b5 b6) (by rw [d.hN, d.sc]; exact blkOk_by b7) (fun j hj => by simpa using List.all_eq_true.mp b8 j hj) (tgAll d b9) (fun j hj => by simpa using List.all_eq_true.mp b10 j hj) (tgAll d b11) (fun j hj => by simpa using List.all_eq_true.mp b12 j hj)
        (fun s H C cl fp => sTs (d.blk s H _ C cl fp) t _ b13) (fun s H C cl fp => sI (d.blk s H _ C cl fp) it1 _ _ b14 b15) (fun s H C cl fp => sTs (d.blk s H _ C cl fp) t1 _ b16) (fun s H C cl fp => (sC (d.blk s H _ C cl fp) elt _ b18).v b17) (noset (Bool.n b3)) (fun _ => noset (Bool.n b4))
      simp only [evS]; exact ps_ownA p q
    · cases h
  | .app i c, st, h => by
    simp only [ckS] at h
    split at h
    · obtain ⟨h, h6⟩ := band h
      obtain ⟨h, h5⟩ := band h
      obtain ⟨h, h4⟩ := band h
      obtain ⟨h, h3⟩ := band h
      obtain ⟨h1, h2⟩ := band h
      cases dec h1
      obtain ⟨a1, a2, a3, a4⟩ := d.nm h2
      simp only [evS]; exact ps_appA a1 a2 a3 a4 ((sC d c _ h6).v h5) (Bool.n h3) h4
    · cases h
  | .ext i c, st, h => by
    simp only [ckS] at h
    split at h
    · obtain ⟨h, h6⟩ := band h
      obtain ⟨h, h4⟩ := band h
      obtain ⟨h, h3⟩ := band h
      obtain ⟨h1, h2⟩ := band h
      cases dec h1
      obtain ⟨a1, a2, a3, a4⟩ := d.nm h2
      simp only [evS]; exact ps_extA a1 a2 a3 a4 (sC d c _ h6).b (Bool.n h3) h4
    · cases h
  | .set i j c, st, h => by
    simp only [ckS] at h
    split at h
    · obtain ⟨h, h7⟩ := band h
      obtain ⟨h, h6⟩ := band h
      obtain ⟨h, h5⟩ := band h
      obtain ⟨h, h4⟩ := band h
      obtain ⟨h, h3⟩ := band h
      obtain ⟨h1, h2⟩ := band h
      obtain ⟨a1, a2, a3, a4⟩ := d.nm h1
      simp only [evS]; exact ps_setA a1 a2 a3 a4 ((sC d c _ h7).v h6) ((sC d j _ h4).v h5) (tgtsub h3) (noswapS (Bool.n h2)) (nostores rfl) (asg1 rfl)
    · cases h
  | .put i j c, st, h => by
    simp only [ckS] at h
    split at h
    · obtain ⟨h, h7⟩ := band h
      obtain ⟨h, h6⟩ := band h
      obtain ⟨h, h5⟩ := band h
      obtain ⟨h, h4⟩ := band h
      obtain ⟨h, h3⟩ := band h
      obtain ⟨h1, h2⟩ := band h
      obtain ⟨a1, a2, a3, a4⟩ := d.nm h1
      simp only [evS]; exact ps_putA d.hK d.hP d.hw d.un a1 a2 a3 a4 ((sC d c _ h7).v h6) ((sC d j _ h4).v h5) (tgtsub h3) (noswapS (Bool.n h2)) (nostores rfl) (asg1 rfl)
    · cases h
  | .putI i j c, st, h => by
    simp only [ckS] at h
    split at h
    · obtain ⟨h, h7⟩ := band h
      obtain ⟨h, h6⟩ := band h
      obtain ⟨h, h5⟩ := band h
      obtain ⟨h, h4⟩ := band h
      obtain ⟨h, h3⟩ := band h
      obtain ⟨h1, h2⟩ := band h
      obtain ⟨a1, a2, a3, a4⟩ := d.nm h1
      simp only [evS]; exact ps_putI (Nat.lt_of_le_of_lt (Nat.le_refl _) d.un) a1 a2 a3 a4 ((sC d c _ h7).v h6) ((sC d j _ h4).v h5) (tgtsub h3) (noswapS (Bool.n h2)) (nostores rfl) (asg1 rfl)
    · cases h
  | .ownDc i k kx vx own tg it t, st, h => by
    simp only [ckS] at h
    split at h
    · obtain ⟨h, kz⟩ := band h
      obtain ⟨h, h5⟩ := band h
      obtain ⟨h, h4⟩ := band h
      obtain ⟨h, h3⟩ := band h
      obtain ⟨h1, h2⟩ := band h
      obtain ⟨kz, k12⟩ := band kz
      obtain ⟨kz, k11⟩ := band kz
      obtain ⟨kz, k10⟩ := band kz
      obtain ⟨kz, k9⟩ := band kz
      obtain ⟨kz, k7⟩ := band kz
      obtain ⟨kz, k6⟩ := band kz
      obtain ⟨kz, k5⟩ := band kz
      obtain ⟨kz, k4⟩ := band kz
      obtain ⟨kz, kt⟩ := band kz
      obtain ⟨kz, k3⟩ := band kz
      obtain ⟨k1, k2⟩ := band kz
      cases dec k1
      have hl := dec h3
      rw [← d.sc] at hl
      obtain ⟨rS, o0, po, pD, hn⟩ := d.putOk k
      obtain ⟨te, p, q⟩ := ps_dcB po (pD _) hn (bi := it.bi) (W := W) (it := evI E it) (g := evG tg) (rt := evTs E t) (rk := ev E kx) (rv := ev E vx) (i := i) d.calm (d.hN ▸ d.nd) (d.hN ▸ dec h1) hl (sw_dict hk hl h4 (Bool.n h5)) (sI d it _ _ k3 kt) (by rw [d.hN, d.sc]; exact blkOk_by k4) (tgAll d k5) (fun j hj => by
        simpa using List.all_eq_true.mp k6 j hj) (fun s H C cl fp => sTs (d.blk s H _ C cl fp) t _ k7) (fun s H C cl fp => (sC (d.blk s H _ C cl fp) kx _ k10).v k9) (fun s H C cl fp => (sC (d.blk s H _ C cl fp) vx _ k12).v k11) (noset (Bool.n k2))
      simp only [evS]; exact ps_ownA p q
    · cases h
  | .setO i j c, st, h => by
    simp only [ckS] at h
    split at h
    · obtain ⟨h, h7⟩ := band h
      obtain ⟨h, h6⟩ := band h
      obtain ⟨h, h5⟩ := band h
      obtain ⟨h, h4⟩ := band h
      obtain ⟨h, h3⟩ := band h
      obtain ⟨h1, h2⟩ := band h
      obtain ⟨a1, a2, a3, a4⟩ := d.nm h1
      simp only [evS]; exact ps_setO a1 a2 a3 a4 ((sC d c _ h7).v h6) ((sC d j _ h4).v h5) (tgtsub h3) (noswapS (Bool.n h2)) (nostores rfl) (asg1 rfl)
    · cases h
  | .if_ t a b, st, h => by
    simp only [ckS] at h
    split at h
    · obtain ⟨h, h3⟩ := band h
      obtain ⟨h1, h2⟩ := band h
      simp only [evS]; exact ps_ifA (sT d t _ h1) (sSs d hp hk hs hf a _ h2) (sSs d hp hk hs hf b _ h3)
    · cases h
  | .while_ t b, st, h => by
    simp only [ckS] at h
    split at h
    · obtain ⟨h1, h2⟩ := band h
      simp only [evS]; exact ps_whileA hp (sT d t _ h1) (sSs d hp hk hs hf b _ h2)
    · cases h
  | .for_ tg it b, st, h => by
    simp only [ckS] at h
    split at h
    · obtain ⟨h, h4⟩ := band h
      obtain ⟨h, ht⟩ := band h
      obtain ⟨h, h3⟩ := band h
      obtain ⟨h1, h2⟩ := band h
      simp only [evS]; exact ps_forA hp d.calm (sI d it _ _ h3 ht) (tgOk d h2) (sSs d hp hk hs hf b _ h4) (noset (Bool.n h1))
    · cases h
  | .never, st, h => by
    simp only [evS]; exact sNever
  | .raise_ c l, st, h => by
    simp only [ckS] at h
    split at h
    · obtain ⟨h, h3⟩ := band h
      obtain ⟨h1, h2⟩ := band h
      cases q : g.cs.lookup c with
      | none => rw [q] at h2; cases h2
      | some e =>
        rw [q] at h2
        obtain ⟨h2, k3⟩ := band h2
        obtain ⟨k1, k2⟩ := band h2
        obtain ⟨C, hcl, hm, ox, _⟩ := d.ec.at_ c e q
        obtain ⟨fI, fd, ps, k, i1, i2, i3, i4, i5⟩ := d.ini c e C q (Bool.n k3) hcl
        obtain ⟨g1, g2⟩ := d.glo h1
        have hst := lstar h3
        rw [List.all_cons] at hst
        obtain ⟨s1, s2⟩ := band hst
        simp only [evS]
        refine ps_raiseA (fl := e.fl) d.hK d.calm d.tk (d.hK ▸ ox) hcl ?_ i1 i2 i3 i4 i5 g1 (by rw [← dec k1]; exact hm) g2 (sLV d l _ h3) (fun ρ ds ρ1 z => by rw [evL_len l ρ ds ρ1 z]; exact dec k2) (Bool.n s1) (nobt s2)
        rw [d.ec.fl]
        unfold flC
        rw [q]
    · cases h
  | .try_ b k i l hd, st, h => by
    simp only [ckS] at h
    split at h
    · obtain ⟨h, h6⟩ := band h
      obtain ⟨h, h5⟩ := band h
      obtain ⟨h, h4⟩ := band h
      obtain ⟨h, h3⟩ := band h
      obtain ⟨h1, h2⟩ := band h
      obtain ⟨g1, g2⟩ := d.glo h1
      have fr : X.mg ("isinstance" : Str) = none ∧ X.mg ("ValueError" : Str) = none := ⟨d.free _ (by decide +kernel), d.free _ (by decide +kernel)⟩
      unfold nmC at h3
      cases q : g.cs.lookup k with
      | none => rw [q] at h3; cases h3
      | some e =>
        rw [q] at h3
        obtain ⟨C, hcl, hm, _⟩ := d.ec.at_ k e q
        rw [dec h3] at hm
        have hl : ∀ c C, G.cl c = some C → l.contains c = subC g.cs c k := fun c C hc => by
          obtain ⟨e', he⟩ := d.ec.cl c C hc
          exact eq_of_beq (List.all_eq_true.mp h4 _ (look_in he))
        have hb : ∀ (W : WX) (pn : List (Addr × Obj)) (xe : Value → Shared → Prop), Takes (X.tr pn xe) W → PassesOwn (model X.prog X.w) X.A X.env xe → PSs (X.tr pn xe) _ (tSv G W (evSs E b)) := fun W pn xe t p => sSs (X := X.tr pn xe) (d.tr t) p hk hs hf b _ h6
        unfold asOk at h2
        split at h2
        · obtain ⟨k1, k2⟩ := band h2
          simp only [evS]
          exact ps_tryA hs hf d.hK d.hN d.nd d.sc d.ec fr (dec k1) (dec k2) g1 g2 hm hcl hl d.tk hb h5
        · simp only [evS]
          exact ps_tryO hs hf d.hK d.hN d.sc d.ec fr g1 g2 hm hcl hl d.tk hb h5
        · cases h2
    · cases h
  | .tryM b cl, st, h => by
    simp only [ckS] at h
    split at h
    · obtain ⟨h, h3⟩ := band h
      obtain ⟨h1, h2⟩ := band h
      have hb : ∀ (W : WX) (pn : List (Addr × Obj)) (xe : Value → Shared → Prop), Takes (X.tr pn xe) W → PassesOwn (model X.prog X.w) X.A X.env xe → PSs (X.tr pn xe) _ (tSv G W (evSs E b)) := fun W pn xe t p => sSs (X := X.tr pn xe) (d.tr t) p hk hs hf b _ h3
      obtain ⟨Es, i1, i2⟩ := d.named cl _ h2
      simp only [evS]
      cases cl with
      | nil => cases h1
      | cons c0 cr =>
        cases Es with
        | nil => exact i1.elim
        | cons E0 Er =>
          cases i2 with
          | cons hc hi hn hsu r => exact ps_tryM hs hf d.hK (d.hN ▸ d.nd) d.ec i1 (.cons hc hi hn hsu r) d.tk hb
    · cases h
theorem sSs {W : WX} {X : Cx} (d : Dy G g E N sc cf W X) (hp : PassesOwn (model X.prog X.w) X.A X.env X.xe) (hk : X.env.scope.kind = .function) (hs : X.stack = X.env :: X.outer) (hf : X.env.frame = some X.env.locals) : ∀ (s : Ss) (st : List Stmt), ckSs g N s sc cf st = true → PSs X st (tSv G W (evSs E s))
  | .nil, st, h => by
    simp only [ckSs] at h
    cases st with
    | nil => simp only [evSs]; exact pss_nilA
    | cons _ _ => cases h
  | .cons s l, st, h => by
    simp only [ckSs] at h
    split at h
    · obtain ⟨h1, h2⟩ := band h
      simp only [evSs]; exact pss_consA (sS d hp hk hs hf s _ h1) (sSs d hp hk hs hf l _ h2)
    · cases h
end
end
end Mi

namespace Mi
open PySem PySem.Spec PyProof.Rows L2
theorem zip_fm {α : Type} {L : List (Str × α)} : ∀ {ns : List Str} {us : List α}, us.length = ns.length → (∀ p ∈ ns.zip us, L.lookup p.1 = some p.2) → (∀ n ∈ ns, (L.lookup n).isNone = false) ∧ ns.filterMap (fun n => (L.lookup n).map (n, ·)) = ns.zip us
  | [], [], _, _ => ⟨by simp, rfl⟩
  | n :: ns, u :: us, h, k => by
    obtain ⟨i1, i2⟩ := zip_fm (L := L) (ns := ns) (us := us) (by simpa using h) fun p hp => k p (by rw [List.zip_cons_cons]; exact List.mem_cons_of_mem _ hp)
    have e := k (n, u) (by rw [List.zip_cons_cons]; exact List.mem_cons_self ..)
    refine ⟨fun m hm => ?_, ?_⟩
    · rcases List.mem_cons.mp hm with q | hm
      · rw [q, e]; rfl
      · exact i1 m hm
    · rw [List.zip_cons_cons, List.filterMap_cons, e]
      simp only [Option.map_some, i2]
  | [], _ :: _, h, _ => by simp at h
  | _ :: _, [], h, _ => by simp at h
theorem zip_nd {α : Type} : ∀ {ns : List Str} {us : List α}, ns.Nodup → ∀ p ∈ ns.zip us, (ns.zip us).lookup p.1 = some p.2
  | [], _, _, p, h => by simp at h
  | _ :: _, [], _, p, h => by simp at h
  | n :: ns, u :: us, nd, p, h => by
    rw [List.nodup_cons] at nd
    rw [List.zip_cons_cons] at h ⊢
    rw [List.lookup_cons]
    rcases List.mem_cons.mp h with e | h
    · rw [e]; simp
    · have : (p.1 == n) = false := by
        cases q : p.1 == n with
        | false => rfl
        | true => exact absurd ((eq_of_beq q) ▸ (List.of_mem_zip h).1) nd.1
      rw [this]; exact zip_nd nd.2 p h
theorem bind_plain {x qual : Str} {as : List PySem.Arg} {kwd : List (Option Expr)} {body : List Stmt} {scope : Scope} {kV doc pm : Value} {an : Option Addr} {cdv ct : Value} {us : List Value} (hn : (as.map (·.arg)).Nodup) (hl : us.length = (as.map (·.arg)).length) :
    bindArgs (PySem.W.fnOf x qual ⟨[], as, none, [], kwd, none, []⟩ body scope .none kV doc pm an cdv ct) ⟨us, []⟩ = pure ((as.map (·.arg)).zip us) := by
  obtain ⟨i1, i2⟩ := zip_fm hl (zip_nd hn)
  have hm : (List.filter (fun n => (((as.map (·.arg)).zip us).lookup n).isNone) (as.map (·.arg))) = [] := by
    rw [List.filter_eq_nil_iff]
    intro n hn; rw [i1 n hn]; simp
  have hlen : as.length = us.length := by simpa using hl.symm
  generalize hz : (as.map (·.arg)).zip us = z at *
  unfold bindArgs seqItems? notAStandIn
  simp [hm, i2, hlen, hz]
  refine (if_neg ?_).trans ?_
  · intro h
    simp only [List.map_nil, List.nil_append, List.drop_nil, List.length_nil, Nat.sub_zero, List.take_length, hm] at h
    simp at h
  · rw [← List.filterMap_map, i2]

/-! ### functions -/
structure Fd where
  nm : Str
  ps : List Str
  N : List Str
  body : Ss
def resOf (r : R Fl) : Res := match r with
  | .ok .next ρ => .ok .non ρ.st
  | .ok (.ret d) ρ => .ok d ρ.st
  | .exc c fs ρ => .exc c fs ρ.st
  | _ => .bad
def pad (n : Nat) (sl : List Sl) : List Sl := sl ++ List.replicate (n - sl.length) .none
/-- the i-th function, k calls deep -/
def run (fs : List (Nat × Fd)) (gl : List (Nat × Str × D)) : Nat → Nat → List Sl → List Ob → Res
  | 0, _ => fun _ _ => .bad
  | k + 1, i => match fs.lookup i with
    | some f => fun sl st => resOf (evSs ⟨run fs gl k, gl⟩ f.body ⟨pad f.N.length sl, st⟩)
    | none => fun _ _ => if i = 1000000 ∧ 1 ≤ k then .ok .non [] else .bad
def ndS : List Str → Bool
  | [] => true
  | x :: l => !l.contains x && ndS l
theorem ndS_ok : ∀ {l : List Str}, ndS l = true → l.Nodup
  | [], _ => List.nodup_nil
  | x :: l, h => by
    obtain ⟨h1, h2⟩ := band h
    rw [List.nodup_cons]
    exact ⟨by simpa using h1, ndS_ok h2⟩
def stName : Stmt → Str
  | .FunctionDef n _ _ _ _ _ _ _ _ _ => n
  | _ => ""
def ckFd (g : Gs) (f : Fd) (sp : Str × Stmt) : Bool := match sp.2 with
  | .FunctionDef nm ⟨po, as, va, ko, _, kw, df⟩ body _ _ _ sc _ _ _ => decide (sp.1 = f.nm) && po.isEmpty && va.isNone && ko.isEmpty && kw.isNone && df.isEmpty && decide (as.map (·.arg) = f.ps) && ndS f.ps && ndS f.N && decide (f.N.take f.ps.length = f.ps) &&
    decide (sc.kind = .function) && !sc.isCoroutine && !sc.isGenerator && (f.ps.all fun x => match sc.names.lookup x with
      | some .local => true
      | some .cell => true
      | _ => false) && (sc.names.all fun y => decide (y.2 ≠ .free)) && ckSs g f.N f.body sc (fun _ => true) body
  | _ => false
def gsOf (cs : List (Nat × Ec)) (fs : List (Nat × Fd)) (gl : List (Nat × Str × D)) : Gs := ⟨fs.map fun f => (f.1, f.2.nm, f.2.ps.length), gl, cs⟩
theorem look_map {α β : Type} {i : Nat} {g : α → β} : ∀ {l : List (Nat × α)}, (l.map fun p => (p.1, g p.2)).lookup i = (l.lookup i).map g
  | [] => rfl
  | p :: l => by
    rw [List.map_cons, List.lookup_cons, List.lookup_cons]
    cases i == p.1 with
    | true => rfl
    | false => exact look_map
theorem look_get {α : Type} {i : Nat} {a : α} : ∀ {l : List (Nat × α)}, l.lookup i = some a → ∃ j : Nat, l[j]? = some (i, a)
  | [], h => by cases h
  | p :: l, h => by
    rw [List.lookup_cons] at h
    cases q : i == p.1 with
    | true =>
      rw [q] at h
      have e1 : p.2 = a := Option.some.inj h
      exact ⟨0, by rw [eq_of_beq q, ← e1]; rfl⟩
    | false =>
      rw [q] at h
      obtain ⟨j, e⟩ := look_get h
      exact ⟨j + 1, by simpa using e⟩
def ckAll (cs : List (Nat × Ec)) (gl : List (Nat × Str × D)) (fs : List (Nat × Fd)) (sts : List (Str × Stmt)) : Bool := (fs.lookup 1000000).isNone && decide (fs.length = sts.length) && (fs.zip sts).all fun p => ckFd (gsOf cs fs gl) p.1.2 p.2
section
variable {G : Cg} {cs : List (Nat × Ec)} {ins : List (Nat × List Str × Str × Stmt)} {fs : List (Nat × Fd)} {gl : List (Nat × Str × D)} {mg : Str → Option Value} {base : Heap}
theorem nm_none {sl : List Sl} {n j : Nat} {s : Sl} (e : (pad n sl)[j]? = some s) : sl[j]? = some s ∨ s = .none := by
  unfold pad at e
  by_cases h : j < sl.length
  · rw [List.getElem?_append_left h] at e; exact .inl e
  · rw [List.getElem?_append_right (by omega)] at e
    right
    have := List.mem_of_getElem? e
    exact List.eq_of_mem_replicate this
theorem start_get {N : List Str} {vs : List V} {j : Nat} {o : Option V} (e : (vs.map some)[j]? = some o) : (L2.start N vs)[j]? = some o := by
  unfold L2.start
  rw [List.getElem?_append_left (List.getElem?_eq_some_iff.mp e).1]; exact e
/-- the first state of a call -/
theorem Rp.entry {sh : List Addr} {M : Addr → Prop} {as : List Sl} {st : List Ob} {vs : List V} {N : List Str} {H : Hp} (rp : G.rp sh M ⟨as, st⟩ (vs.map some) H) : G.rp sh M ⟨pad N.length as, st⟩ (L2.start N vs) H := by
  have hl : as.length = vs.length := by have := rp.len; simpa using this
  refine ⟨by simp [pad, L2.start, hl], fun j d e => ?_, fun j d e => ?_, fun j d e => ?_, fun i j d e a h1 h2 m1 m2 g1 g2 => ?_, rp.dom, rp.nd, rp.shN, rp.shl, rp.obs⟩
  · rcases nm_none e with e | e
    · obtain ⟨v, h1, h2⟩ := rp.val j d e; exact ⟨v, start_get h1, h2⟩
    · cases e
  · rcases nm_none e with e | e
    · obtain ⟨v, h1, h2⟩ := rp.own j d e; exact ⟨v, start_get h1, h2⟩
    · cases e
  · rcases nm_none e with e | e
    · obtain ⟨v, h1, h2⟩ := rp.bor j d e; exact ⟨v, start_get h1, h2⟩
    · cases e
  · rcases nm_none h1 with h1 | h1
    · rcases nm_none h2 with h2 | h2
      · have z : ∀ {n : Nat} {s : Sl}, as[n]? = some s → (L2.start N vs)[n]? = some (some (.ref a)) → (vs.map some)[n]? = some (some (.ref a)) := fun {n s} q1 q2 => by
          have hn : n < (vs.map some).length := by have := (List.getElem?_eq_some_iff.mp q1).1; simpa [hl] using this
          unfold L2.start at q2
          rwa [List.getElem?_append_left hn] at q2
        exact rp.dis i j d e a h1 h2 m1 m2 (z h1 g1) (z h2 g2)
      · subst h2; cases m2
    · subst h1; cases m1
theorem ownEntry {as : List Sl} {st : List Ob} {vs : List V} {N : List Str} (hl : as.length = vs.length) (no : ∀ a, ¬ OwnS ⟨as, st⟩ (vs.map some) a) : ∀ a, ¬ OwnS ⟨pad N.length as, st⟩ (L2.start N vs) a := fun a ⟨i, d, e, q⟩ => by
  rcases nm_none e with e | e
  · refine no a ⟨i, d, e, ?_⟩
    have hn : i < (vs.map some).length := by have := (List.getElem?_eq_some_iff.mp e).1; simpa [hl] using this
    unfold L2.start at q
    rwa [List.getElem?_append_left hn] at q
  · cases e
/-- the last state -/
theorem Rp.exit {sh : List Addr} {M : Addr → Prop} {ρ : AE} {σ : Sg} {H : Hp} (rp : G.rp sh M ρ σ H) : G.rp sh M ⟨[], ρ.st⟩ [] H :=
  ⟨rfl, fun j d e => by simp at e, fun j d e => by simp at e, fun j d e => by simp at e, fun i j d e a h1 => by simp at h1, rp.dom, rp.nd, rp.shN, rp.shl, rp.obs⟩
theorem Kp.exit {O O' : Ow} {sh sh' : List Addr} {M M' : Addr → Prop} {H H' : Hp} (k : Kp O O O' sh sh' M M' H H') (no : ∀ a, ¬ O a) : Kp none1 none1 none1 sh sh' M M' H H' :=
  ⟨fun a o e n _ => k.keep a o e n (no a), k.shn, k.av, fun _ _ _ n => n, k.pre, k.there, fun _ _ z => z, fun a o e n _ => k.st a o e n (no a), fun _ _ _ _ z => z⟩
/-- a class's __init__, in the text -/
def nevers : Nat → Ss | 0 => .nil | n + 1 => .cons .never (nevers n)
def insB (cs : List (Nat × Ec)) (ins : List (Nat × List Str × Str × Stmt)) : Bool := cs.all fun p => p.2.fl.isEmpty || (match ins.lookup p.1 with
  | some (ps, _, st) => ckFd ⟨[], [], []⟩ ⟨"__init__", ps, ps, nevers p.2.fl.length⟩ ("__init__", st) && decide (ps.length = p.2.fl.length + 1) && initB ps p.2.fl (defBody st) && locB (defScope st) ps
  | none => false)
/-- what the functions' texts and the top's heap must say -/
structure Tp (G : Cg) (cs : List (Nat × Ec)) (ins : List (Nat × List Str × Str × Stmt)) (fs : List (Nat × Fd)) (gl : List (Nat × Str × D)) (sts : List (Str × Stmt)) (mg : Str → Option Value) : Prop where
  ck : ckAll cs gl fs sts = true
  ec : EcOk G mg cs
  ib : insB cs ins = true
  ini : ∀ (c : Nat) (e : Ec) (C : Addr) (q : List Str × Str × Stmt), cs.lookup c = some e → e.fl.isEmpty = false → G.cl c = some C → ins.lookup c = some q → ∃ fI fd, PySem.W.findIn G.K (.ref C) "__init__" = some (some (.ref fI)) ∧ PySem.W.typeIn G.K (.ref fI) = some (.type "function") ∧
    FunD G.K (stName q.2.2) q.2.1 (defArgs q.2.2) (defBody q.2.2) (defScope q.2.2) [] [] fI fd
  fd : ∀ (i : Nat) (st : Str × Stmt), sts[i]? = some st → ∃ fa fd, FunD G.K (stName st.2) (stName st.2) (defArgs st.2) (defBody st.2) (defScope st.2) [] [] fa fd ∧ mg st.1 = some (.ref fa)
  free : ∀ x ∈ frees, mg x = none
  gl : (∀ (k : Nat) (p : Str × D), gl.lookup k = some p → isDik p.2 = false → ∃ v u, mg p.1 = some u ∧ RelV v u ∧ ∀ H N sh, G.rv H N sh p.2 v) ∧ ∀ (k : Nat) (p : Str × D), gl.lookup k = some p → isDik p.2 = true → ∃ a, mg p.1 = some (.ref a) ∧ DikSays G p.2 a
structure CkF (g : Gs) (f : Fd) (st : Str × Stmt) : Prop where
  nm : st.1 = f.nm
  sc : FnScope f.N f.ps (defScope st.2)
  body : ckSs g f.N f.body (defScope st.2) (fun _ => true) (defBody st.2) = true
  bind : ∀ {K : PySem.W.Frag} {qn : Str} {fa : Addr} {fd : FuncData}, FunD K (stName st.2) qn (defArgs st.2) (defBody st.2) (defScope st.2) [] [] fa fd → Binds K fd f.ps [] ∧ ∀ (s : Shared) (us : List Value), us.length = f.ps.length → BindsTo s fd ⟨us, []⟩ (f.ps.zip us)
theorem ckFd_ok {g : Gs} {f : Fd} {st : Str × Stmt} (h : ckFd g f st = true) : CkF g f st := by
  obtain ⟨gn, st⟩ := st
  unfold ckFd at h
  simp only at h
  split at h
  · rename_i nm po as va ko kd kw df body a1 a2 a3 sc a4 a5 a6
    obtain ⟨h, c16⟩ := band h
    obtain ⟨h, c15⟩ := band h
    obtain ⟨h, c14⟩ := band h
    obtain ⟨h, c13⟩ := band h
    obtain ⟨h, c12⟩ := band h
    obtain ⟨h, c11⟩ := band h
    obtain ⟨h, c10⟩ := band h
    obtain ⟨h, c9⟩ := band h
    obtain ⟨h, c8⟩ := band h
    obtain ⟨h, c7⟩ := band h
    obtain ⟨h, c6⟩ := band h
    obtain ⟨h, c5⟩ := band h
    obtain ⟨h, c4⟩ := band h
    obtain ⟨h, c3⟩ := band h
    obtain ⟨c1, c2⟩ := band h
    cases po with
    | cons _ _ => cases c2
    | nil =>
    cases va with
    | some _ => cases c3
    | none =>
    cases ko with
    | cons _ _ => cases c4
    | nil =>
    cases kw with
    | some _ => cases c5
    | none =>
    cases df with
    | cons _ _ => cases c6
    | nil =>
    have e7 := dec c7
    have nd : (as.map (·.arg)).Nodup := by rw [e7]; exact ndS_ok c8
    refine ⟨dec c1, ⟨dec c11, Bool.n c12, Bool.n c13, ndS_ok c9, dec c10, fun x hx => ?_, fun y hy => ?_⟩, c16, fun {K qn fa fd} F => ⟨F.bindsN fun kV doc pm an cdv ct us hl => ?_, fun s us hl => F.bindsA (fun kV doc pm an cdv ct us hl => ?_) s us hl⟩⟩
    · have := List.all_eq_true.mp c14 x hx
      split at this
      · exact .inl (by assumption)
      · exact .inr (by assumption)
      · cases this
    · exact dec (List.all_eq_true.mp c15 y hy)
    · rw [← e7] at hl ⊢; exact bind_plain nd hl
    · rw [← e7] at hl ⊢; exact bind_plain nd hl
  · cases h
theorem Tp.at {sts : List (Str × Stmt)} (t : Tp G cs ins fs gl sts mg) {i : Nat} {f : Fd} (h : fs.lookup i = some f) : ∃ (j : Nat) (st : Str × Stmt), sts[j]? = some st ∧ CkF (gsOf cs fs gl) f st := by
  obtain ⟨j, h⟩ := look_get h
  obtain ⟨h0, h2⟩ := band t.ck
  obtain ⟨_, h1⟩ := band h0
  have hl := dec h1
  have hi : j < sts.length := by rw [← hl]; exact (List.getElem?_eq_some_iff.mp h).1
  refine ⟨j, sts[j], List.getElem?_eq_getElem hi, ckFd_ok (List.all_eq_true.mp h2 ((i, f), sts[j]) (List.mem_of_getElem? (i := j) ?_))⟩
  rw [List.getElem?_zip_eq_some]
  exact ⟨h, List.getElem?_eq_getElem hi⟩
theorem probe {fs : List (Nat × Fd)} {gl : List (Nat × Str × D)} (hn : (fs.lookup 1000000).isNone = true) : ∀ {k : Nat}, isOk (run fs gl k 1000000 [] []) = true → k - 2 + 1 + 1 ≤ k
  | 0, h => by cases h
  | 1, h => by
    cases q : fs.lookup 1000000 with
    | some f => rw [q] at hn; cases hn
    | none =>
      have e : run fs gl 1 1000000 [] [] = .bad := by simp [run, q]
      rw [e] at h; cases h
  | k + 2, h => by omega
theorem Tp.init {sts : List (Str × Stmt)} (t : Tp G cs ins fs gl sts mg) {c : Nat} {e : Ec} {C : Addr} {P : Program} {w : World} {k : Nat} {Z : Nat → Prop} (q1 : cs.lookup c = some e) (q2 : e.fl.isEmpty = false) (q3 : G.cl c = some C) (z : Z (k - 2 + 1 + 1)) : ∃ (fI : Addr) (fd : FuncData) (ps : List Str) (j : Nat), PySem.W.findIn G.K (.ref C) "__init__" = some (some (.ref fI)) ∧ PySem.W.typeIn G.K (.ref fI) = some (.type "function") ∧
    FnOk P w G.K mg base (CX P w) j fI fd ps (spInit G.K C e.fl) ∧ Z (j + 1) ∧ Binds G.K fd ps [] := by
  have h := List.all_eq_true.mp t.ib _ (look_in q1)
  simp only [q2, Bool.false_or] at h
  cases qi : ins.lookup c with
  | none => rw [qi] at h; cases h
  | some q =>
    obtain ⟨fI, fd, i1, i2, F⟩ := t.ini c e C q q1 q2 q3 qi
    obtain ⟨ps, qn, st⟩ := q
    rw [qi] at h
    obtain ⟨h, h4⟩ := band h
    obtain ⟨h, h3⟩ := band h
    obtain ⟨h1, h2⟩ := band h
    have ck := ckFd_ok h1
    obtain ⟨C', hC, _, ox, _, _, hno, _⟩ := t.ec.at_ c e q1
    rw [q3] at hC; cases hC
    exact ⟨fI, fd, ps, k - 2 + 1, i1, i2, initFn F ck.sc h4 (dec h2) h3 ox hno _, z, (ck.bind F).1⟩
theorem fnOk {sts : List (Str × Stmt)} (t : Tp G cs ins fs gl sts mg) : ∀ (k i : Nat) (f : Fd) (st : Str × Stmt) (fa : Addr) (fd : FuncData), fs.lookup i = some f → CkF (gsOf cs fs gl) f st → FunD G.K (stName st.2) (stName st.2) (defArgs st.2) (defBody st.2) (defScope st.2) [] [] fa fd →
    FnOk G.P G.w G.K mg base (CX G.P G.w) k fa fd f.ps (spF G (run fs gl k i) f.ps.length)
  | 0, i, f, st, fa, fd, hf, c, F => ⟨fun vs H Q E h => h.1, fun A outer s H args us vs Q E _ _ _ _ h => by
      obtain ⟨_, sh, N, as, st, rp, no, z⟩ := h
      exact z.elim⟩
  | k + 1, i, f, st, fa, fd, hf, c, F => by
    refine F.ok c.sc (fun vs H Q E h => h.1) fun cdv A outer s H vs Q E hr h => ?_
    obtain ⟨hl, sh, M, as, st0, rp, no, z⟩ := h
    have hl2 : as.length = vs.length := by have := rp.len; simpa using this
    have d : Dy G (gsOf cs fs gl) ⟨run fs gl k, gl⟩ f.N (defScope st.2) (fun _ => true) (fun cls dx _ H => E cls dx H) (cxOf (CX G.P G.w) G.P G.w G.K mg base f.N (stName st.2) (defScope st.2) fa cdv A outer s H E) :=
      ⟨rfl, rfl, rfl, rfl, c.sc.nd, rfl, rfl, rfl, by have := hr.un; show (A.deeper _).units + 66 < cLine; omega, takes_of rfl rfl rfl rfl, t.free, ⟨rfl, t.gl⟩, fun j x n hj => by
        have hj' : (fs.map fun f => (f.1, (fun f : Fd => (f.nm, f.ps.length)) f.2)).lookup j = some (x, n) := hj
        rw [look_map (g := fun f : Fd => (f.nm, f.ps.length))] at hj'
        obtain ⟨fj, ej, e2⟩ := Option.map_eq_some_iff.mp hj'
        cases e2
        obtain ⟨m, sj, es, cj⟩ := t.at ej
        obtain ⟨fb, fe, Fj, mj⟩ := t.fd m sj es
        exact ⟨fb, fe, fj.ps, k, fnOk t k j fj sj fb fe ej cj Fj, hr, by rw [← cj.nm]; exact mj, Fj.kp, (cj.bind Fj).1⟩, t.ec, fun c e C q1 q2 q3 => t.init (k := k) (Z := fun n => isOk (run fs gl k 1000000 [] []) = true → Room n _) q1 q2 q3 fun z => hr.mono (probe (band (band t.ck).1).1 z)⟩
    refine ⟨_, sSs d (passes_of rfl) c.sc.kind rfl rfl f.body _ c.body, sh, M, ⟨pad f.N.length as, st0⟩, rp.entry, ?_⟩
    have no' := ownEntry (N := f.N) (st := st0) hl2 no
    have e : run fs gl (k + 1) i as st0 = resOf (evSs ⟨run fs gl k, gl⟩ f.body ⟨pad f.N.length as, st0⟩) := by
      simp only [run, hf]
    rw [e] at z
    cases q : evSs ⟨run fs gl k, gl⟩ f.body ⟨pad f.N.length as, st0⟩ with
    | bad => rw [q] at z; exact z.elim
    | exc c fs' ρ' =>
      rw [q] at z
      exact fun cls dx sh' M' σ' H' rp' k' hx => z cls dx sh' M' H' rp'.exit (k'.exit no') hx
    | ok fl ρ' =>
      rw [q] at z
      cases fl with
      | next => exact fun sh' M' σ' H' rp' k' => z sh' M' .non H' rp'.exit (k'.exit no') rv_non
      | ret dv => exact fun sh' M' σ' H' rp' k' v hv => z sh' M' v H' rp'.exit (k'.exit no') hv
      | brk => exact z.elim
      | cont => exact z.elim
end
end Mi

namespace Mi
open PySem PySem.Spec PyProof.Rows L2
/-! ### the head -/
def valOk (K : PySem.W.Frag) : Nat → D → Value → Bool
  | _, .non, .none => true
  | _, .bl b, .bool c => b == c
  | _, .int i, .int j _ => decide (i = j)
  | _, .str s, .str t _ => decide (s = t) && PyData.strOk s && decide (s.length ≤ 10000)
  | n + 1, .tup l, .ref a => (match K.lookup a with
    | some ⟨.type c, _, .seq its _, _⟩ => decide (c = "tuple") && decide (its.size ≤ sizeLine) && (decide (l.length = its.toList.length) && (l.zip its.toList).all fun p => valOk K n p.1 p.2)
    | _ => false)
  | _, _, _ => false
def strOf : D → Str
  | .str s => s
  | _ => ""
def dikOk (K : PySem.W.Frag) (a : Addr) : List (D × D) → Bool
  | [] => true
  | (.str k, u) :: r => (match PySem.W.nsIn K a k with
    | some (some v) => valOk K 8 u v
    | _ => false) && dikOk K a r
  | _ => false
def glOk (K : PySem.W.Frag) (p : Str × D) : Bool := match PySem.W.nsIn K mainGlobals p.1 with
  | some (some u) => (match p.2 with
    | .dik ks us => (match u with
      | .ref a => dikOk K a (ks.zip us)
      | _ => false)
    | d => valOk K 8 d u)
  | _ => false
/-- the dicts' names and keys -/
def tabs (gl : List (Nat × Str × D)) : List (Str × List Str) := gl.filterMap fun p => match p.2.2 with
  | .dik ks _ => some (p.2.1, ks.map strOf)
  | _ => none
abbrev AlM : Type := He.AlD × List (Option (List (Option (Str × Int))))
def noLst (K : PySem.W.Frag) : Bool := K.all fun p => match p.2.cls with
  | .type c => decide (c ≠ "list")
  | _ => true
theorem noLst_ok {K : PySem.W.Frag} (h : noLst K = true) {a : Addr} {o : Obj} (e : K.lookup a = some o) (q : o.cls = .type "list") : False := by
  have hm : (a, o) ∈ K := by
    induction K with
    | nil => cases e
    | cons p K ih =>
      obtain ⟨h1, h2⟩ := band (show ((match p.2.cls with | .type c => decide (c ≠ "list") | _ => true) && noLst K) = true from h)
      rw [List.lookup_cons] at e
      cases w : a == p.1 with
      | true =>
        rw [w] at e
        have e1 : p.2 = o := Option.some.inj e
        rw [eq_of_beq w, ← e1]; exact List.mem_cons_self ..
      | false => rw [w] at e; exact List.mem_cons_of_mem _ (ih h2 e)
  have := List.all_eq_true.mp h (a, o) hm
  rw [q] at this
  simp at this
theorem valOk_ok {P : Program} {w : World} {K : PySem.W.Frag} : ∀ (n : Nat) (d : D) (u : Value), valOk K n d u = true → ∃ v, RelV v u ∧ ∀ H N sh, RV P w K H N sh d v := by
  have zz : ∀ (n : Nat), (∀ (d : D) (u : Value), valOk K n d u = true → ∃ v, RelV v u ∧ ∀ H N sh, RV P w K H N sh d v) → ∀ (l : List D) (us : List Value), l.length = us.length → ((l.zip us).all fun p => valOk K n p.1 p.2) = true → ∃ vs, Vals vs us ∧ ∀ H N sh, RVs P w K H N sh l vs := by
    intro n ih l
    induction l with
    | nil => intro us hl _; cases us with
      | nil => exact ⟨[], .nil, fun _ _ _ => .nil⟩
      | cons _ _ => cases hl
    | cons d l il => intro us hl h; cases us with
      | nil => cases hl
      | cons u us =>
        obtain ⟨h1, h2⟩ := band (show (valOk K n d u && ((l.zip us).all fun p => valOk K n p.1 p.2)) = true from h)
        obtain ⟨v, a1, a2⟩ := ih d u h1
        obtain ⟨vs, b1, b2⟩ := il us (by simpa using hl) h2
        exact ⟨v :: vs, .cons a1 b1, fun H N sh => .cons (a2 H N sh) (b2 H N sh)⟩
  intro n
  induction n with
  | zero =>
    intro d u h
    cases d <;> cases u <;> first | cases h | skip
    · exact ⟨.non, rfl, fun _ _ _ => by simp only [RV]⟩
    · have := eq_of_beq (show (_ == _) = true from h); subst this; exact ⟨.bl _, rfl, fun _ _ _ => by simp only [RV]⟩
    · have := dec (show decide _ = true from h); subst this; exact ⟨.int _, ⟨_, rfl⟩, fun _ _ _ => by simp only [RV]⟩
    · obtain ⟨h, h3⟩ := band (show (decide _ && _ && decide _) = true from h)
      obtain ⟨h1, h2⟩ := band h
      have := dec h1; subst this; exact ⟨.str _, ⟨_, rfl⟩, fun _ _ _ => by simp only [RV]; exact ⟨trivial, okS_of h2 (dec h3)⟩⟩
  | succ n ih =>
    intro d u h
    cases d <;> cases u <;> first | cases h | skip
    · exact ⟨.non, rfl, fun _ _ _ => by simp only [RV]⟩
    · have := eq_of_beq (show (_ == _) = true from h); subst this; exact ⟨.bl _, rfl, fun _ _ _ => by simp only [RV]⟩
    · have := dec (show decide _ = true from h); subst this; exact ⟨.int _, ⟨_, rfl⟩, fun _ _ _ => by simp only [RV]⟩
    · obtain ⟨h, h3⟩ := band (show (decide _ && _ && decide _) = true from h)
      obtain ⟨h1, h2⟩ := band h
      have := dec h1; subst this; exact ⟨.str _, ⟨_, rfl⟩, fun _ _ _ => by simp only [RV]; exact ⟨trivial, okS_of h2 (dec h3)⟩⟩
    · rename_i l a
      simp only [valOk] at h
      split at h
      · rename_i c od its m sl hq
        obtain ⟨h, h3⟩ := band h
        obtain ⟨h1, h2⟩ := band h
        obtain ⟨h4, h5⟩ := band h3
        have e1 := dec h1
        subst e1
        obtain ⟨vs, b1, b2⟩ := zz n ih l its.toList (dec h4) h5
        refine ⟨.ref a, rfl, fun H N sh => ?_⟩
        simp only [RV]
        exact ⟨a, vs, rfl, .inr ⟨_, its, m, hq, rfl, rfl, dec h2, b1⟩, b2 H N sh⟩
      · cases h
/-- the top's facts in one check -/
def tpChk (sts : List (Str × Stmt)) (gl : List (Nat × Str × D)) (K : PySem.W.Frag) : Bool := noLst K && frees.all (fun x => (He.Fa.free x).ok K) && sts.all (fun st => (He.Fa.glo st.1).ok K) && gl.all (fun p => glOk K p.2)
/-- the classes -/
def clsChk (cs : List (Nat × Ec)) (K : PySem.W.Frag) : Bool := cs.all fun p => (He.Fa.glo p.2.nm).ok K && clsB K (He.ga K p.2.nm) && p.2.fl.all (fun f => eqB (PySem.W.findIn K (.ref (He.ga K p.2.nm)) f) (some none)) && decide (PySem.W.kitOne K (.ref (He.ga K p.2.nm)) (.type "ValueError") = some true) &&
  cs.all fun q => decide (PySem.W.exmOne K (.ref (He.ga K p.2.nm)) (.ref (He.ga K q.2.nm)) = some (subC cs p.1 q.1)) && decide (PySem.W.kitOne K (.ref (He.ga K p.2.nm)) (.ref (He.ga K q.2.nm)) = some (subC cs p.1 q.1))
def nmOf (cs : List (Nat × Ec)) (c : Nat) : Str := match cs.lookup c with | some e => e.nm | none => ""
def dfI (cs : List (Nat × Ec)) (p : Nat × List Str × Str × Stmt) : He.DefD := ⟨(nmOf cs p.1, some "__init__"), stName p.2.2.2, p.2.2.1, defArgs p.2.2.2, defBody p.2.2.2, defScope p.2.2.2, [], []⟩
def insChk (cs : List (Nat × Ec)) (ins : List (Nat × List Str × Str × Stmt)) (K : PySem.W.Frag) : Bool := ins.all fun p => eqB (PySem.W.findIn K (.ref (He.ga K (nmOf cs p.1))) "__init__") (some (some (.ref (He.ma K (He.ga K (nmOf cs p.1)) "__init__")))) && decide (PySem.W.typeIn K (.ref (He.ma K (He.ga K (nmOf cs p.1)) "__init__")) = some (.type "function"))
def clG (cs : List (Nat × Ec)) (K : PySem.W.Frag) : Nat → Option Addr := fun c => (cs.lookup c).map fun e => He.ga K e.nm
def dfOf (st : Str × Stmt) : He.DefD := ⟨(st.1, none), stName st.2, stName st.2, defArgs st.2, defBody st.2, defScope st.2, [], []⟩
def obsM (cs : List (Nat × Ec)) (ins : List (Nat × List Str × Str × Stmt)) (sts : List (Str × Stmt)) (gl : List (Nat × Str × D)) (K : PySem.W.Frag) : AlM := ((tpChk sts gl K && clsChk cs K && insChk cs ins K && (sts.map dfOf ++ ins.map (dfI cs)).all fun d => d.ok K, (sts.map dfOf ++ ins.map (dfI cs)).map fun d => He.fnW K d.at_), (tabs gl).map fun t => He.dicW K (He.ga K t.1))
def valM (cs : List (Nat × Ec)) (ins : List (Nat × List Str × Str × Stmt)) (sts : List (Str × Stmt)) (gl : List (Nat × Str × D)) (w : World) : AlM := ((true, (sts.map dfOf ++ ins.map (dfI cs)).map He.DefD.val), (tabs gl).map fun t => some (He.keysIn w.params t.2))
def SaysM (cs : List (Nat × Ec)) (ins : List (Nat × List Str × Str × Stmt)) (sts : List (Str × Stmt)) (gl : List (Nat × Str × D)) (w : World) (K : PySem.W.Frag) : Prop := obsM cs ins sts gl K = valM cs ins sts gl w
def obsMG (cs : List (Nat × Ec)) (ins : List (Nat × List Str × Str × Stmt)) (n : Nat) (sts : List (Str × Stmt)) (gl : List (Nat × Str × D)) (g : Addr → Option Obj) : AlM := obsM cs ins sts gl (He.frG g (He.asD g n))
def hookM (cs : List (Nat × Ec)) (ins : List (Nat × List Str × Str × Stmt)) (n : Nat) (sts : List (Str × Stmt)) (gl : List (Nat × Str × D)) : PySem.W.Hook where
  α := AlM
  obs := fun s => obsMG cs ins n sts gl s.heap.get?
  val := fun w => valM cs ins sts gl w
  says := fun w h => ∃ K : PySem.W.Frag, K.In h ∧ SaysM cs ins sts gl w K
  of := fun _ _ e => ⟨_, He.frG_in, e⟩
  keeps := fun _ _ _ ⟨K, hK, c⟩ k => ⟨K, PySem.W.Frag.In.keeps hK k, c⟩
theorem obsMG_eq {cs : List (Nat × Ec)} {ins : List (Nat × List Str × Str × Stmt)} {n : Nat} {sts : List (Str × Stmt)} {gl : List (Nat × Str × D)} {g : Addr → Option Obj} {s : Shared} (h : ∀ a, g a = s.heap.get? a) : obsMG cs ins n sts gl g = (hookM cs ins n sts gl).obs s := by
  have e : g = s.heap.get? := funext h
  rw [e] <;> rfl
theorem dikOk_ok {P : Program} {w : World} {K : PySem.W.Frag} {a : Addr} {s : Str} {d : D} : ∀ {l : List (D × D)}, dikOk K a l = true → lookKD l s = some d → ∃ v u, PySem.W.nsIn K a s = some (some u) ∧ RelV v u ∧ ∀ H N sh, RV P w K H N sh d v
  | [], _, h => by cases h
  | (.str k, u) :: r, h, hl => by
    obtain ⟨h1, h2⟩ := band h
    simp only [lookKD] at hl
    split at hl
    · rename_i e
      subst e
      cases hl
      split at h1
      · rename_i v e1
        obtain ⟨x, r1, r2⟩ := valOk_ok (P := P) (w := w) 8 _ _ h1
        exact ⟨x, v, e1, r1, r2⟩
      · cases h1
    · exact dikOk_ok h2 hl
  | (.non, _) :: _, h, _ => by cases h
  | (.bl _, _) :: _, h, _ => by cases h
  | (.int _, _) :: _, h, _ => by cases h
  | (.tup _, _) :: _, h, _ => by cases h
  | (.lst _, _) :: _, h, _ => by cases h
  | (.dik _ _, _) :: _, h, _ => by cases h
  | (.dit _ _, _) :: _, h, _ => by cases h
  | (.obj _, _) :: _, h, _ => by cases h
theorem clsChk_ok {cs : List (Nat × Ec)} {P : Program} {w : World} {K : PySem.W.Frag} {mg : Str → Option Value} {h : Heap} (c : clsChk cs K = true) (X : K.In h) (G : h.Ns mainGlobals mg) : EcOk ⟨P, w, K, clG cs K, flC cs⟩ mg cs := by
  have key : ∀ (c : Nat) (C : Addr), clG cs K c = some C → ∃ e, cs.lookup c = some e ∧ C = He.ga K e.nm := fun c C hc => by
    obtain ⟨e, he, eq⟩ := Option.map_eq_some_iff.mp hc
    exact ⟨e, he, eq.symm⟩
  refine ⟨fun _ => rfl, fun c' C hc => (key c' C hc).elim fun e z => ⟨e, z.1⟩, fun c' e he => ?_, fun c1 c2 C E h1 h2 => ?_⟩
  · have q := List.all_eq_true.mp c _ (look_in he)
    obtain ⟨q, q5⟩ := ban q
    obtain ⟨q, q4⟩ := ban q
    obtain ⟨q, q3⟩ := ban q
    obtain ⟨q1, q2⟩ := ban q
    obtain ⟨a1, a2, a3⟩ := clsB_ok q2
    refine ⟨He.ga K e.nm, (show (cs.lookup c').map (fun e => He.ga K e.nm) = some (He.ga K e.nm) by rw [he]; rfl), He.glo_ok X G q1, a1, a2, a3, fun f hf => eqB_ok (List.all_eq_true.mp q3 f hf), of_decide_eq_true q4⟩
  · obtain ⟨e1, l1, rfl⟩ := key c1 C h1
    obtain ⟨e2, l2, rfl⟩ := key c2 E h2
    have q := List.all_eq_true.mp c _ (look_in l1)
    obtain ⟨q, q5⟩ := ban q
    obtain ⟨z1, z2⟩ := ban (List.all_eq_true.mp q5 _ (look_in l2))
    exact ⟨of_decide_eq_true z1, of_decide_eq_true z2⟩
theorem SaysM.tp {cs : List (Nat × Ec)} {ins : List (Nat × List Str × Str × Stmt)} {sts : List (Str × Stmt)} {gl : List (Nat × Str × D)} {fs : List (Nat × Fd)} {P : Program} {w : World} {K : PySem.W.Frag} {mg : Str → Option Value} {h : Heap} (c : SaysM cs ins sts gl w K) (ck : ckAll cs gl fs sts = true) (ib : insB cs ins = true) (X : K.In h) (G : h.Ns mainGlobals mg) :
    Tp ⟨P, w, K, clG cs K, flC cs⟩ cs ins fs gl sts mg ∧ noLst K = true := by
  have c1 : (tpChk sts gl K && clsChk cs K && insChk cs ins K && (sts.map dfOf ++ ins.map (dfI cs)).all fun d => d.ok K) = true := congrArg (fun z : AlM => z.1.1) c
  have c2 : (sts.map dfOf ++ ins.map (dfI cs)).map (fun d => He.fnW K d.at_) = (sts.map dfOf ++ ins.map (dfI cs)).map He.DefD.val := congrArg (fun z : AlM => z.1.2) c
  have c3 : (tabs gl).map (fun t => He.dicW K (He.ga K t.1)) = (tabs gl).map fun t => some (He.keysIn w.params t.2) := congrArg (fun z : AlM => z.2) c
  obtain ⟨h1, h2⟩ := band c1
  obtain ⟨h1, h8⟩ := band h1
  obtain ⟨h1, h7⟩ := band h1
  obtain ⟨h1, h6⟩ := band h1
  obtain ⟨h1, h5⟩ := band h1
  obtain ⟨h3, h4⟩ := band h1
  have df : ∀ d ∈ sts.map dfOf ++ ins.map (dfI cs), ∃ fd, FunD K d.name d.qual d.params d.body d.scope (d.dvs K) (d.kws K) (He.fAd K d.at_) fd := fun d hd =>
    He.DefD.funD (List.map_inj_left.mp c2 d hd) (List.all_eq_true.mp h2 d hd)
  refine ⟨⟨ck, clsChk_ok h7 X G, ib, fun c0 e C q l1 l2 l3 l4 => ?_, fun i st hi => ?_, fun x hx => He.free_ok X G (List.all_eq_true.mp h4 x hx), fun k p hp hd => ?_, fun k p hp hd => ?_⟩, h3⟩
  · have l4' := look_in l4
    have ec : C = He.ga K e.nm := by
      have l3' : (cs.lookup c0).map (fun e => He.ga K e.nm) = some C := l3
      rw [l1] at l3'
      exact (Option.some.inj l3').symm
    have hn : nmOf cs c0 = e.nm := by unfold nmOf; rw [l1]
    obtain ⟨z1, z2⟩ := ban (List.all_eq_true.mp h8 _ l4')
    obtain ⟨fd, F⟩ := df (dfI cs (c0, q)) (List.mem_append_right _ (List.mem_map_of_mem l4'))
    rw [hn] at z1 z2
    refine ⟨He.ma K C "__init__", fd, ?_, ?_, ?_⟩
    · rw [ec]; exact eqB_ok z1
    · rw [ec]; exact of_decide_eq_true z2
    · have F' : FunD K (stName q.2.2) q.2.1 (defArgs q.2.2) (defBody q.2.2) (defScope q.2.2) [] [] (He.fAd K (nmOf cs c0, some "__init__")) fd := F
      rw [hn] at F'
      rw [ec]; exact F'
  · have hm : st ∈ sts := List.mem_of_getElem? hi
    obtain ⟨fd, F⟩ := df (dfOf st) (List.mem_append_left _ (List.mem_map_of_mem hm))
    exact ⟨_, fd, F, He.glo_ok X G (List.all_eq_true.mp h5 st hm)⟩
  · obtain ⟨j, hp⟩ := look_get hp
    have := List.all_eq_true.mp h6 (k, p) (List.mem_of_getElem? hp)
    simp only at this
    unfold glOk at this
    cases e : PySem.W.nsIn K mainGlobals p.1 with
    | none => rw [e] at this; cases this
    | some r =>
      rw [e] at this
      cases r with
      | none => cases this
      | some u =>
        have this' : valOk K 8 p.2 u = true := by
          cases q : p.2 with
          | dik _ _ => rw [q] at hd; cases hd
          | _ => rw [q] at this; exact this
        obtain ⟨v, r1, r2⟩ := valOk_ok (P := P) (w := w) 8 p.2 u this'
        exact ⟨v, u, PySem.W.mg_of X G e, r1, r2⟩
  · obtain ⟨j, hp⟩ := look_get hp
    have this := List.all_eq_true.mp h6 (k, p) (List.mem_of_getElem? hp)
    simp only at this
    unfold glOk at this
    cases e : PySem.W.nsIn K mainGlobals p.1 with
    | none => rw [e] at this; cases this
    | some r =>
      rw [e] at this
      cases r with
      | none => cases this
      | some u =>
        obtain ⟨x, c⟩ := p
        cases c with
        | dik ks us =>
          cases u with
          | ref a =>
            have this' : dikOk K a (ks.zip us) = true := this
            refine ⟨a, PySem.W.mg_of X G e, fun s d hl => ?_⟩
            have hga : He.ga K x = a := by
              have e' : PySem.W.nsIn K mainGlobals x = some (some (.ref a)) := e
              unfold He.ga; rw [e']
            have ht : (x, ks.map strOf) ∈ tabs gl := by
              unfold tabs
              rw [List.mem_filterMap]
              exact ⟨_, List.mem_of_getElem? hp, rfl⟩
            have hdw : He.dicW K a = some (He.keysIn w.params (ks.map strOf)) := by
              have := List.map_inj_left.mp c3 _ ht
              simpa only [hga] using this
            obtain ⟨es, n, kd⟩ := He.dicW_ok hdw
            obtain ⟨v, u, h1, h2, h3⟩ := dikOk_ok (P := P) (w := w) this' hl
            exact ⟨v, ⟨es, n, u, kd.at_, kd.lit, h1, h2⟩, h3⟩
          | _ => cases this
        | _ => cases hd
/-- the law's promise -/
theorem spLaw {P : Program} {w : World} {K : PySem.W.Frag} {cl : Nat → Option Addr} {fl : Nat → List Str} {r : List Sl → List Ob → Res} (nl : noLst K = true) {n : Nat}
    (hlaw : ∀ ns : List Int, ns.length ≤ n → ∃ st, r [.val (.lst (ns.map D.int))] [] = .ok (.bl true) st) (H : Hp) (a : Addr) (ns : List Int) (hl : ns.length ≤ n) (hO : Only H) (hS : SqL K H a (ns.map V.int)) :
    spF ⟨P, w, K, cl, fl⟩ r 1 [.ref a] H (fun v _ => v = .bl true) fun _ _ _ => False := by
  obtain ⟨st, e⟩ := hlaw ns hl
  have rd : Rd H a (.lst (ns.map V.int)) := by
    rcases hS with h | ⟨o, its, m, h1, h2, _⟩
    · exact h
    · exact (noLst_ok nl h1 h2).elim
  have rvs : ∀ l : List Int, RVs P w K H (fun _ => False) [] (l.map D.int) (l.map V.int) := fun l => by
    induction l with
    | nil => exact .nil
    | cons i l ih => exact .cons (by simp only [RV]) ih
  refine ⟨rfl, [], fun _ => False, [.val (.lst (ns.map D.int))], [], ⟨rfl, fun i d h => ?_, fun i d h => ?_, fun i d h => ?_, fun i j d e a h1 h2 m1 => ?_, fun _ z => z.elim, List.nodup_nil, (fun _ z => by cases z), rfl, (fun n ob a z => by simp at z)⟩, fun b ⟨i, d, h, _⟩ => ?_, ?_⟩
  · match i, h with
    | 0, h => cases h; exact ⟨.ref a, rfl, by simp only [RV]; exact ⟨a, ns.map V.int, rfl, ⟨rd, id⟩, rvs ns⟩⟩
    | i + 1, h => simp at h
  · match i, h with
    | 0, h => cases h
    | i + 1, h => simp at h
  · match i, h with
    | 0, h => cases h
    | i + 1, h => simp at h
  · match i, h1 with
    | 0, h1 => cases h1; cases m1
    | i + 1, h1 => simp at h1
  · match i, h with
    | 0, h => cases h
    | i + 1, h => simp at h
  · rw [e]
    intro sh' N' v H' _ _ hv
    simpa only [Cg.rv, RV] using hv
theorem facts {cs : List (Nat × Ec)} {ins : List (Nat × List Str × Str × Stmt)} {sts : List (Str × Stmt)} {gl : List (Nat × Str × D)} {fs : List (Nat × Fd)} {x nm : Str} {li k n : Nat} {f : Fd} (ck : ckAll cs gl fs sts = true) (ib : insB cs ins = true) (hf : fs.lookup li = some f) (hps : f.ps = [x]) (hnm : f.nm = nm)
    (hlaw : ∀ ns : List Int, ns.length ≤ n → ∃ st, run fs gl k li [.val (.lst (ns.map D.int))] [] = .ok (.bl true) st)
    {P : Program} {w : World} {K : PySem.W.Frag} {h : Heap} {mg : Str → Option Value} {fa : Addr} (X : K.In h) (G : h.Ns mainGlobals mg) (hfa : mg nm = some (.ref fa)) (c : SaysM cs ins sts gl w K) :
    ∃ (fd : FuncData) (sp : Sp), (∀ (s : Shared) (v : Value), BindsTo s fd ⟨[v], []⟩ [(x, v)]) ∧ (∀ (H : Hp) (a : Addr) (ns : List Int), ns.length ≤ n → Only H → SqL K H a (ns.map V.int) → sp [.ref a] H (fun v _ => v = .bl true) fun _ _ _ => False) ∧
      ∀ base : Heap, K.In base → base.Ns mainGlobals mg → FnOk P w K mg base (CX P w) k fa fd [x] sp := by
  obtain ⟨t, nl⟩ := c.tp (fs := fs) (P := P) (w := w) ck ib X G
  obtain ⟨j, sl, hs, cf⟩ := t.at hf
  obtain ⟨fa', fd, F, m⟩ := t.fd j sl hs
  rw [cf.nm, hnm] at m
  rw [hfa] at m
  cases m
  have b := (cf.bind F).2
  rw [hps] at b
  refine ⟨fd, spF ⟨P, w, K, clG cs K, flC cs⟩ (run fs gl k li) 1, fun s v => b s [v] rfl, fun H a ns hl hO hS => spLaw nl hlaw H a ns hl hO hS, fun base _ _ => ?_⟩
  have := fnOk (base := base) t k li f sl _ fd hf cf F
  rw [hps] at this
  exact this
theorem noCX {P : Program} {w : World} (H : Hp) (s : Shared) (e : Value) (s' : Shared) : CX P w [] H s (fun _ _ _ => False) e s' → False := fun ⟨_, _, _, _, _, _, _, _, _, _, _, _, z⟩ => z
/-- the law's walk, by a check of the top -/
theorem walkM {cs : List (Nat × Ec)} {ins : List (Nat × List Str × Str × Stmt)} {l : PySem.W.OpenLaw} {n k : Nat} {q : Program} {loose : List Str} {XP : (Str → Option Value) → Heap → Prop} {d : DefRec} {x : Str} {N0 li : Nat} {sts : List (Str × Stmt)} {gl : List (Nat × Str × D)} {fs : List (Nat × Fd)} {f : Fd}
    (hn : l.most = some n) (hn2 : n ≤ sizeLine) (hdf : d.params.defaults = []) (hr : Room k callerA) (ck : ckAll cs gl fs sts = true) (ib : insB cs ins = true) (hf : fs.lookup li = some f) (hps : f.ps = [x]) (hnm : f.nm = d.name)
    (hlaw : ∀ ns : List Int, ns.length ≤ n → ∃ st, run fs gl k li [.val (.lst (ns.map D.int))] [] = .ok (.bl true) st) :
    PySem.W.WalkO q loose XP (hookM cs ins N0 sts gl).says l.row.toRowW d [] (fun f vs => PySem.call f vs) := by
  refine Att.attach_call hn hdf fun w s₀ s₁ mg mb fa o pm cd doc a vs ns G Y ho hd hcd hmg hobj hints hlen hg => ?_
  obtain ⟨K, KX, c⟩ := Y
  obtain ⟨fd, sp, hb, hsp, hF⟩ := facts (P := l.prog) (w := w) ck ib hf hps hnm hlaw KX G.T.g hmg c
  exact law_call KX G.T.g G.T.b G.T.builtins G.T.nolimit hg hobj hints (Nat.le_trans hlen hn2) hr hF hb (fun H hO hS => hsp H a ns hlen hO hS) fun H e s' => noCX H s₁ e s'
end Mi

namespace Mi
open PySem PySem.Spec PyProof.Rows L2
def F0 : Fd := ⟨"is_whole", ["value", "low", "high"], ["value", "low", "high"], (.cons (.ret (.andV (.isi .int (.varB 0)) (.andV (.notV (.isi .bool (.varB 0))) (.one (.chain .LtE .LtE (.varB 1) (.varB 0) (.varB 2)))))) .nil)⟩ -- is_whole
def F1 : Fd := ⟨"is_signature", ["value"], ["value"], (.cons (.if_ (.or (.not (.tru (.isi .tuple (.varB 0)))) (.one (.cmp .NotEq (.bi .len (.cons (.varB 0) .nil)) (.int 2)))) (.cons (.ret (.bl false)) .nil) .nil) (.cons (.ret (.andV (.call 0 (.val (.ix (.varB 0) (.int 0)) (.val (.int 1) (.val (.glo 0) .nil)))) (.one (.call 0 (.val (.ix (.varB 0) (.int 1)) (.val (.int 0) (.val (.glo 1) .nil))))))) .nil))⟩ -- is_signature
def F2 : Fd := ⟨"is_quantity", ["value"], ["value"], (.cons (.ret (.andV (.isi .str (.varB 0)) (.one (.cmp .In (.varB 0) (.glo 3))))) .nil)⟩ -- is_quantity
def F3 : Fd := ⟨"is_noun", ["signature", "value"], ["signature", "value"], (.cons (.ret (.call 0 (.bor 1 (.val (.int 0) (.val (.bin .Sub (.ix (.varB 0) (.int 0)) (.int 1)) .nil))))) .nil)⟩ -- is_noun
def F4 : Fd := ⟨"is_verb", ["signature", "value"], ["signature", "value"], (.cons (.ret (.call 0 (.bor 1 (.val (.int 0) (.val (.bin .Sub (.ix (.varB 0) (.int 1)) (.int 1)) .nil))))) .nil)⟩ -- is_verb
def F5 : Fd := ⟨"is_verb_sentence", ["signature", "value"], ["signature", "value"], (.cons (.if_ (.or (.cmp .NotEq (.bi .len (.cons (.varB 1) .nil)) (.int 8)) (.or (.not (.tru (.call 2 (.val (.ix (.varB 1) (.int 1)) .nil)))) (.one (.not (.tru (.call 2 (.val (.ix (.varB 1) (.int 6)) .nil))))))) (.cons (.ret (.bl false)) .nil) .nil) (.cons (.if_ (.or (.not (.tru (.isi .bool (.ix (.varB 1) (.int 3))))) (.or (.not (.tru (.isi .bool (.ix (.varB 1) (.int 5))))) (.one (.not (.tru (.call 4 (.bor 0 (.val (.ix (.varB 1) (.int 4)) .nil)))))))) (.cons (.ret (.bl false)) .nil) .nil) (.cons (.ret (.andV (.call 3 (.bor 0 (.val (.ix (.varB 1) (.int 2)) .nil))) (.one (.call 3 (.bor 0 (.val (.ix (.varB 1) (.int 7)) .nil)))))) .nil)))⟩ -- is_verb_sentence
def F6 : Fd := ⟨"is_self_sentence", ["signature", "value"], ["signature", "value"], (.cons (.if_ (.or (.cmp .NotEq (.bi .len (.cons (.varB 1) .nil)) (.int 5)) (.or (.not (.tru (.call 2 (.val (.ix (.varB 1) (.int 1)) .nil)))) (.one (.not (.tru (.isi .bool (.ix (.varB 1) (.int 3)))))))) (.cons (.ret (.bl false)) .nil) .nil) (.cons (.ret (.andV (.call 3 (.bor 0 (.val (.ix (.varB 1) (.int 2)) .nil))) (.one (.call 4 (.bor 0 (.val (.ix (.varB 1) (.int 4)) .nil)))))) .nil))⟩ -- is_self_sentence
def F7 : Fd := ⟨"is_sentence", ["signature", "value"], ["signature", "value"], (.cons (.if_ (.or (.not (.tru (.isi .tuple (.varB 1)))) (.or (.cmp .Eq (.bi .len (.cons (.varB 1) .nil)) (.int 0)) (.one (.not (.tru (.isi .str (.ix (.varB 1) (.int 0)))))))) (.cons (.ret (.bl false)) .nil) .nil) (.cons (.if_ (.cmp .In (.ix (.varB 1) (.int 0)) (.glo 4)) (.cons (.ret (.andV (.cmp .Eq (.bi .len (.cons (.varB 1) .nil)) (.int 3)) (.andV (.call 3 (.bor 0 (.val (.ix (.varB 1) (.int 1)) .nil))) (.one (.call 3 (.bor 0 (.val (.ix (.varB 1) (.int 2)) .nil))))))) .nil) .nil) (.cons (.if_ (.cmp .Eq (.ix (.varB 1) (.int 0)) (.str "verb")) (.cons (.ret (.call 5 (.bor 0 (.bor 1 .nil)))) .nil) .nil) (.cons (.ret (.andV (.cmp .Eq (.ix (.varB 1) (.int 0)) (.str "self")) (.one (.call 6 (.bor 0 (.bor 1 .nil)))))) .nil))))⟩ -- is_sentence
def F8 : Fd := ⟨"are_premises", ["signature", "value"], ["signature", "value", "sentence"], (.cons (.if_ (.or (.not (.tru (.isi .tuple (.varB 1)))) (.one (.cmp .Gt (.bi .len (.cons (.varB 1) .nil)) (.glo 2)))) (.cons (.ret (.bl false)) .nil) .nil) (.cons (.ret (.bi .all (.cons (.comp (.call 7 (.bor 0 (.bor 2 .nil))) [("sentence", 2)] (.name 2) (.name 1) .nil) .nil))) .nil))⟩ -- are_premises
def F18 : Fd := ⟨"check_signature", ["signature"], ["signature"], (.cons (.if_ (.not (.tru (.call 1 (.bor 0 .nil)))) (.cons (.raise_ 1 (.cons (.str "signature") .nil)) .nil) .nil) .nil)⟩ -- check_signature
def F20 : Fd := ⟨"contrary_sentences", ["quantity"], ["quantity"], (.cons (.ret (.ite (.cmp .Eq (.varB 0) (.str "all")) (.str "some") (.str "all"))) .nil)⟩ -- contrary_sentences
def F21 : Fd := ⟨"negated", ["sentence"], ["sentence", "word", "quantity", "noun", "does", "verb", "by", "other", "behind"], (.cons (.if_ (.cmp .In (.ix (.varB 0) (.int 0)) (.glo 4)) (.cons (.ret (.bin .Add (.tup (.cons (.cget 5 (.ix (.varB 0) (.int 0))) .nil)) (.sl (.varB 0) (.some (.int 1)) .none))) .nil) .nil) (.cons (.asg (.tup (.cons (.name 1) (.cons (.name 2) (.cons (.name 3) (.cons (.name 4) .nil))))) (.sl (.varB 0) .none (.some (.int 4)))) (.cons (.if_ (.cmp .Eq (.varB 1) (.str "self")) (.cons (.ret (.tup (.cons (.var 1) (.cons (.call 20 (.bor 2 .nil)) (.cons (.var 3) (.cons (.notV (.varB 4)) (.cons (.ix (.varB 0) (.int 4)) .nil))))))) .nil) .nil) (.cons (.asg (.tup (.cons (.name 5) (.cons (.name 6) (.cons (.name 7) (.cons (.name 8) .nil))))) (.sl (.varB 0) (.some (.int 4)) .none)) (.cons (.ret (.tup (.cons (.var 1) (.cons (.call 20 (.bor 2 .nil)) (.cons (.var 3) (.cons (.notV (.varB 4)) (.cons (.var 5) (.cons (.var 6) (.cons (.call 20 (.bor 7 .nil)) (.cons (.var 8) .nil)))))))))) .nil)))))⟩ -- negated
def F97 : Fd := ⟨"steps_of_table", ["sub", "most"], ["sub", "most", "more", "many", "x", "y", "other", "z"], (.cons (.ownLc2 2 (.tup (.cons (.var 4) (.cons (.var 7) .nil))) [("x", 4), ("y", 5), ("other", 6), ("z", 7)] [6, 7] (.tup (.cons (.name 4) (.cons (.name 5) .nil))) (.name 0) .nil (.tup (.cons (.name 6) (.cons (.name 7) .nil))) (.name 0) (.one (.cmp .Eq (.varB 6) (.varB 5)))) (.cons (.ext 2 (.comp (.tup (.cons (.var 5) (.cons (.var 4) .nil))) [("x", 4), ("y", 5)] (.tup (.cons (.name 4) (.cons (.name 5) .nil))) (.name 0) (.one (.cmp .In (.tup (.cons (.var 4) (.cons (.var 5) .nil))) (.varB 1))))) (.cons (.asg (.name 3) (.addL (.comp (.tup (.cons (.var 5) (.cons (.var 4) .nil))) [("x", 4), ("y", 5)] (.tup (.cons (.name 4) (.cons (.name 5) .nil))) (.name 0) .nil) (.comp2 (.tup (.cons (.var 4) (.cons (.var 7) .nil))) [("x", 4), ("y", 5), ("other", 6), ("z", 7)] [6, 7] (.tup (.cons (.name 4) (.cons (.name 5) .nil))) (.name 1) .nil (.tup (.cons (.name 6) (.cons (.name 7) .nil))) (.name 1) (.one (.cmp .Eq (.varB 6) (.varB 5)))))) (.cons (.ret (.tup (.cons (.var 2) (.cons (.var 3) .nil)))) .nil))))⟩ -- steps_of_table
def F98 : Fd := ⟨"table_of", ["signature", "premises"], ["signature", "premises", "sub", "most", "sentence", "before", "pair", "x", "more", "many"], (.cons (.ownDc 2 false (.tup (.cons (.var 7) (.cons (.var 7) .nil))) (.bl true) [("x", 7)] (.name 7) (.rng1 (.ix (.varB 0) (.int 0))) .nil) (.cons (.own 3 .newT) (.cons (.for_ (.name 4) (.name 1) (.cons (.if_ (.cmp .Eq (.ix (.varB 4) (.int 0)) (.str "all")) (.cons (.put 2 (.tup (.cons (.ix (.varB 4) (.int 1)) (.cons (.ix (.varB 4) (.int 2)) .nil))) (.bl true)) .nil) .nil) (.cons (.if_ (.cmp .Eq (.ix (.varB 4) (.int 0)) (.str "as many")) (.cons (.put 3 (.tup (.cons (.ix (.varB 4) (.int 1)) (.cons (.ix (.varB 4) (.int 2)) .nil))) (.bl true)) .nil) .nil) (.cons (.if_ (.cmp .Eq (.ix (.varB 4) (.int 0)) (.str "fewer")) (.cons (.put 3 (.tup (.cons (.ix (.varB 4) (.int 2)) (.cons (.ix (.varB 4) (.int 1)) .nil))) (.bl true)) .nil) .nil) .nil)))) (.cons (.asg (.name 5) (.neg (.int 1))) (.cons (.while_ (.cmp .Gt (.bin .Add (.bi .len (.cons (.varB 2) .nil)) (.bi .len (.cons (.varB 3) .nil))) (.varB 5)) (.cons (.asg (.name 5) (.bin .Add (.bi .len (.cons (.varB 2) .nil)) (.bi .len (.cons (.varB 3) .nil)))) (.cons (.asg (.tup (.cons (.name 8) (.cons (.name 9) .nil))) (.call 97 (.bor 2 (.bor 3 .nil)))) (.cons (.for_ (.name 6) (.name 8) (.cons (.put 2 (.var 6) (.bl true)) .nil)) (.cons (.for_ (.name 6) (.name 9) (.cons (.put 3 (.var 6) (.bl true)) .nil)) .nil))))) (.cons (.ret (.tup (.cons (.var 2) (.cons (.var 3) .nil)))) .nil))))))⟩ -- table_of
def F107 : Fd := ⟨"stated_by", ["sentence"], ["sentence", "word"], (.cons (.asg (.name 1) (.ix (.varB 0) (.int 0))) (.cons (.if_ (.and (.cmp .Eq (.varB 1) (.str "some")) (.one (.cmp .NotEq (.ix (.varB 0) (.int 1)) (.ix (.varB 0) (.int 2))))) (.cons (.ret (.lst (.cons (.tup (.cons (.str "both") (.cons (.bi .min2 (.cons (.ix (.varB 0) (.int 1)) (.cons (.ix (.varB 0) (.int 2)) .nil))) (.cons (.bi .max2 (.cons (.ix (.varB 0) (.int 1)) (.cons (.ix (.varB 0) (.int 2)) .nil))) .nil)))) .nil))) .nil) .nil) (.cons (.if_ (.cmp .In (.varB 1) (.tup (.cons (.str "some") (.cons (.str "some not") .nil)))) (.cons (.ret (.lst (.cons (.tup (.cons (.str "one") (.cons (.ix (.varB 0) (.int 1)) .nil))) .nil))) .nil) .nil) (.cons (.if_ (.cmp .Eq (.varB 1) (.str "fewer")) (.cons (.ret (.lst (.cons (.tup (.cons (.str "one") (.cons (.ix (.varB 0) (.int 2)) .nil))) .nil))) .nil) .nil) (.cons (.if_ (.and (.cmp .Eq (.varB 1) (.str "self")) (.one (.cmp .Eq (.ix (.varB 0) (.int 1)) (.str "some")))) (.cons (.ret (.lst (.cons (.tup (.cons (.str "self") (.cons (.ix (.varB 0) (.int 2)) (.cons (.ix (.varB 0) (.int 3)) (.cons (.ix (.varB 0) (.int 4)) .nil))))) .nil))) .nil) .nil) (.cons (.if_ (.or (.cmp .NotEq (.varB 1) (.str "verb")) (.one (.cmp .NotEq (.ix (.varB 0) (.int 1)) (.str "some")))) (.cons (.ret (.lst .nil)) .nil) .nil) (.cons (.if_ (.cmp .Eq (.ix (.varB 0) (.int 6)) (.str "some")) (.cons (.ret (.lst (.cons (.tup (.cons (.str "one") (.cons (.ix (.varB 0) (.int 2)) .nil))) (.cons (.tup (.cons (.str "one") (.cons (.ix (.varB 0) (.int 7)) .nil))) .nil)))) .nil) .nil) (.cons (.ret (.lst (.cons (.tup (.cons (.str "mark") (.cons (.ix (.varB 0) (.int 2)) (.cons (.ix (.varB 0) (.int 3)) (.cons (.ix (.varB 0) (.int 4)) (.cons (.ix (.varB 0) (.int 5)) (.cons (.ix (.varB 0) (.int 7)) .nil))))))) .nil))) .nil))))))))⟩ -- stated_by
def F108 : Fd := ⟨"stated_kinds", ["premises"], ["premises", "found", "sentence", "kind"], (.cons (.own 1 .newT) (.cons (.for_ (.name 2) (.name 0) (.cons (.for_ (.name 3) (.expr (.call 107 (.bor 2 .nil))) (.cons (.put 1 (.var 3) (.bl true)) .nil)) .nil)) (.cons (.ret (.list (.cons (.varB 1) .nil))) .nil)))⟩ -- stated_kinds
def F109 : Fd := ⟨"nouns_of", ["kind"], ["kind"], (.cons (.ret (.ite (.cmp .Eq (.ix (.varB 0) (.int 0)) (.str "both")) (.sl (.varB 0) (.some (.int 1)) (.some (.int 3))) (.sl (.varB 0) (.some (.int 1)) (.some (.int 2))))) .nil)⟩ -- nouns_of
def F110 : Fd := ⟨"above", ["sub", "kind", "signature"], ["sub", "kind", "signature", "noun", "own"], (.cons (.ret (.bi .tuple (.cons (.comp (.var 3) [("noun", 3)] (.name 3) (.rng1 (.ix (.varB 2) (.int 0))) (.one (.tru (.bi .any (.cons (.comp (.cmp .In (.tup (.cons (.var 4) (.cons (.var 3) .nil))) (.varB 0)) [("own", 4)] (.name 4) (.expr (.call 109 (.bor 1 .nil))) .nil) .nil))))) .nil))) .nil)⟩ -- above
def F111 : Fd := ⟨"required_nouns", ["signature", "premises"], ["signature", "premises", "found", "kind", "asked", "sentence", "before", "sub", "most", "noun", "known", "own"], (.cons (.asg (.tup (.cons (.name 7) (.cons (.name 8) .nil))) (.call 98 (.bor 0 (.bor 1 .nil)))) (.cons (.own 2 .newI) (.cons (.for_ (.name 3) (.expr (.call 108 (.bor 1 .nil))) (.cons (.for_ (.name 9) (.expr (.call 110 (.bor 7 (.bor 3 (.bor 0 .nil))))) (.cons (.putI 2 (.var 9) (.bl true)) .nil)) .nil)) (.cons (.own 4 (.lst .nil)) (.cons (.for_ (.name 5) (.name 1) (.cons (.if_ (.and (.cmp .Eq (.sl (.varB 5) .none (.some (.int 2))) (.tup (.cons (.str "verb") (.cons (.str "all") .nil)))) (.one (.cmp .Eq (.ix (.varB 5) (.int 6)) (.str "some")))) (.cons (.app 4 (.var 5)) .nil) .nil) .nil)) (.cons (.asg (.name 6) (.neg (.int 1))) (.cons (.while_ (.cmp .Gt (.bi .len (.cons (.varB 2) .nil)) (.varB 6)) (.cons (.asg (.name 6) (.bi .len (.cons (.varB 2) .nil))) (.cons (.asg (.name 10) (.list (.cons (.varB 2) .nil))) (.cons (.for_ (.name 9) (.rng1 (.ix (.varB 0) (.int 0))) (.cons (.if_ (.tru (.bi .any (.cons (.comp (.orV (.cmp .In (.tup (.cons (.var 11) (.cons (.var 9) .nil))) (.varB 7)) (.one (.cmp .In (.tup (.cons (.var 9) (.cons (.var 11) .nil))) (.varB 8)))) [("own", 11)] (.name 11) (.name 10) .nil) .nil))) (.cons (.putI 2 (.var 9) (.bl true)) .nil) .nil) .nil)) (.cons (.for_ (.name 5) (.name 4) (.cons (.if_ (.cmp .In (.ix (.varB 5) (.int 2)) (.varB 2)) (.cons (.putI 2 (.ix (.varB 5) (.int 7)) (.bl true)) .nil) .nil) .nil)) .nil))))) (.cons (.ret (.sorted (.cons (.varB 2) .nil))) .nil))))))))⟩ -- required_nouns
def F113 : Fd := ⟨"is_number", ["value", "count"], ["value", "count"], (.cons (.ret (.andV (.isi .int (.varB 0)) (.andV (.notV (.isi .bool (.varB 0))) (.one (.chain .LtE .Lt (.int 0) (.varB 0) (.varB 1)))))) .nil)⟩ -- is_number
def F114 : Fd := ⟨"is_kind_of", ["signature", "value"], ["signature", "value", "nouns", "verbs"], (.cons (.if_ (.or (.not (.tru (.isi .tuple (.varB 1)))) (.or (.cmp .Lt (.bi .len (.cons (.varB 1) .nil)) (.int 2)) (.one (.not (.tru (.isi .str (.ix (.varB 1) (.int 0)))))))) (.cons (.ret (.bl false)) .nil) .nil) (.cons (.asg (.tup (.cons (.name 2) (.cons (.name 3) .nil))) (.var 0)) (.cons (.if_ (.not (.tru (.call 113 (.val (.ix (.varB 1) (.int 1)) (.bor 2 .nil))))) (.cons (.ret (.bl false)) .nil) .nil) (.cons (.if_ (.cmp .Eq (.ix (.varB 1) (.int 0)) (.str "one")) (.cons (.ret (.cmp .Eq (.bi .len (.cons (.varB 1) .nil)) (.int 2))) .nil) .nil) (.cons (.if_ (.cmp .Eq (.ix (.varB 1) (.int 0)) (.str "both")) (.cons (.ret (.andV (.cmp .Eq (.bi .len (.cons (.varB 1) .nil)) (.int 3)) (.andV (.call 113 (.val (.ix (.varB 1) (.int 2)) (.bor 2 .nil))) (.one (.cmp .Lt (.ix (.varB 1) (.int 1)) (.ix (.varB 1) (.int 2))))))) .nil) .nil) (.cons (.if_ (.cmp .Eq (.ix (.varB 1) (.int 0)) (.str "self")) (.cons (.ret (.andV (.cmp .Eq (.bi .len (.cons (.varB 1) .nil)) (.int 4)) (.andV (.isi .bool (.ix (.varB 1) (.int 2))) (.one (.call 113 (.val (.ix (.varB 1) (.int 3)) (.bor 3 .nil))))))) .nil) .nil) (.cons (.if_ (.or (.cmp .NotEq (.ix (.varB 1) (.int 0)) (.str "mark")) (.or (.cmp .NotEq (.bi .len (.cons (.varB 1) .nil)) (.int 6)) (.or (.not (.tru (.isi .bool (.ix (.varB 1) (.int 2))))) (.one (.not (.tru (.isi .bool (.ix (.varB 1) (.int 4))))))))) (.cons (.ret (.bl false)) .nil) .nil) (.cons (.ret (.andV (.call 113 (.val (.ix (.varB 1) (.int 3)) (.bor 3 .nil))) (.one (.call 113 (.val (.ix (.varB 1) (.int 5)) (.bor 2 .nil)))))) .nil))))))))⟩ -- is_kind_of
def F116 : Fd := ⟨"required_kinds", ["signature", "premises"], ["signature", "premises", "found", "noun", "kind"], (.cons (.ownLc 2 (.tup (.cons (.str "one") (.cons (.var 3) .nil))) [("noun", 3)] (.name 3) (.expr (.call 111 (.bor 0 (.bor 1 .nil)))) .nil) (.cons (.ret (.addL (.varB 2) (.comp (.var 4) [("kind", 4)] (.name 4) (.expr (.call 108 (.bor 1 .nil))) (.one (.cmp .NotEq (.ix (.varB 4) (.int 0)) (.str "one")))))) .nil))⟩ -- required_kinds
def F126 : Fd := ⟨"is_forced", ["signature", "premises", "sub", "verb", "first", "second", "does"], ["signature", "premises", "sub", "verb", "first", "second", "does", "ones", "others", "sentence", "x", "y"], (.cons (.asg (.name 7) (.call 110 (.bor 2 (.bor 4 (.bor 0 .nil))))) (.cons (.asg (.name 8) (.call 110 (.bor 2 (.bor 5 (.bor 0 .nil))))) (.cons (.for_ (.name 9) (.name 1) (.cons (.if_ (.and (.cmp .Eq (.sl (.varB 9) .none (.some (.int 2))) (.tup (.cons (.str "verb") (.cons (.str "all") .nil)))) (.and (.cmp .Eq (.ix (.varB 9) (.int 3)) (.varB 6)) (.and (.cmp .Eq (.ix (.varB 9) (.int 4)) (.varB 3)) (.one (.cmp .Eq (.ix (.varB 9) (.int 6)) (.str "all")))))) (.cons (.asg (.tup (.cons (.name 10) (.cons (.name 11) .nil))) (.ite (.tru (.ix (.varB 9) (.int 5))) (.tup (.cons (.ix (.varB 9) (.int 7)) (.cons (.ix (.varB 9) (.int 2)) .nil))) (.tup (.cons (.ix (.varB 9) (.int 2)) (.cons (.ix (.varB 9) (.int 7)) .nil))))) (.cons (.if_ (.and (.cmp .In (.varB 10) (.varB 7)) (.one (.cmp .In (.varB 11) (.varB 8)))) (.cons (.ret (.bl true)) .nil) .nil) .nil)) .nil) .nil)) (.cons (.if_ (.and (.cmp .Eq (.ix (.varB 4) (.int 0)) (.str "mark")) (.and (.cmp .Eq (.sl (.varB 4) (.some (.int 2)) (.some (.int 5))) (.tup (.cons (.var 6) (.cons (.var 3) (.cons (.bl false) .nil))))) (.one (.cmp .In (.ix (.varB 4) (.int 5)) (.varB 8))))) (.cons (.ret (.bl true)) .nil) .nil) (.cons (.ret (.andV (.cmp .Eq (.ix (.varB 5) (.int 0)) (.str "mark")) (.andV (.cmp .Eq (.sl (.varB 5) (.some (.int 2)) (.some (.int 5))) (.tup (.cons (.var 6) (.cons (.var 3) (.cons (.bl true) .nil))))) (.one (.cmp .In (.ix (.varB 5) (.int 5)) (.varB 7)))))) .nil)))))⟩ -- is_forced
def F127 : Fd := ⟨"is_forced_self", ["signature", "premises", "sub", "verb", "kind", "does"], ["signature", "premises", "sub", "verb", "kind", "does", "nouns", "sentence"], (.cons (.if_ (.tru (.call 126 (.bor 0 (.bor 1 (.bor 2 (.bor 3 (.bor 4 (.val (.var 4) (.bor 5 .nil))))))))) (.cons (.ret (.bl true)) .nil) .nil) (.cons (.asg (.name 6) (.call 110 (.bor 2 (.bor 4 (.bor 0 .nil))))) (.cons (.for_ (.name 7) (.name 1) (.cons (.if_ (.and (.cmp .Eq (.sl (.varB 7) .none (.some (.int 2))) (.tup (.cons (.str "self") (.cons (.str "all") .nil)))) (.and (.cmp .Eq (.ix (.varB 7) (.int 3)) (.varB 5)) (.and (.cmp .Eq (.ix (.varB 7) (.int 4)) (.varB 3)) (.one (.cmp .In (.ix (.varB 7) (.int 2)) (.varB 6)))))) (.cons (.ret (.bl true)) .nil) .nil) .nil)) (.cons (.ret (.andV (.cmp .Eq (.ix (.varB 4) (.int 0)) (.str "self")) (.one (.cmp .Eq (.sl (.varB 4) (.some (.int 2)) .none) (.tup (.cons (.var 5) (.cons (.var 3) .nil))))))) .nil))))⟩ -- is_forced_self
def F128 : Fd := ⟨"word_of", ["yes", "no"], ["yes", "no"], (.cons (.if_ (.tru (.varB 0)) (.cons (.ret (.ite (.tru (.varB 1)) (.str "both") (.str "yes"))) .nil) .nil) (.cons (.ret (.ite (.tru (.varB 1)) (.str "no") (.str "free"))) .nil))⟩ -- word_of
def F129 : Fd := ⟨"forced", ["signature", "premises", "sub", "verb", "first", "second"], ["signature", "premises", "sub", "verb", "first", "second", "told", "does"], (.cons (.ownLc 6 (.call 126 (.bor 0 (.bor 1 (.bor 2 (.bor 3 (.bor 4 (.bor 5 (.bor 7 .nil)))))))) [("does", 7)] (.name 7) (.expr (.tup (.cons (.bl true) (.cons (.bl false) .nil)))) .nil) (.cons (.ret (.call 128 (.val (.ix (.varB 6) (.int 0)) (.val (.ix (.varB 6) (.int 1)) .nil)))) .nil))⟩ -- forced
def F130 : Fd := ⟨"forced_self", ["signature", "premises", "sub", "verb", "kind"], ["signature", "premises", "sub", "verb", "kind", "told", "does"], (.cons (.ownLc 5 (.call 127 (.bor 0 (.bor 1 (.bor 2 (.bor 3 (.bor 4 (.bor 6 .nil))))))) [("does", 6)] (.name 6) (.expr (.tup (.cons (.bl true) (.cons (.bl false) .nil)))) .nil) (.cons (.ret (.call 128 (.val (.ix (.varB 5) (.int 0)) (.val (.ix (.varB 5) (.int 1)) .nil)))) .nil))⟩ -- forced_self
def F147 : Fd := ⟨"contrary_conflicts", ["signature", "premises", "sub", "sentence", "kind"], ["signature", "premises", "sub", "sentence", "kind", "other", "does", "verb", "by"], (.cons (.asg (.tup (.cons (.name 6) (.cons (.name 7) (.cons (.name 8) .nil)))) (.sl (.varB 3) (.some (.int 3)) (.some (.int 6)))) (.cons (.asg (.name 5) (.tup (.cons (.str "one") (.cons (.ix (.varB 3) (.int 7)) .nil)))) (.cons (.if_ (.tru (.varB 8)) (.cons (.ret (.call 126 (.bor 0 (.bor 1 (.bor 2 (.bor 7 (.bor 5 (.bor 4 (.val (.notV (.varB 6)) .nil))))))))) .nil) .nil) (.cons (.ret (.call 126 (.bor 0 (.bor 1 (.bor 2 (.bor 7 (.bor 4 (.bor 5 (.val (.notV (.varB 6)) .nil))))))))) .nil))))⟩ -- contrary_conflicts
def F148 : Fd := ⟨"is_contradicted", ["signature", "premises", "sentence", "tables", "kinds"], ["signature", "premises", "sentence", "tables", "kinds", "word", "near", "sub", "most", "wide", "told", "kind", "nouns"], (.cons (.asg (.tup (.cons (.name 7) (.cons (.name 8) (.cons (.name 9) .nil)))) (.var 3)) (.cons (.asg (.name 5) (.ix (.varB 2) (.int 0))) (.cons (.if_ (.cmp .Eq (.varB 5) (.str "no")) (.cons (.ownLc 10 (.call 110 (.bor 9 (.bor 11 (.bor 0 .nil)))) [("kind", 11)] (.name 11) (.name 4) .nil) (.cons (.ret (.bi .any (.cons (.comp (.andV (.cmp .In (.ix (.varB 2) (.int 1)) (.varB 12)) (.one (.cmp .In (.ix (.varB 2) (.int 2)) (.varB 12)))) [("nouns", 12)] (.name 12) (.name 10) .nil) .nil))) .nil)) .nil) (.cons (.if_ (.cmp .Eq (.varB 5) (.str "some not")) (.cons (.ret (.cmp .In (.sl (.varB 2) (.some (.int 1)) .none) (.varB 7))) .nil) .nil) (.cons (.if_ (.cmp .Eq (.varB 5) (.str "fewer")) (.cons (.ret (.cmp .In (.sl (.varB 2) (.some (.int 1)) .none) (.varB 8))) .nil) .nil) (.cons (.if_ (.or (.cmp .NotEq (.varB 5) (.str "verb")) (.one (.cmp .NotEq (.ix (.varB 2) (.int 6)) (.str "some")))) (.cons (.ret (.bl false)) .nil) .nil) (.cons (.if_ (.cmp .Eq (.ix (.varB 2) (.int 1)) (.str "some")) (.cons (.ret (.call 147 (.bor 0 (.bor 1 (.bor 9 (.bor 2 (.val (.tup (.cons (.str "one") (.cons (.ix (.varB 2) (.int 2)) .nil))) .nil))))))) .nil) .nil) (.cons (.ownLc 6 (.var 11) [("kind", 11)] (.name 11) (.name 4) (.one (.cmp .In (.ix (.varB 2) (.int 2)) (.call 110 (.bor 9 (.bor 11 (.bor 0 .nil))))))) (.cons (.ret (.bi .any (.cons (.comp (.call 147 (.bor 0 (.bor 1 (.bor 9 (.bor 2 (.bor 11 .nil)))))) [("kind", 11)] (.name 11) (.name 6) .nil) .nil))) .nil)))))))))⟩ -- is_contradicted
def F149 : Fd := ⟨"verb_conflicts", ["signature", "premises", "wide", "kinds", "verb"], ["signature", "premises", "wide", "kinds", "verb", "found", "first", "kind", "second"], (.cons (.own 5 (.lst .nil)) (.cons (.for_ (.name 6) (.name 3) (.cons (.for_ (.name 8) (.name 3) (.cons (.if_ (.cmp .Eq (.call 129 (.bor 0 (.bor 1 (.bor 2 (.bor 4 (.bor 6 (.bor 8 .nil))))))) (.str "both")) (.cons (.app 5 (.tup (.cons (.str "pair") (.cons (.var 4) (.cons (.var 6) (.cons (.var 8) .nil)))))) .nil) .nil) .nil)) .nil)) (.cons (.for_ (.name 7) (.name 3) (.cons (.if_ (.cmp .Eq (.call 130 (.bor 0 (.bor 1 (.bor 2 (.bor 4 (.bor 7 .nil)))))) (.str "both")) (.cons (.app 5 (.tup (.cons (.str "self") (.cons (.var 4) (.cons (.var 7) .nil))))) .nil) .nil) .nil)) (.cons (.ret (.var 5)) .nil))))⟩ -- verb_conflicts
def F150 : Fd := ⟨"conflicts_by", ["signature", "premises", "tables", "kinds"], ["signature", "premises", "tables", "kinds", "found", "verb", "index", "sentence"], (.cons (.own 4 (.lst .nil)) (.cons (.for_ (.tup (.cons (.name 6) (.cons (.name 7) .nil))) (.enumN 1) (.cons (.if_ (.tru (.call 148 (.bor 0 (.bor 1 (.bor 7 (.bor 2 (.bor 3 .nil))))))) (.cons (.app 4 (.tup (.cons (.str "premise") (.cons (.var 6) .nil)))) .nil) .nil) .nil)) (.cons (.for_ (.name 5) (.rng1 (.ix (.varB 0) (.int 1))) (.cons (.ext 4 (.call 149 (.bor 0 (.bor 1 (.val (.ix (.varB 2) (.int 2)) (.bor 3 (.bor 5 .nil))))))) .nil)) (.cons (.ret (.var 4)) .nil))))⟩ -- conflicts_by
def F151 : Fd := ⟨"conflicts_of", ["signature", "premises"], ["signature", "premises", "sub", "most"], (.cons (.asg (.tup (.cons (.name 2) (.cons (.name 3) .nil))) (.call 98 (.bor 0 (.bor 1 .nil)))) (.cons (.ret (.call 150 (.bor 0 (.bor 1 (.val (.tup (.cons (.var 2) (.cons (.var 3) (.cons (.var 2) .nil)))) (.val (.call 116 (.bor 0 (.bor 1 .nil))) .nil)))))) .nil))⟩ -- conflicts_of
def F61 : Fd := ⟨"is_climbing", ["value", "many"], ["value", "many", "at", "one"], (.cons (.if_ (.or (.not (.tru (.isi .tuple (.varB 0)))) (.one (.not (.tru (.bi .all (.cons (.comp (.call 0 (.bor 3 (.val (.int 0) (.val (.bin .Sub (.varB 1) (.int 1)) .nil)))) [("one", 3)] (.name 3) (.name 0) .nil) .nil)))))) (.cons (.ret (.bl false)) .nil) .nil) (.cons (.ret (.bi .all (.cons (.comp (.cmp .Lt (.ix (.varB 0) (.varB 2)) (.ix (.varB 0) (.bin .Add (.varB 2) (.int 1)))) [("at", 2)] (.name 2) (.rng1 (.bin .Sub (.bi .len (.cons (.varB 0) .nil)) (.int 1))) .nil) .nil))) .nil))⟩ -- is_climbing
def F62 : Fd := ⟨"is_group", ["signature", "value"], ["signature", "value"], (.cons (.if_ (.or (.not (.tru (.isi .tuple (.varB 1)))) (.or (.cmp .NotEq (.bi .len (.cons (.varB 1) .nil)) (.int 2)) (.one (.not (.tru (.call 0 (.val (.ix (.varB 1) (.int 0)) (.val (.int 1) (.val (.glo 7) .nil))))))))) (.cons (.ret (.bl false)) .nil) .nil) (.cons (.ret (.call 61 (.val (.ix (.varB 1) (.int 1)) (.val (.ix (.varB 0) (.int 0)) .nil)))) .nil))⟩ -- is_group
def F63 : Fd := ⟨"are_lists", ["value", "many", "groups"], ["value", "many", "groups", "rows", "row"], (.cons (.if_ (.or (.not (.tru (.isi .tuple (.varB 0)))) (.one (.cmp .NotEq (.bi .len (.cons (.varB 0) .nil)) (.varB 1)))) (.cons (.ret (.bl false)) .nil) .nil) (.cons (.for_ (.name 3) (.name 0) (.cons (.if_ (.or (.not (.tru (.isi .tuple (.varB 3)))) (.or (.cmp .NotEq (.bi .len (.cons (.varB 3) .nil)) (.varB 2)) (.one (.not (.tru (.bi .all (.cons (.comp (.call 61 (.bor 4 (.bor 2 .nil))) [("row", 4)] (.name 4) (.name 3) .nil) .nil))))))) (.cons (.ret (.bl false)) .nil) .nil) .nil)) (.cons (.ret (.bl true)) .nil)))⟩ -- are_lists
def F64 : Fd := ⟨"is_model", ["signature", "value"], ["signature", "value", "groups", "verbs", "selves", "row", "group"], (.cons (.if_ (.or (.not (.tru (.isi .tuple (.varB 1)))) (.one (.cmp .NotEq (.bi .len (.cons (.varB 1) .nil)) (.int 3)))) (.cons (.ret (.bl false)) .nil) .nil) (.cons (.asg (.tup (.cons (.name 2) (.cons (.name 3) (.cons (.name 4) .nil)))) (.var 1)) (.cons (.if_ (.or (.not (.tru (.isi .tuple (.varB 2)))) (.one (.cmp .Gt (.bi .len (.cons (.varB 2) .nil)) (.glo 6)))) (.cons (.ret (.bl false)) .nil) .nil) (.cons (.if_ (.or (.not (.tru (.bi .all (.cons (.comp (.call 62 (.bor 0 (.bor 6 .nil))) [("group", 6)] (.name 6) (.name 2) .nil) .nil)))) (.one (.not (.tru (.call 63 (.bor 3 (.val (.ix (.varB 0) (.int 1)) (.val (.bi .len (.cons (.varB 2) .nil)) .nil)))))))) (.cons (.ret (.bl false)) .nil) .nil) (.cons (.if_ (.or (.not (.tru (.isi .tuple (.varB 4)))) (.one (.cmp .NotEq (.bi .len (.cons (.varB 4) .nil)) (.ix (.varB 0) (.int 1))))) (.cons (.ret (.bl false)) .nil) .nil) (.cons (.ret (.bi .all (.cons (.comp (.call 61 (.bor 5 (.val (.bi .len (.cons (.varB 2) .nil)) .nil))) [("row", 5)] (.name 5) (.name 4) .nil) .nil))) .nil))))))⟩ -- is_model
def F66 : Fd := ⟨"having", ["model", "noun"], ["model", "noun", "at", "group"], (.cons (.ret (.comp (.var 2) [("at", 2), ("group", 3)] (.tup (.cons (.name 2) (.cons (.name 3) .nil))) (.enum (.ix (.varB 0) (.int 0))) (.one (.cmp .In (.varB 1) (.ix (.varB 3) (.int 1)))))) .nil)⟩ -- having
def F67 : Fd := ⟨"size_of", ["model", "noun"], ["model", "noun", "at"], (.cons (.ret (.bi .sum (.cons (.comp (.ix (.ix (.ix (.varB 0) (.int 0)) (.varB 2)) (.int 0)) [("at", 2)] (.name 2) (.expr (.call 66 (.bor 0 (.bor 1 .nil)))) .nil) .nil))) .nil)⟩ -- size_of
def F68 : Fd := ⟨"do_it", ["model", "verb", "one", "other"], ["model", "verb", "one", "other"], (.cons (.ret (.cmp .In (.varB 3) (.ix (.ix (.ix (.varB 0) (.int 1)) (.varB 1)) (.varB 2)))) .nil)⟩ -- do_it
def F69 : Fd := ⟨"answers", ["model", "group", "verb", "by", "noun"], ["model", "group", "verb", "by", "noun", "found", "other"], (.cons (.own 5 (.lst .nil)) (.cons (.for_ (.name 6) (.expr (.call 66 (.bor 0 (.bor 4 .nil)))) (.cons (.if_ (.or (.cmp .NotEq (.varB 6) (.varB 1)) (.one (.cmp .Gt (.ix (.ix (.ix (.varB 0) (.int 0)) (.varB 1)) (.int 0)) (.int 1)))) (.cons (.app 5 (.ite (.tru (.varB 3)) (.call 68 (.bor 0 (.bor 2 (.bor 6 (.bor 1 .nil))))) (.call 68 (.bor 0 (.bor 2 (.bor 1 (.bor 6 .nil))))))) .nil) .nil) (.cons (.if_ (.cmp .Eq (.varB 6) (.varB 1)) (.cons (.app 5 (.cmp .In (.varB 1) (.ix (.ix (.varB 0) (.int 2)) (.varB 2)))) .nil) .nil) .nil))) (.cons (.ret (.var 5)) .nil)))⟩ -- answers
def F70 : Fd := ⟨"inner_holds", ["model", "sentence", "group"], ["model", "sentence", "group", "told", "one"], (.cons (.if_ (.cmp .Eq (.ix (.varB 1) (.int 0)) (.str "self")) (.cons (.ret (.cmp .Eq (.cmp .In (.varB 2) (.ix (.ix (.varB 0) (.int 2)) (.ix (.varB 1) (.int 4)))) (.ix (.varB 1) (.int 3)))) .nil) .nil) (.cons (.ownLc 3 (.cmp .Eq (.varB 4) (.ix (.varB 1) (.int 3))) [("one", 4)] (.name 4) (.expr (.call 69 (.bor 0 (.bor 2 (.val (.ix (.varB 1) (.int 4)) (.val (.ix (.varB 1) (.int 5)) (.val (.ix (.varB 1) (.int 7)) .nil))))))) .nil) (.cons (.ret (.ite (.cmp .Eq (.ix (.varB 1) (.int 6)) (.str "all")) (.bi .all (.cons (.varB 3) .nil)) (.bi .any (.cons (.varB 3) .nil)))) .nil)))⟩ -- inner_holds
def F71 : Fd := ⟨"two_nouns_hold", ["model", "sentence"], ["model", "sentence", "has", "word", "noun", "other", "group"], (.cons (.asg (.tup (.cons (.name 3) (.cons (.name 4) (.cons (.name 5) .nil)))) (.var 1)) (.cons (.if_ (.cmp .Eq (.varB 3) (.str "as many")) (.cons (.ret (.cmp .GtE (.call 67 (.bor 0 (.bor 4 .nil))) (.call 67 (.bor 0 (.bor 5 .nil))))) .nil) .nil) (.cons (.if_ (.cmp .Eq (.varB 3) (.str "fewer")) (.cons (.ret (.cmp .Lt (.call 67 (.bor 0 (.bor 4 .nil))) (.call 67 (.bor 0 (.bor 5 .nil))))) .nil) .nil) (.cons (.ownLc 2 (.cmp .In (.varB 5) (.ix (.ix (.ix (.varB 0) (.int 0)) (.varB 6)) (.int 1))) [("group", 6)] (.name 6) (.expr (.call 66 (.bor 0 (.bor 4 .nil)))) .nil) (.cons (.if_ (.cmp .Eq (.varB 3) (.str "all")) (.cons (.ret (.bi .all (.cons (.varB 2) .nil))) .nil) .nil) (.cons (.if_ (.cmp .Eq (.varB 3) (.str "some not")) (.cons (.ret (.notV (.bi .all (.cons (.varB 2) .nil)))) .nil) .nil) (.cons (.ret (.cmp .Eq (.bi .any (.cons (.varB 2) .nil)) (.cmp .Eq (.varB 3) (.str "some")))) .nil)))))))⟩ -- two_nouns_hold
def F72 : Fd := ⟨"holds_in", ["model", "sentence"], ["model", "sentence", "told", "group"], (.cons (.if_ (.cmp .In (.ix (.varB 1) (.int 0)) (.glo 4)) (.cons (.ret (.call 71 (.bor 0 (.bor 1 .nil)))) .nil) .nil) (.cons (.ownLc 2 (.call 70 (.bor 0 (.bor 1 (.bor 3 .nil)))) [("group", 3)] (.name 3) (.expr (.call 66 (.bor 0 (.val (.ix (.varB 1) (.int 2)) .nil)))) .nil) (.cons (.ret (.ite (.cmp .Eq (.ix (.varB 1) (.int 1)) (.str "all")) (.bi .all (.cons (.varB 2) .nil)) (.bi .any (.cons (.varB 2) .nil)))) .nil)))⟩ -- holds_in
def F168 : Fd := ⟨"satisfies", ["model", "premises"], ["model", "premises", "sentence"], (.cons (.ret (.bi .all (.cons (.comp (.call 72 (.bor 0 (.bor 2 .nil))) [("sentence", 2)] (.name 2) (.name 1) .nil) .nil))) .nil)⟩ -- satisfies
def F169 : Fd := ⟨"is_plain", ["sub", "kind"], ["sub", "kind", "less"], (.cons (.if_ (.cmp .NotEq (.ix (.varB 1) (.int 0)) (.str "one")) (.cons (.ret (.bl false)) .nil) .nil) (.cons (.ret (.notV (.bi .any (.cons (.comp (.andV (.cmp .In (.tup (.cons (.var 2) (.cons (.ix (.varB 1) (.int 1)) .nil))) (.varB 0)) (.one (.cmp .In (.tup (.cons (.ix (.varB 1) (.int 1)) (.cons (.var 2) .nil))) (.varB 0)))) [("less", 2)] (.name 2) (.rng1 (.ix (.varB 1) (.int 1))) .nil) .nil)))) .nil))⟩ -- is_plain
def F170 : Fd := ⟨"sizes_of", ["signature", "premises", "kinds"], ["signature", "premises", "kinds", "nouns", "sizes", "kind", "required", "levels", "size", "level", "sub", "most", "open_kinds", "counts", "at", "noun", "other", "group", "many"], (.cons (.asg (.tup (.cons (.name 10) (.cons (.name 11) .nil))) (.call 98 (.bor 0 (.bor 1 .nil)))) (.cons (.own 3 (.comp (.call 110 (.bor 10 (.bor 5 (.bor 0 .nil)))) [("kind", 5)] (.name 5) (.name 2) .nil)) (.cons (.own 4 (.lst .nil)) (.cons (.for_ (.name 5) (.name 2) (.cons (.ext 4 (.lst (.cons (.ite (.tru (.call 169 (.bor 10 (.bor 5 .nil)))) (.int 0) (.int 1)) (.cons (.int 1) (.cons (.int 1) .nil))))) .nil)) (.cons (.own 6 (.comp (.ix (.varB 5) (.int 1)) [("kind", 5)] (.name 5) (.name 2) (.one (.cmp .Eq (.ix (.varB 5) (.int 0)) (.str "one"))))) (.cons (.own 7 (.dc true (.var 15) (.bi .len (.cons (.comp (.var 16) [("other", 16)] (.name 16) (.name 6) (.one (.cmp .In (.tup (.cons (.var 15) (.cons (.var 16) .nil))) (.varB 11)))) .nil)) [("noun", 15)] (.name 15) (.name 6) .nil)) (.cons (.asg (.name 8) (.int 0)) (.cons (.for_ (.name 9) (.expr (.srt (.comp (.ix (.varB 7) (.varB 15)) [("noun", 15)] (.name 15) (.name 6) .nil))) (.cons (.ownLc 12 (.var 14) [("at", 14), ("kind", 5)] (.tup (.cons (.name 14) (.cons (.name 5) .nil))) (.enumN 2) (.one (.and (.tru (.call 169 (.bor 10 (.bor 5 .nil)))) (.one (.cmp .Eq (.ix (.varB 7) (.ix (.varB 5) (.int 1))) (.varB 9)))))) (.cons (.own 13 .newI) (.cons (.for_ (.name 14) (.name 12) (.cons (.putI 13 (.var 14) (.bi .sum (.cons (.comp (.var 18) [("group", 17), ("many", 18)] (.tup (.cons (.name 17) (.cons (.name 18) .nil))) (.enumN 4) (.one (.cmp .In (.ix (.ix (.varB 2) (.varB 14)) (.int 1)) (.ix (.varB 3) (.bin .FloorDiv (.varB 17) (.int 3)))))) .nil))) .nil)) (.cons (.asg (.name 8) (.bin .Add (.int 1) (.bi .max1 (.cons (.addL (.lst (.cons (.var 8) .nil)) (.comp (.ix (.varB 13) (.varB 14)) [("at", 14)] (.name 14) (.name 12) .nil)) .nil)))) (.cons (.for_ (.name 14) (.name 12) (.cons (.set 4 (.bin .Mult (.int 3) (.varB 14)) (.bin .Sub (.varB 8) (.ix (.varB 13) (.varB 14)))) .nil)) .nil)))))) (.cons (.ret (.var 4)) .nil)))))))))⟩ -- sizes_of
def F171 : Fd := ⟨"done_to", ["words", "group"], ["words", "group", "found", "other", "word", "later"], (.cons (.own 2 (.lst .nil)) (.cons (.for_ (.tup (.cons (.name 3) (.cons (.name 4) .nil))) (.enum (.ix (.varB 0) (.bin .FloorDiv (.varB 1) (.int 3)))) (.cons (.for_ (.name 5) (.expr (.glo 9)) (.cons (.if_ (.or (.cmp .Eq (.varB 4) (.str "yes")) (.one (.and (.cmp .Eq (.varB 4) (.str "free")) (.one (.cmp .Eq (.varB 5) (.bin .Mod (.bin .Add (.varB 1) (.int 1)) (.int 3))))))) (.cons (.app 2 (.bin .Add (.bin .Mult (.int 3) (.varB 3)) (.varB 5))) .nil) .nil) .nil)) .nil)) (.cons (.ret (.bi .tuple (.cons (.varB 2) .nil))) .nil)))⟩ -- done_to
def F172 : Fd := ⟨"model_of", ["signature", "premises"], ["signature", "premises", "kinds", "sub", "sizes", "many", "groups", "verbs", "selves", "verb", "words", "own", "group", "first", "kind", "second"], (.cons (.asg (.name 2) (.call 116 (.bor 0 (.bor 1 .nil)))) (.cons (.asg (.name 3) (.ix (.call 98 (.bor 0 (.bor 1 .nil))) (.int 0))) (.cons (.asg (.name 4) (.call 170 (.bor 0 (.bor 1 (.bor 2 .nil))))) (.cons (.asg (.name 5) (.bi .len (.cons (.varB 4) .nil))) (.cons (.asg (.name 6) (.bi .tuple (.cons (.comp (.tup (.cons (.ix (.varB 4) (.varB 12)) (.cons (.call 110 (.bor 3 (.val (.ix (.varB 2) (.bin .FloorDiv (.varB 12) (.int 3))) (.bor 0 .nil)))) .nil))) [("group", 12)] (.name 12) (.rng1 (.varB 5)) .nil) .nil))) (.cons (.own 7 (.lst .nil)) (.cons (.own 8 (.lst .nil)) (.cons (.for_ (.name 9) (.rng1 (.ix (.varB 0) (.int 1))) (.cons (.own 10 (.comp (.comp (.call 129 (.bor 0 (.bor 1 (.bor 3 (.bor 9 (.bor 13 (.bor 15 .nil))))))) [("second", 15)] (.name 15) (.name 2) .nil) [("first", 13)] (.name 13) (.name 2) .nil)) (.cons (.app 7 (.bi .tuple (.cons (.comp (.call 171 (.bor 10 (.bor 12 .nil))) [("group", 12)] (.name 12) (.rng1 (.varB 5)) .nil) .nil))) (.cons (.own 11 (.comp (.call 130 (.bor 0 (.bor 1 (.bor 3 (.bor 9 (.bor 14 .nil)))))) [("kind", 14)] (.name 14) (.name 2) .nil)) (.cons (.app 8 (.bi .tuple (.cons (.comp (.var 12) [("group", 12)] (.name 12) (.rng1 (.varB 5)) (.one (.cmp .Eq (.ix (.varB 11) (.bin .FloorDiv (.varB 12) (.int 3))) (.str "yes")))) .nil))) .nil))))) (.cons (.ret (.tup (.cons (.var 6) (.cons (.bi .tuple (.cons (.varB 7) .nil)) (.cons (.bi .tuple (.cons (.varB 8) .nil)) .nil))))) .nil)))))))))⟩ -- model_of
def F194 : Fd := ⟨"is_fact_of", ["signature", "value"], ["signature", "value"], (.cons (.if_ (.or (.not (.tru (.isi .tuple (.varB 1)))) (.or (.not (.tru (.varB 1))) (.one (.not (.tru (.isi .str (.ix (.varB 1) (.int 0)))))))) (.cons (.ret (.bl false)) .nil) .nil) (.cons (.if_ (.cmp .In (.ix (.varB 1) (.int 0)) (.tup (.cons (.str "all") (.cons (.str "as many") .nil)))) (.cons (.ret (.andV (.cmp .Eq (.bi .len (.cons (.varB 1) .nil)) (.int 3)) (.andV (.call 113 (.val (.ix (.varB 1) (.int 1)) (.val (.ix (.varB 0) (.int 0)) .nil))) (.one (.call 113 (.val (.ix (.varB 1) (.int 2)) (.val (.ix (.varB 0) (.int 0)) .nil))))))) .nil) .nil) (.cons (.ret (.orV (.cmp .Eq (.varB 1) (.glo 11)) (.one (.call 114 (.bor 0 (.bor 1 .nil)))))) .nil)))⟩ -- is_fact_of
def F196 : Fd := ⟨"tables_by", ["signature", "lines"], ["signature", "lines", "sub", "most", "wide", "noun", "kinds", "line"], (.cons (.ownDc 2 false (.sl (.varB 7) (.some (.int 1)) .none) (.bl true) [("line", 7)] (.name 7) (.name 1) (.one (.cmp .Eq (.ix (.varB 7) (.int 0)) (.str "all")))) (.cons (.ownDc 3 false (.sl (.varB 7) (.some (.int 1)) .none) (.bl true) [("line", 7)] (.name 7) (.name 1) (.one (.cmp .Eq (.ix (.varB 7) (.int 0)) (.str "as many")))) (.cons (.own 4 (.dict (.cons (.varB 2) .nil))) (.cons (.for_ (.name 5) (.rng1 (.ix (.varB 0) (.int 0))) (.cons (.put 4 (.tup (.cons (.var 5) (.cons (.var 5) .nil))) (.bl true)) .nil)) (.cons (.ownLc 6 (.var 7) [("line", 7)] (.name 7) (.name 1) (.one (.cmp .NotIn (.ix (.varB 7) (.int 0)) (.tup (.cons (.str "all") (.cons (.str "as many") (.cons (.str "clash") .nil))))))) (.cons (.ret (.tup (.cons (.tup (.cons (.var 2) (.cons (.var 3) (.cons (.var 4) .nil)))) (.cons (.var 6) .nil)))) .nil))))))⟩ -- tables_by
def F197 : Fd := ⟨"all_follows", ["signature", "premises", "tables", "fact"], ["signature", "premises", "tables", "fact", "sub", "most", "wide", "x", "y", "z"], (.cons (.asg (.tup (.cons (.name 4) (.cons (.name 5) (.cons (.name 6) .nil)))) (.var 2)) (.cons (.asg (.tup (.cons (.name 7) (.cons (.name 8) .nil))) (.sl (.varB 3) (.some (.int 1)) .none)) (.cons (.if_ (.or (.cmp .Eq (.varB 7) (.varB 8)) (.or (.cmp .In (.varB 3) (.varB 1)) (.one (.and (.cmp .In (.tup (.cons (.var 8) (.cons (.var 7) .nil))) (.varB 4)) (.one (.cmp .In (.tup (.cons (.var 8) (.cons (.var 7) .nil))) (.varB 5))))))) (.cons (.ret (.bl true)) .nil) .nil) (.cons (.ret (.bi .any (.cons (.comp (.andV (.cmp .In (.tup (.cons (.var 7) (.cons (.var 9) .nil))) (.varB 4)) (.one (.cmp .In (.tup (.cons (.var 9) (.cons (.var 8) .nil))) (.varB 4)))) [("z", 9)] (.name 9) (.rng1 (.ix (.varB 0) (.int 0))) .nil) .nil))) .nil))))⟩ -- all_follows
def F198 : Fd := ⟨"many_follows", ["signature", "premises", "tables", "fact"], ["signature", "premises", "tables", "fact", "sub", "most", "wide", "x", "y", "z"], (.cons (.asg (.tup (.cons (.name 4) (.cons (.name 5) (.cons (.name 6) .nil)))) (.var 2)) (.cons (.asg (.tup (.cons (.name 7) (.cons (.name 8) .nil))) (.sl (.varB 3) (.some (.int 1)) .none)) (.cons (.if_ (.or (.cmp .In (.varB 3) (.varB 1)) (.or (.cmp .In (.tup (.cons (.str "fewer") (.cons (.var 8) (.cons (.var 7) .nil)))) (.varB 1)) (.one (.cmp .In (.tup (.cons (.var 8) (.cons (.var 7) .nil))) (.varB 4))))) (.cons (.ret (.bl true)) .nil) .nil) (.cons (.ret (.bi .any (.cons (.comp (.andV (.cmp .In (.tup (.cons (.var 7) (.cons (.var 9) .nil))) (.varB 5)) (.one (.cmp .In (.tup (.cons (.var 9) (.cons (.var 8) .nil))) (.varB 5)))) [("z", 9)] (.name 9) (.rng1 (.ix (.varB 0) (.int 0))) .nil) .nil))) .nil))))⟩ -- many_follows
def F199 : Fd := ⟨"one_follows", ["signature", "premises", "tables", "kinds", "noun"], ["signature", "premises", "tables", "kinds", "noun", "near", "sentence", "kind", "x", "y"], (.cons (.own 5 (.addL (.lst (.cons (.var 4) .nil)) (.comp (.var 9) [("x", 8), ("y", 9)] (.tup (.cons (.name 8) (.cons (.name 9) .nil))) (.expr (.ix (.varB 2) (.int 1))) (.one (.cmp .Eq (.varB 8) (.varB 4)))))) (.cons (.for_ (.name 6) (.name 1) (.cons (.if_ (.and (.cmp .Eq (.ix (.varB 6) (.int 0)) (.str "verb")) (.and (.cmp .Eq (.ix (.varB 6) (.int 1)) (.str "all")) (.and (.cmp .Eq (.ix (.varB 6) (.int 6)) (.str "some")) (.one (.cmp .Eq (.ix (.varB 6) (.int 7)) (.varB 4)))))) (.cons (.app 5 (.ix (.varB 6) (.int 2))) .nil) .nil) .nil)) (.cons (.ret (.bi .any (.cons (.comp (.bi .any (.cons (.comp (.cmp .In (.varB 9) (.call 110 (.val (.ix (.varB 2) (.int 2)) (.bor 7 (.bor 0 .nil))))) [("y", 9)] (.name 9) (.name 5) .nil) .nil)) [("kind", 7)] (.name 7) (.name 3) .nil) .nil))) .nil)))⟩ -- one_follows
def F200 : Fd := ⟨"fact_follows", ["signature", "premises", "lines", "fact"], ["signature", "premises", "lines", "fact", "tables", "kinds"], (.cons (.asg (.tup (.cons (.name 4) (.cons (.name 5) .nil))) (.call 196 (.bor 0 (.bor 2 .nil)))) (.cons (.if_ (.cmp .Eq (.ix (.varB 3) (.int 0)) (.str "all")) (.cons (.ret (.call 197 (.bor 0 (.bor 1 (.bor 4 (.bor 3 .nil)))))) .nil) .nil) (.cons (.if_ (.cmp .Eq (.ix (.varB 3) (.int 0)) (.str "as many")) (.cons (.ret (.call 198 (.bor 0 (.bor 1 (.bor 4 (.bor 3 .nil)))))) .nil) .nil) (.cons (.if_ (.cmp .Eq (.varB 3) (.glo 11)) (.cons (.ret (.cmp .NotEq (.call 150 (.bor 0 (.bor 1 (.bor 4 (.bor 5 .nil))))) (.lst .nil))) .nil) .nil) (.cons (.if_ (.cmp .In (.varB 3) (.call 108 (.bor 1 .nil))) (.cons (.ret (.bl true)) .nil) .nil) (.cons (.ret (.andV (.cmp .Eq (.ix (.varB 3) (.int 0)) (.str "one")) (.one (.call 199 (.bor 0 (.bor 1 (.bor 4 (.bor 5 (.val (.ix (.varB 3) (.int 1)) .nil))))))))) .nil))))))⟩ -- fact_follows
def F212 : Fd := ⟨"first_loose", ["signature", "premises", "lines"], ["signature", "premises", "lines", "at", "line"], (.cons (.for_ (.tup (.cons (.name 3) (.cons (.name 4) .nil))) (.enumN 2) (.cons (.if_ (.not (.tru (.call 200 (.bor 0 (.bor 1 (.val (.sl (.varB 2) .none (.some (.var 3))) (.bor 4 .nil))))))) (.cons (.ret (.var 3)) .nil) .nil) .nil)) (.cons (.ret (.ite (.and (.tru (.varB 2)) (.one (.cmp .Eq (.ix (.varB 2) (.neg (.int 1))) (.glo 11)))) .non (.bi .len (.cons (.varB 2) .nil)))) .nil))⟩ -- first_loose
def F215 : Fd := ⟨"facts_of", ["signature", "premises"], ["signature", "premises", "found", "word", "x", "y"], (.cons (.own 2 (.lst .nil)) (.cons (.for_ (.name 3) (.expr (.tup (.cons (.str "all") (.cons (.str "as many") .nil)))) (.cons (.for_ (.name 4) (.rng1 (.ix (.varB 0) (.int 0))) (.cons (.ext 2 (.comp (.tup (.cons (.var 3) (.cons (.var 4) (.cons (.var 5) .nil)))) [("y", 5)] (.name 5) (.rng1 (.ix (.varB 0) (.int 0))) .nil)) .nil)) .nil)) (.cons (.ext 2 (.call 108 (.bor 1 .nil))) (.cons (.ret (.addL (.varB 2) (.comp (.tup (.cons (.str "one") (.cons (.var 4) .nil))) [("x", 4)] (.name 4) (.rng1 (.ix (.varB 0) (.int 0))) .nil))) .nil))))⟩ -- facts_of
def F216 : Fd := ⟨"all_lines", ["signature", "premises"], ["signature", "premises", "facts", "lines", "before", "fact"], (.cons (.asg (.name 2) (.call 215 (.bor 0 (.bor 1 .nil)))) (.cons (.asg (.name 3) (.tup .nil)) (.cons (.asg (.name 4) (.neg (.int 1))) (.cons (.while_ (.cmp .Gt (.bi .len (.cons (.varB 3) .nil)) (.varB 4)) (.cons (.asg (.name 4) (.bi .len (.cons (.varB 3) .nil))) (.cons (.for_ (.name 5) (.name 2) (.cons (.if_ (.and (.cmp .NotIn (.varB 5) (.varB 3)) (.one (.tru (.call 200 (.bor 0 (.bor 1 (.bor 3 (.bor 5 .nil)))))))) (.cons (.asg (.name 3) (.bin .Add (.varB 3) (.tup (.cons (.var 5) .nil)))) .nil) .nil) .nil)) .nil))) (.cons (.ret (.var 3)) .nil)))))⟩ -- all_lines
def F217 : Fd := ⟨"proof_of", ["signature", "premises"], ["signature", "premises", "lines", "at", "less"], (.cons (.if_ (.cmp .Eq (.call 151 (.bor 0 (.bor 1 .nil))) (.lst .nil)) (.cons (.ret .non) .nil) .nil) (.cons (.asg (.name 2) (.bin .Add (.call 216 (.bor 0 (.bor 1 .nil))) (.tup (.cons (.glo 11) .nil)))) (.cons (.for_ (.name 3) (.rng3 (.bin .Sub (.bi .len (.cons (.varB 2) .nil)) (.int 2)) (.neg (.int 1)) (.neg (.int 1))) (.cons (.asg (.name 4) (.bin .Add (.sl (.varB 2) .none (.some (.var 3))) (.sl (.varB 2) (.some (.bin .Add (.varB 3) (.int 1))) .none))) (.cons (.if_ (.cmp .Is (.call 212 (.bor 0 (.bor 1 (.bor 4 .nil)))) .non) (.cons (.asg (.name 2) (.var 4)) .nil) .nil) .nil))) (.cons (.ret (.var 2)) .nil))))⟩ -- proof_of
def F274 : Fd := ⟨"check_premises", ["signature", "premises", "name"], ["signature", "premises", "name"], (.cons (.if_ (.or (.not (.tru (.call 8 (.bor 0 (.bor 1 .nil))))) (.one (.cmp .Gt (.bi .len (.cons (.varB 1) .nil)) (.glo 15)))) (.cons (.raise_ 1 (.cons (.var 2) .nil)) .nil) .nil) .nil)⟩ -- check_premises
def F275 : Fd := ⟨"check_two", ["signature", "first", "second"], ["signature", "first", "second"], (.cons (.expr (.call 18 (.bor 0 .nil))) (.cons (.expr (.call 274 (.bor 0 (.bor 1 (.val (.str "first") .nil))))) (.cons (.expr (.call 274 (.bor 0 (.bor 2 (.val (.str "second") .nil))))) .nil)))⟩ -- check_two
def F276 : Fd := ⟨"entails_one", ["signature", "premises", "sentence"], ["signature", "premises", "sentence"], (.cons (.ret (.cmp .NotEq (.call 151 (.bor 0 (.val (.bin .Add (.varB 1) (.tup (.cons (.call 21 (.bor 2 .nil)) .nil))) .nil))) (.lst .nil))) .nil)⟩ -- entails_one
def F277 : Fd := ⟨"entails", ["signature", "first", "second"], ["signature", "first", "second", "sentence"], (.cons (.expr (.call 275 (.bor 0 (.bor 1 (.bor 2 .nil))))) (.cons (.ret (.bi .all (.cons (.comp (.call 276 (.bor 0 (.bor 1 (.bor 3 .nil)))) [("sentence", 3)] (.name 3) (.name 2) .nil) .nil))) .nil))⟩ -- entails
def F278 : Fd := ⟨"are_equivalent", ["signature", "first", "second"], ["signature", "first", "second"], (.cons (.ret (.andV (.call 277 (.bor 0 (.bor 1 (.bor 2 .nil)))) (.one (.call 277 (.bor 0 (.bor 2 (.bor 1 .nil))))))) .nil)⟩ -- are_equivalent
def F279 : Fd := ⟨"difference", ["signature", "first", "second"], ["signature", "first", "second", "index", "sentence"], (.cons (.expr (.call 275 (.bor 0 (.bor 1 (.bor 2 .nil))))) (.cons (.for_ (.tup (.cons (.name 3) (.cons (.name 4) .nil))) (.enumN 2) (.cons (.if_ (.not (.tru (.call 276 (.bor 0 (.bor 1 (.bor 4 .nil)))))) (.cons (.ret (.tup (.cons (.var 3) (.cons (.call 172 (.bor 0 (.val (.bin .Add (.varB 1) (.tup (.cons (.call 21 (.bor 4 .nil)) .nil))) .nil))) .nil)))) .nil) .nil) .nil)) (.cons (.ret .non) .nil)))⟩ -- difference
def F293 : Fd := ⟨"accepts_difference", ["signature", "first", "second", "value"], ["signature", "first", "second", "value", "index", "model"], (.cons (.expr (.call 275 (.bor 0 (.bor 1 (.bor 2 .nil))))) (.cons (.if_ (.or (.not (.tru (.isi .tuple (.varB 3)))) (.or (.cmp .NotEq (.bi .len (.cons (.varB 3) .nil)) (.int 2)) (.one (.not (.tru (.call 0 (.val (.ix (.varB 3) (.int 0)) (.val (.int 0) (.val (.bin .Sub (.bi .len (.cons (.varB 2) .nil)) (.int 1)) .nil))))))))) (.cons (.ret (.bl false)) .nil) .nil) (.cons (.asg (.tup (.cons (.name 4) (.cons (.name 5) .nil))) (.var 3)) (.cons (.ret (.andV (.call 64 (.bor 0 (.bor 5 .nil))) (.andV (.call 168 (.bor 5 (.bor 1 .nil))) (.one (.notV (.call 72 (.bor 5 (.val (.ix (.varB 2) (.varB 4)) .nil)))))))) .nil))))⟩ -- accepts_difference
def F298 : Fd := ⟨"proofs", ["signature", "first", "second"], ["signature", "first", "second", "sentence"], (.cons (.if_ (.not (.tru (.call 277 (.bor 0 (.bor 1 (.bor 2 .nil)))))) (.cons (.ret .non) .nil) .nil) (.cons (.ret (.bi .tuple (.cons (.comp (.bi .tuple (.cons (.call 217 (.bor 0 (.val (.bin .Add (.varB 1) (.tup (.cons (.call 21 (.bor 3 .nil)) .nil))) .nil))) .nil)) [("sentence", 3)] (.name 3) (.name 2) .nil) .nil))) .nil))⟩ -- proofs
def F312 : Fd := ⟨"is_proof", ["signature", "premises", "value"], ["signature", "premises", "value", "line"], (.cons (.if_ (.or (.not (.tru (.isi .tuple (.varB 2)))) (.one (.cmp .Gt (.bi .len (.cons (.varB 2) .nil)) (.glo 10)))) (.cons (.ret (.bl false)) .nil) .nil) (.cons (.ret (.andV (.bi .all (.cons (.comp (.call 194 (.bor 0 (.bor 3 .nil))) [("line", 3)] (.name 3) (.name 2) .nil) .nil)) (.one (.cmp .Is (.call 212 (.bor 0 (.bor 1 (.bor 2 .nil)))) .non)))) .nil))⟩ -- is_proof
def F313 : Fd := ⟨"accepts_proofs", ["signature", "first", "second", "value"], ["signature", "first", "second", "value", "one", "proof"], (.cons (.expr (.call 275 (.bor 0 (.bor 1 (.bor 2 .nil))))) (.cons (.if_ (.or (.not (.tru (.isi .tuple (.varB 3)))) (.one (.cmp .NotEq (.bi .len (.cons (.varB 3) .nil)) (.bi .len (.cons (.varB 2) .nil))))) (.cons (.ret (.bl false)) .nil) .nil) (.cons (.ret (.bi .all (.cons (.comp (.call 312 (.bor 0 (.val (.bin .Add (.varB 1) (.tup (.cons (.call 21 (.bor 4 .nil)) .nil))) (.bor 5 .nil)))) [("one", 4), ("proof", 5)] (.tup (.cons (.name 4) (.cons (.name 5) .nil))) (.zip (.var 2) (.var 3)) .nil) .nil))) .nil)))⟩ -- accepts_proofs
def F306 : Fd := ⟨"needless_in", ["signature", "premises"], ["signature", "premises", "found", "at", "sentence"], (.cons (.own 2 (.lst .nil)) (.cons (.for_ (.tup (.cons (.name 3) (.cons (.name 4) .nil))) (.enumN 1) (.cons (.if_ (.tru (.call 276 (.bor 0 (.val (.bin .Add (.sl (.varB 1) .none (.some (.var 3))) (.sl (.varB 1) (.some (.bin .Add (.varB 3) (.int 1))) .none)) (.bor 4 .nil))))) (.cons (.app 2 (.var 3)) .nil) .nil) .nil)) (.cons (.ret (.var 2)) .nil)))⟩ -- needless_in
def F307 : Fd := ⟨"needless", ["signature", "premises"], ["signature", "premises"], (.cons (.expr (.call 18 (.bor 0 .nil))) (.cons (.expr (.call 274 (.bor 0 (.bor 1 (.val (.str "premises") .nil))))) (.cons (.ret (.bi .tuple (.cons (.call 306 (.bor 0 (.bor 1 .nil))) .nil))) .nil)))⟩ -- needless
def F308 : Fd := ⟨"pruned", ["signature", "premises"], ["signature", "premises", "here", "found"], (.cons (.expr (.call 18 (.bor 0 .nil))) (.cons (.expr (.call 274 (.bor 0 (.bor 1 (.val (.str "premises") .nil))))) (.cons (.asg (.name 2) (.var 1)) (.cons (.asg (.name 3) (.call 306 (.bor 0 (.bor 2 .nil)))) (.cons (.while_ (.tru (.varB 3)) (.cons (.asg (.name 2) (.bin .Add (.sl (.varB 2) .none (.some (.ix (.varB 3) (.neg (.int 1))))) (.sl (.varB 2) (.some (.bin .Add (.ix (.varB 3) (.neg (.int 1))) (.int 1))) .none))) (.cons (.asg (.name 3) (.call 306 (.bor 0 (.bor 2 .nil)))) .nil))) (.cons (.ret (.var 2)) .nil))))))⟩ -- pruned
def F9 : Fd := ⟨"_law_stream", ["_law_script"], ["_law_script"], (.cons (.ret (.newO (.cons (.list (.cons (.varB 0) .nil)) (.cons (.int 0) (.cons (.int 0) .nil))))) .nil)⟩ -- _law_stream
def F10 : Fd := ⟨"_law_next", ["_law_stream_here", "_law_many"], ["_law_stream_here", "_law_many", "_law_digit", "_law_k", "_law_cell"], (.cons (.if_ (.cmp .Eq (.ix (.varB 0) (.int 1)) (.int 0)) (.cons (.asg (.name 3) (.ix (.varB 0) (.int 2))) (.cons (.asg (.name 4) (.bin .Add (.int 7) (.varB 3))) (.cons (.if_ (.cmp .Lt (.varB 3) (.bi .len (.cons (.ix (.varB 0) (.int 0)) .nil))) (.cons (.asg (.name 4) (.bi .abs (.cons (.ix (.ix (.varB 0) (.int 0)) (.varB 3)) .nil))) .nil) .nil) (.cons (.if_ (.cmp .Lt (.varB 4) (.bin .Pow (.int 10) (.int 18))) (.cons (.asg (.name 4) (.bin .Mod (.bi .int (.cons (.bin .Add (.bin .Add (.bin .Mult (.varB 4) (.int 48271)) (.bin .Mult (.varB 3) (.int 69621))) (.int 11)) .nil)) (.int 2147483647))) (.cons (.asg (.name 4) (.bin .Add (.bin .Mult (.bin .Mod (.bi .int (.cons (.bin .Add (.bin .Mult (.varB 4) (.int 16807)) (.int 13)) .nil)) (.int 2147483647)) (.int 65537)) (.varB 4))) .nil)) .nil) (.cons (.setO 0 (.int 1) (.var 4)) (.cons (.setO 0 (.int 2) (.bin .Add (.varB 3) (.int 1))) .nil)))))) .nil) (.cons (.asg (.name 2) (.bin .Mod (.bi .int (.cons (.ix (.varB 0) (.int 1)) .nil)) (.varB 1))) (.cons (.setO 0 (.int 1) (.bin .FloorDiv (.ix (.varB 0) (.int 1)) (.varB 1))) (.cons (.ret (.var 2)) .nil))))⟩ -- _law_next
def F314 : Fd := ⟨"_law_told", ["_law_which", "_law_signature", "_law_first", "_law_second"], ["_law_which", "_law_signature", "_law_first", "_law_second", "e"], (.cons (.try_ (.cons (.if_ (.cmp .Eq (.varB 0) (.int 0)) (.cons (.expr (.call 277 (.bor 1 (.bor 2 (.bor 3 .nil))))) .nil) (.cons (.if_ (.cmp .Eq (.varB 0) (.int 1)) (.cons (.expr (.call 278 (.bor 1 (.bor 2 (.bor 3 .nil))))) .nil) (.cons (.if_ (.cmp .Eq (.varB 0) (.int 2)) (.cons (.expr (.call 279 (.bor 1 (.bor 2 (.bor 3 .nil))))) .nil) (.cons (.if_ (.cmp .Eq (.varB 0) (.int 3)) (.cons (.expr (.call 293 (.bor 1 (.bor 2 (.bor 3 (.val .non .nil)))))) .nil) (.cons (.if_ (.cmp .Eq (.varB 0) (.int 4)) (.cons (.expr (.call 298 (.bor 1 (.bor 2 (.bor 3 .nil))))) .nil) (.cons (.if_ (.cmp .Eq (.varB 0) (.int 5)) (.cons (.expr (.call 313 (.bor 1 (.bor 2 (.bor 3 (.val .non .nil)))))) .nil) (.cons (.if_ (.cmp .Eq (.varB 0) (.int 6)) (.cons (.expr (.call 307 (.bor 1 (.bor 2 .nil)))) .nil) (.cons (.expr (.call 308 (.bor 1 (.bor 2 .nil)))) .nil)) .nil)) .nil)) .nil)) .nil)) .nil)) .nil)) .nil) 0 (some 4) [0, 1, 2, 3, 4] (.if_ (.cons (.isi 1 [1]) (.cons .isv .nil)) (.ret (.attr "name" [(1, 0)])) (.ret (.tup (.cons (.str "other") .nil))))) (.cons (.ret (.str "")) .nil))⟩ -- _law_told
def F315 : Fd := ⟨"law", ["_law_script"], ["_law_script", "_law_stream_here", "_law_signature", "_law_no_signature", "_law_fine", "_law_wrong", "_law_odd", "_law_rows", "_law_no_first", "_law_no_second", "_law_good", "_law_which", "_law_name"], (.cons (.asg (.name 1) (.call 9 (.bor 0 .nil))) (.cons (.asg (.name 2) (.tup (.cons (.int 2) (.cons (.int 1) .nil)))) (.cons (.asg (.name 3) (.ix (.lst (.cons .non (.cons (.lst (.cons (.int 2) (.cons (.int 1) .nil))) (.cons (.tup (.cons (.int 0) (.cons (.int 1) .nil))) (.cons (.tup (.cons (.int 5) (.cons (.int 1) .nil))) (.cons (.tup (.cons (.int 2) (.cons (.int 3) .nil))) (.cons (.tup (.cons (.int 2) (.cons (.neg (.int 1)) .nil))) (.cons (.tup (.cons (.bl true) (.cons (.int 1) .nil))) (.cons (.tup (.cons (.int 2) .nil)) (.cons (.tup (.cons (.int 2) (.cons (.int 1) (.cons (.int 0) .nil)))) (.cons (.tup (.cons (.int 2) (.cons .non .nil))) .nil))))))))))) (.call 10 (.bor 1 (.val (.int 10) .nil))))) (.cons (.asg (.name 4) (.tup (.cons (.str "all") (.cons (.int 0) (.cons (.int 1) .nil))))) (.cons (.asg (.name 5) (.lst (.cons .non (.cons (.lst (.cons (.str "all") (.cons (.int 0) (.cons (.int 1) .nil)))) (.cons (.tup (.cons (.str "all") (.cons (.int 0) .nil))) (.cons (.tup (.cons (.str "all") (.cons (.int 0) (.cons (.int 2) .nil)))) (.cons (.tup (.cons (.str "all") (.cons (.bl true) (.cons (.int 1) .nil)))) (.cons (.tup (.cons (.str "All") (.cons (.int 0) (.cons (.int 1) .nil)))) (.cons (.tup (.cons (.str "self") (.cons (.str "all") (.cons (.int 0) (.cons (.int 1) (.cons (.int 0) .nil)))))) (.cons (.tup (.cons (.str "self") (.cons (.str "all") (.cons (.int 0) (.cons (.bl true) (.cons (.int 1) .nil)))))) .nil)))))))))) (.cons (.asg (.name 5) (.addL (.varB 5) (.lst (.cons (.tup (.cons (.str "verb") (.cons (.str "all") (.cons (.int 0) (.cons (.bl true) (.cons (.int 0) (.cons (.bl false) (.cons (.str "no") (.cons (.int 1) .nil))))))))) (.cons (.tup (.cons (.str "verb") (.cons (.str "all") (.cons (.int 0) (.cons (.bl true) (.cons (.int 0) (.cons (.int 0) (.cons (.str "all") (.cons (.int 1) .nil))))))))) (.cons (.tup (.cons (.str "verb") (.cons (.str "all") (.cons (.int 0) (.cons (.bl true) (.cons (.int 0) (.cons (.bl false) (.cons (.str "all") .nil)))))))) (.cons (.tup .nil) .nil))))))) (.cons (.asg (.name 6) (.ix (.varB 5) (.call 10 (.bor 1 (.val (.int 12) .nil))))) (.cons (.asg (.name 7) (.lst (.cons .non (.cons (.lst (.cons (.var 4) .nil)) (.cons (.tup (.cons (.var 6) .nil)) (.cons (.tup (.cons (.var 4) (.cons (.var 6) .nil))) (.cons (.repT (.tup (.cons (.var 4) .nil)) (.int 8)) (.cons (.var 4) (.cons (.tup (.cons (.var 6) (.cons (.var 4) .nil))) .nil))))))))) (.cons (.asg (.name 8) (.ix (.varB 7) (.call 10 (.bor 1 (.val (.int 7) .nil))))) (.cons (.asg (.name 9) (.ix (.varB 7) (.call 10 (.bor 1 (.val (.int 7) .nil))))) (.cons (.asg (.name 10) (.ix (.lst (.cons (.tup .nil) (.cons (.tup (.cons (.var 4) .nil)) (.cons (.tup (.cons (.tup (.cons (.str "verb") (.cons (.str "some") (.cons (.int 1) (.cons (.bl false) (.cons (.int 0) (.cons (.bl true) (.cons (.str "all") (.cons (.int 0) .nil))))))))) (.cons (.tup (.cons (.str "self") (.cons (.str "all") (.cons (.int 0) (.cons (.bl true) (.cons (.int 0) .nil)))))) .nil))) (.cons (.repT (.tup (.cons (.var 4) .nil)) (.int 7)) .nil))))) (.call 10 (.bor 1 (.val (.int 4) .nil))))) (.cons (.for_ (.name 11) (.rng1 (.int 8)) (.cons (.if_ (.or (.cmp .NotEq (.call 314 (.bor 11 (.bor 2 (.bor 10 (.val (.tup (.cons (.var 4) .nil)) .nil))))) (.str "")) (.one (.cmp .NotEq (.call 314 (.bor 11 (.bor 3 (.bor 8 (.bor 9 .nil))))) (.str "signature")))) (.cons (.ret (.bl false)) .nil) .nil) (.cons (.if_ (.cmp .NotEq (.call 314 (.bor 11 (.bor 3 (.val (.tup .nil) (.val (.tup .nil) .nil))))) (.str "signature")) (.cons (.ret (.bl false)) .nil) .nil) (.cons (.asg (.name 12) (.ix (.lst (.cons (.str "first") (.cons (.str "premises") .nil))) (.bi .int (.cons (.cmp .Gt (.varB 11) (.int 5)) .nil)))) (.cons (.if_ (.or (.cmp .NotEq (.call 314 (.bor 11 (.bor 2 (.bor 8 (.bor 9 .nil))))) (.varB 12)) (.one (.cmp .NotEq (.call 314 (.bor 11 (.bor 2 (.bor 8 (.bor 10 .nil))))) (.varB 12)))) (.cons (.ret (.bl false)) .nil) .nil) (.cons (.if_ (.and (.cmp .Lt (.varB 11) (.int 6)) (.one (.cmp .NotEq (.call 314 (.bor 11 (.bor 2 (.bor 10 (.bor 9 .nil))))) (.str "second")))) (.cons (.ret (.bl false)) .nil) .nil) (.cons (.if_ (.cmp .NotEq (.call 314 (.bor 11 (.bor 2 (.bor 10 (.val (.var 10) .nil))))) (.str "")) (.cons (.ret (.bl false)) .nil) .nil) .nil))))))) (.cons (.ret (.bl true)) .nil)))))))))))))⟩ -- law
def fs : List (Nat × Fd) := ([(0, F0), (1, F1), (2, F2), (3, F3), (4, F4), (5, F5), (6, F6), (7, F7), (8, F8), (18, F18), (20, F20), (21, F21), (97, F97), (98, F98), (107, F107), (108, F108), (109, F109), (110, F110), (111, F111), (113, F113), (114, F114), (116, F116), (126, F126), (127, F127), (128, F128), (129, F129), (130, F130), (147, F147), (148, F148), (149, F149), (150, F150), (151, F151), (61, F61), (62, F62), (63, F63), (64, F64), (66, F66), (67, F67), (68, F68), (69, F69)] : List (Nat × Fd)) ++ ([(70, F70), (71, F71), (72, F72), (168, F168), (169, F169), (170, F170), (171, F171), (172, F172), (194, F194), (196, F196), (197, F197), (198, F198), (199, F199), (200, F200), (212, F212), (215, F215), (216, F216), (217, F217), (274, F274), (275, F275), (276, F276), (277, F277), (278, F278), (279, F279), (293, F293), (298, F298), (312, F312), (313, F313), (306, F306), (307, F307), (308, F308), (9, F9), (10, F10), (314, F314), (315, F315)] : List (Nat × Fd))
def gl : List (Nat × Str × D) := ([(0, "MOST_NOUNS", (.int 4)), (1, "MOST_VERBS", (.int 2)), (2, "MOST_PREMISES", (.int 8)), (3, "QUANTITIES", (.tup [(.str "all"), (.str "some")])), (4, "TWO_NOUNS", (.tup [(.str "all"), (.str "some not"), (.str "no"), (.str "some"), (.str "as many"), (.str "fewer")])), (5, "CONTRARY", (.dik [(.str "all"), (.str "some not"), (.str "no"), (.str "some"), (.str "as many"), (.str "fewer")] [(.str "some not"), (.str "all"), (.str "some"), (.str "no"), (.str "fewer"), (.str "as many")])), (6, "MOST_GROUPS", (.int 40)), (7, "MOST_SIZE", (.int 1000)), (9, "COPIES", (.tup [(.int 0), (.int 1), (.int 2)])), (10, "MOST_LINES", (.int 120)), (11, "CLASH", (.tup [(.str "clash")])), (15, "MOST_SENTENCES", (.int 7))] : List (Nat × Str × D))
@[simp] theorem gl_0 : List.lookup 0 gl = some (("MOST_NOUNS", (.int 4)) : Str × D) := rfl
@[simp] theorem gl_1 : List.lookup 1 gl = some (("MOST_VERBS", (.int 2)) : Str × D) := rfl
@[simp] theorem gl_2 : List.lookup 2 gl = some (("MOST_PREMISES", (.int 8)) : Str × D) := rfl
@[simp] theorem gl_3 : List.lookup 3 gl = some (("QUANTITIES", (.tup [(.str "all"), (.str "some")])) : Str × D) := rfl
@[simp] theorem gl_4 : List.lookup 4 gl = some (("TWO_NOUNS", (.tup [(.str "all"), (.str "some not"), (.str "no"), (.str "some"), (.str "as many"), (.str "fewer")])) : Str × D) := rfl
@[simp] theorem gl_5 : List.lookup 5 gl = some (("CONTRARY", (.dik [(.str "all"), (.str "some not"), (.str "no"), (.str "some"), (.str "as many"), (.str "fewer")] [(.str "some not"), (.str "all"), (.str "some"), (.str "no"), (.str "fewer"), (.str "as many")])) : Str × D) := rfl
@[simp] theorem gl_6 : List.lookup 6 gl = some (("MOST_GROUPS", (.int 40)) : Str × D) := rfl
@[simp] theorem gl_7 : List.lookup 7 gl = some (("MOST_SIZE", (.int 1000)) : Str × D) := rfl
@[simp] theorem gl_9 : List.lookup 9 gl = some (("COPIES", (.tup [(.int 0), (.int 1), (.int 2)])) : Str × D) := rfl
@[simp] theorem gl_10 : List.lookup 10 gl = some (("MOST_LINES", (.int 120)) : Str × D) := rfl
@[simp] theorem gl_11 : List.lookup 11 gl = some (("CLASH", (.tup [(.str "clash")])) : Str × D) := rfl
@[simp] theorem gl_15 : List.lookup 15 gl = some (("MOST_SENTENCES", (.int 7)) : Str × D) := rfl
end Mi

namespace Mi
open PySem PySem.Spec PyProof.Rows L2
def top (i : Nat) : Stmt := PySem.Challenge.pw_allsomeno_k50_refusals_of_comparing.main.body.getD i (.Pass ⟨0, 0, 0, 0⟩)
def mth (s : Stmt) (m : Nat) : Stmt := match s with | .ClassDef _ _ _ b _ _ _ _ _ _ _ => b.getD m (.Pass ⟨0, 0, 0, 0⟩) | _ => .Pass ⟨0, 0, 0, 0⟩
def cs : List (Nat × Ec) := [(0, ⟨"LogicError", [], []⟩), (1, ⟨"BadValue", ["name"], [0]⟩)]
def ins : List (Nat × List Str × Str × Stmt) := [(1, ["self", "name"], "BadValue.__init__", mth (top 2) 0)]
def sts : List (Str × Stmt) := (([(("is_whole" : Str), 10), (("is_signature" : Str), 11), (("is_quantity" : Str), 12), (("is_noun" : Str), 13), (("is_verb" : Str), 14), (("is_verb_sentence" : Str), 15), (("is_self_sentence" : Str), 16), (("is_sentence" : Str), 17), (("are_premises" : Str), 18), (("check_signature" : Str), 19), (("contrary_sentences" : Str), 20), (("negated" : Str), 22), (("steps_of_table" : Str), 24), (("table_of" : Str), 25), (("stated_by" : Str), 26), (("stated_kinds" : Str), 27), (("nouns_of" : Str), 28), (("above" : Str), 29), (("required_nouns" : Str), 30), (("is_number" : Str), 32), (("is_kind_of" : Str), 33), (("required_kinds" : Str), 34), (("is_forced" : Str), 35), (("is_forced_self" : Str), 36), (("word_of" : Str), 37), (("forced" : Str), 38), (("forced_self" : Str), 39), (("contrary_conflicts" : Str), 41), (("is_contradicted" : Str), 43), (("verb_conflicts" : Str), 44), (("conflicts_by" : Str), 45), (("conflicts_of" : Str), 46), (("is_climbing" : Str), 50), (("is_group" : Str), 51), (("are_lists" : Str), 52), (("is_model" : Str), 53), (("having" : Str), 54), (("size_of" : Str), 55), (("do_it" : Str), 56), (("answers" : Str), 57)] : List (Str × Nat)) ++ ([(("inner_holds" : Str), 58), (("two_nouns_hold" : Str), 59), (("holds_in" : Str), 60), (("satisfies" : Str), 61), (("is_plain" : Str), 64), (("sizes_of" : Str), 65), (("done_to" : Str), 66), (("model_of" : Str), 67), (("is_fact_of" : Str), 70), (("tables_by" : Str), 71), (("all_follows" : Str), 72), (("many_follows" : Str), 73), (("one_follows" : Str), 74), (("fact_follows" : Str), 75), (("first_loose" : Str), 76), (("facts_of" : Str), 78), (("all_lines" : Str), 79), (("proof_of" : Str), 80), (("check_premises" : Str), 84), (("check_two" : Str), 85), (("entails_one" : Str), 86), (("entails" : Str), 87), (("are_equivalent" : Str), 88), (("difference" : Str), 89), (("accepts_difference" : Str), 90), (("proofs" : Str), 91), (("is_proof" : Str), 92), (("accepts_proofs" : Str), 93), (("needless_in" : Str), 94), (("needless" : Str), 95), (("pruned" : Str), 96), (("_law_stream" : Str), 98), (("_law_next" : Str), 99), (("_law_told" : Str), 100), (("law" : Str), 101)] : List (Str × Nat))).map fun p => (p.1, top p.2)
theorem ckd : ckAll cs gl fs sts = true := by decide +kernel
theorem ckn : insB cs ins = true := by decide +kernel
end Mi

namespace Mi
open PySem PySem.Spec PyProof.Rows L2
abbrev Rw : PySem.W.OpenRow := PySem.W.OpenLaw.row PySem.Challenge.rw_allsomeno_k50_refusals_of_comparing
def asH : List Addr := List.range 517
def hkH : PySem.W.Hook where
  α := AlM
  obs := fun s => obsM cs ins sts gl (He.frG s.heap.get? asH)
  val := fun w => valM cs ins sts gl w
  says := (hookM cs ins 6 sts gl).says
  of := fun _ _ e => ⟨_, He.frG_in, e⟩
  keeps := (hookM cs ins 6 sts gl).keeps
theorem says_eq : hkH.says = (hookM cs ins 6 sts gl).says := by
  delta hkH
  dsimp only
def obH (s : PySem.W.SharedT) : AlM := obsM cs ins sts gl (He.frG (HandSHeadRun.getT s) asH)
theorem obH_eq (s : PySem.W.SharedT) : obH s = hkH.obs s.abs := by
  have e : HandSHeadRun.getT s = s.abs.heap.get? := funext (HandSHeadRun.getT_eq s)
  unfold obH; rw [e]; rfl
def loose : List Str := ([("LogicError" : Str), ("BadValue" : Str), ("MOST_NOUNS" : Str), ("MOST_VERBS" : Str), ("MOST_PREMISES" : Str), ("QUANTITIES" : Str), ("TWO_NOUNS" : Str), ("CONTRARY" : Str), ("is_whole" : Str), ("is_signature" : Str), ("is_quantity" : Str), ("is_noun" : Str), ("is_verb" : Str), ("is_verb_sentence" : Str), ("is_self_sentence" : Str), ("is_sentence" : Str), ("are_premises" : Str), ("check_signature" : Str), ("contrary" : Str), ("contrary_sentences" : Str), ("negated" : Str), ("steps_of_table" : Str), ("table_of" : Str), ("stated_by" : Str), ("stated_kinds" : Str), ("nouns_of" : Str), ("above" : Str), ("required_nouns" : Str), ("is_number" : Str), ("is_kind_of" : Str), ("required_kinds" : Str), ("is_forced" : Str), ("is_forced_self" : Str), ("word_of" : Str), ("forced" : Str), ("forced_self" : Str), ("contrary_conflicts" : Str), ("is_contradicted" : Str), ("verb_conflicts" : Str), ("conflicts_by" : Str)] : List Str) ++ ([("conflicts_of" : Str), ("MOST_GROUPS" : Str), ("MOST_SIZE" : Str), ("is_climbing" : Str), ("is_group" : Str), ("are_lists" : Str), ("is_model" : Str), ("having" : Str), ("size_of" : Str), ("do_it" : Str), ("answers" : Str), ("inner_holds" : Str), ("two_nouns_hold" : Str), ("holds_in" : Str), ("satisfies" : Str), ("COPIES" : Str), ("is_plain" : Str), ("sizes_of" : Str), ("done_to" : Str), ("model_of" : Str), ("CLASH" : Str), ("is_fact_of" : Str), ("tables_by" : Str), ("all_follows" : Str), ("many_follows" : Str), ("one_follows" : Str), ("fact_follows" : Str), ("first_loose" : Str), ("facts_of" : Str), ("all_lines" : Str), ("proof_of" : Str), ("MOST_SENTENCES" : Str), ("MOST_LINES" : Str), ("check_premises" : Str), ("check_two" : Str), ("entails_one" : Str), ("entails" : Str), ("are_equivalent" : Str), ("difference" : Str), ("accepts_difference" : Str)] : List Str) ++ ([("proofs" : Str), ("is_proof" : Str), ("accepts_proofs" : Str), ("needless_in" : Str), ("needless" : Str), ("pruned" : Str), ("_law_stream" : Str), ("_law_next" : Str), ("_law_told" : Str)] : List Str)
theorem cmb2 {σ α β γ : Type} {o : Option σ} {f : σ → α × β} {g : σ → γ} {a : α} {b : β} {c : γ} (h1 : o.map f = some (a, b)) (h2 : o.map g = some c) : o.map (fun s => ((f s).1, (f s).2, g s)) = some (a, b, c) := by
  cases o with
  | none => cases h1
  | some s =>
    have e1 : f s = (a, b) := Option.some.inj h1
    have e2 : g s = c := Option.some.inj h2
    show some ((f s).1, (f s).2, g s) = _
    rw [e1, e2]
def EqA (r : PySem.W.OpenRow) (q : Program) (M : Nat) (loose : List Str) (w : World) : Prop := ∀ os : OsState, (HandSHeadRun.endF (HandSHeadRun.stepQ (HandSHeadRun.denQ HandSHeadRun.tabQ) r.prog w) M r.prog w os).map (fun s => (HandSHeadRun.looksF r.prog (PySem.W.boot_heap w.params) s.abs, HandSHeadRun.seenQ q loose (importedModules r.prog.main.body) (fun s => PySem.W.xlAt q [] s && PySem.W.recOk r.records s) s.abs)) = some (true, PySem.W.openGood q loose)
def EqB (r : PySem.W.OpenRow) (H : PySem.W.Hook) (ob : PySem.W.SharedT → H.α) (M : Nat) (w : World) : Prop := ∀ os : OsState, (HandSHeadRun.endF (HandSHeadRun.stepQ (HandSHeadRun.denQ HandSHeadRun.tabQ) r.prog w) M r.prog w os).map ob = some (H.val w)
theorem cmbR {r : PySem.W.OpenRow} {q : Program} {H : PySem.W.Hook} {ob : PySem.W.SharedT → H.α} {M : Nat} {loose : List Str} {w : World} (a : EqA r q M loose w) (b : EqB r H ob M w) : HandSHeadRun.RunEq r q H ob M loose w := fun os => cmb2 (a os) (b os)
theorem runA0 (w : World) : EqA Rw (PySem.W.view Rw.prog [101]) 4000 loose (w.withFollow "special-get-raises" false) := by
  intro os
  kernel_rfl
theorem runB0 (w : World) : EqB Rw hkH obH 4000 (w.withFollow "special-get-raises" false) := by
  intro os
  kernel_rfl
theorem runH0 (w : World) : HandSHeadRun.RunEq Rw (PySem.W.view Rw.prog [101]) hkH obH 4000 loose (w.withFollow "special-get-raises" false) := cmbR (r := Rw) (q := (PySem.W.view Rw.prog [101])) (H := hkH) (ob := obH) (M := 4000) (loose := loose) (w := (w.withFollow "special-get-raises" false)) (runA0 w) (runB0 w)
theorem runA1 (w : World) : EqA Rw (PySem.W.view Rw.prog [101]) 4000 loose (w.withFollow "special-get-raises" true) := by
  intro os
  kernel_rfl
theorem runB1 (w : World) : EqB Rw hkH obH 4000 (w.withFollow "special-get-raises" true) := by
  intro os
  kernel_rfl
theorem runH1 (w : World) : HandSHeadRun.RunEq Rw (PySem.W.view Rw.prog [101]) hkH obH 4000 loose (w.withFollow "special-get-raises" true) := cmbR (r := Rw) (q := (PySem.W.view Rw.prog [101])) (H := hkH) (ob := obH) (M := 4000) (loose := loose) (w := (w.withFollow "special-get-raises" true)) (runA1 w) (runB1 w)
theorem runH (w : World) : HandSHeadRun.RunEq Rw (PySem.W.view Rw.prog [101]) hkH obH 4000 loose w := PySem.W.byRow2 (P := fun w => HandSHeadRun.RunEq Rw (PySem.W.view Rw.prog [101]) hkH obH 4000 loose w) "special-get-raises" runH0 runH1 w
end Mi
open PySem PySem.W PySem.Calls PyProof.Rows
theorem Mi.holdsOf (hlaw : ∀ ns : List Int, ns.length ≤ 63 → ∃ st, Mi.run Mi.fs Mi.gl 40 315 [.val (.lst (ns.map Mi.D.int))] [] = .ok (.bl true) st) : PySem.Challenge.rw_allsomeno_k50_refusals_of_comparing.Holds := by
  w_on; o_law
  refine HandSHeadRun.head_any (r := OpenLaw.row PySem.Challenge.rw_allsomeno_k50_refusals_of_comparing) (q := view (OpenLaw.row PySem.Challenge.rw_allsomeno_k50_refusals_of_comparing).prog [101]) (H := Mi.hkH) (ob := Mi.obH) (M := 4000) (loose := Mi.loose) (d := HandSHeadRun.topDef (OpenLaw.row PySem.Challenge.rw_allsomeno_k50_refusals_of_comparing).prog 101) (kwd := []) Mi.obH_eq
    (by kernel_rfl) (fun s => by kernel_rfl) Mi.runH (by kernel_rfl) (by kernel_rfl) (by kernel_rfl) (by rfl) (by first | assumption | decide +kernel) (by decide +kernel) ⟨rfl, rfl, rfl, rfl, rfl, by decide +kernel⟩ ?hw ?hc
  case hw => w_witness2
  case hc =>
    rw [Mi.says_eq]
    exact Mi.walkM (l := PySem.Challenge.rw_allsomeno_k50_refusals_of_comparing) (n := 63) (k := 40) (x := "_law_script") (f := Mi.F315) rfl (by decide) (by kernel_rfl) ⟨rfl, by decide, by decide⟩ Mi.ckd Mi.ckn (by kernel_rfl) rfl (by kernel_rfl) hlaw

/-! symbolic evaluation: simp rules -/
namespace Mi
open PySem PySem.Spec PyProof.Rows L2
theorem nr {α : Sort _} {a b : α} (h : a = b) : a = b := h.trans rfl
section
variable {α β : Type} {E : Ev} {sl : List Sl} {st : List Ob} {ρ : AE}
@[simp] theorem b_ok (a : α) (e : AE) (f : α → AE → R β) : (R.ok a e).bind f = f a e := nr rfl
@[simp] theorem b_bad (f : α → AE → R β) : (R.bad : R α).bind f = .bad := nr rfl
@[simp] theorem b_exc (c : Nat) (fs : List D) (e : AE) (f : α → AE → R β) : (R.exc c fs e : R α).bind f = .exc c fs e := nr rfl
@[simp] theorem b_ite (c : Prop) [Decidable c] (a b : R α) (f : α → AE → R β) : (if c then a else b).bind f = if c then a.bind f else b.bind f := by split <;> rfl
@[simp] theorem o_some (a : α) (ρ : AE) : ofO (some a) ρ = .ok a ρ := nr rfl
@[simp] theorem o_none (ρ : AE) : ofO (none : Option α) ρ = .bad := nr rfl
@[simp] theorem o_ite (c : Prop) [Decidable c] (a b : Option α) (ρ : AE) : ofO (if c then a else b) ρ = if c then ofO a ρ else ofO b ρ := by split <;> rfl
@[simp] theorem s_some (l : List D) (ρ : AE) : ofS (some l) ρ = .ok l ρ := nr rfl
/-- a test's outcome -/
def onT (o : Option Bool) (x y : R α) : R α := match o with
  | some true => x
  | some false => y
  | none => .bad
@[simp] theorem onT_some (b : Bool) (x y : R α) : onT (some b) x y = if b = true then x else y := by cases b <;> rfl
@[simp] theorem onT_none (x y : R α) : onT none x y = .bad := nr rfl
def onB (o : Option D) (x y : R α) : R α := match o with
  | some (.bl true) => x
  | some (.bl false) => y
  | _ => .bad
@[simp] theorem onB_bl (b : Bool) (x y : R α) : onB (some (.bl b)) x y = if b = true then x else y := by cases b <;> rfl
@[simp] theorem onB_none (x y : R α) : onB none x y = .bad := nr rfl
@[simp] theorem onB_ite (c : Prop) [Decidable c] (a b : Option D) (x y : R α) : onB (if c then a else b) x y = if c then onB a x y else onB b x y := by split <;> rfl
def sq (f : Fl) (r2 : AE → R Fl) (ρ1 : AE) : R Fl := match f with
  | .next => r2 ρ1
  | f => .ok f ρ1
@[simp] theorem sq_next (r : AE → R Fl) (ρ : AE) : sq .next r ρ = r ρ := nr rfl
@[simp] theorem sq_ret (d : D) (r : AE → R Fl) (ρ : AE) : sq (.ret d) r ρ = .ok (.ret d) ρ := nr rfl
@[simp] theorem sq_brk (r : AE → R Fl) (ρ : AE) : sq .brk r ρ = .ok .brk ρ := nr rfl
@[simp] theorem sq_cont (r : AE → R Fl) (ρ : AE) : sq .cont r ρ = .ok .cont ρ := nr rfl
def rdB (o : Option Sl) (ρ : AE) : R D := match o with
  | some (.val d) => .ok d ρ
  | some (.own d) => .ok d ρ
  | some (.bor d) => .ok d ρ
  | _ => .bad
@[simp] theorem rdB_val (d : D) (ρ : AE) : rdB (some (.val d)) ρ = .ok d ρ := nr rfl
@[simp] theorem rdB_own (d : D) (ρ : AE) : rdB (some (.own d)) ρ = .ok d ρ := nr rfl
@[simp] theorem rdB_bor (d : D) (ρ : AE) : rdB (some (.bor d)) ρ = .ok d ρ := nr rfl
def rdV (o : Option Sl) (i : Nat) (sl : List Sl) (st : List Ob) : R D := match o with
  | some (.val d) => .ok d ⟨sl, st⟩
  | some (.own d) => .ok d ⟨sl.set i (.val d), st⟩
  | _ => .bad
@[simp] theorem rdV_val (d : D) (i : Nat) : rdV (some (.val d)) i sl st = .ok d ⟨sl, st⟩ := nr rfl
@[simp] theorem rdV_own (d : D) (i : Nat) : rdV (some (.own d)) i sl st = .ok d ⟨sl.set i (.val d), st⟩ := nr rfl
@[simp] theorem ev_var (i : Nat) : ev E (.var i) ⟨sl, st⟩ = rdV sl[i]? i sl st := by
  simp only [ev, rVar, rdV] <;> (generalize sl[i]? = o; rcases o with _ | s <;> first | rfl | (cases s <;> rfl))
@[simp] theorem ev_varB (i : Nat) : ev E (.varB i) ⟨sl, st⟩ = rdB sl[i]? ⟨sl, st⟩ := by
  simp only [ev, rVarB, rdB] <;> (generalize sl[i]? = o; rcases o with _ | s <;> first | rfl | (cases s <;> rfl))
@[simp] theorem ev_non (ρ : AE) : ev E .non ρ = .ok .non ρ := nr (by simp only [ev, rC])
@[simp] theorem ev_bl (b : Bool) (ρ : AE) : ev E (.bl b) ρ = .ok (.bl b) ρ := nr (by simp only [ev, rC])
@[simp] theorem ev_int (i : Int) (ρ : AE) : ev E (.int i) ρ = .ok (.int i) ρ := nr (by simp only [ev, rC])
@[simp] theorem ev_str (s : Str) (ρ : AE) : ev E (.str s) ρ = .ok (.str s) ρ := nr (by simp only [ev, rC])
@[simp] theorem ev_bin (op : Operator) (a b : C) : ev E (.bin op a b) ⟨sl, st⟩ = (ev E a ⟨sl, st⟩).bind fun x ρ1 => (ev E b ρ1).bind fun y ρ2 => ofO (binD op x y) ρ2 := nr (by simp only [ev, rOp2])
@[simp] theorem ev_addL (a b : C) : ev E (.addL a b) ⟨sl, st⟩ = (ev E a ⟨sl, st⟩).bind fun x ρ1 => (ev E b ρ1).bind fun y ρ2 => ofO (dAddL x y) ρ2 := nr (by simp only [ev, rOp2])
@[simp] theorem ev_neg (a : C) : ev E (.neg a) ⟨sl, st⟩ = (ev E a ⟨sl, st⟩).bind fun x ρ1 => ofO (dNeg x) ρ1 := nr (by simp only [ev, rOp1])
@[simp] theorem ev_cmp (op : CmpOp) (a b : C) : ev E (.cmp op a b) ⟨sl, st⟩ = (ev E a ⟨sl, st⟩).bind fun x ρ1 => (ev E b ρ1).bind fun y ρ2 => ofO (cmpD op x y) ρ2 := nr (by simp only [ev, rOp2])
@[simp] theorem ev_chain (op op' : CmpOp) (a b c : C) : ev E (.chain op op' a b c) ⟨sl, st⟩ = (ev E a ⟨sl, st⟩).bind fun x ρ1 => (ev E b ρ1).bind fun y ρ2 => onB (cmpD op x y) ((ev E c ρ2).bind fun z ρ3 => ofO (cmpD op' y z) ρ3) (.ok (.bl false) ρ2) := nr (by simp only [ev, rChain]; rfl)
@[simp] theorem ev_notV (a : C) : ev E (.notV a) ⟨sl, st⟩ = (ev E a ⟨sl, st⟩).bind fun x ρ1 => ofO ((dTru x).map fun k => .bl (!k)) ρ1 := by
  simp only [ev, rNotV]; congr 1; funext d ρ1; cases dTru d <;> rfl
@[simp] theorem ev_andV (a b : C) : ev E (.andV a b) ⟨sl, st⟩ = (ev E a ⟨sl, st⟩).bind fun x ρ1 => onT (dTru x) (ev E b ρ1) (.ok x ρ1) := by
  simp only [ev, rAnd]; rfl
@[simp] theorem ev_orV (a b : C) : ev E (.orV a b) ⟨sl, st⟩ = (ev E a ⟨sl, st⟩).bind fun x ρ1 => onT (dTru x) (.ok x ρ1) (ev E b ρ1) := by
  simp only [ev, rOr]; rfl
@[simp] theorem ev_one (a : C) (ρ : AE) : ev E (.one a) ρ = ev E a ρ := nr (by simp only [ev])
@[simp] theorem ev_ite (t : T) (a b : C) : ev E (.ite t a b) ⟨sl, st⟩ = (evT E t ⟨sl, st⟩).bind fun c ρ1 => if c = true then ev E a ρ1 else ev E b ρ1 := nr (by simp only [ev, rIte])
@[simp] theorem ev_tup (l : L) : ev E (.tup l) ⟨sl, st⟩ = (evL E l ⟨sl, st⟩).bind fun l ρ1 => if l.length ≤ many then .ok (.tup l) ρ1 else .bad := nr (by simp only [ev, rTup])
@[simp] theorem ev_lst (l : L) : ev E (.lst l) ⟨sl, st⟩ = (evL E l ⟨sl, st⟩).bind fun l ρ1 => if l.length ≤ many then .ok (.lst l) ρ1 else .bad := nr (by simp only [ev, rLst])
def newO (l : List D) (ρ1 : AE) : R D := if l.length ≤ many then .ok (.obj ρ1.st.length) { ρ1 with st := ρ1.st ++ [.lst l] } else .bad
@[simp] theorem ev_newO (l : L) : ev E (.newO l) ⟨sl, st⟩ = (evL E l ⟨sl, st⟩).bind newO := nr (by simp only [ev, rNewO]; rfl)
def ixR (x y : D) (ρ : AE) : R D := ofO (ixS ρ.st x y) ρ
@[simp] theorem ev_ix (a b : C) : ev E (.ix a b) ⟨sl, st⟩ = (ev E a ⟨sl, st⟩).bind fun x ρ1 => (ev E b ρ1).bind fun y ρ2 => ixR x y ρ2 := nr (by simp only [ev, rIx]; rfl)
@[simp] theorem ixR_tup (l : List D) (y : D) (ρ : AE) : ixR (.tup l) y ρ = ofO (dIx (.tup l) y) ρ := nr rfl
@[simp] theorem ixR_lst (l : List D) (y : D) (ρ : AE) : ixR (.lst l) y ρ = ofO (dIx (.lst l) y) ρ := nr rfl
@[simp] theorem ixR_str (l : Str) (y : D) (ρ : AE) : ixR (.str l) y ρ = ofO (dIx (.str l) y) ρ := nr rfl
@[simp] theorem ev_sl (a : C) (lo hi : Op) : ev E (.sl a lo hi) ⟨sl, st⟩ = (ev E a ⟨sl, st⟩).bind fun x ρ1 => (evO E lo ρ1).bind fun l ρ2 => (evO E hi ρ2).bind fun h ρ3 => ofO (dSl x l h) ρ3 := nr (by simp only [ev, rSl])
@[simp] theorem ev_bi (f : Bf) (l : L) : ev E (.bi f l) ⟨sl, st⟩ = (evL E l ⟨sl, st⟩).bind fun xs ρ1 => ofO (f.f xs) ρ1 := nr (by simp only [ev, rOpn])
@[simp] theorem ev_list (l : L) : ev E (.list l) ⟨sl, st⟩ = (evL E l ⟨sl, st⟩).bind fun xs ρ1 => ofO (dList xs) ρ1 := nr (by simp only [ev, rOpn])
@[simp] theorem ev_isi (t : Ty) (a : C) : ev E (.isi t a) ⟨sl, st⟩ = (ev E a ⟨sl, st⟩).bind fun x ρ1 => ofO (dIsi t.s x) ρ1 := nr (by simp only [ev, rOp1])
@[simp] theorem ev_repT (a b : C) : ev E (.repT a b) ⟨sl, st⟩ = (ev E a ⟨sl, st⟩).bind fun x ρ1 => (ev E b ρ1).bind fun y ρ2 => ofO (dRepT x y) ρ2 := nr (by simp only [ev, rOp2])
@[simp] theorem ev_repL (a b : C) : ev E (.repL a b) ⟨sl, st⟩ = (ev E a ⟨sl, st⟩).bind fun x ρ1 => (ev E b ρ1).bind fun y ρ2 => ofO (dRepL x y) ρ2 := nr (by simp only [ev, rOp2])
@[simp] theorem ev_lstR (a : C) : ev E (.lstR a) ⟨sl, st⟩ = (ev E a ⟨sl, st⟩).bind fun x ρ1 => ofO (dLstR x) ρ1 := nr (by simp only [ev, rOp1])
@[simp] theorem ev_tupR (a : C) : ev E (.tupR a) ⟨sl, st⟩ = (ev E a ⟨sl, st⟩).bind fun x ρ1 => ofO (dTupR x) ρ1 := nr (by simp only [ev, rOp1])
@[simp] theorem evO_none (ρ : AE) : evO E .none ρ = .ok none ρ := nr (by simp only [evO, rNoP])
def toI (d : D) (ρ1 : AE) : R (Option Int) := match d with
  | .int i => .ok (some i) ρ1
  | _ => .bad
@[simp] theorem toI_int (i : Int) (ρ : AE) : toI (.int i) ρ = .ok (some i) ρ := nr rfl
@[simp] theorem evO_some (c : C) : evO E (.some c) ⟨sl, st⟩ = (ev E c ⟨sl, st⟩).bind toI := nr (by simp only [evO, rP]; rfl)
@[simp] theorem evT_tru (c : C) : evT E (.tru c) ⟨sl, st⟩ = (ev E c ⟨sl, st⟩).bind fun d ρ1 => ofO (dTru d) ρ1 := by
  simp only [evT, rTv]; congr 1; funext d ρ1; cases dTru d <;> rfl
@[simp] theorem evT_cmp (op : CmpOp) (a b : C) : evT E (.cmp op a b) ⟨sl, st⟩ = (ev E a ⟨sl, st⟩).bind fun x ρ1 => (ev E b ρ1).bind fun y ρ2 => ofO ((cmpD op x y).bind dBl) ρ2 := by
  simp only [evT, rTv, rOp2, bind_bind]
  congr 1; funext x ρ1; congr 1; funext y ρ2
  cases cmpD op x y with
  | none => rfl
  | some d => simp only [o_some, b_ok, Option.bind_some]; cases dBl d <;> rfl
@[simp] theorem evT_not (t : T) : evT E (.not t) ⟨sl, st⟩ = (evT E t ⟨sl, st⟩).bind fun c ρ1 => .ok (!c) ρ1 := nr (by simp only [evT, tNot'])
@[simp] theorem evT_and (a b : T) : evT E (.and a b) ⟨sl, st⟩ = (evT E a ⟨sl, st⟩).bind fun c ρ1 => if c = true then evT E b ρ1 else .ok false ρ1 := nr (by simp only [evT, tAnd'])
@[simp] theorem evT_or (a b : T) : evT E (.or a b) ⟨sl, st⟩ = (evT E a ⟨sl, st⟩).bind fun c ρ1 => if c = true then .ok true ρ1 else evT E b ρ1 := nr (by simp only [evT, tOr'])
@[simp] theorem evT_one (t : T) (ρ : AE) : evT E (.one t) ρ = evT E t ρ := nr (by simp only [evT])
@[simp] theorem evT_chain (op op' : CmpOp) (a b c : C) : evT E (.chain op op' a b c) ⟨sl, st⟩ = (ev E (.chain op op' a b c) ⟨sl, st⟩).bind fun d ρ1 => ofO (dBl d) ρ1 := by
  simp only [evT, rTv, ev]; congr 1; funext d ρ1; cases dBl d <;> rfl
@[simp] theorem evTs_nil (ρ : AE) : evTs E .nil ρ = .ok true ρ := nr (by simp only [evTs])
@[simp] theorem evTs_one (t : T) (ρ : AE) : evTs E (.one t) ρ = evT E t ρ := nr (by simp only [evTs])
@[simp] theorem evL_nil (ρ : AE) : evL E .nil ρ = .ok [] ρ := nr (by simp only [evL, rNil])
@[simp] theorem evL_cons (c : C) (l : L) : evL E (.cons c l) ⟨sl, st⟩ = (ev E c ⟨sl, st⟩).bind fun x ρ1 => (evL E l ρ1).bind fun xs ρ2 => .ok (x :: xs) ρ2 := nr (by simp only [evL, rCons])
@[simp] theorem evA_nil (ρ : AE) : evA E .nil ρ = .ok [] ρ := nr (by simp only [evA, rANil])
@[simp] theorem evA_val (c : C) (l : A) : evA E (.val c l) ⟨sl, st⟩ = (ev E c ⟨sl, st⟩).bind fun d ρ1 => (evA E l ρ1).bind fun l ρ2 => .ok (.val d :: l) ρ2 := nr (by simp only [evA, rAVal])
def hasO : Option Sl → Bool
  | some (.val _) => true
  | some (.own _) => true
  | some (.bor _) => true
  | _ => false
@[simp] theorem hasO_val (d : D) : hasO (some (.val d)) = true := nr rfl
@[simp] theorem hasO_own (d : D) : hasO (some (.own d)) = true := nr rfl
@[simp] theorem hasO_bor (d : D) : hasO (some (.bor d)) = true := nr rfl
@[simp] theorem evA_bor (i : Nat) (l : A) : evA E (.bor i l) ⟨sl, st⟩ = if hasO sl[i]? = true then (evA E l ⟨sl, st⟩).bind fun l ρ2 => .ok (.bor i :: l) ρ2 else .bad := by
  simp only [evA, rABor]; rfl
def callR (f : List Sl → List Ob → Res) (as : List Arg) (ρ1 : AE) : R D := match argSl ρ1 as with
  | some sl => if (borIx as).Nodup then ofRes (f sl ρ1.st) ρ1 else .bad
  | none => .bad
@[simp] theorem ev_call (g : Nat) (l : A) : ev E (.call g l) ⟨sl, st⟩ = (evA E l ⟨sl, st⟩).bind fun as ρ1 => callR (E.fn g) as ρ1 := nr (by simp only [ev, rCall]; rfl)
def borSl : Option Sl → Option Sl
  | some (.val d) => some (.val d)
  | some (.own d) => some (.bor d)
  | some (.bor d) => some (.bor d)
  | _ => none
@[simp] theorem borSl_val (d : D) : borSl (some (.val d)) = some (.val d) := nr rfl
@[simp] theorem borSl_own (d : D) : borSl (some (.own d)) = some (.bor d) := nr rfl
@[simp] theorem borSl_bor (d : D) : borSl (some (.bor d)) = some (.bor d) := nr rfl
@[simp] theorem argSl_nil (ρ : AE) : argSl ρ [] = some [] := nr rfl
@[simp] theorem argSl_val (d : D) (r : List Arg) : argSl ρ (.val d :: r) = (argSl ρ r).map (.val d :: ·) := nr rfl
@[simp] theorem argSl_bor (i : Nat) (r : List Arg) : argSl ⟨sl, st⟩ (.bor i :: r) = (borSl sl[i]?).bind fun s => (argSl ⟨sl, st⟩ r).map (s :: ·) := by
  simp only [argSl]
  generalize sl[i]? = o
  match o with
  | none => rfl
  | some .none => rfl
  | some (.val _) => rfl
  | some (.own _) => rfl
  | some (.bor _) => rfl
@[simp] theorem borIx_nil : borIx [] = [] := nr rfl
@[simp] theorem borIx_val (d : D) (r : List Arg) : borIx (.val d :: r) = borIx r := nr rfl
@[simp] theorem borIx_bor (i : Nat) (r : List Arg) : borIx (.bor i :: r) = i :: borIx r := nr rfl
@[simp] theorem callR_eq (f : List Sl → List Ob → Res) (as : List Arg) : callR f as ⟨sl, st⟩ = match argSl ⟨sl, st⟩ as with
  | some s => if (borIx as).Nodup then ofRes (f s st) ⟨sl, st⟩ else .bad
  | none => .bad := rfl
@[simp] theorem ofRes_ok (d : D) (st' : List Ob) : ofRes (.ok d st') ⟨sl, st⟩ = .ok d ⟨sl, st'⟩ := nr rfl
@[simp] theorem ofRes_exc (c : Nat) (fs : List D) (st' : List Ob) : ofRes (.exc c fs st') ⟨sl, st⟩ = .exc c fs ⟨sl, st'⟩ := nr rfl
@[simp] theorem ofRes_ite (c : Prop) [Decidable c] (a b : Res) (ρ : AE) : ofRes (if c then a else b) ρ = if c then ofRes a ρ else ofRes b ρ := by split <;> rfl
@[simp] theorem evI_expr (c : C) : evI E (.expr c) ⟨sl, st⟩ = (ev E c ⟨sl, st⟩).bind fun d ρ1 => ofS (seqD d) ρ1 := nr (by simp only [evI, rIt])
def rng2R (x y : D) (ρ2 : AE) : R (List D) := match x, y with
  | .int i, .int j => if -sml ≤ i ∧ i < sml ∧ -sml ≤ j ∧ j < sml ∧ j - i ≤ many then .ok (rngD i (j - i).toNat) ρ2 else .bad
  | _, _ => .bad
@[simp] theorem rng2R_int (i j : Int) (ρ : AE) : rng2R (.int i) (.int j) ρ = if -sml ≤ i ∧ i < sml ∧ -sml ≤ j ∧ j < sml ∧ j - i ≤ many then .ok (rngD i (j - i).toNat) ρ else .bad := nr rfl
def rng1R (x : D) (ρ1 : AE) : R (List D) := match x with
  | .int j => if -sml ≤ j ∧ j ≤ many then .ok (rngD 0 j.toNat) ρ1 else .bad
  | _ => .bad
@[simp] theorem rng1R_int (j : Int) (ρ : AE) : rng1R (.int j) ρ = if -sml ≤ j ∧ j ≤ many then .ok (rngD 0 j.toNat) ρ else .bad := nr rfl
@[simp] theorem evI_rng1 (a : C) : evI E (.rng1 a) ⟨sl, st⟩ = (ev E a ⟨sl, st⟩).bind fun x ρ1 => rng1R x ρ1 := by
  simp only [evI, rRng1, rCons, rNil, bind_bind, b_ok]; congr 1; funext x ρ1; cases x <;> rfl
@[simp] theorem evI_rng2 (a b : C) : evI E (.rng2 a b) ⟨sl, st⟩ = (ev E a ⟨sl, st⟩).bind fun x ρ1 => (ev E b ρ1).bind fun y ρ2 => rng2R x y ρ2 := by
  simp only [evI, rRng2, rCons, rNil, bind_bind, b_ok]; congr 1; funext x ρ1; congr 1; funext y ρ2; cases x <;> cases y <;> rfl
def isBorO : Option Sl → Bool
  | some (.bor _) => true
  | _ => false
@[simp] theorem isBorO_val (d : D) : isBorO (some (.val d)) = false := nr rfl
@[simp] theorem isBorO_own (d : D) : isBorO (some (.own d)) = false := nr rfl
@[simp] theorem isBorO_none : isBorO (some .none) = false := nr rfl
@[simp] theorem gSet_eq (i : Nat) (d : D) : gSet i d ⟨sl, st⟩ = if isBorO sl[i]? = true then .bad else .ok () ⟨sl.set i (.val d), st⟩ := by
  simp only [gSet, setS]; rfl
@[simp] theorem evG_name (i : Nat) : evG (.name i) = gSet i := nr (by simp only [evG])
@[simp] theorem evG_tup (l : Tgs) (ds : List D) : evG (.tup l) (.tup ds) = gSets (evGs l) ds := nr (by simp only [evG, gTupD])
@[simp] theorem evGs_nil : evGs .nil = [] := nr (by simp only [evGs])
@[simp] theorem evGs_cons (t : Tg) (l : Tgs) : evGs (.cons t l) = evG t :: evGs l := nr (by simp only [evGs])
@[simp] theorem gSets_nil (ρ : AE) : gSets [] [] ρ = .ok () ρ := nr rfl
@[simp] theorem gSets_cons (g : D → AE → R Unit) (gs : List (D → AE → R Unit)) (d : D) (ds : List D) (ρ : AE) : gSets (g :: gs) (d :: ds) ρ = (g d ρ).bind fun _ ρ1 => gSets gs ds ρ1 := nr rfl
def asR (r : R Unit) : R Fl := match r with
  | .ok _ ρ => .ok .next ρ
  | _ => .bad
@[simp] theorem asR_ok (ρ : AE) : asR (.ok () ρ) = .ok .next ρ := nr rfl
@[simp] theorem evS_pass (ρ : AE) : evS E .pass ρ = .ok .next ρ := nr (by simp only [evS, rNx])
@[simp] theorem evS_brk (ρ : AE) : evS E .brk ρ = .ok .brk ρ := nr (by simp only [evS])
@[simp] theorem evS_cont (ρ : AE) : evS E .cont ρ = .ok .cont ρ := nr (by simp only [evS])
@[simp] theorem evS_ret (c : C) : evS E (.ret c) ⟨sl, st⟩ = (ev E c ⟨sl, st⟩).bind fun d ρ1 => .ok (.ret d) ρ1 := nr (by simp only [evS, rRet])
@[simp] theorem evS_retN (ρ : AE) : evS E .retN ρ = .ok (.ret .non) ρ := nr (by simp only [evS])
@[simp] theorem evS_expr (c : C) : evS E (.expr c) ⟨sl, st⟩ = (ev E c ⟨sl, st⟩).bind fun d ρ1 => .ok .next ρ1 := nr (by simp only [evS, rDrop])
@[simp] theorem evS_asg (t : Tg) (c : C) : evS E (.asg t c) ⟨sl, st⟩ = (ev E c ⟨sl, st⟩).bind fun d ρ1 => asR (evG t d ρ1) := nr (by simp only [evS, rAsg]; rfl)
def ownR (i : Nat) (d : D) (ρ1 : AE) : R Fl := if isBor ρ1 i = true then .bad else .ok .next (setS ρ1 i (.own d))
@[simp] theorem ownR_eq (i : Nat) (d : D) : ownR i d ⟨sl, st⟩ = if isBorO sl[i]? = true then .bad else .ok .next ⟨sl.set i (.own d), st⟩ := nr rfl
@[simp] theorem evS_own (i : Nat) (c : C) : evS E (.own i c) ⟨sl, st⟩ = (ev E c ⟨sl, st⟩).bind (ownR i) := nr (by simp only [evS, rOwn]; rfl)
@[simp] theorem evS_ownLc (i : Nat) (elt : C) (own : List (Str × Nat)) (tg : Tg) (it : I) (t : Ts) : evS E (.ownLc i elt own tg it t) ⟨sl, st⟩ = (ev E (.comp elt own tg it t) ⟨sl, st⟩).bind (ownR i) := nr (by simp only [evS, rOwn, ev]; rfl)
@[simp] theorem evS_if (t : T) (a b : Ss) : evS E (.if_ t a b) ⟨sl, st⟩ = (evT E t ⟨sl, st⟩).bind fun c ρ1 => if c = true then evSs E a ρ1 else evSs E b ρ1 := nr (by simp only [evS, rIf])
@[simp] theorem evSs_nil (ρ : AE) : evSs E .nil ρ = .ok .next ρ := nr (by simp only [evSs, rNx])
@[simp] theorem evSs_cons (s : S) (l : Ss) : evSs E (.cons s l) ⟨sl, st⟩ = (evS E s ⟨sl, st⟩).bind fun f ρ => sq f (evSs E l) ρ := nr (by simp only [evSs, rSeq]; rfl)
@[simp] theorem resOf_next (ρ : AE) : resOf (.ok .next ρ) = .ok .non ρ.st := nr rfl
@[simp] theorem resOf_ret (d : D) (ρ : AE) : resOf (.ok (.ret d) ρ) = .ok d ρ.st := nr rfl
@[simp] theorem resOf_exc (c : Nat) (fs : List D) (ρ : AE) : resOf (.exc c fs ρ) = .exc c fs ρ.st := nr rfl
@[simp] theorem resOf_bad : resOf .bad = .bad := nr rfl
@[simp] theorem resOf_ite (c : Prop) [Decidable c] (a b : R Fl) : resOf (if c then a else b) = if c then resOf a else resOf b := by split <;> rfl
/-- values -/
@[simp] theorem lt_many0 : (0 ≤ many) = True := by simp [many]
@[simp] theorem binD_add : binD .Add = dAdd := nr rfl
@[simp] theorem binD_sub : binD .Sub = dSub := nr rfl
@[simp] theorem binD_mul : binD .Mult = dMul := nr rfl
@[simp] theorem binD_fdiv : binD .FloorDiv = dFdiv := nr rfl
@[simp] theorem binD_mod : binD .Mod = dMod := nr rfl
@[simp] theorem binD_pow : binD .Pow = dPow := nr rfl
@[simp] theorem dAdd_int (i j : Int) : dAdd (.int i) (.int j) = some (.int (i + j)) := nr rfl
@[simp] theorem dSub_int (i j : Int) : dSub (.int i) (.int j) = some (.int (i - j)) := nr rfl
@[simp] theorem dNeg_int (i : Int) : dNeg (.int i) = some (.int (-i)) := nr rfl
@[simp] theorem cmpD_eq : cmpD .Eq = dEq := nr rfl
@[simp] theorem cmpD_ne : cmpD .NotEq = dNe := nr rfl
@[simp] theorem cmpD_lt : cmpD .Lt = dLt := nr rfl
@[simp] theorem cmpD_le : cmpD .LtE = dLe := nr rfl
@[simp] theorem cmpD_gt : cmpD .Gt = dGt := nr rfl
@[simp] theorem cmpD_ge : cmpD .GtE = dGe := nr rfl
@[simp] theorem cmpD_is : cmpD .Is = dIs := nr rfl
@[simp] theorem cmpD_isn : cmpD .IsNot = dIsNot := nr rfl
@[simp] theorem cmpD_in : cmpD .In = dIn := nr rfl
@[simp] theorem cmpD_nin : cmpD .NotIn = dNotIn := nr rfl
@[simp] theorem dLt_int (i j : Int) : dLt (.int i) (.int j) = some (.bl (decide (i < j))) := nr rfl
@[simp] theorem dLe_int (i j : Int) : dLe (.int i) (.int j) = some (.bl (decide (i ≤ j))) := nr rfl
@[simp] theorem dGt_int (i j : Int) : dGt (.int i) (.int j) = some (.bl (decide (j < i))) := nr rfl
@[simp] theorem dGe_int (i j : Int) : dGe (.int i) (.int j) = some (.bl (decide (j ≤ i))) := nr rfl
@[simp] theorem dBl_bl (b : Bool) : dBl (.bl b) = some b := nr rfl
@[simp] theorem dTru_bl (b : Bool) : dTru (.bl b) = some b := nr rfl
@[simp] theorem dTru_int (i : Int) : dTru (.int i) = some (i != 0) := nr rfl
@[simp] theorem dTru_non : dTru .non = some false := nr rfl
@[simp] theorem dTru_tup (l : List D) : dTru (.tup l) = some (!l.isEmpty) := nr rfl
@[simp] theorem dTru_lst (l : List D) : dTru (.lst l) = some (!l.isEmpty) := nr rfl
@[simp] theorem dEq_int (i j : Int) : dEq (.int i) (.int j) = some (.bl (decide (i = j))) := by
  have : (i == j) = decide (i = j) := by by_cases h : i = j <;> simp [h]
  simp [dEq, near, pur, dep, eqD, this]
@[simp] theorem dNe_int (i j : Int) : dNe (.int i) (.int j) = some (.bl (!decide (i = j))) := by
  have : (i == j) = decide (i = j) := by by_cases h : i = j <;> simp [h]
  simp [dNe, near, pur, dep, eqD, this]
@[simp] theorem dEq_str (i j : Str) : dEq (.str i) (.str j) = some (.bl (decide (i = j))) := by
  have : (i == j) = decide (i = j) := by by_cases h : i = j <;> simp [h]
  simp [dEq, near, pur, dep, eqD, this]
@[simp] theorem dNe_str (i j : Str) : dNe (.str i) (.str j) = some (.bl (!decide (i = j))) := by
  have : (i == j) = decide (i = j) := by by_cases h : i = j <;> simp [h]
  simp [dNe, near, pur, dep, eqD, this]
@[simp] theorem dEq_bl (i j : Bool) : dEq (.bl i) (.bl j) = some (.bl (i == j)) := by simp [dEq, near, pur, dep, eqD]
@[simp] theorem dIs_non (d : D) : dIs d .non = some (.bl (match d with | .non => true | _ => false)) := by cases d <;> rfl
@[simp] theorem dIsNot_non (d : D) : dIsNot d .non = some (.bl (match d with | .non => false | _ => true)) := by cases d <;> rfl
@[simp] theorem Ty_int : Ty.s .int = "int" := nr rfl
@[simp] theorem Ty_bool : Ty.s .bool = "bool" := nr rfl
@[simp] theorem Ty_str : Ty.s .str = "str" := nr rfl
@[simp] theorem Ty_tuple : Ty.s .tuple = "tuple" := nr rfl
@[simp] theorem Ty_list : Ty.s .list = "list" := nr rfl
@[simp] theorem isi_int_non : dIsi "int" .non = some (.bl false) := nr rfl
@[simp] theorem isi_int_bl (x : Bool) : dIsi "int" (.bl x) = some (.bl true) := nr rfl
@[simp] theorem isi_int_int (x : Int) : dIsi "int" (.int x) = some (.bl true) := nr rfl
@[simp] theorem isi_int_str (x : Str) : dIsi "int" (.str x) = some (.bl false) := nr rfl
@[simp] theorem isi_int_tup (x : List D) : dIsi "int" (.tup x) = some (.bl false) := nr rfl
@[simp] theorem isi_int_lst (x : List D) : dIsi "int" (.lst x) = some (.bl false) := nr rfl
@[simp] theorem isi_bool_non : dIsi "bool" .non = some (.bl false) := nr rfl
@[simp] theorem isi_bool_bl (x : Bool) : dIsi "bool" (.bl x) = some (.bl true) := nr rfl
@[simp] theorem isi_bool_int (x : Int) : dIsi "bool" (.int x) = some (.bl false) := nr rfl
@[simp] theorem isi_bool_str (x : Str) : dIsi "bool" (.str x) = some (.bl false) := nr rfl
@[simp] theorem isi_bool_tup (x : List D) : dIsi "bool" (.tup x) = some (.bl false) := nr rfl
@[simp] theorem isi_bool_lst (x : List D) : dIsi "bool" (.lst x) = some (.bl false) := nr rfl
@[simp] theorem isi_str_non : dIsi "str" .non = some (.bl false) := nr rfl
@[simp] theorem isi_str_bl (x : Bool) : dIsi "str" (.bl x) = some (.bl false) := nr rfl
@[simp] theorem isi_str_int (x : Int) : dIsi "str" (.int x) = some (.bl false) := nr rfl
@[simp] theorem isi_str_str (x : Str) : dIsi "str" (.str x) = some (.bl true) := nr rfl
@[simp] theorem isi_str_tup (x : List D) : dIsi "str" (.tup x) = some (.bl false) := nr rfl
@[simp] theorem isi_str_lst (x : List D) : dIsi "str" (.lst x) = some (.bl false) := nr rfl
@[simp] theorem isi_tuple_non : dIsi "tuple" .non = some (.bl false) := nr rfl
@[simp] theorem isi_tuple_bl (x : Bool) : dIsi "tuple" (.bl x) = some (.bl false) := nr rfl
@[simp] theorem isi_tuple_int (x : Int) : dIsi "tuple" (.int x) = some (.bl false) := nr rfl
@[simp] theorem isi_tuple_str (x : Str) : dIsi "tuple" (.str x) = some (.bl false) := nr rfl
@[simp] theorem isi_tuple_tup (x : List D) : dIsi "tuple" (.tup x) = some (.bl true) := nr rfl
@[simp] theorem isi_tuple_lst (x : List D) : dIsi "tuple" (.lst x) = some (.bl false) := nr rfl
@[simp] theorem isi_list_non : dIsi "list" .non = some (.bl false) := nr rfl
@[simp] theorem isi_list_bl (x : Bool) : dIsi "list" (.bl x) = some (.bl false) := nr rfl
@[simp] theorem isi_list_int (x : Int) : dIsi "list" (.int x) = some (.bl false) := nr rfl
@[simp] theorem isi_list_str (x : Str) : dIsi "list" (.str x) = some (.bl false) := nr rfl
@[simp] theorem isi_list_tup (x : List D) : dIsi "list" (.tup x) = some (.bl false) := nr rfl
@[simp] theorem isi_list_lst (x : List D) : dIsi "list" (.lst x) = some (.bl true) := nr rfl
/-- isinstance: no instance of the program's own -/
def plD : D → Bool
  | .non => true
  | .bl _ => true
  | .int _ => true
  | .str _ => true
  | .tup _ => true
  | .lst _ => true
  | .dik _ _ => true
  | .dit _ _ => false
  | .obj _ => false
def isIntE : D → Bool
  | .non => false
  | .bl _ => true
  | .int _ => true
  | .str _ => false
  | .tup _ => false
  | .lst _ => false
  | .dik _ _ => false
  | .dit _ _ => false
  | .obj _ => false
def isBlD : D → Bool
  | .non => false
  | .bl _ => true
  | .int _ => false
  | .str _ => false
  | .tup _ => false
  | .lst _ => false
  | .dik _ _ => false
  | .dit _ _ => false
  | .obj _ => false
def isStrD : D → Bool
  | .non => false
  | .bl _ => false
  | .int _ => false
  | .str _ => true
  | .tup _ => false
  | .lst _ => false
  | .dik _ _ => false
  | .dit _ _ => false
  | .obj _ => false
def isTupD : D → Bool
  | .non => false
  | .bl _ => false
  | .int _ => false
  | .str _ => false
  | .tup _ => true
  | .lst _ => false
  | .dik _ _ => false
  | .dit _ _ => false
  | .obj _ => false
def isLstD : D → Bool
  | .non => false
  | .bl _ => false
  | .int _ => false
  | .str _ => false
  | .tup _ => false
  | .lst _ => true
  | .dik _ _ => false
  | .dit _ _ => false
  | .obj _ => false
theorem isi_int {d : D} (h : plD d = true) : dIsi "int" d = some (.bl (isIntE d)) := by cases d <;> first | rfl | cases h
theorem isi_bool {d : D} (h : plD d = true) : dIsi "bool" d = some (.bl (isBlD d)) := by cases d <;> first | rfl | cases h
theorem isi_str {d : D} (h : plD d = true) : dIsi "str" d = some (.bl (isStrD d)) := by cases d <;> first | rfl | cases h
theorem isi_tup {d : D} (h : plD d = true) : dIsi "tuple" d = some (.bl (isTupD d)) := by cases d <;> first | rfl | cases h
theorem isi_lst {d : D} (h : plD d = true) : dIsi "list" d = some (.bl (isLstD d)) := by cases d <;> first | rfl | cases h
@[simp] theorem ev_sorted (l : L) : ev E (.sorted l) ⟨sl, st⟩ = (evL E l ⟨sl, st⟩).bind fun xs ρ1 => ofO (dSorted xs) ρ1 := nr (by simp only [ev, rOpn])
/-! displays, constants, index, enumerate, zip -/
@[simp] theorem ev_dsp (ks : List Str) (l : L) (c : C) : ev E (.dsp ks l c) ⟨sl, st⟩ = (evL E l ⟨sl, st⟩).bind fun ds ρ1 => (ev E c ρ1).bind fun y ρ2 => ofO (lookS ks ds y) ρ2 := nr (by simp only [ev, rDsp])
theorem lookS_cons (k : Str) (ks : List Str) (d : D) (ds : List D) (s : Str) : lookS (k :: ks) (d :: ds) (.str s) = if s = k then some d else lookS ks ds (.str s) := by
  simp only [lookS, List.zip_cons_cons, List.lookup_cons]
  by_cases h : s = k
  · simp [h]
  · rw [if_neg h, show (s == k) = false by simpa using h]
@[simp] theorem lookS_cons' (k : Str) (ks : List Str) (d : D) (ds : List D) (s : Str) : lookS (k :: ks) (d :: ds) (.str s) = if s = k then some d else lookS ks ds (.str s) := lookS_cons k ks d ds s
@[simp] theorem lookS_nil (s : D) : lookS [] [] s = none := by cases s <;> exact nr rfl
def cgetR (o : Option (Str × D)) (r : R D) : R D := match o with
  | some p => r.bind fun y ρ1 => ofO (lookC p.2 y) ρ1
  | none => .bad
@[simp] theorem cgetR_some (x : Str) (d : D) (r : R D) : cgetR (some (x, d)) r = r.bind fun y ρ1 => ofO (lookC d y) ρ1 := nr rfl
@[simp] theorem ev_cget (k : Nat) (c : C) : ev E (.cget k c) ⟨sl, st⟩ = cgetR (E.gl.lookup k) (ev E c ⟨sl, st⟩) := by
  simp only [ev, cgetR]
  cases List.lookup k E.gl <;> rfl
@[simp] theorem lookC_cons (k : Str) (ks : List D) (d : D) (ds : List D) (s : Str) : lookC (.dik (.str k :: ks) (d :: ds)) (.str s) = if k = s then some d else lookC (.dik ks ds) (.str s) := nr rfl
@[simp] theorem lookC_nil (s : Str) : lookC (.dik [] []) (.str s) = none := nr rfl
@[simp] theorem isLst_lst (l : List D) : isLst (.lst l) = true := nr rfl
@[simp] theorem ev_idx (a b : C) : ev E (.idx a b) ⟨sl, st⟩ = (ev E a ⟨sl, st⟩).bind fun x ρ1 => if isLst x = true then (ev E b ρ1).bind fun y ρ2 => ofO (dIndex x y) ρ2 else .bad := nr (by simp only [ev, rIdx])
def enR (d : D) (ρ : AE) : R (List D) := ofS ((seqE d).map enumD) ρ
@[simp] theorem enR_lst (l : List D) (ρ : AE) : enR (.lst l) ρ = .ok (enumD l) ρ := nr rfl
@[simp] theorem enR_tup (l : List D) (ρ : AE) : enR (.tup l) ρ = .ok (enumD l) ρ := nr rfl
@[simp] theorem evI_enum (c : C) : evI E (.enum c) ⟨sl, st⟩ = (ev E c ⟨sl, st⟩).bind enR := nr (by simp only [evI, rEn]; rfl)
def enO (o : Option Sl) (i : Nat) (sl : List Sl) (st : List Ob) : R (List D) := match o with
  | some (.val d) => enR d ⟨sl, st⟩
  | some (.own d) => enR d ⟨sl.set i (.bor d), st⟩
  | some (.bor d) => enR d ⟨sl, st⟩
  | _ => .bad
@[simp] theorem enO_val (d : D) (i : Nat) : enO (some (.val d)) i sl st = enR d ⟨sl, st⟩ := nr rfl
@[simp] theorem enO_own (d : D) (i : Nat) : enO (some (.own d)) i sl st = enR d ⟨sl.set i (.bor d), st⟩ := nr rfl
@[simp] theorem enO_bor (d : D) (i : Nat) : enO (some (.bor d)) i sl st = enR d ⟨sl, st⟩ := nr rfl
@[simp] theorem evI_enumN (i : Nat) : evI E (.enumN i) ⟨sl, st⟩ = enO sl[i]? i sl st := by
  simp only [evI, rEn, rVarL, enO]
  generalize sl[i]? = o
  match o with
  | none => rfl
  | some .none => rfl
  | some (.val _) => rfl
  | some (.own _) => rfl
  | some (.bor _) => rfl
def zipR (x y : D) (ρ : AE) : R (List D) := ofS (zip2 x y) ρ
@[simp] theorem zipR_lst (l m : List D) (ρ : AE) : zipR (.lst l) (.lst m) ρ = if l.length ≤ many then .ok (zipD l m) ρ else .bad := by
  show ofS (if l.length ≤ many then some (zipD l m) else none) ρ = _
  by_cases h : l.length ≤ many <;> simp [h, ofS]
@[simp] theorem zipR_tup (l m : List D) (ρ : AE) : zipR (.tup l) (.tup m) ρ = if l.length ≤ many then .ok (zipD l m) ρ else .bad := by
  show ofS (if l.length ≤ many then some (zipD l m) else none) ρ = _
  by_cases h : l.length ≤ many <;> simp [h, ofS]
@[simp] theorem evI_zip (a b : C) : evI E (.zip a b) ⟨sl, st⟩ = (ev E a ⟨sl, st⟩).bind fun x ρ1 => (ev E b ρ1).bind fun y ρ2 => zipR x y ρ2 := by
  simp only [evI, rZip, rCons, rNil, bind_bind, b_ok]; rfl
@[simp] theorem bi_enum (c : C) : (I.enum c).bi = none := nr rfl
@[simp] theorem bi_enumN (i : Nat) : (I.enumN i).bi = some i := nr rfl
@[simp] theorem bi_zip (a b : C) : (I.zip a b).bi = none := nr rfl
end
end Mi

namespace Mi
open PySem PySem.Spec PyProof.Rows L2
section
variable {α β : Type} {E : Ev} {sl sl1 w : List Sl} {st : List Ob} {ρ : AE} {fs : List (Nat × Fd)} {gl : List (Nat × Str × D)}
theorem runU {g : Nat} {f : Fd} (h : fs.lookup g = some f) (k : Nat) (sl : List Sl) (st : List Ob) : run fs gl (k + 1) g sl st = resOf (evSs ⟨run fs gl k, gl⟩ f.body ⟨pad f.N.length sl, st⟩) := by
  simp only [run, h]
theorem atI_nat (l : List α) (n : Nat) : atI l (n : Int) = l[n]? := by
  unfold atI ixN
  rw [if_pos (by omega)]
  by_cases h : n < l.length
  · rw [if_pos (by omega)]; simp
  · rw [if_neg (by omega)]; simp; omega
@[simp] theorem atI0 (l : List α) : atI l 0 = l[0]? := atI_nat l 0
@[simp] theorem atI1 (l : List α) : atI l 1 = l[1]? := atI_nat l 1
@[simp] theorem atI2 (l : List α) : atI l 2 = l[2]? := atI_nat l 2
@[simp] theorem atI3 (l : List α) : atI l 3 = l[3]? := atI_nat l 3
@[simp] theorem atI4 (l : List α) : atI l 4 = l[4]? := atI_nat l 4
@[simp] theorem atI5 (l : List α) : atI l 5 = l[5]? := atI_nat l 5
@[simp] theorem atI6 (l : List α) : atI l 6 = l[6]? := atI_nat l 6
@[simp] theorem atI7 (l : List α) : atI l 7 = l[7]? := atI_nat l 7
@[simp] theorem dIx_tup (l : List D) (i : Int) : dIx (.tup l) (.int i) = atI l i := nr rfl
@[simp] theorem dIx_lst (l : List D) (i : Int) : dIx (.lst l) (.int i) = atI l i := nr rfl
@[simp] theorem Bf_len : Bf.f .len = dLen := nr rfl
@[simp] theorem Bf_abs : Bf.f .abs = dAbs := nr rfl
@[simp] theorem Bf_int : Bf.f .int = dInt := nr rfl
@[simp] theorem Bf_max2 : Bf.f .max2 = dMax2 := nr rfl
@[simp] theorem Bf_min2 : Bf.f .min2 = dMin2 := nr rfl
@[simp] theorem Bf_all : Bf.f .all = dAll := nr rfl
@[simp] theorem Bf_any : Bf.f .any = dAny := nr rfl
@[simp] theorem Bf_sum : Bf.f .sum = dSum := nr rfl
@[simp] theorem Bf_tuple : Bf.f .tuple = dTuple := nr rfl
@[simp] theorem Bf_minT : Bf.f .minT = dMinT := nr rfl
@[simp] theorem dLen_tup (l : List D) : dLen [.tup l] = some (.int l.length) := nr rfl
@[simp] theorem dLen_lst (l : List D) : dLen [.lst l] = some (.int l.length) := nr rfl
@[simp] theorem dLen_str (l : Str) : dLen [.str l] = some (.int l.length) := nr rfl
@[simp] theorem dAbs_int (i : Int) : dAbs [.int i] = some (.int (if i < 0 then -i else i)) := nr rfl
@[simp] theorem dInt_int (i : Int) : dInt [.int i] = some (.int i) := nr rfl
@[simp] theorem dMin2_int (i j : Int) : dMin2 [.int i, .int j] = some (.int (if j < i then j else i)) := nr rfl
@[simp] theorem dMax2_int (i j : Int) : dMax2 [.int i, .int j] = some (.int (if j > i then j else i)) := nr rfl
@[simp] theorem dList_tup (l : List D) : dList [.tup l] = some (.lst l) := nr rfl
@[simp] theorem dList_lst (l : List D) : dList [.lst l] = some (.lst l) := nr rfl
@[simp] theorem dTuple_lst (l : List D) : dTuple [.lst l] = some (.tup l) := nr rfl
@[simp] theorem dTuple_tup (l : List D) : dTuple [.tup l] = some (.tup l) := nr rfl
def gloR (o : Option (Str × D)) (ρ : AE) : R D := match o with
  | some p => .ok p.2 ρ
  | none => .bad
@[simp] theorem gloR_some (p : Str × D) (ρ : AE) : gloR (some p) ρ = .ok p.2 ρ := nr rfl
@[simp] theorem ev_glo (k : Nat) (ρ : AE) : ev E (.glo k) ρ = gloR (E.gl.lookup k) ρ := by
  simp only [ev]; cases List.lookup k E.gl <;> rfl
@[simp] theorem seqD_lst (l : List D) : seqD (.lst l) = some l := nr rfl
@[simp] theorem seqD_tup (l : List D) : seqD (.tup l) = some l := nr rfl
def rdL (o : Option Sl) (i : Nat) (sl : List Sl) (st : List Ob) : R (List D) := match o with
  | some (.val d) => ofS (seqD d) ⟨sl, st⟩
  | some (.own d) => ofS (seqD d) ⟨sl.set i (.bor d), st⟩
  | some (.bor d) => ofS (seqD d) ⟨sl, st⟩
  | _ => .bad
@[simp] theorem rdL_val (d : D) (i : Nat) : rdL (some (.val d)) i sl st = ofS (seqD d) ⟨sl, st⟩ := nr rfl
@[simp] theorem rdL_own (d : D) (i : Nat) : rdL (some (.own d)) i sl st = ofS (seqD d) ⟨sl.set i (.bor d), st⟩ := nr rfl
@[simp] theorem rdL_bor (d : D) (i : Nat) : rdL (some (.bor d)) i sl st = ofS (seqD d) ⟨sl, st⟩ := nr rfl
@[simp] theorem evI_name (i : Nat) : evI E (.name i) ⟨sl, st⟩ = rdL sl[i]? i sl st := by
  simp only [evI, rIt, rVarL, rdL]
  generalize sl[i]? = o
  match o with
  | none => rfl
  | some .none => rfl
  | some (.val _) => rfl
  | some (.own _) => rfl
  | some (.bor _) => rfl
/-! ### comprehensions -/
theorem restL_get : ∀ (vs : List Nat) (l0 l : List Sl) (j : Nat), l0.length = l.length → (restL vs l0 l)[j]? = if j ∈ vs then l0[j]? else l[j]?
  | [], l0, l, j, _ => by simp [restL]
  | v :: vs, l0, l, j, h => by
    unfold restL
    by_cases e : v = j
    · subst e
      rw [List.getElem?_set_self', restL_get vs l0 l v h]
      simp only [List.mem_cons, true_or, if_true]
      by_cases q : v < l0.length
      · rw [List.getElem?_eq_getElem q]
        split
        · simp
        · rw [List.getElem?_eq_getElem (by omega)]; simp
      · rw [List.getElem?_eq_none (by omega)]
        split
        · simp
        · rw [List.getElem?_eq_none (by omega)]; simp
    · rw [List.getElem?_set_ne e, restL_get vs l0 l j h]
      have : (j ∈ v :: vs) ↔ j ∈ vs := by simp [Ne.symm e]
      simp only [this]
theorem rest_wipe (vs : List Nat) (l : List Sl) : restL vs l (wipeL vs l) = l := by
  apply List.ext_getElem?
  intro j
  rw [restL_get vs l _ j (wipeL_len vs l).symm]
  split
  · rfl
  · rename_i h; exact wipeL_out h
theorem compL_map {g : D → AE → R Unit} {t : AE → R Bool} {re : AE → R D} {vs : List Nat} {F : D → D} {p : D → Bool} : ∀ (l : List D),
    (∀ d ∈ l, ∃ w0, g d ⟨w, st⟩ = .ok () ⟨w0, st⟩ ∧ ∃ w1, t ⟨w0, st⟩ = .ok (p d) ⟨w1, st⟩ ∧ (p d = false → wipeL vs w1 = w) ∧ (p d = true → ∃ w2, re ⟨w1, st⟩ = .ok (F d) ⟨w2, st⟩ ∧ wipeL vs w2 = w)) →
    compL g t re vs l ⟨w, st⟩ = .ok ((l.filter p).map F) ⟨w, st⟩
  | [], _ => rfl
  | d :: ds, h => by
    obtain ⟨w0, h1, w1, h2, h3, h4⟩ := h d (List.mem_cons_self ..)
    have ih := compL_map ds fun e he => h e (List.mem_cons_of_mem _ he)
    unfold compL
    rw [h1]
    simp only [h2, noX, b_ok]
    cases q : p d with
    | true =>
      obtain ⟨w2, h5, h6⟩ := h4 q
      simp only [h5, b_ok, if_true, wipeA, h6]
      rw [ih]
      simp [q]
    | false =>
      simp only [Bool.false_eq_true, if_false, wipeA, h3 q]
      rw [ih]
      simp [q]
theorem compL_draw {g : D → AE → R Unit} {re : AE → R D} {vs : List Nat} {Inv : List Ob → Prop} {V : D → Prop} : ∀ (l : List D) (st : List Ob), Inv st →
    (∀ d ∈ l, ∀ st, Inv st → ∃ w0, g d ⟨w, st⟩ = .ok () ⟨w0, st⟩ ∧ ∃ y w2 st2, re ⟨w0, st⟩ = .ok y ⟨w2, st2⟩ ∧ wipeL vs w2 = w ∧ V y ∧ Inv st2) →
    ∃ ys st', compL g (fun ρ => .ok true ρ) re vs l ⟨w, st⟩ = .ok ys ⟨w, st'⟩ ∧ Inv st' ∧ ys.length = l.length ∧ ∀ y ∈ ys, V y
  | [], st, hi, _ => ⟨[], st, rfl, hi, rfl, by simp⟩
  | d :: ds, st, hi, h => by
    obtain ⟨w0, h1, y, w2, st2, h2, h3, h4, h5⟩ := h d (List.mem_cons_self ..) st hi
    obtain ⟨ys, st', e, i1, i2, i3⟩ := compL_draw ds st2 h5 fun e he => h e (List.mem_cons_of_mem _ he)
    refine ⟨y :: ys, st', ?_, i1, by simp [i2], fun z hz => ?_⟩
    · unfold compL
      rw [h1]
      simp only [noX, b_ok, if_true, h2, wipeA, h3]
      rw [e]; rfl
    · rcases List.mem_cons.mp hz with e | hz
      · rw [e]; exact h4
      · exact i3 z hz
theorem ev_comp {elt : C} {own : List (Str × Nat)} {tg : Tg} {it : I} {t : Ts} {l ys : List D} {st' : List Ob} (hi : evI E it ⟨sl, st⟩ = .ok l ⟨sl1, st⟩) (hv : okV (own.map (·.2)) ⟨sl1, st⟩ = true)
    (h : compL (evG tg) (evTs E t) (ev E elt) (own.map (·.2)) l ⟨wipeL (own.map (·.2)) sl1, st⟩ = .ok ys ⟨wipeL (own.map (·.2)) sl1, st'⟩) :
    ev E (.comp elt own tg it t) ⟨sl, st⟩ = .ok (.lst ys) (unl it.bi ⟨sl, st⟩ ⟨sl1, st⟩ ⟨sl1, st'⟩) := by
  simp only [ev, rComp, hi, b_ok, hv, if_true, wipeA]
  rw [h]
  simp only [b_ok, restA, rest_wipe]
/-! ### loops -/
theorem forL_inv {g : D → AE → R Unit} {body : AE → R Fl} (Inv : List D → List Sl → List Ob → Prop) : ∀ (l done : List D) (sl : List Sl) (st : List Ob), Inv done sl st →
    (∀ (done : List D) (d : D) (rest : List D) (sl : List Sl) (st : List Ob), d ∈ l → Inv done sl st → ∃ sl1, g d ⟨sl, st⟩ = .ok () ⟨sl1, st⟩ ∧ ∃ f sl2 st2, body ⟨sl1, st⟩ = .ok f ⟨sl2, st2⟩ ∧ (f = .next ∨ f = .cont) ∧ Inv (done ++ [d]) sl2 st2) →
    ∃ sl' st', forL g body l ⟨sl, st⟩ = .ok .next ⟨sl', st'⟩ ∧ Inv (done ++ l) sl' st'
  | [], done, sl, st, hi, _ => ⟨sl, st, rfl, by simpa using hi⟩
  | d :: ds, done, sl, st, hi, h => by
    obtain ⟨sl1, h1, f, sl2, st2, h2, h3, h4⟩ := h done d ds sl st (List.mem_cons_self ..) hi
    obtain ⟨sl', st', e, i⟩ := forL_inv Inv ds (done ++ [d]) sl2 st2 h4 fun done e rest sl st he => h done e rest sl st (List.mem_cons_of_mem _ he)
    refine ⟨sl', st', ?_, by simpa using i⟩
    unfold forL
    rw [h1]
    simp only [h2, b_ok]
    rcases h3 with rfl | rfl <;> exact e
theorem evS_for {tg : Tg} {it : I} {b : Ss} {l : List D} (hi : evI E it ⟨sl, st⟩ = .ok l ⟨sl1, st⟩) {f : Fl} {sl' : List Sl} {st' : List Ob} (h : forL (evG tg) (evSs E b) l ⟨sl1, st⟩ = .ok f ⟨sl', st'⟩) :
    evS E (.for_ tg it b) ⟨sl, st⟩ = .ok f (unl it.bi ⟨sl, st⟩ ⟨sl1, st⟩ ⟨sl', st'⟩) := by
  simp only [evS, rFor, hi, b_ok, h]
@[simp] theorem unl_none (ρ ρ1 ρ2 : AE) : unl none ρ ρ1 ρ2 = ρ2 := nr rfl
@[simp] theorem bi_expr (c : C) : (I.expr c).bi = none := nr rfl
@[simp] theorem bi_rng1 (c : C) : (I.rng1 c).bi = none := nr rfl
@[simp] theorem bi_rng2 (a c : C) : (I.rng2 a c).bi = none := nr rfl
@[simp] theorem bi_name (i : Nat) : (I.name i).bi = some i := nr rfl
/-! ### texts -/
theorem chr_inj {a b : Char} (h : a.toNat = b.toNat) : a = b := Char.toNat_inj.mp h
@[simp] theorem ofS_eq (a b : String) : (Str.ofString a = Str.ofString b) = (a = b) := by
  apply propext
  constructor
  · intro h
    rw [Str.ofString_eq_toList, Str.ofString_eq_toList] at h
    have h1 : (a.toList.map Char.toNat).toArray = (b.toList.map Char.toNat).toArray := by injection h
    have h2 : a.toList.map Char.toNat = b.toList.map Char.toNat := by simpa using congrArg Array.toList h1
    have h3 : ∀ (x y : List Char), x.map Char.toNat = y.map Char.toNat → x = y := by
      intro x
      induction x with
      | nil => intro y e; cases y with
        | nil => rfl
        | cons _ _ => cases e
      | cons c x ih => intro y e; cases y with
        | nil => cases e
        | cons d y =>
          simp only [List.map_cons, List.cons.injEq] at e
          rw [chr_inj e.1, ih y e.2]
    exact String.toList_inj.mp (h3 _ _ h2)
  · intro h; rw [h]
/-! ### plain values -/
@[simp] theorem pur_non : pur .non = true := nr rfl
@[simp] theorem pur_bl (b : Bool) : pur (.bl b) = true := nr rfl
@[simp] theorem pur_int (i : Int) : pur (.int i) = true := nr rfl
@[simp] theorem pur_str (s : Str) : pur (.str s) = true := nr rfl
@[simp] theorem pur_tup (l : List D) : pur (.tup l) = purs l := nr rfl
@[simp] theorem pur_lst (l : List D) : pur (.lst l) = purs l := nr rfl
@[simp] theorem purs_nil : purs [] = true := nr rfl
@[simp] theorem purs_cons (d : D) (l : List D) : purs (d :: l) = (pur d && purs l) := nr rfl
theorem purs_append : ∀ (a b : List D), purs (a ++ b) = (purs a && purs b)
  | [], b => by simp
  | d :: a, b => by simp [purs_append a b, Bool.and_assoc]
theorem blsD_map (f : α → Bool) : ∀ l : List α, blsD (l.map fun x => .bl (f x)) = some (l.map f)
  | [] => rfl
  | x :: l => by simp [blsD, blsD_map f l]
theorem dAll_map (f : α → Bool) (l : List α) : dAll [.lst (l.map fun x => .bl (f x))] = some (.bl (l.all f)) := by
  simp only [dAll, blsD_map, Option.map_some]
  congr 2
  induction l with
  | nil => rfl
  | cons x l ih => simp [ih]
@[simp] theorem dAll_nil : dAll [.lst []] = some (.bl true) := nr rfl
@[simp] theorem dAny_nil : dAny [.lst []] = some (.bl false) := nr rfl
/-! ### loops over lists that are written out -/
def forR (f : R Fl) (rest : AE → R Fl) : R Fl := f.bind fun f ρ2 => (match f with
  | .brk => .ok .next ρ2
  | .ret d => .ok (.ret d) ρ2
  | _ => rest ρ2)
@[simp] theorem forR_next (ρ : AE) (r : AE → R Fl) : forR (.ok .next ρ) r = r ρ := nr rfl
@[simp] theorem forR_cont (ρ : AE) (r : AE → R Fl) : forR (.ok .cont ρ) r = r ρ := nr rfl
@[simp] theorem forR_brk (ρ : AE) (r : AE → R Fl) : forR (.ok .brk ρ) r = .ok .next ρ := nr rfl
@[simp] theorem forR_ret (d : D) (ρ : AE) (r : AE → R Fl) : forR (.ok (.ret d) ρ) r = .ok (.ret d) ρ := nr rfl
@[simp] theorem forR_exc (c : Nat) (fs : List D) (ρ : AE) (r : AE → R Fl) : forR (.exc c fs ρ) r = .exc c fs ρ := nr rfl
def forG (g : R Unit) (body : AE → R Fl) (rest : AE → R Fl) : R Fl := match g with
  | .ok _ ρ1 => forR (body ρ1) rest
  | _ => .bad
@[simp] theorem forG_ok (ρ : AE) (body rest : AE → R Fl) : forG (.ok () ρ) body rest = forR (body ρ) rest := nr rfl
@[simp] theorem forL_nil (g : D → AE → R Unit) (body : AE → R Fl) (ρ : AE) : forL g body [] ρ = .ok .next ρ := nr rfl
@[simp] theorem forL_cons (g : D → AE → R Unit) (body : AE → R Fl) (d : D) (ds : List D) (ρ : AE) : forL g body (d :: ds) ρ = forG (g d ρ) body (forL g body ds) := nr rfl
@[simp] theorem evS_for' (tg : Tg) (it : I) (b : Ss) : evS E (.for_ tg it b) ⟨sl, st⟩ = (evI E it ⟨sl, st⟩).bind fun l ρ1 => (forL (evG tg) (evSs E b) l ρ1).bind fun f ρ2 => .ok f (unl it.bi ⟨sl, st⟩ ρ1 ρ2) := nr (by simp only [evS, rFor])
@[simp] theorem rngD_0 (a : Int) : rngD a 0 = [] := nr rfl
theorem rngD_s (a : Int) (n : Nat) : rngD a (n + 1) = .int a :: rngD (a + 1) n := by
  simp only [rngD, List.range_succ_eq_map, List.map_cons, List.map_map]
  congr 1
  · simp
  · apply List.map_congr_left; intro i _; simp; omega
@[simp] theorem rngD_1 (a : Int) : rngD a 1 = [.int a] := by rw [rngD_s, rngD_0]
@[simp] theorem rngD_2 (a : Int) : rngD a 2 = [.int a, .int (a + 1)] := by rw [rngD_s, rngD_1]
@[simp] theorem rngD_3 (a : Int) : rngD a 3 = [.int a, .int (a + 1), .int (a + 2)] := by rw [rngD_s, rngD_2]; simp <;> omega
@[simp] theorem rngD_4 (a : Int) : rngD a 4 = [.int a, .int (a + 1), .int (a + 2), .int (a + 3)] := by rw [rngD_s, rngD_3]; simp <;> omega
@[simp] theorem rngD_5 (a : Int) : rngD a 5 = [.int a, .int (a + 1), .int (a + 2), .int (a + 3), .int (a + 4)] := by rw [rngD_s, rngD_4]; simp <;> omega
@[simp] theorem rngD_6 (a : Int) : rngD a 6 = [.int a, .int (a + 1), .int (a + 2), .int (a + 3), .int (a + 4), .int (a + 5)] := by rw [rngD_s, rngD_5]; simp <;> omega
@[simp] theorem rngD_8 (a : Int) : rngD a 8 = [.int a, .int (a + 1), .int (a + 2), .int (a + 3), .int (a + 4), .int (a + 5), .int (a + 6), .int (a + 7)] := by rw [rngD_s, rngD_s, rngD_6]; simp <;> omega
@[simp] theorem dSl_tup (l : List D) (lo hi : Option Int) : dSl (.tup l) lo hi = some (.tup (cutD l lo hi)) := nr rfl
@[simp] theorem dSl_lst (l : List D) (lo hi : Option Int) : dSl (.lst l) lo hi = some (.lst (cutD l lo hi)) := nr rfl
@[simp] theorem dAdd_tup (a b : List D) : dAdd (.tup a) (.tup b) = if a.length + b.length ≤ many then some (.tup (a ++ b)) else none := nr rfl
@[simp] theorem dAdd_lst (a b : List D) : dAdd (.lst a) (.lst b) = if a.length + b.length ≤ many then some (.lst (a ++ b)) else none := nr rfl
@[simp] theorem dAddL_lst (a b : List D) : dAddL (.lst a) (.lst b) = if a.length + b.length ≤ many then some (.lst (a ++ b)) else none := nr rfl
theorem cut_hi (l : List D) (n : Nat) : cutD l none (some (n : Int)) = l.take n := by
  unfold cutD
  rw [show HT.sIx l.length 0 none = 0 from rfl]
  have : HT.sIx l.length l.length (some (n : Int)) = min n l.length := by
    show (if (n : Int) < 0 then ((n : Int) + (l.length : Int)).toNat else min (n : Int).toNat l.length) = min n l.length
    rw [if_neg (by omega)]; simp
  rw [this]; simp
theorem cut_lo (l : List D) (n : Nat) : cutD l (some (n : Int)) none = l.drop n := by
  unfold cutD
  rw [show HT.sIx l.length l.length none = l.length from rfl]
  have : HT.sIx l.length 0 (some (n : Int)) = min n l.length := by
    show (if (n : Int) < 0 then ((n : Int) + (l.length : Int)).toNat else min (n : Int).toNat l.length) = min n l.length
    rw [if_neg (by omega)]; simp
  rw [this]
  by_cases h : n ≤ l.length
  · rw [Nat.min_eq_left h, List.take_of_length_le (by simp)]
  · rw [Nat.min_eq_right (by omega)]
    simp [List.drop_eq_nil_of_le (show l.length ≤ n by omega)]
theorem cut_last (l : List D) : cutD l none (some (-1)) = l.dropLast := by
  unfold cutD
  rw [show HT.sIx l.length 0 none = 0 from rfl]
  have : HT.sIx l.length l.length (some (-1)) = l.length - 1 := by
    show (if (-1 : Int) < 0 then ((-1 : Int) + (l.length : Int)).toNat else min (-1 : Int).toNat l.length) = l.length - 1
    rw [if_pos (by omega)]; omega
  rw [this]; simp [List.dropLast_eq_take]
end
end Mi

/-! comprehensions, evaluated by simp -/
namespace Mi
open PySem PySem.Spec PyProof.Rows L2
/-- what a step of a comprehension gives -/
inductive Oc where
  | ok (o : Option D) (w : List Sl) (st : List Ob) | bad
def ocOf (vs : List Nat) (r : R (Option D)) : Oc := match r with
  | .ok o ρ => .ok o (wipeL vs ρ.sl) ρ.st
  | _ => .bad
def stepR (t : AE → R Bool) (re : AE → R D) (ρ : AE) : R (Option D) := (t ρ).bind fun c ρ2 => if c = true then (re ρ2).bind fun y ρ3 => .ok (some y) ρ3 else .ok none ρ2
def stG (t : AE → R Bool) (re : AE → R D) (vs : List Nat) (r : R Unit) : Oc := match r with
  | .ok _ ρ => ocOf vs (stepR t re ρ)
  | _ => .bad
def ocB {α : Type} (o : Oc) (f : Option D → List Sl → List Ob → R α) : R α := match o with
  | .ok o w st => f o w st
  | .bad => .bad
section
variable {α β : Type} {E : Ev} {sl sl1 w : List Sl} {st : List Ob} {ρ : AE}
@[simp] theorem stG_ok (t : AE → R Bool) (re : AE → R D) (vs : List Nat) (sl : List Sl) (st : List Ob) : stG t re vs (.ok () ⟨sl, st⟩) = ocOf vs ((t ⟨sl, st⟩).bind fun c ρ2 => if c = true then (re ρ2).bind fun y ρ3 => .ok (some y) ρ3 else .ok none ρ2) := nr rfl
@[simp] theorem ocOf_ok (vs : List Nat) (o : Option D) (sl : List Sl) (st : List Ob) : ocOf vs (.ok o ⟨sl, st⟩) = .ok o (wipeL vs sl) st := nr rfl
@[simp] theorem ocOf_bad (vs : List Nat) : ocOf vs .bad = .bad := nr rfl
@[simp] theorem ocOf_ite (vs : List Nat) (c : Prop) [Decidable c] (a b : R (Option D)) : ocOf vs (if c then a else b) = if c then ocOf vs a else ocOf vs b := by split <;> rfl
@[simp] theorem oc_ite (c : Prop) [Decidable c] (a b : Option D) (w : List Sl) (st : List Ob) : (if c then Oc.ok a w st else Oc.ok b w st) = Oc.ok (if c then a else b) w st := by split <;> rfl
@[simp] theorem ocB_ok (o : Option D) (w : List Sl) (st : List Ob) (f : Option D → List Sl → List Ob → R α) : ocB (.ok o w st) f = f o w st := nr rfl
@[simp] theorem ocB_bad (f : Option D → List Sl → List Ob → R α) : ocB .bad f = .bad := nr rfl
@[simp] theorem ocB_ite (c : Prop) [Decidable c] (a b : Oc) (f : Option D → List Sl → List Ob → R α) : ocB (if c then a else b) f = if c then ocB a f else ocB b f := by split <;> rfl
theorem compL_step (g : D → AE → R Unit) (t : AE → R Bool) (re : AE → R D) (vs : List Nat) (d : D) (ds : List D) (ρ : AE) :
    compL g t re vs (d :: ds) ρ = ocB (stG t re vs (g d ρ)) fun o w' st' => (compL g t re vs ds ⟨w', st'⟩).bind fun ys ρ => .ok (o.toList ++ ys) ρ := by
  have e : compL g t re vs (d :: ds) ρ = (match g d ρ with
    | .ok _ ρ1 => (noX (t ρ1)).bind fun c ρ2 => if c = true then (noX (re ρ2)).bind fun y ρ3 => (compL g t re vs ds (wipeA vs ρ3)).bind fun ys ρ4 => .ok (y :: ys) ρ4 else compL g t re vs ds (wipeA vs ρ2)
    | _ => .bad) := rfl
  rw [e]
  unfold stG
  cases g d ρ with
  | exc _ _ _ => rfl
  | bad => rfl
  | ok u ρ1 =>
    simp only [stepR]
    cases t ρ1 with
    | exc _ _ _ => rfl
    | bad => rfl
    | ok c ρ2 =>
      simp only [noX, b_ok]
      cases c with
      | false =>
        simp only [Bool.false_eq_true, if_false, ocOf, ocB, Option.toList, List.nil_append]
        show compL g t re vs ds (wipeA vs ρ2) = R.bind (compL g t re vs ds (wipeA vs ρ2)) _
        cases compL g t re vs ds (wipeA vs ρ2) <;> rfl
      | true =>
        simp only [if_true]
        cases re ρ2 <;> rfl
@[simp] theorem compL_nil (g : D → AE → R Unit) (t : AE → R Bool) (re : AE → R D) (vs : List Nat) (ρ : AE) : compL g t re vs [] ρ = .ok [] ρ := nr rfl
@[simp] theorem compL_cons (g : D → AE → R Unit) (t : AE → R Bool) (re : AE → R D) (vs : List Nat) (d : D) (ds : List D) (w : List Sl) (st : List Ob) :
    compL g t re vs (d :: ds) ⟨w, st⟩ = ocB (stG t re vs (g d ⟨w, st⟩)) fun o w' st' => (compL g t re vs ds ⟨w', st'⟩).bind fun ys ρ => .ok (o.toList ++ ys) ρ := compL_step g t re vs d ds ⟨w, st⟩
theorem compL_pure (g : D → AE → R Unit) (t : AE → R Bool) (re : AE → R D) (vs : List Nat) (f : α → D) (w : List Sl) (st : List Ob) (F : α → Option D) : ∀ (xs : List α),
    (∀ a, a ∈ xs → stG t re vs (g (f a) ⟨w, st⟩) = Oc.ok (F a) w st) → compL g t re vs (xs.map f) ⟨w, st⟩ = .ok (xs.filterMap F) ⟨w, st⟩
  | [], _ => rfl
  | a :: as, h => by
    rw [List.map_cons, compL_step, h a (List.mem_cons_self ..)]
    simp only [ocB, compL_pure g t re vs f w st F as fun b hb => h b (List.mem_cons_of_mem _ hb), b_ok, List.filterMap_cons]
    cases F a <;> rfl
@[simp low] theorem compL_typed {g : D → AE → R Unit} {t : AE → R Bool} {re : AE → R D} {vs : List Nat} {xs : List α} {f : α → D} {w : List Sl} {st : List Ob} {F : α → Option D}
    (h : ∀ a, a ∈ xs → stG t re vs (g (f a) ⟨w, st⟩) = Oc.ok (F a) w st) : compL g t re vs (xs.map f) ⟨w, st⟩ = .ok (xs.filterMap F) ⟨w, st⟩ := compL_pure g t re vs f w st F xs h
@[simp low] theorem compL_rng {g : D → AE → R Unit} {t : AE → R Bool} {re : AE → R D} {vs : List Nat} {lo : Int} {n : Nat} {w : List Sl} {st : List Ob} {F : Nat → Option D}
    (h : ∀ a, a < n → stG t re vs (g (.int (lo + (a : Int))) ⟨w, st⟩) = Oc.ok (F a) w st) : compL g t re vs (rngD lo n) ⟨w, st⟩ = .ok ((List.range n).filterMap F) ⟨w, st⟩ :=
  compL_pure g t re vs (fun a : Nat => .int (lo + (a : Int))) w st F _ fun a ha => h a (List.mem_range.mp ha)
@[simp 50] theorem compL_any {g : D → AE → R Unit} {t : AE → R Bool} {re : AE → R D} {vs : List Nat} {xs : List D} {w : List Sl} {st : List Ob} {F : D → Option D}
    (h : ∀ a, a ∈ xs → stG t re vs (g a ⟨w, st⟩) = Oc.ok (F a) w st) : compL g t re vs xs ⟨w, st⟩ = .ok (xs.filterMap F) ⟨w, st⟩ := by
  have := compL_pure g t re vs id w st F xs h
  rw [List.map_id] at this
  exact this
@[simp] theorem fm_some (xs : List α) (F : α → β) : (xs.filterMap fun a => some (F a)) = xs.map F := by
  induction xs with
  | nil => rfl
  | cons a as ih => simp [ih]
@[simp] theorem fm_ite (xs : List α) (p : α → Prop) [DecidablePred p] (F : α → β) : (xs.filterMap fun a => if p a then some (F a) else none) = (xs.filter fun a => decide (p a)).map F := by
  induction xs with
  | nil => rfl
  | cons a as ih => by_cases h : p a <;> simp [h, ih]
def compR (E : Ev) (elt : C) (vs : List Nat) (tg : Tg) (t : Ts) (bi : Option Nat) (ρ : AE) (l : List D) (ρ1 : AE) : R D :=
  if okV vs ρ1 = true then (compL (evG tg) (evTs E t) (ev E elt) vs l (wipeA vs ρ1)).bind fun ys ρ2 => .ok (.lst ys) (unl bi ρ ρ1 (restA vs ρ1 ρ2)) else .bad
def okVL (vs : List Nat) (sl : List Sl) : Bool := vs.all fun i => !isOwnBor sl[i]?
where isOwnBor : Option Sl → Bool
  | some (.own _) => true
  | some (.bor _) => true
  | _ => false
@[simp] theorem okVL_nil (sl : List Sl) : okVL [] sl = true := nr rfl
@[simp] theorem okVL_cons (v : Nat) (vs : List Nat) (sl : List Sl) : okVL (v :: vs) sl = (!okVL.isOwnBor sl[v]? && okVL vs sl) := nr rfl
@[simp] theorem iob_val (d : D) : okVL.isOwnBor (some (.val d)) = false := nr rfl
@[simp] theorem iob_none : okVL.isOwnBor (some .none) = false := nr rfl
theorem okV_VL (vs : List Nat) (sl : List Sl) (st : List Ob) : okV vs ⟨sl, st⟩ = okVL vs sl := by
  unfold okV okVL
  congr 1; funext i
  generalize sl[i]? = o
  rcases o with _ | s
  · rfl
  · cases s <;> rfl
@[simp] theorem ev_comp' (elt : C) (own : List (Str × Nat)) (tg : Tg) (it : I) (t : Ts) (sl : List Sl) (st : List Ob) :
    ev E (.comp elt own tg it t) ⟨sl, st⟩ = (evI E it ⟨sl, st⟩).bind (compR E elt (own.map (·.2)) tg t it.bi ⟨sl, st⟩) := by
  simp only [ev, rComp]; rfl
@[simp] theorem wipeL_nil (sl : List Sl) : wipeL [] sl = sl := nr rfl
@[simp] theorem wipeL_cons (v : Nat) (vs : List Nat) (sl : List Sl) : wipeL (v :: vs) sl = (wipeL vs sl).set v .none := nr rfl
@[simp] theorem restL_nil (a b : List Sl) : restL [] a b = b := nr rfl
@[simp] theorem restL_cons (v : Nat) (vs : List Nat) (a b : List Sl) : restL (v :: vs) a b = (restL vs a b).set v (a[v]?.getD .none) := nr rfl
@[simp] theorem compR_eq (elt : C) (vs : List Nat) (tg : Tg) (t : Ts) (bi : Option Nat) (ρ : AE) (l : List D) (sl1 : List Sl) (st1 : List Ob) : compR E elt vs tg t bi ρ l ⟨sl1, st1⟩ =
    if okVL vs sl1 = true then (compL (evG tg) (evTs E t) (ev E elt) vs l ⟨wipeL vs sl1, st1⟩).bind fun ys ρ2 => .ok (.lst ys) (unl bi ρ ⟨sl1, st1⟩ ⟨restL vs sl1 ρ2.sl, ρ2.st⟩) else .bad := by
  unfold compR; rw [okV_VL]; rfl
def unlO (i : Nat) (a b c : Option Sl) (sl : List Sl) : List Sl := match a, b, c with
  | some (.own _), some (.bor _), some (.bor d) => sl.set i (.own d)
  | _, _, _ => sl
@[simp] theorem unl_some (i : Nat) (a b c : List Sl) (s t u : List Ob) : unl (some i) ⟨a, s⟩ ⟨b, t⟩ ⟨c, u⟩ = ⟨unlO i a[i]? b[i]? c[i]? c, u⟩ := by
  unfold unl unlO; simp only
  first | (split <;> simp_all [setS]; done) | (split <;> split <;> simp_all [setS])
@[simp] theorem unlO_val (i : Nat) (d : D) (b c : Option Sl) (sl : List Sl) : unlO i (some (.val d)) b c sl = sl := nr rfl
@[simp] theorem unlO_bor (i : Nat) (d : D) (b c : Option Sl) (sl : List Sl) : unlO i (some (.bor d)) b c sl = sl := nr rfl
@[simp] theorem unlO_own (i : Nat) (d e f : D) (sl : List Sl) : unlO i (some (.own d)) (some (.bor e)) (some (.bor f)) sl = sl.set i (.own f) := nr rfl
/-! ### two clauses -/
/-- one turn of the outer clause: how many the inner one walks, what comes -/
def step2 (t : AE → R Bool) (it1 : AE → R (List D)) (g1 : D → AE → R Unit) (t1 : AE → R Bool) (re : AE → R D) (vs vs1 : List Nat) (r : R Unit) : R (Nat × List D) := match r with
  | .ok _ ρ1 => (t ρ1).bind fun c ρ2 => if c = true then (it1 ρ2).bind fun l1 ρ3 => if okVL vs1 ρ3.sl = true then (compL g1 t1 re vs1 l1 ⟨wipeL vs1 ρ3.sl, ρ3.st⟩).bind fun ys ρ4 => .ok (l1.length, ys) ⟨wipeL vs ρ4.sl, ρ4.st⟩ else .bad else .ok (0, []) ⟨wipeL vs ρ2.sl, ρ2.st⟩
  | _ => .bad
@[simp] theorem step2_ok (t : AE → R Bool) (it1 : AE → R (List D)) (g1 : D → AE → R Unit) (t1 : AE → R Bool) (re : AE → R D) (vs vs1 : List Nat) (sl : List Sl) (st : List Ob) : step2 t it1 g1 t1 re vs vs1 (.ok () ⟨sl, st⟩) =
    (t ⟨sl, st⟩).bind fun c ρ2 => if c = true then (it1 ρ2).bind fun l1 ρ3 => if okVL vs1 ρ3.sl = true then (compL g1 t1 re vs1 l1 ⟨wipeL vs1 ρ3.sl, ρ3.st⟩).bind fun ys ρ4 => .ok (l1.length, ys) ⟨wipeL vs ρ4.sl, ρ4.st⟩ else .bad else .ok (0, []) ⟨wipeL vs ρ2.sl, ρ2.st⟩ := nr rfl
theorem compL_len {g : D → AE → R Unit} {t : AE → R Bool} {re : AE → R D} {vs : List Nat} : ∀ {l : List D} {ρ ρ' : AE} {ys : List D}, compL g t re vs l ρ = .ok ys ρ' → ys.length ≤ l.length
  | [], ρ, ρ', ys, h => by cases h; simp
  | d :: ds, ρ, ρ', ys, h => by
    rw [compL_step] at h
    cases q : stG t re vs (g d ρ) with
    | bad => rw [q] at h; cases h
    | ok o w' st' =>
      rw [q] at h
      simp only [ocB] at h
      cases q2 : compL g t re vs ds ⟨w', st'⟩ with
      | exc _ _ _ => rw [q2] at h; cases h
      | bad => rw [q2] at h; cases h
      | ok zs ρ2 =>
        rw [q2] at h
        simp only [b_ok, R.ok.injEq] at h
        have := compL_len q2
        rw [← h.1, List.length_append, List.length_cons]
        cases o <;> simp <;> omega
theorem step2_len {t : AE → R Bool} {it1 : AE → R (List D)} {g1 : D → AE → R Unit} {t1 : AE → R Bool} {re : AE → R D} {vs vs1 : List Nat} {r : R Unit} {p : Nat × List D} {ρ : AE} (h : step2 t it1 g1 t1 re vs vs1 r = .ok p ρ) : p.2.length ≤ p.1 := by
  unfold step2 at h
  cases r with
  | exc _ _ _ => cases h
  | bad => cases h
  | ok u ρ1 =>
    simp only at h
    cases q : t ρ1 with
    | exc _ _ _ => rw [q] at h; cases h
    | bad => rw [q] at h; cases h
    | ok c ρ2 =>
      rw [q] at h
      simp only [b_ok] at h
      cases c with
      | false => simp at h; rw [← h.1]; simp
      | true =>
        simp only [if_true] at h
        cases q1 : it1 ρ2 with
        | exc _ _ _ => rw [q1] at h; cases h
        | bad => rw [q1] at h; cases h
        | ok l1 ρ3 =>
          rw [q1] at h
          simp only [b_ok] at h
          split at h
          · cases q2 : compL g1 t1 re vs1 l1 ⟨wipeL vs1 ρ3.sl, ρ3.st⟩ with
            | exc _ _ _ => rw [q2] at h; cases h
            | bad => rw [q2] at h; cases h
            | ok ys ρ4 =>
              rw [q2] at h
              simp only [b_ok, R.ok.injEq] at h
              rw [← h.1]; exact compL_len q2
          · cases h
theorem comp2L_step {g : D → AE → R Unit} {t : AE → R Bool} {it1 : AE → R (List D)} {g1 : D → AE → R Unit} {t1 : AE → R Bool} {re : AE → R D} {vs vs1 : List Nat} {n k : Nat} {d : D} {ds zs : List D} {w w' : List Sl} {st st' : List Ob} (h : step2 t it1 g1 t1 re vs vs1 (g d ⟨w, st⟩) = .ok (k, zs) ⟨w', st'⟩) (hb : n + k ≤ many) :
    comp2L g t it1 g1 t1 re vs vs1 n (d :: ds) ⟨w, st⟩ = (comp2L g t it1 g1 t1 re vs vs1 (n + zs.length) ds ⟨w', st'⟩).bind fun ys ρ => .ok (zs ++ ys) ρ := by
  have e : comp2L g t it1 g1 t1 re vs vs1 n (d :: ds) ⟨w, st⟩ = (match g d ⟨w, st⟩ with
    | .ok _ ρ1 => (noX (t ρ1)).bind fun c ρ2 => if c = true then (noX (it1 ρ2)).bind fun l1 ρ3 => if okV vs1 ρ3 = true ∧ n + l1.length ≤ many then (compL g1 t1 re vs1 l1 (wipeA vs1 ρ3)).bind fun ys ρ4 =>
        (comp2L g t it1 g1 t1 re vs vs1 (n + ys.length) ds (wipeA vs ρ4)).bind fun zs ρ5 => .ok (ys ++ zs) ρ5 else .bad else comp2L g t it1 g1 t1 re vs vs1 n ds (wipeA vs ρ2)
    | _ => .bad) := rfl
  rw [e]
  unfold step2 at h
  cases q0 : g d ⟨w, st⟩ with
  | exc _ _ _ => rw [q0] at h; cases h
  | bad => rw [q0] at h; cases h
  | ok u ρ1 =>
    rw [q0] at h
    simp only at h ⊢
    cases q : t ρ1 with
    | exc _ _ _ => rw [q] at h; cases h
    | bad => rw [q] at h; cases h
    | ok c ρ2 =>
      rw [q] at h
      simp only [b_ok, noX] at h ⊢
      cases c with
      | false =>
        simp only [Bool.false_eq_true, if_false, R.ok.injEq, Prod.mk.injEq] at h ⊢
        obtain ⟨⟨h1, h2⟩, h3⟩ := h
        subst h1 h2
        rw [← h3]
        show comp2L g t it1 g1 t1 re vs vs1 n ds (wipeA vs ρ2) = R.bind (comp2L g t it1 g1 t1 re vs vs1 n ds (wipeA vs ρ2)) _
        cases comp2L g t it1 g1 t1 re vs vs1 n ds (wipeA vs ρ2) <;> rfl
      | true =>
        simp only [if_true] at h ⊢
        cases q1 : it1 ρ2 with
        | exc _ _ _ => rw [q1] at h; cases h
        | bad => rw [q1] at h; cases h
        | ok l1 ρ3 =>
          rw [q1] at h
          simp only [b_ok] at h ⊢
          split at h
          · rename_i hv
            cases q2 : compL g1 t1 re vs1 l1 ⟨wipeL vs1 ρ3.sl, ρ3.st⟩ with
            | exc _ _ _ => rw [q2] at h; cases h
            | bad => rw [q2] at h; cases h
            | ok ys ρ4 =>
              rw [q2] at h
              simp only [b_ok, R.ok.injEq, Prod.mk.injEq] at h
              obtain ⟨⟨h1, h2⟩, h3⟩ := h
              subst h1 h2
              have hv' : okV vs1 ρ3 = true := by
                have := okV_VL vs1 ρ3.sl ρ3.st
                rw [show (⟨ρ3.sl, ρ3.st⟩ : AE) = ρ3 from rfl] at this
                rw [this]; exact hv
              rw [if_pos ⟨hv', hb⟩]
              show (compL g1 t1 re vs1 l1 ⟨wipeL vs1 ρ3.sl, ρ3.st⟩).bind _ = _
              rw [q2, ← h3]
              rfl
          · cases h
theorem comp2L_pure {g : D → AE → R Unit} {t : AE → R Bool} {it1 : AE → R (List D)} {g1 : D → AE → R Unit} {t1 : AE → R Bool} {re : AE → R D} {vs vs1 : List Nat} {f : α → D} {w : List Sl} {st : List Ob} {L : α → Nat} {F : α → List D} : ∀ {xs : List α} {n : Nat},
    (∀ a, a ∈ xs → step2 t it1 g1 t1 re vs vs1 (g (f a) ⟨w, st⟩) = .ok (L a, F a) ⟨w, st⟩) → n + (xs.map L).sum ≤ many → comp2L g t it1 g1 t1 re vs vs1 n (xs.map f) ⟨w, st⟩ = .ok (xs.flatMap F) ⟨w, st⟩
  | [], n, _, _ => rfl
  | a :: as, n, h, hb => by
    rw [List.map_cons, List.sum_cons] at hb
    have h1 := h a (List.mem_cons_self ..)
    have h2 := step2_len h1
    simp only at h2
    rw [List.map_cons, comp2L_step h1 (by omega), comp2L_pure (fun b hb => h b (List.mem_cons_of_mem _ hb)) (by omega)]
    rfl
@[simp low] theorem comp2L_typed {g : D → AE → R Unit} {t : AE → R Bool} {it1 : AE → R (List D)} {g1 : D → AE → R Unit} {t1 : AE → R Bool} {re : AE → R D} {vs vs1 : List Nat} {xs : List α} {f : α → D} {w : List Sl} {st : List Ob} {L : α → Nat} {F : α → List D}
    (h : ∀ a, a ∈ xs → step2 t it1 g1 t1 re vs vs1 (g (f a) ⟨w, st⟩) = .ok (L a, F a) ⟨w, st⟩) (hb : (xs.map L).sum ≤ many) : comp2L g t it1 g1 t1 re vs vs1 0 (xs.map f) ⟨w, st⟩ = .ok (xs.flatMap F) ⟨w, st⟩ := comp2L_pure h (by omega)
@[simp low] theorem comp2L_rng {g : D → AE → R Unit} {t : AE → R Bool} {it1 : AE → R (List D)} {g1 : D → AE → R Unit} {t1 : AE → R Bool} {re : AE → R D} {vs vs1 : List Nat} {lo : Int} {n : Nat} {w : List Sl} {st : List Ob} {L : Nat → Nat} {F : Nat → List D}
    (h : ∀ a, a < n → step2 t it1 g1 t1 re vs vs1 (g (.int (lo + (a : Int))) ⟨w, st⟩) = .ok (L a, F a) ⟨w, st⟩) (hb : ((List.range n).map L).sum ≤ many) : comp2L g t it1 g1 t1 re vs vs1 0 (rngD lo n) ⟨w, st⟩ = .ok ((List.range n).flatMap F) ⟨w, st⟩ :=
  comp2L_pure (f := fun a : Nat => .int (lo + (a : Int))) (fun a ha => h a (List.mem_range.mp ha)) (by omega)
@[simp 50] theorem comp2L_any {g : D → AE → R Unit} {t : AE → R Bool} {it1 : AE → R (List D)} {g1 : D → AE → R Unit} {t1 : AE → R Bool} {re : AE → R D} {vs vs1 : List Nat} {xs : List D} {w : List Sl} {st : List Ob} {L : D → Nat} {F : D → List D}
    (h : ∀ a, a ∈ xs → step2 t it1 g1 t1 re vs vs1 (g a ⟨w, st⟩) = .ok (L a, F a) ⟨w, st⟩) (hb : (xs.map L).sum ≤ many) : comp2L g t it1 g1 t1 re vs vs1 0 xs ⟨w, st⟩ = .ok (xs.flatMap F) ⟨w, st⟩ := by
  have := comp2L_pure (f := id) (n := 0) h (by omega)
  rw [List.map_id] at this
  exact this
def compR2 (E : Ev) (elt : C) (vs vs1 : List Nat) (tg : Tg) (t : Ts) (tg1 : Tg) (it1 : I) (t1 : Ts) (bi : Option Nat) (ρ : AE) (l : List D) (ρ1 : AE) : R D :=
  if okV vs ρ1 = true then (comp2L (evG tg) (evTs E t) (evI E it1) (evG tg1) (evTs E t1) (ev E elt) vs vs1 0 l (wipeA vs ρ1)).bind fun ys ρ2 => .ok (.lst ys) (unl bi ρ ρ1 (restA vs ρ1 ρ2)) else .bad
@[simp] theorem ev_comp2 (elt : C) (own : List (Str × Nat)) (own1 : List Nat) (tg : Tg) (it : I) (t : Ts) (tg1 : Tg) (it1 : I) (t1 : Ts) (sl : List Sl) (st : List Ob) :
    ev E (.comp2 elt own own1 tg it t tg1 it1 t1) ⟨sl, st⟩ = (evI E it ⟨sl, st⟩).bind (compR2 E elt (own.map (·.2)) own1 tg t tg1 it1 t1 it.bi ⟨sl, st⟩) := by
  simp only [ev, rComp2]; rfl
@[simp] theorem compR2_eq (elt : C) (vs vs1 : List Nat) (tg : Tg) (t : Ts) (tg1 : Tg) (it1 : I) (t1 : Ts) (bi : Option Nat) (ρ : AE) (l : List D) (sl1 : List Sl) (st1 : List Ob) : compR2 E elt vs vs1 tg t tg1 it1 t1 bi ρ l ⟨sl1, st1⟩ =
    if okVL vs sl1 = true then (comp2L (evG tg) (evTs E t) (evI E it1) (evG tg1) (evTs E t1) (ev E elt) vs vs1 0 l ⟨wipeL vs sl1, st1⟩).bind fun ys ρ2 => .ok (.lst ys) (unl bi ρ ⟨sl1, st1⟩ ⟨restL vs sl1 ρ2.sl, ρ2.st⟩) else .bad := by
  unfold compR2; rw [okV_VL]; rfl
@[simp] theorem evS_ownLc2 (i : Nat) (elt : C) (own : List (Str × Nat)) (own1 : List Nat) (tg : Tg) (it : I) (t : Ts) (tg1 : Tg) (it1 : I) (t1 : Ts) (sl : List Sl) (st : List Ob) :
    evS E (.ownLc2 i elt own own1 tg it t tg1 it1 t1) ⟨sl, st⟩ = (ev E (.comp2 elt own own1 tg it t tg1 it1 t1) ⟨sl, st⟩).bind (ownR i) := nr (by simp only [evS, rOwn, ev]; rfl)
end
end Mi

/-! own lists that grow, loops -/
namespace Mi
open PySem PySem.Spec PyProof.Rows L2
section
variable {α β : Type} {E : Ev} {sl sl1 w : List Sl} {st : List Ob} {ρ : AE}
def iol : Option Sl → Bool
  | some (.own (.lst _)) => true
  | _ => false
@[simp] theorem iol_own (l : List D) : iol (some (.own (.lst l))) = true := nr rfl
def appO (i : Nat) (d : D) (o : Option Sl) (sl : List Sl) (st : List Ob) : R Fl := match o with
  | some (.own (.lst l)) => if l.length < many then .ok .next ⟨sl.set i (.own (.lst (l ++ [d]))), st⟩ else .bad
  | _ => .bad
@[simp] theorem appO_eq (i : Nat) (d : D) (l : List D) (sl : List Sl) (st : List Ob) : appO i d (some (.own (.lst l))) sl st = if l.length < many then .ok .next ⟨sl.set i (.own (.lst (l ++ [d]))), st⟩ else .bad := nr rfl
def appR (i : Nat) (d : D) (ρ : AE) : R Fl := updOwn i (appD d) ρ
@[simp] theorem appR_eq (i : Nat) (d : D) (sl : List Sl) (st : List Ob) : appR i d ⟨sl, st⟩ = appO i d sl[i]? sl st := nr (by
  simp only [appR, updOwn, appO, setS]
  cases q : sl[i]? with
  | none => rfl
  | some s => cases s with
    | own d' => cases d' <;> (try rfl); simp only [appD]; rename_i l; by_cases h : l.length < many <;> simp [h]
    | _ => rfl)
@[simp] theorem evS_app (i : Nat) (c : C) (sl : List Sl) (st : List Ob) : evS E (.app i c) ⟨sl, st⟩ = if iol sl[i]? = true then (ev E c ⟨sl, st⟩).bind (appR i) else .bad := nr (by
  simp only [evS, rApp]
  have : isOwnL ⟨sl, st⟩ i = iol sl[i]? := by
    unfold isOwnL iol; cases q : sl[i]? with
    | none => rfl
    | some s => cases s with
      | own d' => cases d' <;> rfl
      | _ => rfl
  rw [this]; rfl)
def extO (i : Nat) (m : List D) (o : Option Sl) (sl : List Sl) (st : List Ob) : R Fl := match o with
  | some (.own (.lst l)) => if l.length + m.length ≤ many then .ok .next ⟨sl.set i (.own (.lst (l ++ m))), st⟩ else .bad
  | _ => .bad
@[simp] theorem extO_eq (i : Nat) (m : List D) (l : List D) (sl : List Sl) (st : List Ob) : extO i m (some (.own (.lst l))) sl st = if l.length + m.length ≤ many then .ok .next ⟨sl.set i (.own (.lst (l ++ m))), st⟩ else .bad := nr rfl
def extR (i : Nat) (d : D) (ρ : AE) : R Fl := match d with
  | .lst m => updOwn i (extD m) ρ
  | _ => .bad
@[simp] theorem extR_eq (i : Nat) (m : List D) (sl : List Sl) (st : List Ob) : extR i (.lst m) ⟨sl, st⟩ = extO i m sl[i]? sl st := nr (by
  simp only [extR, updOwn, extO, setS]
  cases q : sl[i]? with
  | none => rfl
  | some s => cases s with
    | own d' => cases d' <;> (try rfl); simp only [extD]; rename_i l; by_cases h : l.length + m.length ≤ many <;> simp [h]
    | _ => rfl)
@[simp] theorem evS_ext (i : Nat) (c : C) (sl : List Sl) (st : List Ob) : evS E (.ext i c) ⟨sl, st⟩ = if iol sl[i]? = true then (ev E c ⟨sl, st⟩).bind (extR i) else .bad := nr (by
  simp only [evS, rExt]
  have : isOwnL ⟨sl, st⟩ i = iol sl[i]? := by
    unfold isOwnL iol; cases q : sl[i]? with
    | none => rfl
    | some s => cases s with
      | own d' => cases d' <;> rfl
      | _ => rfl
  rw [this]; rfl)
/-- the loop's variable: the last one walked -/
def lastS (f : α → D) (done : List α) : Sl := match done.getLast? with
  | some a => .val (f a)
  | none => .none
@[simp] theorem lastS_nil (f : α → D) : lastS f [] = .none := nr rfl
@[simp] theorem lastS_app (f : α → D) (l : List α) (a : α) : lastS f (l ++ [a]) = .val (f a) := nr (by simp [lastS])
@[simp] theorem lastS_bor (f : α → D) (l : List α) : isBorO (some (lastS f l)) = false := nr (by unfold lastS; split <;> rfl)
@[simp] theorem lastS_iob (f : α → D) (l : List α) : okVL.isOwnBor (some (lastS f l)) = false := nr (by unfold lastS; split <;> rfl)
/-- a loop that walks to its end -/
theorem forL_pure {g : D → AE → R Unit} {body : AE → R Fl} {f : α → D} (S : List α → List Sl) : ∀ (xs done : List α),
    (∀ d a r, done ++ xs = d ++ a :: r → ∀ K : AE → R Fl, forG (g (f a) ⟨S d, st⟩) body K = K ⟨S (d ++ [a]), st⟩) → forL g body (xs.map f) ⟨S done, st⟩ = .ok .next ⟨S (done ++ xs), st⟩
  | [], done, _ => by simp
  | a :: as, done, h => by
    rw [List.map_cons, forL_cons, h done a as rfl, forL_pure S as (done ++ [a]) (fun d b r e => h d b r (by rw [← e, List.append_assoc]; rfl)), List.append_assoc]; rfl
theorem forL_all {g : D → AE → R Unit} {body : AE → R Fl} {f : α → D} (S : List α → List Sl) (xs : List α) (h : ∀ d a r, xs = d ++ a :: r → ∀ K : AE → R Fl, forG (g (f a) ⟨S d, st⟩) body K = K ⟨S (d ++ [a]), st⟩) :
    forL g body (xs.map f) ⟨S [], st⟩ = .ok .next ⟨S xs, st⟩ := forL_pure S xs [] h
theorem forL_rng {g : D → AE → R Unit} {body : AE → R Fl} {lo : Int} {n : Nat} (S : List Nat → List Sl) (h : ∀ (d : List Nat) (a : Nat) (r : List Nat), List.range n = d ++ a :: r → ∀ K : AE → R Fl, forG (g (.int (lo + (a : Int))) ⟨S d, st⟩) body K = K ⟨S (d ++ [a]), st⟩) :
    forL g body (rngD lo n) ⟨S [], st⟩ = .ok .next ⟨S (List.range n), st⟩ := forL_all (f := fun a : Nat => .int (lo + (a : Int))) S (List.range n) h
/-! drawn comprehensions -/
theorem compL_drw {g : D → AE → R Unit} {t : AE → R Bool} {re : AE → R D} {vs : List Nat} {Inv : List Ob → Prop} {V : β → Prop} {f : β → D} (w : List Sl) : ∀ (l : List D) (st : List Ob), Inv st →
    (∀ d ∈ l, ∀ st, Inv st → ∃ (o : Option β) (st2 : List Ob), stG t re vs (g d ⟨w, st⟩) = Oc.ok (Option.map f o) w st2 ∧ Inv st2 ∧ ∀ b, o = some b → V b) →
    ∃ (bs : List β) (st' : List Ob), compL g t re vs l ⟨w, st⟩ = .ok (bs.map f) ⟨w, st'⟩ ∧ Inv st' ∧ bs.length ≤ l.length ∧ ∀ y ∈ bs, V y
  | [], st, hi, _ => ⟨[], st, rfl, hi, by simp, by simp⟩
  | d :: ds, st, hi, h => by
    obtain ⟨o, st2, e1, h1, h2⟩ := h d (List.mem_cons_self ..) st hi
    obtain ⟨ys, st', e, i1, i2, i3⟩ := compL_drw w ds st2 h1 fun e he => h e (List.mem_cons_of_mem _ he)
    refine ⟨o.toList ++ ys, st', ?_, i1, ?_, fun z hz => ?_⟩
    · rw [compL_step, e1]
      simp only [ocB, e, b_ok]
      cases o <;> simp
    · cases o <;> simp <;> omega
    · rcases List.mem_append.mp hz with hz | hz
      · exact h2 z (by simpa using hz)
      · exact i3 z hz
/-- without a test: as many as walked -/
theorem compL_drn {g : D → AE → R Unit} {t : AE → R Bool} {re : AE → R D} {vs : List Nat} {Inv : List Ob → Prop} {V : β → Prop} {f : β → D} (w : List Sl) : ∀ (l : List D) (st : List Ob), Inv st →
    (∀ d ∈ l, ∀ st, Inv st → ∃ (b : β) (st2 : List Ob), stG t re vs (g d ⟨w, st⟩) = Oc.ok (some (f b)) w st2 ∧ Inv st2 ∧ V b) →
    ∃ (bs : List β) (st' : List Ob), compL g t re vs l ⟨w, st⟩ = .ok (bs.map f) ⟨w, st'⟩ ∧ Inv st' ∧ bs.length = l.length ∧ ∀ y ∈ bs, V y
  | [], st, hi, _ => ⟨[], st, rfl, hi, by simp, by simp⟩
  | d :: ds, st, hi, h => by
    obtain ⟨o, st2, e1, h1, h2⟩ := h d (List.mem_cons_self ..) st hi
    obtain ⟨ys, st', e, i1, i2, i3⟩ := compL_drn w ds st2 h1 fun e he => h e (List.mem_cons_of_mem _ he)
    refine ⟨o :: ys, st', ?_, i1, by simp [i2], fun z hz => ?_⟩
    · rw [compL_step, e1]
      simp only [ocB, e, b_ok]
      simp
    · rcases List.mem_cons.mp hz with e | hz
      · rw [e]; exact h2
      · exact i3 z hz
@[simp] theorem rngD_len (a : Int) (n : Nat) : (rngD a n).length = n := nr (by simp [rngD])
end
end Mi

/-! raise, try, evaluated by simp -/
namespace Mi
open PySem PySem.Spec PyProof.Rows L2
section
variable {E : Ev} {sl : List Sl} {st : List Ob} {ρ : AE}
@[simp] theorem dInt_bl (b : Bool) : dInt [.bl b] = some (.int (if b = true then 1 else 0)) := nr rfl
@[simp] theorem isOk_ok (d : D) (st : List Ob) : isOk (.ok d st) = true := nr rfl
def raiseR (c : Nat) (r : R (List D)) : R Fl := r.bind fun ds ρ1 => if ds.length ≤ 900 then .exc c ds.reverse ρ1 else .bad
@[simp] theorem raiseR_ok (c : Nat) (ds : List D) (ρ : AE) : raiseR c (.ok ds ρ) = if ds.length ≤ 900 then .exc c ds.reverse ρ else .bad := nr rfl
@[simp] theorem evS_raise (c : Nat) (l : L) : evS E (.raise_ c l) ⟨sl, st⟩ = if isOk (E.fn 1000000 [] []) = true then raiseR c (evL E l ⟨sl, st⟩) else .bad := nr (by simp only [evS, rRaise]; rfl)
def hbR (o : Option D) (ρ : AE) : R Fl := match o with | some d => .ok (.ret d) ρ | none => .bad
@[simp] theorem hbR_some (d : D) (ρ : AE) : hbR (some d) ρ = .ok (.ret d) ρ := nr rfl
@[simp] theorem hbR_ite (c : Prop) [Decidable c] (a b : Option D) (ρ : AE) : hbR (if c then a else b) ρ = if c then hbR a ρ else hbR b ρ := by split <;> rfl
def tryR (i : Option Nat) (l : List Nat) (h : HB) (r : R Fl) : R Fl := match r with
  | .exc c ds ρ1 => if l.contains c = true then (if inS i ρ1 = true then hbR (hB c ds h) ρ1 else .bad) else .exc c ds ρ1
  | r => r
@[simp] theorem tryR_ok (i : Option Nat) (l : List Nat) (h : HB) (f : Fl) (ρ : AE) : tryR i l h (.ok f ρ) = .ok f ρ := nr rfl
@[simp] theorem tryR_exc (i : Option Nat) (l : List Nat) (h : HB) (c : Nat) (ds : List D) (ρ1 : AE) : tryR i l h (.exc c ds ρ1) = if l.contains c = true then (if inS i ρ1 = true then hbR (hB c ds h) ρ1 else .bad) else .exc c ds ρ1 := nr rfl
@[simp] theorem tryR_ite (i : Option Nat) (l : List Nat) (h : HB) (c : Prop) [Decidable c] (a b : R Fl) : tryR i l h (if c then a else b) = if c then tryR i l h a else tryR i l h b := by split <;> rfl
@[simp] theorem evS_try (b : Ss) (k : Nat) (i : Option Nat) (l : List Nat) (h : HB) : evS E (.try_ b k i l h) ⟨sl, st⟩ = tryR i l h (evSs E b ⟨sl, st⟩) := by
  simp only [evS, rTry]
  generalize evSs E b ⟨sl, st⟩ = r
  cases r with
  | exc c ds ρ1 =>
    rfl
  | _ => rfl
def trysR (cl : List Hn) (r : R Fl) : R Fl := match r with
  | .exc c ds ρ1 => tryL cl c ds ρ1
  | r => r
@[simp] theorem trysR_ok (cl : List Hn) (f : Fl) (ρ : AE) : trysR cl (.ok f ρ) = .ok f ρ := nr rfl
@[simp] theorem trysR_exc (cl : List Hn) (c : Nat) (ds : List D) (ρ : AE) : trysR cl (.exc c ds ρ) = tryL cl c ds ρ := nr rfl
@[simp] theorem tryL_nil (c : Nat) (ds : List D) (ρ : AE) : tryL [] c ds ρ = .exc c ds ρ := nr rfl
@[simp] theorem tryL_cons (k i : Nat) (l : List Nat) (h : HB) (r : List Hn) (c : Nat) (ds : List D) (ρ : AE) : tryL ((k, i, l, h) :: r) c ds ρ = if l.contains c = true then (if inS (some i) ρ = true then hbR (hB c ds h) ρ else .bad) else tryL r c ds ρ := nr rfl
@[simp] theorem evS_tryM (b : Ss) (cl : List Hn) : evS E (.tryM b cl) ⟨sl, st⟩ = trysR cl (evSs E b ⟨sl, st⟩) := by
  simp only [evS, rTrys]
  generalize evSs E b ⟨sl, st⟩ = r
  cases r <;> rfl
@[simp] theorem inS_some (j : Nat) (sl : List Sl) (st : List Ob) : inS (some j) ⟨sl, st⟩ = decide (j < sl.length) := nr rfl
@[simp] theorem inS_none (ρ : AE) : inS none ρ = true := nr rfl
@[simp] theorem hB_ret (c : Nat) (ds : List D) (a : HE) : hB c ds (.ret a) = hE c ds a := nr (by simp only [hB])
def hIf (o : Option Bool) (a b : Option D) : Option D := match o with | some true => a | some false => b | none => none
@[simp] theorem hIf_some (q : Bool) (a b : Option D) : hIf (some q) a b = if q = true then a else b := by cases q <;> rfl
@[simp] theorem hB_if (c : Nat) (ds : List D) (t : HL) (a r : HB) : hB c ds (.if_ t a r) = hIf (hT c ds t) (hB c ds a) (hB c ds r) := by
  simp only [hB]
  cases hT c ds t with
  | none => rfl
  | some q => cases q <;> rfl
def hAt (o : Option Nat) (ds : List D) : Option D := match o with | some k => ds[k]? | none => none
@[simp] theorem hAt_some (k : Nat) (ds : List D) : hAt (some k) ds = ds[k]? := nr rfl
@[simp] theorem hE_attr (c : Nat) (ds : List D) (f : Str) (tb : List (Nat × Nat)) : hE c ds (.attr f tb) = hAt (tb.lookup c) ds := by
  simp only [hE]; cases List.lookup c tb <;> rfl
@[simp] theorem hE_str (c : Nat) (ds : List D) (s : Str) : hE c ds (.str s) = some (.str s) := nr (by simp only [hE])
@[simp] theorem hE_non (c : Nat) (ds : List D) : hE c ds .non = some .non := nr (by simp only [hE])
@[simp] theorem hE_isi (c : Nat) (ds : List D) (k : Nat) (cs : List Nat) : hE c ds (.isi k cs) = some (.bl (cs.contains c)) := nr (by simp only [hE])
@[simp] theorem hE_isv (c : Nat) (ds : List D) : hE c ds .isv = some (.bl true) := nr (by simp only [hE])
@[simp] theorem hE_tup (c : Nat) (ds : List D) (l : HL) : hE c ds (.tup l) = (hL c ds l).map .tup := nr (by simp only [hE])
@[simp] theorem hE_lst (c : Nat) (ds : List D) (l : HL) : hE c ds (.lst l) = (hL c ds l).map .lst := nr (by simp only [hE])
@[simp] theorem hE_ite (c : Nat) (ds : List D) (t : HL) (a b : HE) : hE c ds (.ite t a b) = hIf (hT c ds t) (hE c ds a) (hE c ds b) := by
  simp only [hE]
  cases hT c ds t with
  | none => rfl
  | some q => cases q <;> rfl
@[simp] theorem hL_nil (c : Nat) (ds : List D) : hL c ds .nil = some [] := nr (by simp only [hL])
def hCons (o : Option D) (l : Option (List D)) : Option (List D) := match o with | some d => l.map (d :: ·) | none => none
@[simp] theorem hCons_some (d : D) (l : Option (List D)) : hCons (some d) l = l.map (d :: ·) := nr rfl
@[simp] theorem hL_cons (c : Nat) (ds : List D) (a : HE) (l : HL) : hL c ds (.cons a l) = hCons (hE c ds a) (hL c ds l) := by
  simp only [hL]
  cases hE c ds a <;> rfl
@[simp] theorem hT_nil (c : Nat) (ds : List D) : hT c ds .nil = some true := nr (by simp only [hT])
def hAnd (o : Option D) (t : Option Bool) : Option Bool := match o with | some (.bl true) => t | some (.bl false) => some false | _ => none
@[simp] theorem hAnd_bl (q : Bool) (t : Option Bool) : hAnd (some (.bl q)) t = if q = true then t else some false := by cases q <;> rfl
@[simp] theorem hT_cons (c : Nat) (ds : List D) (a : HE) (l : HL) : hT c ds (.cons a l) = hAnd (hE c ds a) (hT c ds l) := by
  simp only [hT]
  cases hE c ds a with
  | none => rfl
  | some d =>
    cases d with
    | bl q => cases q <;> rfl
    | _ => rfl
end
end Mi

/-! rules for dicts whose keys are tuples -/
namespace Mi
open PySem PySem.Spec PyProof.Rows L2
section
variable {E : Ev} {sl : List Sl} {st : List Ob}
@[simp] theorem ev_newT : ev E .newT ⟨sl, st⟩ = .ok (.dit [] []) ⟨sl, st⟩ := nr (by simp only [ev, rNewT])
@[simp] theorem evS_put (i : Nat) (j c : C) : evS E (.put i j c) ⟨sl, st⟩ = (ev E c ⟨sl, st⟩).bind fun d ρ1 => if isOwnT ρ1 i = true then (ev E j ρ1).bind fun k ρ2 => updOwn i (putD k d) ρ2 else .bad := nr (by simp only [evS, rPut])
@[simp] theorem dIn_dit (l ks us : List D) : dIn (.tup l) (.dit ks us) = (keyN (.tup l)).map fun κ => .bl (hasK ks κ) := nr rfl
@[simp] theorem dNotIn_dit (l ks us : List D) : dNotIn (.tup l) (.dit ks us) = (keyN (.tup l)).map fun κ => .bl (!hasK ks κ) := nr rfl
@[simp] theorem dLen_dit (ks us : List D) : dLen [.dit ks us] = some (.int ks.length) := nr rfl
@[simp] theorem dList_dit (ks us : List D) : dList [.dit ks us] = some (.lst ks) := nr rfl
@[simp] theorem seqD_dit (ks us : List D) : seqD (.dit ks us) = some ks := nr rfl
@[simp] theorem dIx_dit (ks us : List D) (k : D) : dIx (.dit ks us) k = (keyN k).bind fun κ => lookK ks us κ := nr rfl
@[simp] theorem ixR_dit (ks us : List D) (y : D) (ρ : AE) : ixR (.dit ks us) y ρ = ofO (dIx (.dit ks us) y) ρ := nr rfl
@[simp] theorem isOwnT_mk (i : Nat) : isOwnT ⟨sl, st⟩ i = (match sl[i]? with | some (.own (.dit _ _)) => true | _ => false) := nr rfl
end
/-- a computed check that the rules work: d = {}; d[(1, 2)] = True; d[(1, 2)] = False; (1, 2) in d, len(d), d[(1, 2)] -/
theorem e6_try : evSs ⟨fun _ _ _ => .bad, []⟩ (.cons (.own 0 .newT) (.cons (.put 0 (.tup (.cons (.int 1) (.cons (.int 2) .nil))) (.bl true)) (.cons (.put 0 (.tup (.cons (.int 1) (.cons (.int 2) .nil))) (.bl false)) (.cons (.ret (.lst (.cons (.cmp .In (.tup (.cons (.int 1) (.cons (.int 2) .nil))) (.varB 0)) (.cons (.bi .len (.cons (.varB 0) .nil)) (.cons (.ix (.varB 0) (.tup (.cons (.int 1) (.cons (.int 2) .nil)))) .nil))))) .nil)))) ⟨[.none], []⟩ =
  .ok (.ret (.lst [.bl true, .int 1, .bl false])) ⟨[.own (.dit [.tup [.int 1, .int 2]] [.bl false])], []⟩ := by kernel_rfl
end Mi

/-! rules for dicts with int and text keys, displays, dict comprehensions -/
namespace Mi
open PySem PySem.Spec PyProof.Rows L2
section
variable {E : Ev} {sl : List Sl} {st : List Ob}
@[simp] theorem ev_newI : ev E .newI ⟨sl, st⟩ = .ok (.dik [] []) ⟨sl, st⟩ := nr (by simp only [ev, rNewI])
@[simp] theorem ev_dspD (kk : List Key) (l : L) : ev E (.dspD kk l) ⟨sl, st⟩ = (evL E l ⟨sl, st⟩).bind fun ds ρ1 => .ok (.dik (kk.map dK) ds) ρ1 := nr (by simp only [ev, rDspD])
@[simp] theorem ev_dict (l : L) : ev E (.dict l) ⟨sl, st⟩ = (evL E l ⟨sl, st⟩).bind fun ds ρ1 => ofO (dDict ds) ρ1 := nr (by simp only [ev, rOpn])
@[simp] theorem evS_putI (i : Nat) (j c : C) : evS E (.putI i j c) ⟨sl, st⟩ = (ev E c ⟨sl, st⟩).bind fun d ρ1 => if isOwnI ρ1 i = true then (ev E j ρ1).bind fun k ρ2 => updOwn i (putI k d) ρ2 else .bad := nr (by simp only [evS, rPutI])
theorem evS_ownDc {i : Nat} {k : Bool} {kx vx : C} {own : List (Str × Nat)} {tg : Tg} {it : I} {t : Ts} {l : List D} {d : D} {sl1 sl2 : List Sl} {st1 st2 : List Ob} (h1 : evI E it ⟨sl, st⟩ = .ok l ⟨sl1, st1⟩) (h2 : okV (own.map (·.2)) ⟨sl1, st1⟩ = true)
    (h3 : dcL (putB k) (evG tg) (evTs E t) (ev E kx) (ev E vx) (own.map (·.2)) l (d0B k) (wipeA (own.map (·.2)) ⟨sl1, st1⟩) = .ok d ⟨sl2, st2⟩) :
    evS E (.ownDc i k kx vx own tg it t) ⟨sl, st⟩ = rOwn i (fun ρ => .ok d (unl it.bi ⟨sl, st⟩ ⟨sl1, st1⟩ (restA (own.map (·.2)) ⟨sl1, st1⟩ ⟨sl2, st2⟩))) ⟨sl, st⟩ := by
  simp only [evS]
  show (rDc (putB k) (d0B k) it.bi (evI E it) (own.map (·.2)) (evG tg) (evTs E t) (ev E kx) (ev E vx) ⟨sl, st⟩).bind _ = _
  unfold rDc
  rw [h1]
  show R.bind (if okV (own.map (·.2)) ⟨sl1, st1⟩ = true then _ else _) _ = _
  rw [if_pos h2]
  have := h3
  unfold wipeA at *
  rw [h3]; rfl
@[simp] theorem ev_srt (c : C) : ev E (.srt c) ⟨sl, st⟩ = (ev E c ⟨sl, st⟩).bind fun x ρ1 => ofO (dSortSet x) ρ1 := nr (by simp only [ev, rSrt, rOp1])
@[simp] theorem ev_lenO (c : C) : ev E (.lenO c) ⟨sl, st⟩ = (ev E c ⟨sl, st⟩).bind fun d ρ1 => match lstO ρ1.st d with
  | some l => .ok (.int l.length) ρ1
  | none => .bad := nr (by simp only [ev]; rfl)
@[simp] theorem evI_rng3 (a b c : C) : evI E (.rng3 a b c) ⟨sl, st⟩ = rRng3 (rCons (ev E a) (rCons (ev E b) (rCons (ev E c) rNil))) ⟨sl, st⟩ := nr (by simp only [evI])
@[simp] theorem dLen_dik (ks us : List D) : dLen [.dik ks us] = some (.int ks.length) := nr rfl
@[simp] theorem dIx_dik (ks us : List D) (k : D) : dIx (.dik ks us) k = (keyD k).bind fun q => lookI ks us q := nr rfl
@[simp] theorem ixR_dik (ks us : List D) (y : D) (ρ : AE) : ixR (.dik ks us) y ρ = ofO (dIx (.dik ks us) y) ρ := nr rfl
@[simp] theorem isOwnI_mk (i : Nat) : isOwnI ⟨sl, st⟩ i = (match sl[i]? with | some (.own (.dik _ _)) => true | _ => false) := nr rfl
@[simp] theorem keyD_int (i : Int) : keyD (.int i) = some (.inl i) := nr rfl
@[simp] theorem keyD_str (s : Str) : keyD (.str s) = some (.inr s) := nr rfl
@[simp] theorem dK_inl (i : Int) : dK (.inl i) = .int i := nr rfl
@[simp] theorem dK_inr (s : Str) : dK (.inr s) = .str s := nr rfl
@[simp] theorem lookI_cons (k u : D) (ks us : List D) (q : Key) : lookI (k :: ks) (u :: us) q = if keyD k = some q then some u else lookI ks us q := nr rfl
@[simp] theorem lookI_nil (us : List D) (q : Key) : lookI [] us q = none := nr (by cases us <;> rfl)
@[simp] theorem hasI_cons (k : D) (ks : List D) (q : Key) : hasI (k :: ks) q = (decide (keyD k = some q) || hasI ks q) := nr rfl
@[simp] theorem hasI_nil (q : Key) : hasI [] q = false := nr rfl
end
/-- d = {4: "kind"}; d[4], 4 in d; {(x, x): True for x in range(2)} -/
theorem e7_try : evSs ⟨fun _ _ _ => .bad, []⟩ (.cons (.own 0 (.dspD [.inl 4] (.cons (.str "kind") .nil))) (.cons (.ownDc 1 false (.tup (.cons (.var 2) (.cons (.var 2) .nil))) (.bl true) [("x", 2)] (.name 2) (.rng1 (.int 2)) .nil) (.cons (.ret (.lst (.cons (.ix (.varB 0) (.int 4)) (.cons (.cmp .In (.int 4) (.varB 0)) (.cons (.list (.cons (.varB 1) .nil)) .nil))))) .nil))) ⟨[.none, .none, .none], []⟩ =
  .ok (.ret (.lst [.str "kind", .bl true, .lst [.tup [.int 0, .int 0], .tup [.int 1, .int 1]]])) ⟨[.own (.dik [.int 4] [.str "kind"]), .own (.dit [.tup [.int 0, .int 0], .tup [.int 1, .int 1]] [.bl true, .bl true]), .none], []⟩ := by kernel_rfl
end Mi

namespace Mi
open PySem PySem.Spec PyProof.Rows L2
@[simp] theorem prb (k : Nat) : isOk (run fs gl (k + 2) 1000000 [] []) = true := by
  have q : fs.lookup 1000000 = none := rfl
  simp [run, q]
end Mi

namespace Mi
open PySem PySem.Spec PyProof.Rows L2
/-- the stream -/
def SOk (st : List Ob) : Prop := ∃ (ns : List Int) (a b : Int), st = [.lst [.lst (ns.map D.int), .int a, .int b]] ∧ 0 ≤ a ∧ 0 ≤ b
def putO (n : Nat) (jd d : D) (ρ2 : AE) : R Fl := match jd with
  | .int j => updOb n (setD j d) ρ2
  | _ => .bad
@[simp] theorem putO_eq (ns a b : D) (i : Int) (d : D) (sl : List Sl) : putO 0 (.int i) d ⟨sl, [.lst [ns, a, b]]⟩ = (match ixN 3 i with
  | some k => .ok .next ⟨sl, [.lst ([ns, a, b].set k d)]⟩
  | none => .bad) := by
  simp [putO, updOb, setD]
  cases ixN 3 i <;> rfl
def setOR (E : Ev) (i : Nat) (j : C) (d : D) (ρ1 : AE) : R Fl := match obAt ρ1 i with
  | some n => (ev E j ρ1).bind fun jd ρ2 => putO n jd d ρ2
  | none => .bad
@[simp] theorem evS_setO (E : Ev) (i : Nat) (j c : C) (sl : List Sl) (st : List Ob) : evS E (.setO i j c) ⟨sl, st⟩ = (ev E c ⟨sl, st⟩).bind fun d ρ1 => setOR E i j d ρ1 := by
  exact nr (by simp only [evS, rSetO]; rfl)
@[simp] theorem setOR_eq (E : Ev) (j : C) (d : D) (n : Nat) (sl : List Sl) (st : List Ob) : setOR E 0 j d ⟨.val (.obj n) :: sl, st⟩ = (ev E j ⟨.val (.obj n) :: sl, st⟩).bind fun jd ρ2 => putO n jd d ρ2 := nr rfl
@[simp] theorem ixR_obj (ns a b : D) (y : D) (sl : List Sl) : ixR (.obj 0) y ⟨sl, [.lst [ns, a, b]]⟩ = ofO (dIx (.lst [ns, a, b]) y) ⟨sl, [.lst [ns, a, b]]⟩ := nr rfl
@[simp] theorem ixN31 : ixN 3 1 = some 1 := by decide
@[simp] theorem ixN32 : ixN 3 2 = some 2 := by decide
theorem tail10 (k : Nat) (ns : D) (a b m : Int) (s2 s3 s4 : Sl) (hs : isBorO (some s2) = false) (hm : 0 < m) (hm2 : m < 1073741824) : 
   evSs ⟨run fs gl k, gl⟩ (match F10.body with | .cons _ l => l | _ => .nil) ⟨[.val (.obj 0), .val (.int m), s2, s3, s4], [.lst [ns, .int a, .int b]]⟩ = .ok (.ret (.int (a % m))) ⟨[.val (.obj 0), .val (.int m), .val (.int (a % m)), s3, s4], [.lst [ns, .int (a / m), .int b]]⟩ := by
  simp [F10, hs, dMod, dFdiv, hm, hm2]

theorem fit (i j : Int) (h : (-big < i ∧ i < big) ∨ (-big < j ∧ j < big)) : dMul (.int i) (.int j) = some (.int (i * j)) := if_pos h
theorem head10 (k : Nat) (ns : List Int) (a b m : Int) (ha : 0 ≤ a) (hb : 0 ≤ b) : ∃ (s3 s4 : Sl) (a' b' : Int), 0 ≤ a' ∧ 0 ≤ b' ∧
   evS ⟨run fs gl k, gl⟩ (match F10.body with | .cons s _ => s | _ => .pass) ⟨[.val (.obj 0), .val (.int m), .none, .none, .none], [.lst [.lst (ns.map D.int), .int a, .int b]]⟩ = .ok .next ⟨[.val (.obj 0), .val (.int m), .none, s3, s4], [.lst [.lst (ns.map D.int), .int a', .int b']]⟩ := by
  by_cases h0 : a = 0
  · subst h0
    -- the cell
    have cell : ∀ (c : Int), 0 ≤ c → ∃ s4 a', 0 ≤ a' ∧ evSs ⟨run fs gl k, gl⟩ (match F10.body with | .cons (.if_ _ (.cons _ (.cons _ (.cons _ l))) _) _ => l | _ => .nil) ⟨[.val (.obj 0), .val (.int m), .none, .val (.int b), .val (.int c)], [.lst [.lst (ns.map D.int), .int 0, .int b]]⟩ = .ok .next ⟨[.val (.obj 0), .val (.int m), .none, .val (.int b), s4], [.lst [.lst (ns.map D.int), .int a', .int (b + 1)]]⟩ := by
      intro c hc
      have hp : dPow (.int 10) (.int 18) = some (.int 1000000000000000000) := by rfl
      have hmod : ∀ x : Int, dMod (.int x) (.int 2147483647) = some (.int (x % 2147483647)) := fun x => rfl
      by_cases hl : c < 1000000000000000000
      · have e1 := fit c 48271 (.inr (by decide))
        have e2 := fit b 69621 (.inr (by decide))
        refine ⟨.val (.int (((c * 48271 + b * 69621 + 11) % 2147483647 * 16807 + 13) % 2147483647 * 65537 + (c * 48271 + b * 69621 + 11) % 2147483647)), ((c * 48271 + b * 69621 + 11) % 2147483647 * 16807 + 13) % 2147483647 * 65537 + (c * 48271 + b * 69621 + 11) % 2147483647, ?_, ?_⟩
        rotate_left
        · simp [F10, hp, hl, e1, e2, hmod, fit _ 16807 (.inr (by decide)), fit _ 65537 (.inr (by decide))]
        · have h1 := Int.emod_nonneg ((c * 48271 + b * 69621 + 11) % 2147483647 * 16807 + 13) (show (2147483647 : Int) ≠ 0 by decide)
          have h2 := Int.emod_nonneg (c * 48271 + b * 69621 + 11) (show (2147483647 : Int) ≠ 0 by decide)
          omega
      · exact ⟨.val (.int c), c, hc, by simp [F10, hp, hl]⟩
    by_cases hl : b < (ns.length : Int)
    · obtain ⟨n, hn⟩ : ∃ n, ns[b.toNat]? = some n := ⟨_, List.getElem?_eq_getElem (by omega)⟩
      have hat : atI (ns.map D.int) b = some (.int n) := by
        have := atI_nat (ns.map D.int) b.toNat
        rw [show ((b.toNat : Nat) : Int) = b by omega] at this
        rw [this, List.getElem?_map, hn]; rfl
      obtain ⟨s4, a', h1, h2⟩ := cell (if n < 0 then -n else n) (by split <;> omega)
      refine ⟨.val (.int b), s4, a', b + 1, h1, by omega, ?_⟩
      simp [F10] at h2
      simp [F10, hl, hat]
      exact h2
    · obtain ⟨s4, a', h1, h2⟩ := cell (7 + b) (by omega)
      refine ⟨.val (.int b), s4, a', b + 1, h1, by omega, ?_⟩
      simp [F10] at h2
      simp [F10, hl]
      exact h2
  · exact ⟨.none, .none, a, b, ha, hb, by simp [F10, h0]⟩
theorem r10 (k : Nat) (m : Int) (st : List Ob) (h : SOk st) (hm : 0 < m) (hm2 : m < 1073741824) : ∃ (d : Int) (st' : List Ob), run fs gl (k + 1) 10 [.val (.obj 0), .val (.int m)] st = .ok (.int d) st' ∧ 0 ≤ d ∧ d < m ∧ SOk st' := by
  obtain ⟨ns, a, b, rfl, ha, hb⟩ := h
  obtain ⟨s3, s4, a', b', h1, h2, e⟩ := head10 k ns a b m ha hb
  refine ⟨a' % m, _, ?_, Int.emod_nonneg _ (by omega), Int.emod_lt_of_pos _ hm, ⟨ns, a' / m, b', rfl, Int.ediv_nonneg h1 (by omega), h2⟩⟩
  rw [runU (f := F10) rfl]
  have t := tail10 k (.lst (ns.map D.int)) a' b' m .none s3 s4 rfl hm hm2
  have p : pad F10.N.length [Sl.val (.obj 0), Sl.val (.int m)] = [.val (.obj 0), .val (.int m), .none, .none, .none] := by simp [F10, pad]
  rw [p]
  show resOf (evSs _ (.cons _ _) _) = _
  rw [evSs_cons]
  have e' := e
  simp only [F10] at e' t
  rw [e']
  simp only [b_ok, sq_next]
  rw [t]
  rfl
end Mi

namespace Mi
open PySem PySem.Spec PyProof.Rows L2
@[simp] theorem newO_eq (l : List D) (sl : List Sl) (st : List Ob) : newO l ⟨sl, st⟩ = if l.length ≤ many then .ok (.obj st.length) ⟨sl, st ++ [.lst l]⟩ else .bad := nr rfl
theorem r9 (k : Nat) (l : List D) : run fs gl (k + 1) 9 [.val (.lst l)] [] = .ok (.obj 0) [.lst [.lst l, .int 0, .int 0]] := by
  rw [runU (f := F9) rfl]
  simp [F9, pad, many]
mutual
/-- the same plain value -/
def same : D → D → Bool
  | .non, .non => true
  | .bl a, .bl b => a == b
  | .int a, .int b => decide (a = b)
  | .str a, .str b => decide (a = b)
  | .tup a, .tup b => sames a b
  | .lst a, .lst b => sames a b
  | _, _ => false
def sames : List D → List D → Bool
  | [], [] => true
  | a :: as, b :: bs => same a b && sames as bs
  | _, _ => false
end
theorem sames_len : ∀ {a b : List D}, a.length ≠ b.length → sames a b = false
  | [], [], h => absurd rfl h
  | [], _ :: _, _ => by simp [sames]
  | _ :: _, [], _ => by simp [sames]
  | a :: as, b :: bs, h => by simp [sames, sames_len (show as.length ≠ bs.length by simpa using h)]
mutual
/-- plain, and no longer than the longest display -/
def tame : D → Bool
  | .tup l => decide (l.length ≤ many) && tames l
  | .lst l => decide (l.length ≤ many) && tames l
  | .non => true
  | .bl _ => true
  | .int _ => true
  | .str _ => true
  | .dik _ _ => false
  | .dit _ _ => false
  | .obj _ => false
def tames : List D → Bool
  | [] => true
  | d :: ds => tame d && tames ds
end
theorem tames_get : ∀ {l : List D} {i : Nat} {d : D}, tames l = true → l[i]? = some d → tame d = true
  | [], i, d, _, h => by simp at h
  | x :: l, 0, d, h, e => by simp [tames] at h e; exact e ▸ h.1
  | x :: l, i + 1, d, h, e => by simp [tames] at h e; exact tames_get h.2 e
theorem purs_get : ∀ {l : List D} {i : Nat} {d : D}, purs l = true → l[i]? = some d → pur d = true
  | [], i, d, _, h => by simp at h
  | x :: l, 0, d, h, e => by simp at h e; exact e ▸ h.1
  | x :: l, i + 1, d, h, e => by simp at h e; exact purs_get h.2 e
theorem deps_get : ∀ {l : List D} {i : Nat} {d : D}, l[i]? = some d → dep d ≤ deps l
  | [], i, d, h => by simp at h
  | x :: l, 0, d, e => by simp at e; subst e; simp only [deps]; omega
  | x :: l, i + 1, d, e => by have := deps_get (l := l) (i := i) (d := d) (by simpa using e); simp only [deps]; omega
def atF (m l : List D) (i : Nat) : Bool := match m[i]?, l[i]? with
  | some x, some y => same x y
  | _, _ => false
theorem all_atF : ∀ (m l : List D), m.length = l.length → (List.range l.length).all (atF m l) = sames m l
  | [], [], _ => by simp [sames]
  | [], _ :: _, h => by simp at h
  | _ :: _, [], h => by simp at h
  | x :: m, y :: l, h => by
    have ih := all_atF m l (by simpa using h)
    rw [List.length_cons, List.range_succ_eq_map, List.all_cons, List.all_map]
    simp only [sames]
    rw [← ih]
    rfl
mutual
theorem tame_pur : ∀ (d : D), tame d = true → pur d = true
  | .non, _ => by simp
  | .bl _, _ => by simp
  | .int _, _ => by simp
  | .str _, _ => by simp
  | .tup l, h => by simp only [tame, Bool.and_eq_true] at h; simp [tames_purs l h.2]
  | .lst l, h => by simp only [tame, Bool.and_eq_true] at h; simp [tames_purs l h.2]
  | .dik _ _, h => by simp [tame] at h
  | .dit _ _, h => by simp [tame] at h
  | .obj _, h => by simp [tame] at h
theorem tames_purs : ∀ (l : List D), tames l = true → purs l = true
  | [], _ => by simp
  | d :: l, h => by simp only [tames, Bool.and_eq_true] at h; simp [tame_pur d h.1, tames_purs l h.2]
end
def atD (m l : List D) (d : D) : D := match d with
  | .int i => .bl (atF m l i.toNat)
  | _ => .non
theorem rng_at (m l : List D) (n : Nat) : (rngD 0 n).map (atD m l) = (List.range n).map fun i => .bl (atF m l i) := by
  simp only [rngD, List.map_map]
  apply List.map_congr_left
  intro i _
  simp [atD]
/-- _law_equal's walk -/
theorem walk12 (k j : Nat) (x y : D) (m l : List D) (st : List Ob) (hx : ∀ i : Int, ixR x (.int i) = fun ρ => ofO (atI m i) ρ) (hy : ∀ i : Int, ixR y (.int i) = fun ρ => ofO (atI l i) ρ) (hl : dLen [y] = some (.int l.length)) (hm : m.length = l.length) (hs : l.length ≤ many)
    (ih : ∀ (i : Nat) (a b : D), m[i]? = some a → l[i]? = some b → ∀ st, run fs gl (k + 1) 12 [.val a, .val b] st = .ok (.bl (same a b)) st) :
    ev ⟨run fs gl (k + 1), gl⟩ (.comp (.call 12 (.val (.ix (.varB 0) (.varB 2)) (.val (.ix (.varB 1) (.varB 2)) .nil))) [("_law_at", 2)] (.name 2) (.rng1 (.bi .len (.cons (.varB 1) .nil))) .nil) ⟨[.val x, .val y, .none], st⟩ = .ok (.lst ((List.range l.length).map fun i => .bl (atF m l i))) ⟨[.val x, .val y, .none], st⟩ := by
  rw [ev_comp (l := rngD 0 l.length) (ys := (rngD 0 l.length).map (atD m l)) (st' := st) (sl1 := [.val x, .val y, .none]) (by
    simp [hl, sml]
    exact hs) rfl ?_, rng_at]
  · rfl
  · have := compL_map (g := evG (.name 2)) (t := evTs ⟨run fs gl (k + 1), gl⟩ .nil) (re := ev ⟨run fs gl (k + 1), gl⟩ (.call 12 (.val (.ix (.varB 0) (.varB 2)) (.val (.ix (.varB 1) (.varB 2)) .nil)))) (vs := [2]) (w := [.val x, .val y, .none]) (st := st) (F := atD m l) (p := fun _ => true) (rngD 0 l.length) (fun d hd => ?_)
    · rw [List.filter_eq_self.mpr (by simp)] at this
      exact this
    · simp only [rngD, List.mem_map, List.mem_range] at hd
      obtain ⟨i, hi, rfl⟩ := hd
      obtain ⟨a, ea⟩ : ∃ a, m[i]? = some a := ⟨_, List.getElem?_eq_getElem (by omega)⟩
      obtain ⟨b, eb⟩ : ∃ b, l[i]? = some b := ⟨_, List.getElem?_eq_getElem hi⟩
      have e1 : atI m (i : Int) = some a := by rw [atI_nat, ea]
      have e2 : atI l (i : Int) = some b := by rw [atI_nat, eb]
      refine ⟨[.val x, .val y, .val (.int (0 + i))], by simp, [.val x, .val y, .val (.int (0 + i))], by simp, by simp, fun _ => ⟨[.val x, .val y, .val (.int (0 + i))], ?_, rfl⟩⟩
      simp [hx, hy, e1, e2, ih i a b ea eb, atD, atF, ea, eb]
theorem same_non (d : D) (h : pur d = true) : same d .non = (match d with | .non => true | _ => false) := by cases d <;> first | (cases h; done) | simp [same]
end Mi

namespace Mi
open PySem PySem.Spec PyProof.Rows L2
def inR (v : D) (lo hi : Int) : Bool := match v with
  | .int i => decide (lo ≤ i) && decide (i ≤ hi)
  | _ => false
theorem r0 (k : Nat) (v : D) (lo hi : Int) (st : List Ob) (hv : pur v = true) : run fs gl (k + 1) 0 [.val v, .val (.int lo), .val (.int hi)] st = .ok (.bl (inR v lo hi)) st := by
  rw [runU (f := F0) rfl]
  cases v <;> first | cases hv | skip
  all_goals simp [F0, pad, inR]
  split <;> simp [*]
def isSig : D → Bool
  | .tup [a, b] => inR a 1 4 && inR b 0 2
  | _ => false
theorem r1 (k : Nat) (v : D) (st : List Ob) (hv : pur v = true) : run fs gl (k + 2) 1 [.val v] st = .ok (.bl (isSig v)) st := by
  rw [runU (f := F1) rfl]
  cases v with
  | tup l =>
    match l, hv with
    | [], _ => simp [F1, pad, isSig]
    | [a], _ => simp [F1, pad, isSig]
    | [a, b], hv =>
      have ha : pur a = true := by simp at hv; exact hv.1
      have hb : pur b = true := by simp at hv; exact hv.2
      simp [F1, pad, isSig, r0, ha, hb]
      cases inR a 1 4 <;> simp
    | a :: b :: c :: r, _ => simp [F1, pad, isSig, show ¬ ((r.length : Int) + 1 + 1 + 1 = 2) by omega]
  | _ => first | (cases hv; done) | simp [F1, pad, isSig]
def isQua : D → Bool
  | .str s => decide (s = "all") || decide (s = "some")
  | _ => false
theorem dIn_tup (x : D) (l : List D) (hx : pur x = true) (hl : purs l = true) (hd : dep x ≤ 64) : dIn x (.tup l) = some (.bl (inD x l)) := by
  cases x <;> simp only [dIn] <;> exact if_pos (nearIn_iff.mpr ⟨hx, hl, by omega⟩)
theorem dIn_lst (x : D) (l : List D) (hx : pur x = true) (hl : purs l = true) (hd : dep x ≤ 64) : dIn x (.lst l) = some (.bl (inD x l)) := by
  cases x <;> simp only [dIn] <;> exact if_pos (nearIn_iff.mpr ⟨hx, hl, by omega⟩)
@[simp] theorem dIn_str_tup (s : Str) (l : List D) : dIn (.str s) (.tup l) = if purs l = true then some (.bl (inD (.str s) l)) else none := by
  by_cases h : purs l = true
  · rw [if_pos h, dIn_tup _ _ (by simp) h (by simp [dep])]
  · rw [if_neg h]; simp only [dIn]; exact if_neg fun z => h (nearIn_iff.mp z).2.1
@[simp] theorem inD_nil (x : D) : inD x [] = false := nr rfl
@[simp] theorem inD_cons (x y : D) (l : List D) : inD x (y :: l) = (eqD y x || inD x l) := nr rfl
@[simp] theorem eqD_str (s t : Str) : eqD (.str s) (.str t) = decide (s = t) := by
  by_cases h : s = t <;> simp [eqD, h]
theorem r2 (k : Nat) (v : D) (st : List Ob) (hv : pur v = true) : run fs gl (k + 1) 2 [.val v] st = .ok (.bl (isQua v)) st := by
  rw [runU (f := F2) rfl]
  cases v <;> first | (cases hv; done) | simp [F2, pad, isQua, eq_comm]
theorem r3 (k : Nat) (n m : Int) (v : D) (st : List Ob) (hv : pur v = true) : run fs gl (k + 2) 3 [.val (.tup [.int n, .int m]), .val v] st = .ok (.bl (inR v 0 (n - 1))) st := by
  rw [runU (f := F3) rfl]
  simp [F3, pad, r0, hv]
theorem r4 (k : Nat) (n m : Int) (v : D) (st : List Ob) (hv : pur v = true) : run fs gl (k + 2) 4 [.val (.tup [.int n, .int m]), .val v] st = .ok (.bl (inR v 0 (m - 1))) st := by
  rw [runU (f := F4) rfl]
  simp [F4, pad, r0, hv]
end Mi

namespace Mi
open PySem PySem.Spec PyProof.Rows L2
def isVerbS (n m : Int) : List D → Bool
  | [_, a, b, c, d, e, f, g] => isQua a && isQua f && isBlD c && isBlD e && inR d 0 (m - 1) && inR b 0 (n - 1) && inR g 0 (n - 1)
  | _ => false
def isSelfS (n m : Int) : List D → Bool
  | [_, a, b, c, d] => isQua a && isBlD c && inR b 0 (n - 1) && inR d 0 (m - 1)
  | _ => false
theorem len8 {l : List D} (h : l.length = 8) : ∃ a0 a1 a2 a3 a4 a5 a6 a7, l = [a0, a1, a2, a3, a4, a5, a6, a7] := by
  match l, h with
  | [a0, a1, a2, a3, a4, a5, a6, a7], _ => exact ⟨a0, a1, a2, a3, a4, a5, a6, a7, rfl⟩
theorem len5 {l : List D} (h : l.length = 5) : ∃ a0 a1 a2 a3 a4, l = [a0, a1, a2, a3, a4] := by
  match l, h with
  | [a0, a1, a2, a3, a4], _ => exact ⟨a0, a1, a2, a3, a4, rfl⟩
theorem len3 {l : List D} (h : l.length = 3) : ∃ a0 a1 a2, l = [a0, a1, a2] := by
  match l, h with
  | [a0, a1, a2], _ => exact ⟨a0, a1, a2, rfl⟩
theorem isVerbS_len {n m : Int} {l : List D} (h : l.length ≠ 8) : isVerbS n m l = false := by
  unfold isVerbS; split
  · exact absurd rfl h
  · rfl
theorem isSelfS_len {n m : Int} {l : List D} (h : l.length ≠ 5) : isSelfS n m l = false := by
  unfold isSelfS; split
  · exact absurd rfl h
  · rfl
theorem isBl_of {d : D} (h : pur d = true) : dIsi "bool" d = some (.bl (isBlD d)) := by cases d <;> first | (cases h; done) | rfl
theorem r5 (k : Nat) (n m : Int) (l : List D) (st : List Ob) (hv : purs l = true) : run fs gl (k + 3) 5 [.val (.tup [.int n, .int m]), .val (.tup l)] st = .ok (.bl (isVerbS n m l)) st := by
  rw [runU (f := F5) rfl]
  by_cases hl : l.length = 8
  · obtain ⟨a0, a1, a2, a3, a4, a5, a6, a7, rfl⟩ := len8 hl
    simp only [purs_cons, purs_nil, Bool.and_eq_true, Bool.and_true] at hv
    obtain ⟨h0, h1, h2, h3, h4, h5, h6, h7⟩ := hv
    simp [F5, pad, r2, r3, r4, h1, h2, h4, h6, h7, isBl_of h3, isBl_of h5, isVerbS]
    cases isQua a1 <;> cases isQua a6 <;> cases isBlD a3 <;> cases isBlD a5 <;> cases inR a4 0 (m - 1) <;> cases inR a2 0 (n - 1) <;> simp
  · rw [isVerbS_len hl]
    simp [F5, pad, show ¬ ((l.length : Int) = 8) by omega]
theorem r6 (k : Nat) (n m : Int) (l : List D) (st : List Ob) (hv : purs l = true) : run fs gl (k + 3) 6 [.val (.tup [.int n, .int m]), .val (.tup l)] st = .ok (.bl (isSelfS n m l)) st := by
  rw [runU (f := F6) rfl]
  by_cases hl : l.length = 5
  · obtain ⟨a0, a1, a2, a3, a4, rfl⟩ := len5 hl
    simp only [purs_cons, purs_nil, Bool.and_eq_true, Bool.and_true] at hv
    obtain ⟨h0, h1, h2, h3, h4⟩ := hv
    simp [F6, pad, r2, r3, r4, h1, h2, h4, isBl_of h3, isSelfS]
    cases isQua a1 <;> cases isBlD a3 <;> cases inR a4 0 (m - 1) <;> cases inR a2 0 (n - 1) <;> simp
  · rw [isSelfS_len hl]
    simp [F6, pad, show ¬ ((l.length : Int) = 5) by omega]
def two (s : Str) : Bool := decide (s = "all") || decide (s = "some not") || decide (s = "no") || decide (s = "some") || decide (s = "as many") || decide (s = "fewer")
/-- a sentence of the signature n, m -/
def isSen (n m : Int) : D → Bool
  | .tup (.str s :: r) => if two s = true then (match r with
      | [a, b] => inR a 0 (n - 1) && inR b 0 (n - 1)
      | _ => false) else if s = "verb" then isVerbS n m (.str s :: r) else decide (s = "self") && isSelfS n m (.str s :: r)
  | _ => false
theorem two_in (s : Str) : inD (.str s) [.str "all", .str "some not", .str "no", .str "some", .str "as many", .str "fewer"] = two s := by
  simp [two, Bool.or_assoc, eq_comm]
theorem r7 (k : Nat) (n m : Int) (v : D) (st : List Ob) (hv : pur v = true) : run fs gl (k + 4) 7 [.val (.tup [.int n, .int m]), .val v] st = .ok (.bl (isSen n m v)) st := by
  rw [runU (f := F7) rfl]
  cases v with
  | tup l =>
    cases l with
    | nil => simp [F7, pad, isSen]
    | cons a r =>
      have hp : purs (a :: r) = true := by simpa using hv
      have hr : purs r = true := by simp at hv; exact hv.2
      have ha : pur a = true := by simp at hv; exact hv.1
      have hz : ¬ ((r.length : Int) + 1 = 0) := by omega
      cases a with
      | str s =>
        by_cases h2 : two s = true
        · have h2' := h2
          rw [← two_in] at h2'
          simp at h2'
          match r, hr with
          | [], _ => simp [F7, pad, isSen, h2, h2']
          | [a], _ => simp [F7, pad, isSen, h2, h2']
          | [a, b], hr =>
            simp at hr
            simp [F7, pad, isSen, h2, h2', r3, hr.1, hr.2]
            cases inR a 0 (n - 1) <;> simp
          | a :: b :: c :: t, _ => simp [F7, pad, isSen, h2, h2', hz, show ¬ ((t.length : Int) + 1 + 1 + 1 + 1 = 0) by omega, show ¬ ((t.length : Int) + 1 + 1 + 1 + 1 = 3) by omega]
        · have h2' := h2
          rw [← two_in] at h2'
          simp at h2'
          by_cases hs : s = "verb"
          · subst hs
            simp [F7, pad, isSen, h2, h2', hz, r5, hp]
          · by_cases ht : s = "self"
            · subst ht
              simp [F7, pad, isSen, h2, h2', hz, r6, hp]
            · simp [F7, pad, isSen, h2, h2', hz, hs, ht]
      | _ => first | (cases ha; done) | simp [F7, pad, isSen, hz]
  | _ => first | (cases hv; done) | simp [F7, pad, isSen]
end Mi

namespace Mi
open PySem PySem.Spec PyProof.Rows L2
theorem purs_mem : ∀ {l : List D} {d : D}, purs l = true → d ∈ l → pur d = true
  | x :: l, d, h, e => by
    simp at h
    rcases List.mem_cons.mp e with e | e
    · rw [e]; exact h.1
    · exact purs_mem h.2 e
theorem filter_true (l : List D) : l.filter (fun _ => true) = l := List.filter_eq_self.mpr (by simp)
theorem rows_at {l : List D} {j : Int} (h0 : 0 ≤ j) (h1 : j < l.length) : ∃ d, atI l j = some d ∧ d ∈ l := by
  have := atI_nat l j.toNat
  rw [show ((j.toNat : Nat) : Int) = j by omega] at this
  rw [this]
  exact ⟨_, List.getElem?_eq_getElem (by omega), List.getElem_mem _⟩
end Mi

namespace Mi
open PySem PySem.Spec PyProof.Rows L2
def isPrem (n m : Int) : D → Bool
  | .tup l => decide (l.length ≤ 8) && l.all (isSen n m)
  | _ => false
theorem r8 (k : Nat) (n m : Int) (v : D) (st : List Ob) (hv : pur v = true) : run fs gl (k + 5) 8 [.val (.tup [.int n, .int m]), .val v] st = .ok (.bl (isPrem n m v)) st := by
  rw [runU (f := F8) rfl]
  cases v with
  | tup l =>
    by_cases hl : l.length ≤ 8
    · have hp : purs l = true := by simpa using hv
      have c : ev ⟨run fs gl (k + 4), gl⟩ (.comp (.call 7 (.bor 0 (.bor 2 .nil))) [("sentence", 2)] (.name 2) (.name 1) .nil) ⟨[.val (.tup [.int n, .int m]), .val (.tup l), .none], st⟩ = .ok (.lst (l.map fun d => .bl (isSen n m d))) ⟨[.val (.tup [.int n, .int m]), .val (.tup l), .none], st⟩ := by
        have w := compL_map (g := evG (.name 2)) (t := evTs ⟨run fs gl (k + 4), gl⟩ .nil) (re := ev ⟨run fs gl (k + 4), gl⟩ (.call 7 (.bor 0 (.bor 2 .nil)))) (vs := [2]) (w := [.val (.tup [.int n, .int m]), .val (.tup l), .none]) (st := st) (F := fun d => .bl (isSen n m d)) (p := fun _ => true) l (fun d hd =>
          ⟨[.val (.tup [.int n, .int m]), .val (.tup l), .val d], by simp, [.val (.tup [.int n, .int m]), .val (.tup l), .val d], by simp, by simp, fun _ => ⟨[.val (.tup [.int n, .int m]), .val (.tup l), .val d], by simp [r7, purs_mem hp hd], rfl⟩⟩)
        rw [filter_true] at w
        rw [ev_comp (l := l) (st' := st) (sl1 := [.val (.tup [.int n, .int m]), .val (.tup l), .none]) (by simp) rfl w]
        rfl
      simp [-ev_comp', F8, pad, show ¬ (8 < (l.length : Int)) by omega, c, dAll_map, isPrem, hl]
    · simp [F8, pad, show 8 < (l.length : Int) by omega, isPrem, hl]
  | _ => first | (cases hv; done) | simp [F8, pad, isPrem]
end Mi

/-! laws of refusals: the body walked statement by statement, the calls worked out by the kernel -/
namespace Mi
open PySem PySem.Spec PyProof.Rows L2
section
variable {E : Ev} {sl sl1 : List Sl} {st st1 : List Ob} {ρ ρ1 : AE}
theorem seq1 {s : S} {l : Ss} (h : evS E s ⟨sl, st⟩ = .ok .next ⟨sl1, st1⟩) : evSs E (.cons s l) ⟨sl, st⟩ = evSs E l ⟨sl1, st1⟩ := by
  rw [evSs_cons, h]; rfl
theorem seqR {s : S} {l : Ss} {d : D} (h : evS E s ⟨sl, st⟩ = .ok (.ret d) ⟨sl1, st1⟩) : evSs E (.cons s l) ⟨sl, st⟩ = .ok (.ret d) ⟨sl1, st1⟩ := by
  rw [evSs_cons, h]; rfl
theorem step {s : S} {l : Ss} {r : Res} (h : evS E s ⟨sl, st⟩ = .ok .next ⟨sl1, st1⟩) (t : resOf (evSs E l ⟨sl1, st1⟩) = r) : resOf (evSs E (.cons s l) ⟨sl, st⟩) = r := by
  rw [seq1 h]; exact t
def Ss.nth : Ss → Nat → S
  | .cons s _, 0 => s
  | .cons _ l, n + 1 => l.nth n
  | .nil, _ => .pass
def S.forB : S → Ss
  | .for_ _ _ b => b
  | _ => .nil
/-- x = rows[next(stream, m)] -/
theorem pick1 {i a : Nat} {c : C} {m j : Int} {l : List D} {d : D} (hc : ev E c ⟨sl, st⟩ = .ok (.lst l) ⟨sl, st⟩) (hs : sl[a]? = some (.val (.obj 0))) (hd : E.fn 10 [.val (.obj 0), .val (.int m)] st = .ok (.int j) st1) (hl : atI l j = some d) (hb : isBorO sl[i]? = false) :
    evS E (.asg (.name i) (.ix c (.call 10 (.bor a (.val (.int m) .nil))))) ⟨sl, st⟩ = .ok .next ⟨sl.set i (.val d), st1⟩ := by
  simp [hc, hs, hd, hl, hb]
/-- all of a list's runs -/
theorem runs_at {α β : Type} {l : List α} {f : α → β} {b : β} (h : l.map f = l.map fun _ => b) {a : α} (ha : a ∈ l) : f a = b := List.map_inj_left.mp h a ha
end
end Mi

namespace Mi
open PySem PySem.Spec PyProof.Rows L2
/-! ### sentences, typed -/
inductive W6 where | all | sn | no | some | am | fw
deriving DecidableEq
def W6.s : W6 → String
  | .all => "all" | .sn => "some not" | .no => "no" | .some => "some" | .am => "as many" | .fw => "fewer"
def W6.neg : W6 → W6
  | .all => .sn | .sn => .all | .no => .some | .some => .no | .am => .fw | .fw => .am
def qS (q : Bool) : String := if q then "all" else "some"
@[simp] theorem qS_t : qS true = "all" := nr rfl
@[simp] theorem qS_f : qS false = "some" := nr rfl
inductive Sen where
  | two (w : W6) (x y : Nat)
  | verb (q : Bool) (x : Nat) (d : Bool) (v : Nat) (b : Bool) (p : Bool) (y : Nat)
  | self (q : Bool) (x : Nat) (d : Bool) (v : Nat)
deriving DecidableEq
def Sen.D : Sen → D
  | .two w x y => .tup [.str w.s, .int x, .int y]
  | .verb q x d v b p y => .tup [.str "verb", .str (qS q), .int x, .bl d, .int v, .bl b, .str (qS p), .int y]
  | .self q x d v => .tup [.str "self", .str (qS q), .int x, .bl d, .int v]
def Sen.ok (n m : Nat) : Sen → Prop
  | .two _ x y => x < n ∧ y < n
  | .verb _ x _ v _ _ y => x < n ∧ v < m ∧ y < n
  | .self _ x _ v => x < n ∧ v < m
def sig (n m : Nat) : D := .tup [.int n, .int m]
structure SigOk (n m : Nat) : Prop where
  n1 : 1 ≤ n
  n4 : n ≤ 4
  m2 : m ≤ 2
theorem W6.two (w : W6) : two (w.s : Str) = true := by cases w <;> simp [Mi.two, W6.s]
@[simp] theorem qua_qS (q : Bool) : isQua (.str (qS q)) = true := by cases q <;> simp [isQua]
@[simp] theorem isBlD_bl (b : Bool) : isBlD (.bl b) = true := nr rfl
theorem Sen.isSen {n m : Nat} {s : Sen} (h : s.ok n m) : isSen n m s.D = true := by
  cases s with
  | two w x y => obtain ⟨h1, h2⟩ := h; simp [Sen.D, Mi.isSen, W6.two, inR]; omega
  | verb q x d v b p y => obtain ⟨h1, h2, h3⟩ := h; simp [Sen.D, Mi.isSen, Mi.two, isVerbS, inR]; omega
  | self q x d v => obtain ⟨h1, h2⟩ := h; simp [Sen.D, Mi.isSen, Mi.two, isSelfS, inR]; omega
@[simp] theorem Sen.pur (s : Sen) : Mi.pur s.D = true := by cases s <;> simp [Sen.D]
@[simp] theorem cut_h0 (l : List D) : cutD l none (some 0) = l.take 0 := cut_hi l 0
@[simp] theorem cut_h1 (l : List D) : cutD l none (some 1) = l.take 1 := cut_hi l 1
@[simp] theorem cut_h2 (l : List D) : cutD l none (some 2) = l.take 2 := cut_hi l 2
@[simp] theorem cut_h3 (l : List D) : cutD l none (some 3) = l.take 3 := cut_hi l 3
@[simp] theorem cut_h4 (l : List D) : cutD l none (some 4) = l.take 4 := cut_hi l 4
@[simp] theorem cut_h5 (l : List D) : cutD l none (some 5) = l.take 5 := cut_hi l 5
@[simp] theorem cut_l1 (l : List D) : cutD l (some 1) none = l.drop 1 := cut_lo l 1
@[simp] theorem cut_l2 (l : List D) : cutD l (some 2) none = l.drop 2 := cut_lo l 2
@[simp] theorem cut_l3 (l : List D) : cutD l (some 3) none = l.drop 3 := cut_lo l 3
@[simp] theorem cut_l4 (l : List D) : cutD l (some 4) none = l.drop 4 := cut_lo l 4
@[simp] theorem cut_l5 (l : List D) : cutD l (some 5) none = l.drop 5 := cut_lo l 5
@[simp] theorem cut_l7 (l : List D) : cutD l (some 7) none = l.drop 7 := cut_lo l 7
@[simp] theorem cut_m1 (l : List D) : cutD l none (some (-1)) = l.dropLast := cut_last l
@[simp] theorem many_pos (n : Nat) [OfNat Nat n] : (OfNat.ofNat n : Nat) ≤ many ↔ (OfNat.ofNat n : Nat) ≤ 1000000 := Iff.rfl
/-- negation -/
def Sen.neg : Sen → Sen
  | .two w x y => .two w.neg x y
  | .verb q x d v b p y => .verb (!q) x (!d) v b (!p) y
  | .self q x d v => .self (!q) x (!d) v
/-- the other voice -/
def Sen.turn : Sen → Option Sen
  | .two .no x y => some (.two .no y x)
  | .two .some x y => some (.two .some y x)
  | .two _ _ _ => none
  | .verb q x d v b p y => if q = p then some (.verb p y d v (!b) q x) else none
  | .self _ _ _ _ => none
def optD : Option Sen → D
  | some s => s.D
  | none => .non
theorem Sen.neg_ok {n m : Nat} {s : Sen} (h : s.ok n m) : s.neg.ok n m := by cases s <;> exact h
theorem Sen.turn_ok {n m : Nat} {s t : Sen} (h : s.ok n m) (e : s.turn = some t) : t.ok n m := by
  cases s with
  | two w x y => cases w <;> simp [Sen.turn] at e <;> subst e <;> exact ⟨h.2, h.1⟩
  | verb q x d v b p y =>
    simp only [Sen.turn] at e
    split at e
    · cases e; exact ⟨h.2.2, h.2.1, h.1⟩
    · cases e
  | self q x d v => cases e
/-- (a, b) before (c, d) -/
def lt2 (a b c d : Nat) : Bool := if a = c then decide (b < d) else decide (a < c)
/-- the told form -/
def Sen.form (s : Sen) : Sen := match s with
  | .two .no x y => if lt2 y x x y then .two .no y x else .two .no x y
  | .two .some x y => if lt2 y x x y then .two .some y x else .two .some x y
  | .verb q x d v b p y => if q = p ∧ b = true then .verb p y d v (!b) q x else .verb q x d v b p y
  | s => s
theorem r18 (k n m : Nat) (st : List Ob) (h : SigOk n m) : run fs gl (k + 3) 18 [.val (sig n m)] st = .ok .non st := by
  obtain ⟨h1, h2, h3⟩ := h
  rw [runU (f := F18) rfl]
  simp [F18, pad, sig, r1, isSig, inR]
  omega
end Mi

namespace Mi
open PySem PySem.Spec PyProof.Rows L2
theorem r20 (k : Nat) (q : Bool) (st : List Ob) : run fs gl (k + 1) 20 [.val (.str (qS q))] st = .ok (.str (qS (!q))) st := by
  rw [runU (f := F20) rfl]
  cases q <;> simp [F20, pad]
theorem r21 (k : Nat) (s : Sen) (st : List Ob) : run fs gl (k + 2) 21 [.val s.D] st = .ok s.neg.D st := by
  rw [runU (f := F21) rfl]
  cases s with
  | two w x y => cases w <;> simp [F21, pad, Sen.D, Sen.neg, W6.s, W6.neg, many]
  | verb q x d v b p y => simp [F21, pad, Sen.D, Sen.neg, r20, many]
  | self q x d v => simp [F21, pad, Sen.D, Sen.neg, r20, many]
end Mi

namespace Mi
open PySem PySem.Spec PyProof.Rows L2
@[simp] theorem ltD_nil : ltD (.tup []) (.tup []) = false := nr (by simp [ltD, toPy, toPys, PySem.W.dataLt, PySem.W.keyToks, PySem.W.keyToksAll]; rfl)
theorem ltD_same (x : D) (l m : List D) : ltD (.tup (x :: l)) (.tup (x :: m)) = ltD (.tup l) (.tup m) := by
  simp only [ltD, toPy, toPys, PySem.W.dataLt, PySem.W.keyToks, PySem.W.keyToksAll]
  exact (lex_self (O := itemOrd) ..).trans (PySem.W.lex_pre ..)
@[simp] theorem ltD_str (x : Str) (l m : List D) : ltD (.tup (.str x :: l)) (.tup (.str x :: m)) = ltD (.tup l) (.tup m) := ltD_same _ l m
@[simp] theorem ltD_int (a b : Int) (l m : List D) : ltD (.tup (.int a :: l)) (.tup (.int b :: m)) = if a = b then ltD (.tup l) (.tup m) else decide (a < b) := by
  split
  · next h => subst h; exact ltD_same _ l m
  · next h =>
    simp only [ltD, toPy, toPys, PySem.W.dataLt, PySem.W.keyToks, PySem.W.keyToksAll]
    refine (lex_self (O := itemOrd) ..).trans ?_
    exact (lex_diff (O := itemOrd) (by intro e; cases e; exact h rfl)).trans rfl
@[simp] theorem likeD_3 (w : Str) (a b c d : Int) : likeD (.tup [.str w, .int a, .int b]) (.tup [.str w, .int c, .int d]) = true := by
  simp [likeD, toPy, toPys, PySem.W.alike, PySem.W.alikeAll, dep, deps]
@[simp] theorem dMinT_2 (l m : List D) : dMinT [.tup l, .tup m] = if likeD (.tup m) (.tup l) = true then some (if ltD (.tup m) (.tup l) = true then .tup m else .tup l) else none := nr rfl
/-- always true by its form -/
def Sen.alw : Sen → Bool
  | .two .all x y => decide (x = y)
  | .two .am x y => decide (x = y)
  | _ => false
theorem qS_inj {a b : Bool} : ((qS a : Str) = (qS b : Str)) ↔ a = b := by cases a <;> cases b <;> simp
theorem W6.s_inj {a b : W6} : ((a.s : Str) = (b.s : Str)) ↔ a = b := by cases a <;> cases b <;> simp [W6.s]
theorem Sen.D_inj {s t : Sen} : s.D = t.D ↔ s = t := by
  cases s <;> cases t
  all_goals first
    | (simp only [Sen.D, D.tup.injEq, List.cons.injEq, and_true, D.str.injEq, D.int.injEq, D.bl.injEq, qS_inj, W6.s_inj, Int.ofNat_inj, Int.natCast_inj, true_and, Sen.two.injEq, Sen.verb.injEq, Sen.self.injEq]; done)
    | simp [Sen.D]
theorem nec (d e : D) : dNe d e = (dEq d e).map (fun b => match b with | .bl x => .bl (!x) | y => y) := by
  unfold dNe dEq
  split <;> rfl
@[simp] theorem dEq_Sen (s t : Sen) : dEq s.D t.D = some (.bl (decide (s = t))) := by
  have hn : ∀ s : Sen, pur s.D = true ∧ dep s.D ≤ 64 := fun s => ⟨s.pur, by cases s <;> simp [Sen.D, dep, deps]⟩
  have hN : near s.D t.D = true := near_iff.mpr ⟨(hn s).1, (hn t).1, by have := (hn s).2; omega⟩
  have hq : ∀ a b : Bool, (((qS a : Str)) == ((qS b : Str))) = decide (a = b) := by intro a b; cases a <;> cases b <;> rfl
  have hw : ∀ a b : W6, (((a.s : Str)) == ((b.s : Str))) = decide (a = b) := by intro a b; cases a <;> cases b <;> rfl
  have hi : ∀ a b : Nat, (((a : Int)) == ((b : Int))) = decide (a = b) := by
    intro a b
    by_cases h : a = b
    · simp [h]
    · simp [h]; omega
  have hb : ∀ a b : Bool, (a == b) = decide (a = b) := by intro a b; cases a <;> cases b <;> rfl
  unfold dEq
  rw [if_pos hN]
  congr 2
  cases s with
  | two w x y => cases t with
    | two w' x' y' => simp [Sen.D, eqD, eqDs, hw, hi, Bool.decide_and]
    | verb q x d v b p y => simp [Sen.D, eqD, eqDs]
    | self q x d v => simp [Sen.D, eqD, eqDs]
  | verb q x d v b p y => cases t with
    | two w' x' y' => simp [Sen.D, eqD, eqDs]
    | verb q x d v b p y => simp only [Sen.D, eqD, eqDs, hq, hi, hb, Sen.verb.injEq, Bool.decide_and, beq_self_eq_true, Bool.true_and, Bool.and_true]
    | self q x d v => simp [Sen.D, eqD, eqDs]
  | self q x d v => cases t with
    | two w' x' y' => simp [Sen.D, eqD, eqDs]
    | verb q x d v b p y => simp [Sen.D, eqD, eqDs]
    | self q x d v => simp only [Sen.D, eqD, eqDs, hq, hi, hb, Sen.self.injEq, Bool.decide_and, beq_self_eq_true, Bool.true_and, Bool.and_true]
@[simp] theorem dNe_Sen (s t : Sen) : dNe s.D t.D = some (.bl (!decide (s = t))) := by rw [nec, dEq_Sen]; rfl
theorem Sen.form_ok {n m : Nat} {s : Sen} (h : s.ok n m) : s.form.ok n m := by
  cases s with
  | two w x y => cases w <;> simp only [Sen.form] <;> (try split) <;> first | exact h | exact ⟨h.2, h.1⟩
  | verb q x d v b p y =>
    simp only [Sen.form]
    split
    · exact ⟨h.2.2, h.2.1, h.1⟩
    · exact h
  | self q x d v => exact h
/-- say_the_same -/
def Sen.like (s t : Sen) : Bool := if s.alw = true then t.alw else if s.neg.alw = true then t.neg.alw else decide (s.form = t.form)
end Mi

namespace Mi
open PySem PySem.Spec PyProof.Rows L2
@[simp] theorem dIn_str_lst (s : Str) (l : List D) : dIn (.str s) (.lst l) = if purs l = true then some (.bl (inD (.str s) l)) else none := by
  by_cases h : purs l = true
  · rw [if_pos h, dIn_lst _ _ rfl h (by simp [dep])]
  · rw [if_neg h]; simp only [dIn]; exact if_neg fun z => h (nearIn_iff.mp z).2.1
@[simp] theorem dNotIn_str_lst (s : Str) (l : List D) : dNotIn (.str s) (.lst l) = if purs l = true then some (.bl (!inD (.str s) l)) else none := by
  by_cases h : purs l = true
  · rw [if_pos h]; simp only [dNotIn]; exact if_pos (nearIn_iff.mpr ⟨rfl, h, by simp [dep]⟩)
  · rw [if_neg h]; simp only [dNotIn]; exact if_neg fun z => h (nearIn_iff.mp z).2.1
/-! ### drawn signatures and sentences -/
def w6 : List D := [.str "all", .str "some not", .str "no", .str "some", .str "as many", .str "fewer"]
theorem w6_mem {d : D} (h : d ∈ w6) : ∃ w : W6, d = .str w.s := by
  simp only [w6, List.mem_cons, List.not_mem_nil, or_false] at h
  rcases h with rfl | rfl | rfl | rfl | rfl | rfl
  · exact ⟨.all, rfl⟩
  · exact ⟨.sn, rfl⟩
  · exact ⟨.no, rfl⟩
  · exact ⟨.some, rfl⟩
  · exact ⟨.am, rfl⟩
  · exact ⟨.fw, rfl⟩
theorem qua_mem {d : D} (h : d ∈ [D.str "all", .str "some"]) : ∃ q : Bool, d = .str (qS q) := by
  simp only [List.mem_cons, List.not_mem_nil, or_false] at h
  rcases h with rfl | rfl
  · exact ⟨true, rfl⟩
  · exact ⟨false, rfl⟩
theorem toN {n : Nat} {j : Int} (h0 : 0 ≤ j) (h1 : j < n) : ∃ i : Nat, j = i ∧ i < n := ⟨j.toNat, by omega, by omega⟩
end Mi

/-! refusals of tables and what rests on them: the check of the premises -/
namespace Mi
open PySem PySem.Spec PyProof.Rows L2
def al3 (a b c : D) : D := .tup [a, b, c]
section
variable (k : Nat) (st : List Ob)
end
end Mi

/-! law k50 (refusals of comparing): what the good and the wrong values give, worked out by the kernel -/
namespace Mi
open PySem PySem.Spec PyProof.Rows L2
def fi50 : D := al3 (.str "all") (.int 0) (.int 1)
def v50 : D := .tup [.str "verb", .str "some", .int 1, .bl false, .int 0, .bl true, .str "all", .int 0]
def s50 : D := .tup [.str "self", .str "all", .int 0, .bl true, .int 0]
def g2_50 : D := .tup [v50, s50]
def g3_50 : D := .tup (List.replicate 7 fi50)
def sg50 : D := .tup [.int 2, .int 1]
def f1_50 : D := .tup [fi50]
def noSig50 : List D := [.non, .lst [.int 2, .int 1], .tup [.int 0, .int 1], .tup [.int 5, .int 1], .tup [.int 2, .int 3], .tup [.int 2, .int (-1)], .tup [.bl true, .int 1], .tup [.int 2], .tup [.int 2, .int 1, .int 0], .tup [.int 2, .non]]
def vb50 (d : D) (l : List D) : D := .tup ([.str "verb", .str "all", .int 0, .bl true, .int 0, d] ++ l)
def noSen50 : List D := [.non, .lst [.str "all", .int 0, .int 1], .tup [.str "all", .int 0], al3 (.str "all") (.int 0) (.int 2), al3 (.str "all") (.bl true) (.int 1), al3 (.str "All") (.int 0) (.int 1), .tup [.str "self", .str "all", .int 0, .int 1, .int 0], .tup [.str "self", .str "all", .int 0, .bl true, .int 1],
  vb50 (.bl false) [.str "no", .int 1], vb50 (.int 0) [.str "all", .int 1], vb50 (.bl false) [.str "all"], .tup []]
def noRow50 (b : D) : List D := [.non, .lst [fi50], .tup [b], .tup [fi50, b], .tup (List.replicate 8 fi50), fi50, .tup [b, fi50]]
def good50 : List D := [.tup [], f1_50, g2_50, g3_50]
def dI50 (n : Nat) : List D := (List.range n).map fun (i : Nat) => D.int (i : Int)
section
variable (k : Nat) (st : List Ob)
theorem n50a : (noSig50.map fun s => run fs gl (k + 4) 18 [.val s] st) = noSig50.map fun _ => .exc 1 [.str "signature"] st := by kernel_rfl
theorem n50b (e : D) : (noSen50.map fun b => (noRow50 b).map fun v => run fs gl (k + 6) 274 [.val sg50, .val v, .val e] st) = noSen50.map fun b => (noRow50 b).map fun _ => .exc 1 [e] st := by kernel_rfl
theorem n50c (e : D) : (good50.map fun v => run fs gl (k + 6) 274 [.val sg50, .val v, .val e] st) = good50.map fun _ => .ok .non st := by kernel_rfl
theorem n50d : run fs gl (k + 4) 18 [.val sg50] st = .ok .non st := by kernel_rfl
theorem t50a : ((dI50 8).map fun w => [D.tup [], f1_50].map fun v => run fs gl (k + 17) 314 [.val w, .val sg50, .val (.tup []), .val v] st) = (dI50 8).map fun _ => [D.tup [], f1_50].map fun _ => .ok (.str "") st := by kernel_rfl
theorem t50b : ((dI50 8).map fun w => run fs gl (k + 17) 314 [.val w, .val sg50, .val f1_50, .val f1_50] st) = (dI50 8).map fun _ => .ok (.str "") st := by kernel_rfl
theorem t50c_0 : run fs gl (k + 17) 314 [.val (.int 0), .val sg50, .val g2_50, .val f1_50] st = .ok (.str "") st := by kernel_rfl
theorem t50c_1 : run fs gl (k + 17) 314 [.val (.int 1), .val sg50, .val g2_50, .val f1_50] st = .ok (.str "") st := by kernel_rfl
theorem t50c_2 : run fs gl (k + 17) 314 [.val (.int 2), .val sg50, .val g2_50, .val f1_50] st = .ok (.str "") st := by kernel_rfl
theorem t50c_3 : run fs gl (k + 17) 314 [.val (.int 3), .val sg50, .val g2_50, .val f1_50] st = .ok (.str "") st := by kernel_rfl
theorem t50c_4 : run fs gl (k + 17) 314 [.val (.int 4), .val sg50, .val g2_50, .val f1_50] st = .ok (.str "") st := by kernel_rfl
theorem t50c_5 : run fs gl (k + 17) 314 [.val (.int 5), .val sg50, .val g2_50, .val f1_50] st = .ok (.str "") st := by kernel_rfl
theorem t50c_6 : run fs gl (k + 17) 314 [.val (.int 6), .val sg50, .val g2_50, .val f1_50] st = .ok (.str "") st := by kernel_rfl
theorem t50c_7 : run fs gl (k + 17) 314 [.val (.int 7), .val sg50, .val g2_50, .val f1_50] st = .ok (.str "") st := by kernel_rfl
theorem t50c (i : Nat) (hi : i < 8) : run fs gl (k + 17) 314 [.val (.int i), .val sg50, .val g2_50, .val f1_50] st = .ok (.str "") st := by
  have c : i = 0 ∨ i = 1 ∨ i = 2 ∨ i = 3 ∨ i = 4 ∨ i = 5 ∨ i = 6 ∨ i = 7 := by omega
  rcases c with rfl | rfl | rfl | rfl | rfl | rfl | rfl | rfl
  · exact t50c_0 k st
  · exact t50c_1 k st
  · exact t50c_2 k st
  · exact t50c_3 k st
  · exact t50c_4 k st
  · exact t50c_5 k st
  · exact t50c_6 k st
  · exact t50c_7 k st
end
end Mi

/-! law k50: two long sentences, seven equal sentences, worked out by the kernel -/
namespace Mi
open PySem PySem.Spec PyProof.Rows L2

def nv50 : D := .tup [.str "verb", .str "all", .int 1, .bl true, .int 0, .bl true, .str "some", .int 0]
def ns50 : D := .tup [.str "self", .str "some", .int 0, .bl false, .int 0]
def nf50 : D := al3 (.str "some not") (.int 0) (.int 1)
def f50 (i : Nat) : D := .tup (List.replicate i fi50)
section
variable (k : Nat) (st : List Ob)
theorem t50d_0 : run fs gl (k + 17) 314 [.val (.int 0), .val sg50, .val g2_50, .val g2_50] st = .ok (.str "") st := by kernel_rfl
theorem t50d_2 : run fs gl (k + 17) 314 [.val (.int 2), .val sg50, .val g2_50, .val g2_50] st = .ok (.str "") st := by kernel_rfl
theorem t50d_3 : run fs gl (k + 17) 314 [.val (.int 3), .val sg50, .val g2_50, .val g2_50] st = .ok (.str "") st := by kernel_rfl
theorem t50d_5 : run fs gl (k + 17) 314 [.val (.int 5), .val sg50, .val g2_50, .val g2_50] st = .ok (.str "") st := by kernel_rfl
theorem t50d_6 : run fs gl (k + 17) 314 [.val (.int 6), .val sg50, .val g2_50, .val g2_50] st = .ok (.str "") st := by kernel_rfl
theorem t50d_7 : run fs gl (k + 17) 314 [.val (.int 7), .val sg50, .val g2_50, .val g2_50] st = .ok (.str "") st := by kernel_rfl
theorem a50a : run fs gl (k + 15) 277 [.val sg50, .val g2_50, .val g2_50] st = .ok (.bl true) st := by kernel_rfl
theorem p50a : run fs gl (k + 14) 217 [.val sg50, .val (.tup [v50, s50, nv50])] st = .ok (.tup [.tup [.str "mark", .int 1, .bl false, .int 0, .bl true, .int 0], .tup [.str "clash"]]) st := by kernel_rfl
theorem p50b : run fs gl (k + 14) 217 [.val sg50, .val (.tup [v50, s50, ns50])] st = .ok (.tup [.tup [.str "self", .int 0, .bl false, .int 0], .tup [.str "clash"]]) st := by kernel_rfl
theorem m50 : ([v50, s50, fi50].map fun x => run fs gl (k + 6) 21 [.val x] st) = [nv50, ns50, nf50].map fun y => .ok y st := by kernel_rfl
theorem e50_0 : run fs gl (k + 14) 276 [.val sg50, .val (f50 0), .val fi50] st = .ok (.bl false) st := by kernel_rfl
theorem e50_1 : run fs gl (k + 14) 276 [.val sg50, .val (f50 1), .val fi50] st = .ok (.bl true) st := by kernel_rfl
theorem e50_2 : run fs gl (k + 14) 276 [.val sg50, .val (f50 2), .val fi50] st = .ok (.bl true) st := by kernel_rfl
theorem e50_3 : run fs gl (k + 14) 276 [.val sg50, .val (f50 3), .val fi50] st = .ok (.bl true) st := by kernel_rfl
theorem e50_4 : run fs gl (k + 14) 276 [.val sg50, .val (f50 4), .val fi50] st = .ok (.bl true) st := by kernel_rfl
theorem e50_5 : run fs gl (k + 14) 276 [.val sg50, .val (f50 5), .val fi50] st = .ok (.bl true) st := by kernel_rfl
theorem e50_6 : run fs gl (k + 14) 276 [.val sg50, .val (f50 6), .val fi50] st = .ok (.bl true) st := by kernel_rfl
theorem e50_7 : run fs gl (k + 14) 276 [.val sg50, .val (f50 7), .val fi50] st = .ok (.bl true) st := by kernel_rfl
theorem e50 (i : Nat) (h0 : 0 < i) (h7 : i ≤ 7) : run fs gl (k + 14) 276 [.val sg50, .val (f50 i), .val fi50] st = .ok (.bl true) st := by
  have c : i = 1 ∨ i = 2 ∨ i = 3 ∨ i = 4 ∨ i = 5 ∨ i = 6 ∨ i = 7 := by omega
  rcases c with rfl | rfl | rfl | rfl | rfl | rfl | rfl
  · exact e50_1 k st
  · exact e50_2 k st
  · exact e50_3 k st
  · exact e50_4 k st
  · exact e50_5 k st
  · exact e50_6 k st
  · exact e50_7 k st
theorem p50c : run fs gl (k + 14) 217 [.val sg50, .val (.tup (List.replicate 7 fi50 ++ [nf50]))] st = .ok (.tup [al3 (.str "all") (.int 0) (.int 1), .tup [.str "clash"]]) st := by kernel_rfl

theorem t50e_3 : run fs gl (k + 17) 314 [.val (.int 3), .val sg50, .val g3_50, .val f1_50] st = .ok (.str "") st := by kernel_rfl
theorem t50e_5 : run fs gl (k + 17) 314 [.val (.int 5), .val sg50, .val g3_50, .val f1_50] st = .ok (.str "") st := by kernel_rfl
theorem t50f_3 : run fs gl (k + 17) 314 [.val (.int 3), .val sg50, .val g3_50, .val g3_50] st = .ok (.str "") st := by kernel_rfl
theorem t50f_5 : run fs gl (k + 17) 314 [.val (.int 5), .val sg50, .val g3_50, .val g3_50] st = .ok (.str "") st := by kernel_rfl
end
end Mi

namespace Mi
open PySem PySem.Spec PyProof.Rows L2
/-! law k50: exceptions passed on -/
section
variable {k : Nat} {st : List Ob} {x a b e : D}
theorem told50 (h : ∀ k, run fs gl (k + 7) 275 [.val x, .val a, .val b] st = .exc 1 [e] st) (i : Nat) (hi : i < 6) : run fs gl (k + 17) 314 [.val (.int i), .val x, .val a, .val b] st = .ok e st := by
  have y0 : ∀ k, run fs gl (k + 8) 277 [.val x, .val a, .val b] st = .exc 1 [e] st := fun k => by
    have h := h k
    rw [runU (f := F277) rfl]; simp [F277, pad, h]
  have y1 : run fs gl (k + 16) 278 [.val x, .val a, .val b] st = .exc 1 [e] st := by
    have h : run fs gl (k + 15) 277 _ _ = _ := y0 (k + 7)
    rw [runU (f := F278) rfl]; simp [F278, pad, h]
  have y2 : run fs gl (k + 16) 279 [.val x, .val a, .val b] st = .exc 1 [e] st := by
    have h : run fs gl (k + 15) 275 _ _ = _ := h (k + 8)
    rw [runU (f := F279) rfl]; simp [F279, pad, h]
  have y3 : run fs gl (k + 16) 293 [.val x, .val a, .val b, .val .non] st = .exc 1 [e] st := by
    have h : run fs gl (k + 15) 275 _ _ = _ := h (k + 8)
    rw [runU (f := F293) rfl]; simp [F293, pad, h]
  have y4 : run fs gl (k + 16) 298 [.val x, .val a, .val b] st = .exc 1 [e] st := by
    have h : run fs gl (k + 15) 277 _ _ = _ := y0 (k + 7)
    rw [runU (f := F298) rfl]; simp [F298, pad, h]
  have y5 : run fs gl (k + 16) 313 [.val x, .val a, .val b, .val .non] st = .exc 1 [e] st := by
    have h : run fs gl (k + 15) 275 _ _ = _ := h (k + 8)
    rw [runU (f := F313) rfl]; simp [F313, pad, h]
  have y0 : run fs gl (k + 16) 277 _ _ = _ := y0 (k + 8)
  have c : i = 0 ∨ i = 1 ∨ i = 2 ∨ i = 3 ∨ i = 4 ∨ i = 5 := by omega
  rcases c with rfl | rfl | rfl | rfl | rfl | rfl
  · rw [runU (f := F314) rfl]; simp [F314, pad, y0]
  · rw [runU (f := F314) rfl]; simp [F314, pad, y1]
  · rw [runU (f := F314) rfl]; simp [F314, pad, y2]
  · rw [runU (f := F314) rfl]; simp [F314, pad, y3]
  · rw [runU (f := F314) rfl]; simp [F314, pad, y4]
  · rw [runU (f := F314) rfl]; simp [F314, pad, y5]
theorem told50b (h : run fs gl (k + 15) 18 [.val x] st = .exc 1 [e] st) (i : Nat) (hi : i < 8) (hj : 6 ≤ i) : run fs gl (k + 17) 314 [.val (.int i), .val x, .val a, .val b] st = .ok e st := by
  have c : i = 6 ∨ i = 7 := by omega
  have y307 : run fs gl (k + 16) 307 [.val x, .val a] st = .exc 1 [e] st := by
    rw [runU (f := F307) rfl]; simp [F307, pad, h]
  have y308 : run fs gl (k + 16) 308 [.val x, .val a] st = .exc 1 [e] st := by
    rw [runU (f := F308) rfl]; simp [F308, pad, h]
  rcases c with rfl | rfl
  · rw [runU (f := F314) rfl]; simp [F314, pad, y307]
  · rw [runU (f := F314) rfl]; simp [F314, pad, y308]
theorem told50c (h : run fs gl (k + 15) 18 [.val x] st = .ok .non st) (h2 : run fs gl (k + 15) 274 [.val x, .val a, .val (.str "premises")] st = .exc 1 [.str "premises"] st) (i : Nat) (hi : i < 8) (hj : 6 ≤ i) : run fs gl (k + 17) 314 [.val (.int i), .val x, .val a, .val b] st = .ok (.str "premises") st := by
  have c : i = 6 ∨ i = 7 := by omega
  have y307 : run fs gl (k + 16) 307 [.val x, .val a] st = .exc 1 [.str "premises"] st := by
    rw [runU (f := F307) rfl]; simp [F307, pad, h, h2]
  have y308 : run fs gl (k + 16) 308 [.val x, .val a] st = .exc 1 [.str "premises"] st := by
    rw [runU (f := F308) rfl]; simp [F308, pad, h, h2]
  rcases c with rfl | rfl
  · rw [runU (f := F314) rfl]; simp [F314, pad, y307]
  · rw [runU (f := F314) rfl]; simp [F314, pad, y308]
end
section
variable (k : Nat) (st : List Ob)
theorem c275a (h : run fs gl (k + 6) 18 [.val sg50] st = .ok .non st) {a b : D} (ha : a ∈ good50) (hb : b ∈ good50) : run fs gl (k + 7) 275 [.val sg50, .val a, .val b] st = .ok .non st := by
  have h1 := List.map_inj_left.mp (n50c k st (.str "first")) a ha
  have h2 := List.map_inj_left.mp (n50c k st (.str "second")) b hb
  rw [runU (f := F275) rfl]; simp [F275, pad, h, h1, h2]
theorem c275 {a b : D} (ha : a ∈ good50) (hb : b ∈ good50) : run fs gl (k + 7) 275 [.val sg50, .val a, .val b] st = .ok .non st := c275a k st (n50d (k + 2) st) ha hb
theorem b275 {a b v : D} (hb : b ∈ noSen50) (hv : v ∈ noRow50 b) : run fs gl (k + 7) 275 [.val sg50, .val v, .val a] st = .exc 1 [.str "first"] st := by
  have h : run fs gl (k + 6) 18 [.val sg50] st = .ok .non st := n50d (k + 2) st
  have h1 := List.map_inj_left.mp (List.map_inj_left.mp (n50b k st (.str "first")) b hb) v hv
  rw [runU (f := F275) rfl]; simp [F275, pad, h, h1]
theorem d275 {a b v : D} (ha : a ∈ good50) (hb : b ∈ noSen50) (hv : v ∈ noRow50 b) : run fs gl (k + 7) 275 [.val sg50, .val a, .val v] st = .exc 1 [.str "second"] st := by
  have h : run fs gl (k + 6) 18 [.val sg50] st = .ok .non st := n50d (k + 2) st
  have h1 := List.map_inj_left.mp (n50c k st (.str "first")) a ha
  have h2 := List.map_inj_left.mp (List.map_inj_left.mp (n50b k st (.str "second")) b hb) v hv
  rw [runU (f := F275) rfl]; simp [F275, pad, h, h1, h2]
theorem s275 {x a b : D} (hx : x ∈ noSig50) : run fs gl (k + 7) 275 [.val x, .val a, .val b] st = .exc 1 [.str "signature"] st := by
  have h : run fs gl (k + 6) 18 [.val x] st = .exc 1 [.str "signature"] st := List.map_inj_left.mp (n50a (k + 2) st) x hx
  rw [runU (f := F275) rfl]; simp [F275, pad, h]
theorem g3e : g3_50 = .tup [fi50, fi50, fi50, fi50, fi50, fi50, fi50] := rfl
theorem g3f : g3_50 = f50 7 := rfl
theorem f1f : f1_50 = f50 1 := rfl
theorem g3m : g3_50 ∈ good50 := by simp [good50]
theorem g2m : g2_50 ∈ good50 := by simp [good50]
theorem f1m : f1_50 ∈ good50 := by simp [good50]
theorem a50a1 : run fs gl (k + 15) 277 [.val sg50, .val (.tup [fi50, fi50, fi50, fi50, fi50, fi50, fi50]), .val (.tup [fi50])] st = .ok (.bl true) st := by
  have h : run fs gl (k + 14) 275 [.val sg50, .val (.tup [fi50, fi50, fi50, fi50, fi50, fi50, fi50]), .val (.tup [fi50])] st = _ := c275 (k + 7) st g3m f1m
  have q : run fs gl (k + 14) 276 [.val sg50, .val (.tup [fi50, fi50, fi50, fi50, fi50, fi50, fi50]), .val fi50] st = _ := e50_7 k st
  generalize fi50 = f at *
  generalize sg50 = sg at *
  rw [runU (f := F277) rfl]; simp [F277, pad, h, q]; rfl
theorem a50b1 : run fs gl (k + 15) 277 [.val sg50, .val (.tup [fi50]), .val (.tup [fi50, fi50, fi50, fi50, fi50, fi50, fi50])] st = .ok (.bl true) st := by
  have h : run fs gl (k + 14) 275 [.val sg50, .val (.tup [fi50]), .val (.tup [fi50, fi50, fi50, fi50, fi50, fi50, fi50])] st = _ := c275 (k + 7) st f1m g3m
  have q : run fs gl (k + 14) 276 [.val sg50, .val (.tup [fi50]), .val fi50] st = _ := e50_1 k st
  generalize fi50 = f at *
  generalize sg50 = sg at *
  rw [runU (f := F277) rfl]; simp [F277, pad, h, q]; rfl
theorem a50c1 : run fs gl (k + 15) 277 [.val sg50, .val (.tup [fi50, fi50, fi50, fi50, fi50, fi50, fi50]), .val (.tup [fi50, fi50, fi50, fi50, fi50, fi50, fi50])] st = .ok (.bl true) st := by
  have h : run fs gl (k + 14) 275 [.val sg50, .val (.tup [fi50, fi50, fi50, fi50, fi50, fi50, fi50]), .val (.tup [fi50, fi50, fi50, fi50, fi50, fi50, fi50])] st = _ := c275 (k + 7) st g3m g3m
  have q : run fs gl (k + 14) 276 [.val sg50, .val (.tup [fi50, fi50, fi50, fi50, fi50, fi50, fi50]), .val fi50] st = _ := e50_7 k st
  generalize fi50 = f at *
  generalize sg50 = sg at *
  rw [runU (f := F277) rfl]; simp [F277, pad, h, q]; rfl
theorem d50a1 : run fs gl (k + 15) 279 [.val sg50, .val (.tup [fi50, fi50, fi50, fi50, fi50, fi50, fi50]), .val (.tup [fi50])] st = .ok .non st := by
  have h : run fs gl (k + 14) 275 [.val sg50, .val (.tup [fi50, fi50, fi50, fi50, fi50, fi50, fi50]), .val (.tup [fi50])] st = _ := c275 (k + 7) st g3m f1m
  have q : run fs gl (k + 14) 276 [.val sg50, .val (.tup [fi50, fi50, fi50, fi50, fi50, fi50, fi50]), .val fi50] st = _ := e50_7 k st
  generalize fi50 = f at *
  generalize sg50 = sg at *
  rw [runU (f := F279) rfl]; simp [F279, pad, h, q, enumD]
theorem d50b1 : run fs gl (k + 15) 279 [.val sg50, .val (.tup [fi50, fi50, fi50, fi50, fi50, fi50, fi50]), .val (.tup [fi50, fi50, fi50, fi50, fi50, fi50, fi50])] st = .ok .non st := by
  have h : run fs gl (k + 14) 275 [.val sg50, .val (.tup [fi50, fi50, fi50, fi50, fi50, fi50, fi50]), .val (.tup [fi50, fi50, fi50, fi50, fi50, fi50, fi50])] st = _ := c275 (k + 7) st g3m g3m
  have q : run fs gl (k + 14) 276 [.val sg50, .val (.tup [fi50, fi50, fi50, fi50, fi50, fi50, fi50]), .val fi50] st = _ := e50_7 k st
  generalize fi50 = f at *
  generalize sg50 = sg at *
  rw [runU (f := F279) rfl]; simp [F279, pad, h, q, enumD]
theorem o50a : ∃ d, run fs gl (k + 16) 298 [.val sg50, .val (.tup [v50, s50]), .val (.tup [v50, s50])] st = .ok d st := by
  have h : run fs gl (k + 15) 277 [.val sg50, .val (.tup [v50, s50]), .val (.tup [v50, s50])] st = _ := a50a k st
  have m0 : run fs gl (k + 15) 21 [.val v50] st = .ok nv50 st := (List.cons.inj (m50 (k + 9) st)).1
  have q0 : run fs gl (k + 15) 217 [.val sg50, .val (.tup [v50, s50, nv50])] st = _ := p50a (k + 1) st
  have m1 : run fs gl (k + 15) 21 [.val s50] st = .ok ns50 st := (List.cons.inj (List.cons.inj (m50 (k + 9) st)).2).1
  have q1 : run fs gl (k + 15) 217 [.val sg50, .val (.tup [v50, s50, ns50])] st = _ := p50b (k + 1) st
  generalize v50 = v50 at *
  generalize s50 = s50 at *
  generalize nv50 = nv0 at *
  generalize ns50 = ns0 at *
  generalize sg50 = sg0 at *
  rw [runU (f := F298) rfl]; exact ⟨_, by simp [F298, pad, h, m0, q0, m1, q1]; rfl⟩
theorem o50b : ∃ d, run fs gl (k + 16) 298 [.val sg50, .val (.tup [fi50, fi50, fi50, fi50, fi50, fi50, fi50]), .val (.tup [fi50])] st = .ok d st := by
  have h : run fs gl (k + 15) 277 [.val sg50, .val (.tup [fi50, fi50, fi50, fi50, fi50, fi50, fi50]), .val (.tup [fi50])] st = _ := a50a1 k st
  have m0 : run fs gl (k + 15) 21 [.val fi50] st = .ok nf50 st := (List.cons.inj (List.cons.inj (List.cons.inj (m50 (k + 9) st)).2).2).1
  have q0 : run fs gl (k + 15) 217 [.val sg50, .val (.tup [fi50, fi50, fi50, fi50, fi50, fi50, fi50, nf50])] st = _ := p50c (k + 1) st
  generalize nf50 = nf0 at *
  generalize sg50 = sg0 at *
  rw [runU (f := F298) rfl]; exact ⟨_, by simp [F298, pad, h, m0, q0]; rfl⟩
theorem o50c : ∃ d, run fs gl (k + 16) 298 [.val sg50, .val (.tup [fi50, fi50, fi50, fi50, fi50, fi50, fi50]), .val (.tup [fi50, fi50, fi50, fi50, fi50, fi50, fi50])] st = .ok d st := by
  have h : run fs gl (k + 15) 277 [.val sg50, .val (.tup [fi50, fi50, fi50, fi50, fi50, fi50, fi50]), .val (.tup [fi50, fi50, fi50, fi50, fi50, fi50, fi50])] st = _ := a50c1 k st
  have m0 : run fs gl (k + 15) 21 [.val fi50] st = .ok nf50 st := (List.cons.inj (List.cons.inj (List.cons.inj (m50 (k + 9) st)).2).2).1
  have q0 : run fs gl (k + 15) 217 [.val sg50, .val (.tup [fi50, fi50, fi50, fi50, fi50, fi50, fi50, nf50])] st = _ := p50c (k + 1) st
  generalize nf50 = nf0 at *
  generalize sg50 = sg0 at *
  rw [runU (f := F298) rfl]; exact ⟨_, by simp [F298, pad, h, m0, q0]; rfl⟩
theorem whl_t {t : AE → R Bool} {body : AE → R Fl} {ρ ρ1 ρ2 : AE} (n : Nat) (h : t ρ = .ok true ρ1) (hb : body ρ1 = .ok .next ρ2) : whileL t body (n + 1) ρ = whileL t body n ρ2 := by
  rw [whileL, h]; simp only [R.bind, if_true, hb]
theorem whl_f {t : AE → R Bool} {body : AE → R Fl} {ρ ρ1 : AE} (n : Nat) (h : t ρ = .ok false ρ1) : whileL t body (n + 1) ρ = .ok .next ρ1 := by
  rw [whileL, h]; rfl
def nl50 (i : Nat) : D := if i ≤ 1 then .lst [] else .lst ((List.range i).map fun j : Nat => D.int (j : Int))
theorem enum50 : ∀ c, c ≤ 7 → enumD (List.replicate c fi50) = (List.range c).map fun i : Nat => .tup [.int i, fi50] := by
  intro c hc
  have : c = 0 ∨ c = 1 ∨ c = 2 ∨ c = 3 ∨ c = 4 ∨ c = 5 ∨ c = 6 ∨ c = 7 := by omega
  rcases this with rfl | rfl | rfl | rfl | rfl | rfl | rfl | rfl <;> rfl
theorem nl50_at : ∀ i, 1 ≤ i → i ≤ 7 → run fs gl (k + 15) 306 [.val sg50, .val (f50 i)] st = .ok (nl50 i) st := by
  intro c h1 h7
  have hq := e50 k st (c - 1)
  have hq0 := e50_0 k st
  have ec : ∀ a : Nat, a < c → cutD (List.replicate c fi50) none (some (a : Int)) = List.replicate a fi50 := fun a ha => by
    rw [cut_hi, List.take_replicate, Nat.min_eq_left (by omega)]
  have el : ∀ a : Nat, a < c → cutD (List.replicate c fi50) (some ((a : Int) + 1)) none = List.replicate (c - (a + 1)) fi50 := fun a ha => by
    have := cut_lo (List.replicate c fi50) (a + 1)
    rw [show (((a + 1 : Nat)) : Int) = (a : Int) + 1 by omega] at this
    rw [this, List.drop_replicate]
  have ej : ∀ a : Nat, a < c → List.replicate a fi50 ++ List.replicate (c - (a + 1)) fi50 = List.replicate (c - 1) fi50 := fun a ha => by
    rw [List.replicate_append_replicate, show a + (c - (a + 1)) = c - 1 by omega]
  have hE := enum50 c h7
  rw [runU (f := F306) rfl]
  unfold f50 at *
  generalize hR : List.replicate c fi50 = R at *
  have lp : ∀ t : Bool, run fs gl (k + 14) 276 [.val sg50, .val (.tup (List.replicate (c - 1) fi50)), .val fi50] st = .ok (.bl t) st → forL (evG (.tup (.cons (.name 3) (.cons (.name 4) .nil)))) (evSs ⟨run fs gl (k + 14), gl⟩ (F306.body.nth 1).forB) ((List.range c).map fun i : Nat => .tup [.int i, fi50]) ⟨[.val sg50, .val (.tup R), .own (.lst []), .none, .none], st⟩ =
      .ok .next ⟨[.val sg50, .val (.tup R), .own (.lst (if t = true then (List.range c).map fun i : Nat => D.int (i : Int) else [])), lastS (fun i : Nat => .int (i : Int)) (List.range c), lastS (fun _ => fi50) (List.range c)], st⟩ := by
    intro t ht
    have lp := forL_all (g := evG (.tup (.cons (.name 3) (.cons (.name 4) .nil)))) (body := evSs ⟨run fs gl (k + 14), gl⟩ (F306.body.nth 1).forB) (st := st) (f := fun i : Nat => .tup [.int i, fi50])
      (fun d => [.val sg50, .val (.tup R), .own (.lst (if t = true then d.map fun i : Nat => D.int (i : Int) else [])), lastS (fun i : Nat => .int (i : Int)) d, lastS (fun _ => fi50) d]) (List.range c) (fun d a r hr K => by
        have ha : a < c := by
          have : a ∈ List.range c := by rw [hr]; simp
          simpa using this
        have hd : d.length < 1000000 := by
          have := congrArg List.length hr
          simp at this; omega
        have e1 := ec a ha
        have e2 := el a ha
        have e3 := ej a ha
        have e4 : (List.replicate a fi50).length + (List.replicate (c - (a + 1)) fi50).length ≤ 1000000 := by simp only [List.length_replicate]; omega
        generalize List.replicate (c - 1) fi50 = Q at *
        generalize List.replicate a fi50 = Q1 at *
        generalize List.replicate (c - (a + 1)) fi50 = Q2 at *
        generalize sg50 = sg at *
        generalize fi50 = fi at *
        cases t <;> simp [F306, Ss.nth, S.forB, e1, e2, e3, e4, ht, many, hd])
    have e0 : (if t = true then ([] : List D) else []) = [] := by cases t <;> rfl
    simp only [List.map_nil, e0, lastS_nil] at lp
    exact lp
  have hi : evI ⟨run fs gl (k + 14), gl⟩ (.enumN 1) ⟨[.val sg50, .val (.tup R), .own (.lst []), .none, .none], st⟩ = .ok ((List.range c).map fun i : Nat => .tup [.int i, fi50]) ⟨[.val sg50, .val (.tup R), .own (.lst []), .none, .none], st⟩ := by
    rw [← hE]; rfl
  show resOf (evSs ⟨run fs gl (k + 14), gl⟩ (.cons (F306.body.nth 0) (.cons (.for_ (.tup (.cons (.name 3) (.cons (.name 4) .nil))) (.enumN 1) (F306.body.nth 1).forB) (.cons (F306.body.nth 2) .nil))) ⟨[.val sg50, .val (.tup R), .none, .none, .none], st⟩) = _
  refine step (sl1 := [.val sg50, .val (.tup R), .own (.lst []), .none, .none]) (st1 := st) (by simp [F306, Ss.nth]) ?_
  by_cases c1 : c = 1
  · subst c1
    have lf := evS_for (tg := .tup (.cons (.name 3) (.cons (.name 4) .nil))) (it := .enumN 1) (b := (F306.body.nth 1).forB) hi (lp false hq0)
    refine step (lf.trans (by rfl)) ?_
    rfl
  · have lf := evS_for (tg := .tup (.cons (.name 3) (.cons (.name 4) .nil))) (it := .enumN 1) (b := (F306.body.nth 1).forB) hi (lp true (hq (by omega) (by omega)))
    have hx : nl50 c = .lst ((List.range c).map fun i : Nat => D.int (i : Int)) := if_neg (by omega)
    rw [hx]
    refine step (lf.trans (by rfl)) ?_
    rfl
theorem nd50 : run fs gl (k + 16) 307 [.val sg50, .val g3_50] st = .ok (.tup [.int 0, .int 1, .int 2, .int 3, .int 4, .int 5, .int 6]) st := by
  have h : run fs gl (k + 15) 18 [.val sg50] st = .ok .non st := n50d (k + 11) st
  have h1 : run fs gl (k + 15) 274 [.val sg50, .val g3_50, .val (.str "premises")] st = _ := List.map_inj_left.mp (n50c (k + 9) st (.str "premises")) g3_50 g3m
  have q : run fs gl (k + 15) 306 [.val sg50, .val g3_50] st = _ := nl50_at k st 7 (by omega) (by omega)
  have e7 : nl50 7 = .lst [.int 0, .int 1, .int 2, .int 3, .int 4, .int 5, .int 6] := rfl
  rw [e7] at q
  generalize g3_50 = g at *
  generalize sg50 = sg at *
  rw [runU (f := F307) rfl]; simp [F307, pad, h, h1, q]
end
end Mi

namespace Mi
open PySem PySem.Spec PyProof.Rows L2
def S.whlT : S → T
  | .while_ t _ => t
  | _ => .not (.tru .non)
def S.whlB : S → Ss
  | .while_ _ b => b
  | _ => .nil
/-! law k50 -/
section
variable (k : Nat) (st : List Ob)
def here50 (i : Nat) : List Sl := [.val sg50, .val g3_50, .val (f50 i), .val (nl50 i)]
theorem pr50 : run fs gl (k + 16) 308 [.val sg50, .val g3_50] st = .ok f1_50 st := by
  have h : run fs gl (k + 15) 18 [.val sg50] st = .ok .non st := n50d (k + 11) st
  have h1 : run fs gl (k + 15) 274 [.val sg50, .val g3_50, .val (.str "premises")] st = _ := List.map_inj_left.mp (n50c (k + 9) st (.str "premises")) g3_50 g3m
  have q : run fs gl (k + 15) 306 [.val sg50, .val g3_50] st = _ := nl50_at k st 7 (by omega) (by omega)
  have N : ∀ i, 1 ≤ i → i ≤ 7 → run fs gl (k + 15) 306 [.val sg50, .val (f50 i)] st = .ok (nl50 i) st := nl50_at k st
  have turn : ∀ i, 1 ≤ i → i ≤ 6 → evSs ⟨run fs gl (k + 15), gl⟩ (F308.body.nth 4).whlB ⟨here50 (i + 1), st⟩ = .ok .next ⟨here50 i, st⟩ := by
    intro i h1 h6
    have c : i = 1 ∨ i = 2 ∨ i = 3 ∨ i = 4 ∨ i = 5 ∨ i = 6 := by omega
    rcases c with rfl | rfl | rfl | rfl | rfl | rfl
    · show _ = R.ok Fl.next ⟨[.val sg50, .val g3_50, .val (f50 1), .val (nl50 1)], st⟩
      refine (seq1 (sl1 := [.val sg50, .val g3_50, .val (f50 1), .val (nl50 2)]) (st1 := st) (by kernel_rfl)).trans ?_
      have qq := N 1 (by omega) (by omega)
      generalize f50 1 = f at *
      generalize sg50 = sg at *
      generalize g3_50 = g at *
      simp [F308, Ss.nth, S.whlB, here50, qq]
    · show _ = R.ok Fl.next ⟨[.val sg50, .val g3_50, .val (f50 2), .val (nl50 2)], st⟩
      refine (seq1 (sl1 := [.val sg50, .val g3_50, .val (f50 2), .val (nl50 3)]) (st1 := st) (by kernel_rfl)).trans ?_
      have qq := N 2 (by omega) (by omega)
      generalize f50 2 = f at *
      generalize sg50 = sg at *
      generalize g3_50 = g at *
      simp [F308, Ss.nth, S.whlB, here50, qq]
    · show _ = R.ok Fl.next ⟨[.val sg50, .val g3_50, .val (f50 3), .val (nl50 3)], st⟩
      refine (seq1 (sl1 := [.val sg50, .val g3_50, .val (f50 3), .val (nl50 4)]) (st1 := st) (by kernel_rfl)).trans ?_
      have qq := N 3 (by omega) (by omega)
      generalize f50 3 = f at *
      generalize sg50 = sg at *
      generalize g3_50 = g at *
      simp [F308, Ss.nth, S.whlB, here50, qq]
    · show _ = R.ok Fl.next ⟨[.val sg50, .val g3_50, .val (f50 4), .val (nl50 4)], st⟩
      refine (seq1 (sl1 := [.val sg50, .val g3_50, .val (f50 4), .val (nl50 5)]) (st1 := st) (by kernel_rfl)).trans ?_
      have qq := N 4 (by omega) (by omega)
      generalize f50 4 = f at *
      generalize sg50 = sg at *
      generalize g3_50 = g at *
      simp [F308, Ss.nth, S.whlB, here50, qq]
    · show _ = R.ok Fl.next ⟨[.val sg50, .val g3_50, .val (f50 5), .val (nl50 5)], st⟩
      refine (seq1 (sl1 := [.val sg50, .val g3_50, .val (f50 5), .val (nl50 6)]) (st1 := st) (by kernel_rfl)).trans ?_
      have qq := N 5 (by omega) (by omega)
      generalize f50 5 = f at *
      generalize sg50 = sg at *
      generalize g3_50 = g at *
      simp [F308, Ss.nth, S.whlB, here50, qq]
    · show _ = R.ok Fl.next ⟨[.val sg50, .val g3_50, .val (f50 6), .val (nl50 6)], st⟩
      refine (seq1 (sl1 := [.val sg50, .val g3_50, .val (f50 6), .val (nl50 7)]) (st1 := st) (by kernel_rfl)).trans ?_
      have qq := N 6 (by omega) (by omega)
      generalize f50 6 = f at *
      generalize sg50 = sg at *
      generalize g3_50 = g at *
      simp [F308, Ss.nth, S.whlB, here50, qq]
  have tst : ∀ i, 1 ≤ i → i ≤ 7 → evT ⟨run fs gl (k + 15), gl⟩ (F308.body.nth 4).whlT ⟨here50 i, st⟩ = .ok (decide (1 < i)) ⟨here50 i, st⟩ := by
    intro i h1 h6
    have c : i = 1 ∨ i = 2 ∨ i = 3 ∨ i = 4 ∨ i = 5 ∨ i = 6 ∨ i = 7 := by omega
    rcases c with rfl | rfl | rfl | rfl | rfl | rfl | rfl <;> kernel_rfl
  have W : rWhile (evT ⟨run fs gl (k + 15), gl⟩ (F308.body.nth 4).whlT) (evSs ⟨run fs gl (k + 15), gl⟩ (F308.body.nth 4).whlB) ⟨here50 7, st⟩ = .ok .next ⟨here50 1, st⟩ := by
    show whileL _ _ (4993 + 1 + 1 + 1 + 1 + 1 + 1 + 1) _ = _
    rw [whl_t _ (tst 7 (by omega) (by omega)) (turn 6 (by omega) (by omega)), whl_t _ (tst 6 (by omega) (by omega)) (turn 5 (by omega) (by omega)), whl_t _ (tst 5 (by omega) (by omega)) (turn 4 (by omega) (by omega)), whl_t _ (tst 4 (by omega) (by omega)) (turn 3 (by omega) (by omega)), whl_t _ (tst 3 (by omega) (by omega)) (turn 2 (by omega) (by omega)), whl_t _ (tst 2 (by omega) (by omega)) (turn 1 (by omega) (by omega))]
    exact whl_f _ (tst 1 (by omega) (by omega))
  rw [runU (f := F308) rfl]
  show resOf (evSs ⟨run fs gl (k + 15), gl⟩ (.cons (F308.body.nth 0) (.cons (F308.body.nth 1) (.cons (F308.body.nth 2) (.cons (F308.body.nth 3) (.cons (.while_ (F308.body.nth 4).whlT (F308.body.nth 4).whlB) (.cons (F308.body.nth 5) .nil)))))) ⟨[.val sg50, .val g3_50, .none, .none], st⟩) = _
  refine step (sl1 := [.val sg50, .val g3_50, .none, .none]) (st1 := st) (by simp [F308, Ss.nth, h]) ?_
  refine step (sl1 := [.val sg50, .val g3_50, .none, .none]) (st1 := st) (by simp [F308, Ss.nth, h1]) ?_
  refine step (sl1 := [.val sg50, .val g3_50, .val g3_50, .none]) (st1 := st) (by simp [F308, Ss.nth]) ?_
  refine step (sl1 := here50 7) (st1 := st) (by
    show _ = R.ok Fl.next ⟨[.val sg50, .val g3_50, .val g3_50, .val (nl50 7)], st⟩
    simp [F308, Ss.nth, q]) ?_
  refine step (sl1 := here50 1) (st1 := st) W ?_
  kernel_rfl
theorem tg50 (i : Nat) (hi : i < 8) : ∀ g ∈ good50, run fs gl (k + 17) 314 [.val (.int i), .val sg50, .val g, .val f1_50] st = .ok (.str "") st := by
  intro g hg
  have ht : D.int (i : Int) ∈ dI50 8 := List.mem_map.mpr ⟨i, List.mem_range.mpr hi, rfl⟩
  simp only [good50, List.mem_cons, List.not_mem_nil, or_false] at hg
  rcases hg with rfl | rfl | rfl | rfl
  · exact List.map_inj_left.mp (List.map_inj_left.mp (t50a k st) _ ht) _ (by simp)
  · exact List.map_inj_left.mp (t50b k st) _ ht
  · exact t50c k st i hi
  · have c : i = 0 ∨ i = 1 ∨ i = 2 ∨ i = 3 ∨ i = 4 ∨ i = 5 ∨ i = 6 ∨ i = 7 := by omega
    have y1 : run fs gl (k + 16) 278 [.val sg50, .val g3_50, .val f1_50] st = .ok (.bl true) st := by
      have h1 : run fs gl (k + 15) 277 [.val sg50, .val g3_50, .val f1_50] st = _ := a50a1 k st
      have h2 : run fs gl (k + 15) 277 [.val sg50, .val f1_50, .val g3_50] st = _ := a50b1 k st
      generalize g3_50 = g at *
      generalize f1_50 = f at *
      generalize sg50 = sg at *
      rw [runU (f := F278) rfl]; simp [F278, pad, h1, h2]
    have y6 := nd50 k st
    have y7 := pr50 k st
    rcases c with rfl | rfl | rfl | rfl | rfl | rfl | rfl | rfl
    · have y0 : run fs gl (k + 16) 277 [.val sg50, .val g3_50, .val f1_50] st = .ok (.bl true) st := a50a1 (k + 1) st
      generalize g3_50 = g at *
      generalize f1_50 = f at *
      generalize sg50 = sg at *
      rw [runU (f := F314) rfl]; simp [F314, pad, y0]
    · generalize g3_50 = g at *
      generalize f1_50 = f at *
      generalize sg50 = sg at *
      rw [runU (f := F314) rfl]; simp [F314, pad, y1]
    · have y2 : run fs gl (k + 16) 279 [.val sg50, .val g3_50, .val f1_50] st = .ok .non st := d50a1 (k + 1) st
      generalize g3_50 = g at *
      generalize f1_50 = f at *
      generalize sg50 = sg at *
      rw [runU (f := F314) rfl]; simp [F314, pad, y2]
    · exact t50e_3 k st
    · obtain ⟨d4, y4⟩ : ∃ d, run fs gl (k + 16) 298 [.val sg50, .val g3_50, .val f1_50] st = .ok d st := o50b k st
      generalize g3_50 = g at *
      generalize f1_50 = f at *
      generalize sg50 = sg at *
      rw [runU (f := F314) rfl]; simp [F314, pad, y4]
    · exact t50e_5 k st
    · generalize g3_50 = g at *
      generalize f1_50 = f at *
      generalize sg50 = sg at *
      rw [runU (f := F314) rfl]; simp [F314, pad, y6]
    · generalize g3_50 = g at *
      generalize f1_50 = f at *
      generalize sg50 = sg at *
      rw [runU (f := F314) rfl]; simp [F314, pad, y7]
theorem tt50 (i : Nat) (hi : i < 8) : ∀ g ∈ good50, run fs gl (k + 17) 314 [.val (.int i), .val sg50, .val g, .val g] st = .ok (.str "") st := by
  intro g hg
  have hg' := hg
  have ht : D.int (i : Int) ∈ dI50 8 := List.mem_map.mpr ⟨i, List.mem_range.mpr hi, rfl⟩
  simp only [good50, List.mem_cons, List.not_mem_nil, or_false] at hg
  rcases hg with rfl | rfl | rfl | rfl
  · exact List.map_inj_left.mp (List.map_inj_left.mp (t50a k st) _ ht) _ (by simp)
  · exact List.map_inj_left.mp (t50b k st) _ ht
  · have c : i = 0 ∨ i = 1 ∨ i = 2 ∨ i = 3 ∨ i = 4 ∨ i = 5 ∨ i = 6 ∨ i = 7 := by omega
    have y1 : run fs gl (k + 16) 278 [.val sg50, .val g2_50, .val g2_50] st = .ok (.bl true) st := by
      have h1 := a50a k st
      generalize g2_50 = g at *
      generalize sg50 = sg at *
      rw [runU (f := F278) rfl]; simp [F278, pad, h1]
    obtain ⟨d4, y4⟩ : ∃ d, run fs gl (k + 16) 298 [.val sg50, .val g2_50, .val g2_50] st = .ok d st := o50a k st
    rcases c with rfl | rfl | rfl | rfl | rfl | rfl | rfl | rfl
    · exact t50d_0 k st
    · generalize g2_50 = g at *
      generalize sg50 = sg at *
      rw [runU (f := F314) rfl]; simp [F314, pad, y1]
    · exact t50d_2 k st
    · exact t50d_3 k st
    · generalize g2_50 = g at *
      generalize sg50 = sg at *
      rw [runU (f := F314) rfl]; simp [F314, pad, y4]
    · exact t50d_5 k st
    · exact t50d_6 k st
    · exact t50d_7 k st
  · have c : i = 0 ∨ i = 1 ∨ i = 2 ∨ i = 3 ∨ i = 4 ∨ i = 5 ∨ i = 6 ∨ i = 7 := by omega
    have y0 : run fs gl (k + 16) 277 [.val sg50, .val g3_50, .val g3_50] st = .ok (.bl true) st := a50c1 (k + 1) st
    have y1 : run fs gl (k + 16) 278 [.val sg50, .val g3_50, .val g3_50] st = .ok (.bl true) st := by
      have h1 : run fs gl (k + 15) 277 [.val sg50, .val g3_50, .val g3_50] st = _ := a50c1 k st
      generalize g3_50 = g at *
      generalize sg50 = sg at *
      rw [runU (f := F278) rfl]; simp [F278, pad, h1]
    have y2 : run fs gl (k + 16) 279 [.val sg50, .val g3_50, .val g3_50] st = .ok .non st := d50b1 (k + 1) st
    obtain ⟨d4, y4⟩ : ∃ d, run fs gl (k + 16) 298 [.val sg50, .val g3_50, .val g3_50] st = .ok d st := o50c k st
    rcases c with rfl | rfl | rfl | rfl | rfl | rfl | rfl | rfl
    · generalize g3_50 = g at *
      generalize sg50 = sg at *
      rw [runU (f := F314) rfl]; simp [F314, pad, y0]
    · generalize g3_50 = g at *
      generalize sg50 = sg at *
      rw [runU (f := F314) rfl]; simp [F314, pad, y1]
    · generalize g3_50 = g at *
      generalize sg50 = sg at *
      rw [runU (f := F314) rfl]; simp [F314, pad, y2]
    · exact t50f_3 k st
    · generalize g3_50 = g at *
      generalize sg50 = sg at *
      rw [runU (f := F314) rfl]; simp [F314, pad, y4]
    · exact t50f_5 k st
    · have y6 := nd50 k st
      generalize g3_50 = g at *
      generalize sg50 = sg at *
      rw [runU (f := F314) rfl]; simp [F314, pad, y6]
    · have y7 := pr50 k st
      generalize g3_50 = g at *
      generalize sg50 = sg at *
      generalize f1_50 = f at *
      rw [runU (f := F314) rfl]; simp [F314, pad, y7]
end
end Mi

namespace Mi
open PySem PySem.Spec PyProof.Rows L2
def nm50 (i : Nat) : D := if i < 6 then .str "first" else .str "premises"
theorem r315 (k : Nat) (ns : List Int) : ∃ st', run fs gl (k + 18) 315 [.val (.lst (ns.map D.int))] [] = .ok (.bl true) st' := by
  have S0 : SOk [.lst [.lst (ns.map D.int), .int 0, .int 0]] := ⟨ns, 0, 0, rfl, by omega, by omega⟩
  have q0 := r9 (k + 16) (ns.map D.int)
  obtain ⟨j1, s1, q1, a1, b1, S1⟩ := r10 (k + 16) 10 _ S0 (by omega) (by omega)
  obtain ⟨x, g1, m1⟩ := rows_at (l := noSig50) a1 (by simpa [noSig50] using b1)
  obtain ⟨j2, s2, q2, a2, b2, S2⟩ := r10 (k + 16) 12 s1 S1 (by omega) (by omega)
  obtain ⟨b, g2, m2⟩ := rows_at (l := noSen50) a2 (by simpa [noSen50] using b2)
  obtain ⟨j3, s3, q3, a3, b3, S3⟩ := r10 (k + 16) 7 s2 S2 (by omega) (by omega)
  obtain ⟨y, g3, m3⟩ := rows_at (l := noRow50 b) a3 (by simpa [noRow50] using b3)
  obtain ⟨j4, s4, q4, a4, b4, S4⟩ := r10 (k + 16) 7 s3 S3 (by omega) (by omega)
  obtain ⟨z, g4, m4⟩ := rows_at (l := noRow50 b) a4 (by simpa [noRow50] using b4)
  obtain ⟨j5, s5, q5, a5, b5, S5⟩ := r10 (k + 16) 4 s4 S4 (by omega) (by omega)
  obtain ⟨g, g5, m5⟩ := rows_at (l := good50) a5 (by simpa [good50] using b5)
  have T0 : ∀ i : Nat, i < 8 → run fs gl (k + 17) 314 [.val (.int i), .val sg50, .val g, .val (.tup [fi50])] s5 = .ok (.str "") s5 := fun i hi => tg50 k s5 i hi g m5
  have T1 : ∀ i : Nat, i < 8 → run fs gl (k + 17) 314 [.val (.int i), .val sg50, .val g, .val g] s5 = .ok (.str "") s5 := fun i hi => tt50 k s5 i hi g m5
  have T2 : ∀ i : Nat, i < 8 → ∀ u v, run fs gl (k + 17) 314 [.val (.int i), .val x, .val u, .val v] s5 = .ok (.str "signature") s5 := fun i hi u v => by
    by_cases h6 : i < 6
    · exact told50 (fun k => s275 k s5 m1) i h6
    · exact told50b (List.map_inj_left.mp (n50a (k + 11) s5) x m1) i hi (by omega)
  have T3 : ∀ i : Nat, i < 8 → ∀ v, run fs gl (k + 17) 314 [.val (.int i), .val sg50, .val y, .val v] s5 = .ok (nm50 i) s5 := fun i hi v => by
    by_cases h6 : i < 6
    · rw [nm50, if_pos h6]; exact told50 (fun k => b275 k s5 m2 m3) i h6
    · rw [nm50, if_neg h6]; exact told50c (n50d (k + 11) s5) (List.map_inj_left.mp (List.map_inj_left.mp (n50b (k + 9) s5 (.str "premises")) b m2) y m3) i hi (by omega)
  have T4 : ∀ i : Nat, i < 6 → run fs gl (k + 17) 314 [.val (.int i), .val sg50, .val g, .val z] s5 = .ok (.str "second") s5 := fun i hi => told50 (fun k => d275 k s5 m5 m2 m4) i hi
  have lp := forL_all (g := evG (.name 11)) (body := evSs ⟨run fs gl (k + 17), gl⟩ (F315.body.nth 11).forB) (st := s5) (f := fun i : Nat => D.int (i : Int))
    (fun d => [.val (.lst (ns.map D.int)), .val (.obj 0), .val sg50, .val x, .val fi50, .val (.lst noSen50), .val b, .val (.lst (noRow50 b)), .val y, .val z, .val g, lastS (fun i : Nat => D.int (i : Int)) d, lastS nm50 d]) (List.range 8) (fun d a r hr K => by
      have ha : a < 8 := by
        have : a ∈ List.range 8 := by rw [hr]; simp
        simpa using this
      have t0 := T0 a ha
      have t1 := T1 a ha
      have t2 := T2 a ha
      have t3 := T3 a ha
      have t4 := T4 a
      clear T0 T1 T2 T3 T4 hr
      generalize (List.map D.int ns) = nn at *
      generalize noSen50 = xs at *
      generalize noRow50 b = ys at *
      generalize sg50 = sg at *
      generalize fi50 = fi at *
      have c : a = 0 ∨ a = 1 ∨ a = 2 ∨ a = 3 ∨ a = 4 ∨ a = 5 ∨ a = 6 ∨ a = 7 := by omega
      rcases c with rfl | rfl | rfl | rfl | rfl | rfl | rfl | rfl
      · have t0 : run fs gl (k + 17) 314 [.val (.int 0), .val sg, .val g, .val (.tup [fi])] s5 = .ok (.str "") s5 := t0
        have t1 : run fs gl (k + 17) 314 [.val (.int 0), .val sg, .val g, .val g] s5 = .ok (.str "") s5 := t1
        have t2 : ∀ u v, run fs gl (k + 17) 314 [.val (.int 0), .val x, .val u, .val v] s5 = .ok (.str "signature") s5 := t2
        have t3 : ∀ v, run fs gl (k + 17) 314 [.val (.int 0), .val sg, .val y, .val v] s5 = .ok (.str "first") s5 := t3
        have t4 : run fs gl (k + 17) 314 [.val (.int 0), .val sg, .val g, .val z] s5 = .ok (.str "second") s5 := t4 (by omega)
        simp [F315, Ss.nth, S.forB, t0, t1, t2, t3, t4, nm50, many]
      · have t0 : run fs gl (k + 17) 314 [.val (.int 1), .val sg, .val g, .val (.tup [fi])] s5 = .ok (.str "") s5 := t0
        have t1 : run fs gl (k + 17) 314 [.val (.int 1), .val sg, .val g, .val g] s5 = .ok (.str "") s5 := t1
        have t2 : ∀ u v, run fs gl (k + 17) 314 [.val (.int 1), .val x, .val u, .val v] s5 = .ok (.str "signature") s5 := t2
        have t3 : ∀ v, run fs gl (k + 17) 314 [.val (.int 1), .val sg, .val y, .val v] s5 = .ok (.str "first") s5 := t3
        have t4 : run fs gl (k + 17) 314 [.val (.int 1), .val sg, .val g, .val z] s5 = .ok (.str "second") s5 := t4 (by omega)
        simp [F315, Ss.nth, S.forB, t0, t1, t2, t3, t4, nm50, many]
      · have t0 : run fs gl (k + 17) 314 [.val (.int 2), .val sg, .val g, .val (.tup [fi])] s5 = .ok (.str "") s5 := t0
        have t1 : run fs gl (k + 17) 314 [.val (.int 2), .val sg, .val g, .val g] s5 = .ok (.str "") s5 := t1
        have t2 : ∀ u v, run fs gl (k + 17) 314 [.val (.int 2), .val x, .val u, .val v] s5 = .ok (.str "signature") s5 := t2
        have t3 : ∀ v, run fs gl (k + 17) 314 [.val (.int 2), .val sg, .val y, .val v] s5 = .ok (.str "first") s5 := t3
        have t4 : run fs gl (k + 17) 314 [.val (.int 2), .val sg, .val g, .val z] s5 = .ok (.str "second") s5 := t4 (by omega)
        simp [F315, Ss.nth, S.forB, t0, t1, t2, t3, t4, nm50, many]
      · have t0 : run fs gl (k + 17) 314 [.val (.int 3), .val sg, .val g, .val (.tup [fi])] s5 = .ok (.str "") s5 := t0
        have t1 : run fs gl (k + 17) 314 [.val (.int 3), .val sg, .val g, .val g] s5 = .ok (.str "") s5 := t1
        have t2 : ∀ u v, run fs gl (k + 17) 314 [.val (.int 3), .val x, .val u, .val v] s5 = .ok (.str "signature") s5 := t2
        have t3 : ∀ v, run fs gl (k + 17) 314 [.val (.int 3), .val sg, .val y, .val v] s5 = .ok (.str "first") s5 := t3
        have t4 : run fs gl (k + 17) 314 [.val (.int 3), .val sg, .val g, .val z] s5 = .ok (.str "second") s5 := t4 (by omega)
        simp [F315, Ss.nth, S.forB, t0, t1, t2, t3, t4, nm50, many]
      · have t0 : run fs gl (k + 17) 314 [.val (.int 4), .val sg, .val g, .val (.tup [fi])] s5 = .ok (.str "") s5 := t0
        have t1 : run fs gl (k + 17) 314 [.val (.int 4), .val sg, .val g, .val g] s5 = .ok (.str "") s5 := t1
        have t2 : ∀ u v, run fs gl (k + 17) 314 [.val (.int 4), .val x, .val u, .val v] s5 = .ok (.str "signature") s5 := t2
        have t3 : ∀ v, run fs gl (k + 17) 314 [.val (.int 4), .val sg, .val y, .val v] s5 = .ok (.str "first") s5 := t3
        have t4 : run fs gl (k + 17) 314 [.val (.int 4), .val sg, .val g, .val z] s5 = .ok (.str "second") s5 := t4 (by omega)
        simp [F315, Ss.nth, S.forB, t0, t1, t2, t3, t4, nm50, many]
      · have t0 : run fs gl (k + 17) 314 [.val (.int 5), .val sg, .val g, .val (.tup [fi])] s5 = .ok (.str "") s5 := t0
        have t1 : run fs gl (k + 17) 314 [.val (.int 5), .val sg, .val g, .val g] s5 = .ok (.str "") s5 := t1
        have t2 : ∀ u v, run fs gl (k + 17) 314 [.val (.int 5), .val x, .val u, .val v] s5 = .ok (.str "signature") s5 := t2
        have t3 : ∀ v, run fs gl (k + 17) 314 [.val (.int 5), .val sg, .val y, .val v] s5 = .ok (.str "first") s5 := t3
        have t4 : run fs gl (k + 17) 314 [.val (.int 5), .val sg, .val g, .val z] s5 = .ok (.str "second") s5 := t4 (by omega)
        simp [F315, Ss.nth, S.forB, t0, t1, t2, t3, t4, nm50, many]
      · have t0 : run fs gl (k + 17) 314 [.val (.int 6), .val sg, .val g, .val (.tup [fi])] s5 = .ok (.str "") s5 := t0
        have t1 : run fs gl (k + 17) 314 [.val (.int 6), .val sg, .val g, .val g] s5 = .ok (.str "") s5 := t1
        have t2 : ∀ u v, run fs gl (k + 17) 314 [.val (.int 6), .val x, .val u, .val v] s5 = .ok (.str "signature") s5 := t2
        have t3 : ∀ v, run fs gl (k + 17) 314 [.val (.int 6), .val sg, .val y, .val v] s5 = .ok (.str "premises") s5 := t3
        simp [F315, Ss.nth, S.forB, t0, t1, t2, t3, nm50, many]
      · have t0 : run fs gl (k + 17) 314 [.val (.int 7), .val sg, .val g, .val (.tup [fi])] s5 = .ok (.str "") s5 := t0
        have t1 : run fs gl (k + 17) 314 [.val (.int 7), .val sg, .val g, .val g] s5 = .ok (.str "") s5 := t1
        have t2 : ∀ u v, run fs gl (k + 17) 314 [.val (.int 7), .val x, .val u, .val v] s5 = .ok (.str "signature") s5 := t2
        have t3 : ∀ v, run fs gl (k + 17) 314 [.val (.int 7), .val sg, .val y, .val v] s5 = .ok (.str "premises") s5 := t3
        simp [F315, Ss.nth, S.forB, t0, t1, t2, t3, nm50, many]
    )
  refine ⟨s5, ?_⟩
  rw [runU (f := F315) rfl]
  show resOf (evSs ⟨run fs gl (k + 17), gl⟩ (.cons (F315.body.nth 0) (.cons (F315.body.nth 1) (.cons (F315.body.nth 2) (.cons (F315.body.nth 3) (.cons (F315.body.nth 4) (.cons (F315.body.nth 5) (.cons (F315.body.nth 6) (.cons (F315.body.nth 7) (.cons (F315.body.nth 8) (.cons (F315.body.nth 9) (.cons (F315.body.nth 10) (.cons (.for_ (.name 11) (.rng1 (.int 8)) (F315.body.nth 11).forB) (.cons (F315.body.nth 12) .nil))))))))))))) ⟨[.val (.lst (ns.map D.int)), .none, .none, .none, .none, .none, .none, .none, .none, .none, .none, .none, .none], []⟩) = _
  refine step (sl1 := [.val (.lst (ns.map D.int)), .val (.obj 0), .none, .none, .none, .none, .none, .none, .none, .none, .none, .none, .none]) (st1 := [.lst [.lst (ns.map D.int), .int 0, .int 0]]) (by simp [F315, Ss.nth, many, q0]) ?_
  refine step (sl1 := [.val (.lst (ns.map D.int)), .val (.obj 0), .val sg50, .none, .none, .none, .none, .none, .none, .none, .none, .none, .none]) (st1 := [.lst [.lst (ns.map D.int), .int 0, .int 0]]) (by kernel_rfl) ?_
  refine step (sl1 := [.val (.lst (ns.map D.int)), .val (.obj 0), .val sg50, .val x, .none, .none, .none, .none, .none, .none, .none, .none, .none]) (st1 := s1) (pick1 (l := noSig50) (by kernel_rfl) rfl q1 g1 rfl) ?_
  refine step (sl1 := [.val (.lst (ns.map D.int)), .val (.obj 0), .val sg50, .val x, .val fi50, .none, .none, .none, .none, .none, .none, .none, .none]) (st1 := s1) (by kernel_rfl) ?_
  refine step (sl1 := [.val (.lst (ns.map D.int)), .val (.obj 0), .val sg50, .val x, .val fi50, .val (.lst (noSen50.take 8)), .none, .none, .none, .none, .none, .none, .none]) (st1 := s1) (by kernel_rfl) ?_
  refine step (sl1 := [.val (.lst (ns.map D.int)), .val (.obj 0), .val sg50, .val x, .val fi50, .val (.lst noSen50), .none, .none, .none, .none, .none, .none, .none]) (st1 := s1) (by kernel_rfl) ?_
  refine step (sl1 := [.val (.lst (ns.map D.int)), .val (.obj 0), .val sg50, .val x, .val fi50, .val (.lst noSen50), .val b, .none, .none, .none, .none, .none, .none]) (st1 := s2) (pick1 (l := noSen50) (by kernel_rfl) rfl q2 g2 rfl) ?_
  refine step (sl1 := [.val (.lst (ns.map D.int)), .val (.obj 0), .val sg50, .val x, .val fi50, .val (.lst noSen50), .val b, .val (.lst (noRow50 b)), .none, .none, .none, .none, .none]) (st1 := s2) (by kernel_rfl) ?_
  refine step (sl1 := [.val (.lst (ns.map D.int)), .val (.obj 0), .val sg50, .val x, .val fi50, .val (.lst noSen50), .val b, .val (.lst (noRow50 b)), .val y, .none, .none, .none, .none]) (st1 := s3) (pick1 (l := noRow50 b) (by kernel_rfl) rfl q3 g3 rfl) ?_
  refine step (sl1 := [.val (.lst (ns.map D.int)), .val (.obj 0), .val sg50, .val x, .val fi50, .val (.lst noSen50), .val b, .val (.lst (noRow50 b)), .val y, .val z, .none, .none, .none]) (st1 := s4) (pick1 (l := noRow50 b) (by kernel_rfl) rfl q4 g4 rfl) ?_
  refine step (sl1 := [.val (.lst (ns.map D.int)), .val (.obj 0), .val sg50, .val x, .val fi50, .val (.lst noSen50), .val b, .val (.lst (noRow50 b)), .val y, .val z, .val g, .none, .none]) (st1 := s5) (pick1 (l := good50) (by kernel_rfl) rfl q5 g5 rfl) ?_
  have hi : evI ⟨run fs gl (k + 17), gl⟩ (.rng1 (.int 8)) ⟨[.val (.lst (ns.map D.int)), .val (.obj 0), .val sg50, .val x, .val fi50, .val (.lst noSen50), .val b, .val (.lst (noRow50 b)), .val y, .val z, .val g, .none, .none], s5⟩ = .ok ((List.range 8).map fun i : Nat => D.int (i : Int)) ⟨[.val (.lst (ns.map D.int)), .val (.obj 0), .val sg50, .val x, .val fi50, .val (.lst noSen50), .val b, .val (.lst (noRow50 b)), .val y, .val z, .val g, .none, .none], s5⟩ := by kernel_rfl
  have lf := evS_for (tg := .name 11) (it := .rng1 (.int 8)) (b := (F315.body.nth 11).forB) hi lp
  refine step (sl1 := [.val (.lst (ns.map D.int)), .val (.obj 0), .val sg50, .val x, .val fi50, .val (.lst noSen50), .val b, .val (.lst (noRow50 b)), .val y, .val z, .val g, .val (.int 7), .val (nm50 7)]) (st1 := s5) (lf.trans (by kernel_rfl)) ?_
  kernel_rfl
end Mi

theorem PySem.Challenge.cw_allsomeno_k50_refusals_of_comparing_holds : PySem.Challenge.rw_allsomeno_k50_refusals_of_comparing.Holds := by
  exact Mi.holdsOf fun ns h => Mi.r315 22 ns

